/- PS PU -/
import Derived.Test.YtfkgmbknfnhjoaaGreatSPT
import Derived.Test.YtfkgmbknfnhjoaaGreatSPL
import Derived.BigQuiet
set_option linter.all false
set_option linter.ambiguousOpen false
set_option maxHeartbeats 8000000
namespace Go.Proofs.YtfkgmbknfnhjoaaGreat
open Lib (hid)
open Go.RowKit
open Ne (Rl bF aD bM aS bN)
open Fs (av hasB)
set_option maxRecDepth 100000 in
theorem F3 (Ar Aa Ai:Option Addr) (nr cr na ca ni ci:Nat) (R:List Rl) (mc mt mf wt st id req cnt ay au ic ii tick:Int) (E:List aH) (li:List UInt8) (w:World) (B:Nat) (hB:B≤w.heap.size) (hR:aD w B Ar R) (hnr:nr=R.length) (hlr:nr≤1000000) (hE:aJ w B Aa E) (hna:na=E.length) (hca:na≤ca) (hla:na≤1000000) (hI:At w B Ai (li.map bv)) (hni:ni=li.length) (hci:ni≤ci) (iF:ni≤400000000) (hc:bC ic 1 7=true) (he:Cp.aV ic ii li.length=0) (hf:dn ⟨R,mc,mt,mf,wt⟩ ⟨st,id,req,E.map aH.o,cnt,ay,au⟩ tick=true):Calls Tryz.prog 20 #[.agg #[.slice Ar nr cr,.int .i64 mc,.int .i64 mt,.int .i64 mf,.int .i64 wt],.agg #[.int .i64 st,.int .i64 id,.int .i64 req,.slice Aa na ca,.int .i64 cnt,.int .i64 ay,.int .i64 au],.agg #[.int .i64 ic,.int .i64 ii,.slice Ai ni ci],.int .i64 tick] w (xW (eP ⟨R,mc,mt,mf,wt⟩ ⟨st,id,req,E.map aH.o,cnt,ay,au⟩ ⟨ic,ii,li⟩ tick) (.slice Aa na ca) (E.map aH.o) w):=by
 have jB:=hid he
 have DX:1≤ic∧ic≤7:=by simpa[bC] using hc
 obtain⟨h1,h7⟩:=DX
 have hl1: ¬ic<1:=by omega
 have vZ: ¬7<ic:=by omega
 have HB:=hid hB
 have HR:=hid hR
 have gB:=hid hnr
 have HE:=hid hE
 have dz:=hid hna
 have HI:=hid hI
 have gy:=hid hni
 obtain⟨L,hL⟩: ∃L,E.map aH.o=L:=⟨_,rfl⟩
 have HL:=hid hL
 rw[hL]
 clear hB hR hnr hE hna hL hI hni
 rw[HL.out] at hf
 have HF:=hid hf
 obtain⟨r,hr⟩: ∃r,bK ⟨R,mc,mt,mf,wt⟩ ⟨st,id,req,L,cnt,ay,au⟩ ⟨ic,ii,li⟩=r:=⟨_,rfl⟩
 have HW:=hid hr
 have VX:=hid (show eP ⟨R,mc,mt,mf,wt⟩ ⟨st,id,req,L,cnt,ay,au⟩ ⟨ic,ii,li⟩ tick=sH ⟨R,mc,mt,mf,wt⟩ ⟨st,id,req,L,cnt,ay,au⟩ ⟨ic,ii,li⟩ tick r by rw[D8 (c:=⟨R,mc,mt,mf,wt⟩) (a:=⟨st,id,req,L,cnt,ay,au⟩) (inn:=⟨ic,ii,li⟩) hc he hf,hr])
 rw[VX.out]
 clear hc he hf hr VX
 cases r with
 |none=>
  dsimp only[sH]
  go_enter Tryz.func20,Tryz.ntmps20
  go_upto_region 1 with(fail)
  refine fE ?_
  rintro w2 ⟨h6,h7,h8,h12,hbw⟩
  have HB2:=hid hbw
  have qN:=hid h6
  have pW:=hid h7
  have qO:=hid h8
  have jq:=hid h12
  clear h6 h7 h8 h12 hbw
  have hs2:=HB2.out.size
  obtain⟨⟨l6,l7,l8,bn⟩,⟨p0,p1,p2,p3,p4⟩,⟨q0,q1,q2,q3,q4,q5,q6⟩,⟨r0,r1,r2⟩,⟨z0,z1,z2,z3,z4,z5,z6⟩,⟨f0,f1,f2,f3,f4,f5,f6⟩,k3⟩:=bG qN.out pW.out qO.out jq.out
  go_wp2_with fail
  refine(Cp.kT ic ii Ai ni ci li _ B (by have:=HB.out;omega) (HI.out.keep (HB2.out.mono HB.out)) gy.out (by omega)).mono ?_
  unfold Cp.gK
  rw[jB.out]
  rintro x w3 ⟨v3,rfl,hb3,-⟩
  have jv:=hid (show Below w2.heap.size w2 w3 from hb3)
  have HB3:=hid (HB2.out.trans (jv.out.mono hs2))
  have rW:=hid ((jv.out.block _ l6).trans qN.out)
  have mQ:=hid ((jv.out.block _ l7).trans pW.out)
  have m_:=hid ((jv.out.block _ l8).trans qO.out)
  have eU:=hid ((jv.out.block _ bn).trans jq.out)
  clear p0 p1 p2 p3 p4 q0 q1 q2 q3 q4 q5 q6 r0 r1 r2 z0 z1 z2 z3 z4 z5 z6 f0 f1 f2 f3 f4 f5 f6 k3 l6 l7 l8 bn
  have hs3:=HB3.out.size
  obtain⟨⟨l6,l7,l8,bn⟩,⟨p0,p1,p2,p3,p4⟩,⟨q0,q1,q2,q3,q4,q5,q6⟩,⟨r0,r1,r2⟩,⟨z0,z1,z2,z3,z4,z5,z6⟩,⟨f0,f1,f2,f3,f4,f5,f6⟩,k3⟩:=bG rW.out mQ.out m_.out eU.out
  clear hb3
  go_wp2_with fail
  refine(nL Ar nr cr R mc mt mf wt st id req cnt ay au Aa na ca E L HL.out tick _ B (by have:=HB.out;omega) (HR.out.keep (HB3.out.mono HB.out)) gB.out hlr (HE.out.keep (HB3.out.mono HB.out)) dz.out).mono ?_
  rw[HF.out]
  rintro x w4 ⟨rfl,hb4⟩
  have kE:=hid (show Below w3.heap.size w3 w4 from hb4)
  have fu:=hid (HB3.out.trans (kE.out.mono hs3))
  have vN:=hid ((kE.out.block _ l6).trans rW.out)
  have vO:=hid ((kE.out.block _ l7).trans mQ.out)
  have vP:=hid ((kE.out.block _ l8).trans m_.out)
  have jV:=hid ((kE.out.block _ bn).trans eU.out)
  clear p0 p1 p2 p3 p4 q0 q1 q2 q3 q4 q5 q6 r0 r1 r2 z0 z1 z2 z3 z4 z5 z6 f0 f1 f2 f3 f4 f5 f6 k3 l6 l7 l8 bn
  have hs4:=fu.out.size
  obtain⟨⟨l6,l7,l8,bn⟩,⟨p0,p1,p2,p3,p4⟩,⟨q0,q1,q2,q3,q4,q5,q6⟩,⟨r0,r1,r2⟩,⟨z0,z1,z2,z3,z4,z5,z6⟩,⟨f0,f1,f2,f3,f4,f5,f6⟩,k3⟩:=bG vN.out vO.out vP.out jV.out
  clear hb4
  go_wp2_with fail
  refine(vI ic h1 h7 Ar Aa Ai nr cr na ca ni ci R mc mt mf wt st id req cnt ay au ii E li _ B (by have:=HB.out;omega) (HR.out.keep (fu.out.mono HB.out)) gB.out hlr (HE.out.keep (fu.out.mono HB.out)) dz.out hca hla (HI.out.keep (fu.out.mono HB.out)) gy.out hci).mono ?_
  rw[HL.out,HW.out]
  rintro x w5 ⟨e,c1,c2,Ad,nd,cd,An,nn,cn,rfl,hb5⟩
  have nA:=hid (show Below w4.heap.size w4 w5 from hb5)
  have dO:=hid (fu.out.trans (nA.out.mono hs4))
  have zC:=hid ((nA.out.block _ l6).trans vN.out)
  have pX:=hid ((nA.out.block _ l7).trans vO.out)
  have pY:=hid ((nA.out.block _ l8).trans vP.out)
  have eZ:=hid ((nA.out.block _ bn).trans jV.out)
  clear p0 p1 p2 p3 p4 q0 q1 q2 q3 q4 q5 q6 r0 r1 r2 z0 z1 z2 z3 z4 z5 z6 f0 f1 f2 f3 f4 f5 f6 k3 l6 l7 l8 bn
  have hs5:=dO.out.size
  obtain⟨⟨l6,l7,l8,bn⟩,⟨p0,p1,p2,p3,p4⟩,⟨q0,q1,q2,q3,q4,q5,q6⟩,⟨r0,r1,r2⟩,⟨z0,z1,z2,z3,z4,z5,z6⟩,⟨f0,f1,f2,f3,f4,f5,f6⟩,k3⟩:=bG zC.out pX.out pY.out eZ.out
  clear hb5
  unfold vV
  go_upto_region 7 with(fail)
  refine bY (fun W=>Below w5.heap.size w5 W) (by exact aA) ?_
  rintro w6 hb6
  have mR:=hid (show Below w5.heap.size w5 w6 from hb6)
  have lC:=hid (dO.out.trans (mR.out.mono hs5))
  have Bz:=hid ((mR.out.block _ l6).trans zC.out)
  have ze:=hid ((mR.out.block _ l7).trans pX.out)
  have zh:=hid ((mR.out.block _ l8).trans pY.out)
  have kZ:=hid ((mR.out.block _ bn).trans eZ.out)
  clear p0 p1 p2 p3 p4 q0 q1 q2 q3 q4 q5 q6 r0 r1 r2 z0 z1 z2 z3 z4 z5 z6 f0 f1 f2 f3 f4 f5 f6 k3 l6 l7 l8 bn
  have hs6:=lC.out.size
  obtain⟨⟨l6,l7,l8,bn⟩,⟨p0,p1,p2,p3,p4⟩,⟨q0,q1,q2,q3,q4,q5,q6⟩,⟨r0,r1,r2⟩,⟨z0,z1,z2,z3,z4,z5,z6⟩,⟨f0,f1,f2,f3,f4,f5,f6⟩,k3⟩:=bG Bz.out ze.out zh.out kZ.out
  clear hb6
  go_wp2_with fail
  obtain⟨Wf,hWf⟩: ∃Wf:World,Wf=(((((((w6.setCell ⟨w.heap.size+1+1+1,0,none⟩ (.int .i64 st)).setCell ⟨w.heap.size+1+1+1,1,none⟩ (.int .i64 id)).setCell ⟨w.heap.size+1+1+1,2,none⟩ (.int .i64 req)).setCell ⟨w.heap.size+1+1+1,3,none⟩ (.slice Aa na ca)).setCell ⟨w.heap.size+1+1+1,4,none⟩ (.int .i64 cnt)).setCell ⟨w.heap.size+1+1+1,5,none⟩ (.int .i64 ay)).setCell ⟨w.heap.size+1+1+1,6,none⟩ (.int .i64 au)):=⟨_,rfl⟩
  rw[←hWf]
  have hrow:Wf.heap[w.heap.size+1+1+1]? =some (.cells #[.int .i64 st,.int .i64 id,.int .i64 req,.slice Aa na ca,.int .i64 cnt,.int .i64 ay,.int .i64 au] 29 (0,0)):=by rw[hWf];exact gF kZ.out rfl _ _ _ _ _ _ _
  have hgr:w6.grownBy Wf (some (w.heap.size+1+1+1)):=by rw[hWf];exact grn
  clear hWf
  clear p0 p1 p2 p3 p4 q0 q1 q2 q3 q4 q5 q6 r0 r1 r2 z0 z1 z2 z3 z4 z5 z6 f0 f1 f2 f3 f4 f5 f6 k3 l6 l7 l8 bn
  obtain⟨u0,u1,u2,u3,u4,u5,u6⟩:=aG hrow
  refine bodyPost_ret (v:=.tuple #[.agg #[.int .i64 st,.int .i64 id,.int .i64 req,.slice Aa na ca,.int .i64 cnt,.int .i64 ay,.int .i64 au],.slice none 0 0,.slice none 0 0,.bool true]) (by simp[results,Tryz.results20,go_sem,u0,u1,u2,u3,u4,u5,u6]) rfl ?_
  exact⟨.slice Aa na ca,.slice none 0 0,.slice none 0 0,rfl,Below.grown lC.out hgr hs6 (fun k hk=>by cases hk;omega),.inl ⟨rfl,rfl⟩,fG.nil _ _,aU.nil _ _⟩
 |some r=>
  obtain⟨e,⟨xX,aid,ad⟩,next⟩:=r
  have zS:=hid (mO HW.out)
  obtain⟨⟨⟨ys,yi,yr,yL,yc,yt,yk⟩,o1,d1⟩,hdo⟩: ∃r,jo ⟨R,mc,mt,mf,wt⟩ ⟨st,id,req,next,cnt,ay,au⟩ e ⟨ic,ii,li⟩ ⟨xX,aid,ad⟩ tick=r:=⟨_,rfl⟩
  have qg:=hid hdo
  have HYL:=hid (show yL=next by have h:=fU ⟨R,mc,mt,mf,wt⟩ ⟨st,id,req,next,cnt,ay,au⟩ e ⟨ic,ii,li⟩ ⟨xX,aid,ad⟩ tick;rw[hdo] at h;exact h)
  obtain⟨er,her⟩: ∃er,Fs.bP st e=er:=⟨_,rfl⟩
  have tC:=hid her
  obtain⟨res,hres⟩: ∃res,sH ⟨R,mc,mt,mf,wt⟩ ⟨st,id,req,L,cnt,ay,au⟩ ⟨ic,ii,li⟩ tick (some (e,⟨xX,aid,ad⟩,next))=res:=⟨_,rfl⟩
  have jW:=hid (show(er≠0→res=((⟨st,id,req,L,cnt,ay,au⟩,[],[]),true)∧o1=[]∧d1=[])∧(er=0→res=((⟨ys,yi,yr,yL,yc,yt,yk⟩,o1,d1),true)) by
   rw[←hres]
   unfold sH
   dsimp only
   rw[her,hdo]
   refine⟨fun h=>⟨if_pos h,?_⟩,fun h=>if_neg (by simpa using h)⟩
   unfold jo at hdo
   dsimp only at hdo
   rw[her,if_neg (fun h2=>h h2.2)] at hdo
   simp only[Prod.mk.injEq] at hdo
   exact⟨hdo.2.1.symm,hdo.2.2.symm⟩)
  rw[hres]
  clear hdo her hres
  go_enter Tryz.func20,Tryz.ntmps20
  go_upto_region 1 with(fail)
  refine fE ?_
  rintro w2 ⟨h6,h7,h8,h12,hbw⟩
  have HB2:=hid hbw
  have qN:=hid h6
  have pW:=hid h7
  have qO:=hid h8
  have jq:=hid h12
  clear h6 h7 h8 h12 hbw
  have hs2:=HB2.out.size
  obtain⟨⟨l6,l7,l8,bn⟩,⟨p0,p1,p2,p3,p4⟩,⟨q0,q1,q2,q3,q4,q5,q6⟩,⟨r0,r1,r2⟩,⟨z0,z1,z2,z3,z4,z5,z6⟩,⟨f0,f1,f2,f3,f4,f5,f6⟩,k3⟩:=bG qN.out pW.out qO.out jq.out
  go_wp2_with fail
  refine(Cp.kT ic ii Ai ni ci li _ B (by have:=HB.out;omega) (HI.out.keep (HB2.out.mono HB.out)) gy.out (by omega)).mono ?_
  unfold Cp.gK
  rw[jB.out]
  rintro x w3 ⟨v3,rfl,hb3,-⟩
  have jv:=hid (show Below w2.heap.size w2 w3 from hb3)
  have HB3:=hid (HB2.out.trans (jv.out.mono hs2))
  have rW:=hid ((jv.out.block _ l6).trans qN.out)
  have mQ:=hid ((jv.out.block _ l7).trans pW.out)
  have m_:=hid ((jv.out.block _ l8).trans qO.out)
  have eU:=hid ((jv.out.block _ bn).trans jq.out)
  clear p0 p1 p2 p3 p4 q0 q1 q2 q3 q4 q5 q6 r0 r1 r2 z0 z1 z2 z3 z4 z5 z6 f0 f1 f2 f3 f4 f5 f6 k3 l6 l7 l8 bn
  have hs3:=HB3.out.size
  obtain⟨⟨l6,l7,l8,bn⟩,⟨p0,p1,p2,p3,p4⟩,⟨q0,q1,q2,q3,q4,q5,q6⟩,⟨r0,r1,r2⟩,⟨z0,z1,z2,z3,z4,z5,z6⟩,⟨f0,f1,f2,f3,f4,f5,f6⟩,k3⟩:=bG rW.out mQ.out m_.out eU.out
  clear hb3
  go_wp2_with fail
  refine(nL Ar nr cr R mc mt mf wt st id req cnt ay au Aa na ca E L HL.out tick _ B (by have:=HB.out;omega) (HR.out.keep (HB3.out.mono HB.out)) gB.out hlr (HE.out.keep (HB3.out.mono HB.out)) dz.out).mono ?_
  rw[HF.out]
  rintro x w4 ⟨rfl,hb4⟩
  have kE:=hid (show Below w3.heap.size w3 w4 from hb4)
  have fu:=hid (HB3.out.trans (kE.out.mono hs3))
  have vN:=hid ((kE.out.block _ l6).trans rW.out)
  have vO:=hid ((kE.out.block _ l7).trans mQ.out)
  have vP:=hid ((kE.out.block _ l8).trans m_.out)
  have jV:=hid ((kE.out.block _ bn).trans eU.out)
  clear p0 p1 p2 p3 p4 q0 q1 q2 q3 q4 q5 q6 r0 r1 r2 z0 z1 z2 z3 z4 z5 z6 f0 f1 f2 f3 f4 f5 f6 k3 l6 l7 l8 bn
  have hs4:=fu.out.size
  obtain⟨⟨l6,l7,l8,bn⟩,⟨p0,p1,p2,p3,p4⟩,⟨q0,q1,q2,q3,q4,q5,q6⟩,⟨r0,r1,r2⟩,⟨z0,z1,z2,z3,z4,z5,z6⟩,⟨f0,f1,f2,f3,f4,f5,f6⟩,k3⟩:=bG vN.out vO.out vP.out jV.out
  clear hb4
  go_wp2_with fail
  refine(vI ic h1 h7 Ar Aa Ai nr cr na ca ni ci R mc mt mf wt st id req cnt ay au ii E li _ B (by have:=HB.out;omega) (HR.out.keep (fu.out.mono HB.out)) gB.out hlr (HE.out.keep (fu.out.mono HB.out)) dz.out hca hla (HI.out.keep (fu.out.mono HB.out)) gy.out hci).mono ?_
  rw[HL.out,HW.out]
  rintro x w5 ⟨Ad,nd,cd,An,nn,cn,rfl,hb5,hby,hop,hva⟩
  have Kv:=hid hby
  have OZ:=hid hop
  have HVA:=hid hva
  have nA:=hid (show Below w4.heap.size w4 w5 from hb5)
  have dO:=hid (fu.out.trans (nA.out.mono hs4))
  have zC:=hid ((nA.out.block _ l6).trans vN.out)
  have pX:=hid ((nA.out.block _ l7).trans vO.out)
  have pY:=hid ((nA.out.block _ l8).trans vP.out)
  have eZ:=hid ((nA.out.block _ bn).trans jV.out)
  clear p0 p1 p2 p3 p4 q0 q1 q2 q3 q4 q5 q6 r0 r1 r2 z0 z1 z2 z3 z4 z5 z6 f0 f1 f2 f3 f4 f5 f6 k3 l6 l7 l8 bn
  have hs5:=dO.out.size
  obtain⟨⟨l6,l7,l8,bn⟩,⟨p0,p1,p2,p3,p4⟩,⟨q0,q1,q2,q3,q4,q5,q6⟩,⟨r0,r1,r2⟩,⟨z0,z1,z2,z3,z4,z5,z6⟩,⟨f0,f1,f2,f3,f4,f5,f6⟩,k3⟩:=bG zC.out pX.out pY.out eZ.out
  clear hb5 hby hop hva
  unfold vV
  dsimp only
  go_upto_region 7 with(fail)
  obtain⟨T,hT⟩: ∃T,T=w5.heap.size:=⟨_,rfl⟩
  rw[←hT]
  refine bY (fun W=>Below w5.heap.size w5 W∧W.heap[T]? =some (.cells #[.int .i64 xX,.int .i64 aid,.slice Ad nd cd] 32 (0,0))∧W.heap[T+1]? =some (.cells #[.int .i64 st,.int .i64 id,.int .i64 req,.slice An nn cn,.int .i64 cnt,.int .i64 ay,.int .i64 au] 29 (0,0))) ⟨by exact aA,by rw[hT];exact hpa,by rw[hT];exact hpa⟩ ?_
  rintro w6 ⟨hb6,IC,hu6⟩
  have BU:=hid IC
  have HU6:=hid hu6
  have Zf:w5.heap.size≤T:=by omega
  have Zg:w.heap.size+1+1+1<T:=by omega
  clear hT
  have mR:=hid (show Below w5.heap.size w5 w6 from hb6)
  have lC:=hid (dO.out.trans (mR.out.mono hs5))
  have Bz:=hid ((mR.out.block _ l6).trans zC.out)
  have ze:=hid ((mR.out.block _ l7).trans pX.out)
  have zh:=hid ((mR.out.block _ l8).trans pY.out)
  have kZ:=hid ((mR.out.block _ bn).trans eZ.out)
  clear p0 p1 p2 p3 p4 q0 q1 q2 q3 q4 q5 q6 r0 r1 r2 z0 z1 z2 z3 z4 z5 z6 f0 f1 f2 f3 f4 f5 f6 k3 l6 l7 l8 bn
  have hs6:=lC.out.size
  obtain⟨⟨l6,l7,l8,bn⟩,⟨p0,p1,p2,p3,p4⟩,⟨q0,q1,q2,q3,q4,q5,q6⟩,⟨r0,r1,r2⟩,⟨z0,z1,z2,z3,z4,z5,z6⟩,⟨f0,f1,f2,f3,f4,f5,f6⟩,k3⟩:=bG Bz.out ze.out zh.out kZ.out
  have Es:=hid (Kv.out.below hb6)
  clear hb6 IC hu6
  have lT:=aj BU.out
  have lU:=aj HU6.out
  obtain⟨t0,t1',t2⟩:=cells3 BU.out
  obtain⟨x0,x1,x2,x3,x4,x5,x6⟩:=aG HU6.out
  obtain⟨Ex,hax,hnx,hxl⟩: ∃Ex,aJ w6 w6.heap.size An Ex∧nn=Ex.length∧Ex.map aH.o=next:=by
   by_cases h10:e=10
   ·obtain⟨A',n',c',Ex,hex,h1,h2,-,h3⟩:=((dQ.below (OZ.out h10) mR.out)).v
    simp only[Value.slice.injEq] at hex
    obtain⟨rfl,rfl,rfl⟩:=hex
    exact⟨Ex,h1,h2,h3⟩
   ·have h:=HVA.out h10
    simp only[Value.slice.injEq] at h
    obtain⟨rfl,rfl,rfl⟩:=h
    exact⟨E,(HE.out.keep (lC.out.mono HB.out)).more (by have:=HB.out;omega),dz.out,HL.out.trans (zS.out.2.2.1 h10).symm⟩
  obtain⟨Ay,ny,cy,Pw,Pp,hny,hcy⟩:=Es.out.v
  simp only[Value.slice.injEq] at Pw
  obtain⟨rfl,rfl,rfl⟩:=Pw
  have Ym:=hid hax
  have V8:=hid hxl
  have KO:=hid hnx
  have VG:=hid Pp
  have OX:=hid hny
  clear hax Pp hxl hnx hny
  go_wp2_with fail
  refine(qF Ar An Ai Ad nr cr nn cn ni ci nd cd R mc mt mf wt st id req cnt ay au e ic ii xX aid tick Ex li ad w6 w6.heap.size (aaE _) ((HR.out.keep (lC.out.mono HB.out)).more (by have:=HB.out;omega)) gB.out hlr Ym.out KO.out ((HI.out.keep (lC.out.mono HB.out)).more (by have:=HB.out;omega)) gy.out hci iF VG.out OX.out hcy (by have h3:ad.length≤1488:=zS.out.2.1;have:=OX.out;omega)).mono ?_
  rw[V8.out,qg.out]
  rintro x wE ⟨vo,vd,rfl,Pq,PW,Po⟩
  have KI:=hid PW
  have VB:=hid Po
  clear t0 t1' t2 x0 x1 x2 x3 x4 x5 x6
  have zo:=hid (show Below w6.heap.size w6 wE from Pq)
  have BA:=hid (lC.out.trans (zo.out.mono hs6))
  have OL:=hid ((zo.out.block _ l6).trans Bz.out)
  have OM:=hid ((zo.out.block _ l7).trans ze.out)
  have OO:=hid ((zo.out.block _ l8).trans zh.out)
  have zB:=hid ((zo.out.block _ bn).trans kZ.out)
  clear p0 p1 p2 p3 p4 q0 q1 q2 q3 q4 q5 q6 r0 r1 r2 z0 z1 z2 z3 z4 z5 z6 f0 f1 f2 f3 f4 f5 f6 k3 l6 l7 l8 bn
  have WR:=BA.out.size
  obtain⟨⟨l6,l7,l8,bn⟩,⟨p0,p1,p2,p3,p4⟩,⟨q0,q1,q2,q3,q4,q5,q6⟩,⟨r0,r1,r2⟩,⟨z0,z1,z2,z3,z4,z5,z6⟩,⟨f0,f1,f2,f3,f4,f5,f6⟩,k3⟩:=bG OL.out OM.out OO.out zB.out
  clear Pq PW Po
  unfold vV
  go_upto_region 10 with(fail)
  obtain⟨T2,Ip⟩: ∃T2,T2=wE.heap.size:=⟨_,rfl⟩
  rw[←Ip]
  refine bY (fun W=>Below wE.heap.size wE W∧W.heap[T2]? =some (.cells #[.int .i64 ys,.int .i64 yi,.int .i64 yr,.slice An nn cn,.int .i64 yc,.int .i64 yt,.int .i64 yk] 29 (0,0))) ⟨by exact aA,by rw[Ip];exact heap_alloc_new _ _⟩ ?_
  rintro wF ⟨Pt,Ld⟩
  have WB:wE.heap.size≤T2:=by omega
  have aal:w.heap.size+1+1+1<T2:=by omega
  clear Ip
  have rY:=hid (show Below wE.heap.size wE wF from Pt)
  have tu:=hid (BA.out.trans (rY.out.mono WR))
  have U9:=hid ((rY.out.block _ l6).trans OL.out)
  have U_:=hid ((rY.out.block _ l7).trans OM.out)
  have Va:=hid ((rY.out.block _ l8).trans OO.out)
  have pV:=hid ((rY.out.block _ bn).trans zB.out)
  clear p0 p1 p2 p3 p4 q0 q1 q2 q3 q4 q5 q6 r0 r1 r2 z0 z1 z2 z3 z4 z5 z6 f0 f1 f2 f3 f4 f5 f6 k3 l6 l7 l8 bn
  have WS:=tu.out.size
  obtain⟨⟨l6,l7,l8,bn⟩,⟨p0,p1,p2,p3,p4⟩,⟨q0,q1,q2,q3,q4,q5,q6⟩,⟨r0,r1,r2⟩,⟨z0,z1,z2,z3,z4,z5,z6⟩,⟨f0,f1,f2,f3,f4,f5,f6⟩,k3⟩:=bG U9.out U_.out Va.out pV.out
  go_wp2_with fail
  refine(Fs.nW st e _).mono ?_
  rw[show Fs.iI st e=fun w x w'=> ∃v,x=.returned (.tuple #[.int .i64 (Fs.aZ e st),v,.int .i64 er])∧Fs.Told w (Fs.aT e st) v w' by unfold Fs.iI;rw[tC.out]]
  rintro x wG ⟨vG,rfl,Zi,-⟩
  have Ez:=hid ((Zi.block _ (aj Ld)).trans Ld)
  have O4:=hid (show Below wF.heap.size wF wG from Zi)
  have VH:=hid (tu.out.trans (O4.out.mono WS))
  have H6G:=hid ((O4.out.block _ l6).trans U9.out)
  have H7G:=hid ((O4.out.block _ l7).trans U_.out)
  have H8G:=hid ((O4.out.block _ l8).trans Va.out)
  have En:=hid ((O4.out.block _ bn).trans pV.out)
  clear p0 p1 p2 p3 p4 q0 q1 q2 q3 q4 q5 q6 r0 r1 r2 z0 z1 z2 z3 z4 z5 z6 f0 f1 f2 f3 f4 f5 f6 k3 l6 l7 l8 bn
  have hsG:=VH.out.size
  obtain⟨⟨l6,l7,l8,bn⟩,⟨p0,p1,p2,p3,p4⟩,⟨q0,q1,q2,q3,q4,q5,q6⟩,⟨r0,r1,r2⟩,⟨z0,z1,z2,z3,z4,z5,z6⟩,⟨f0,f1,f2,f3,f4,f5,f6⟩,k3⟩:=bG H6G.out H7G.out H8G.out En.out
  have HPG:=hid ((KI.out.below rY.out).below O4.out)
  have HAG:=hid ((VB.out.below rY.out).below O4.out)
  clear Pt Ld Zi
  have ZK:=aj Ez.out
  by_cases h0:er=0
  ·have h0':(er !=0)=false:=by simp[h0]
   have iP:=hid (jW.out.2 h0)
   clear h0
   obtain⟨t0,t1',t2,t3,t4,t5,t6⟩:=aG Ez.out
   go_wp2_with fail
   obtain⟨Wf,hWf⟩: ∃Wf:World,Wf=(((((((wG.setCell ⟨w.heap.size+1+1+1,0,none⟩ (.int .i64 ys)).setCell ⟨w.heap.size+1+1+1,1,none⟩ (.int .i64 yi)).setCell ⟨w.heap.size+1+1+1,2,none⟩ (.int .i64 yr)).setCell ⟨w.heap.size+1+1+1,3,none⟩ (.slice An nn cn)).setCell ⟨w.heap.size+1+1+1,4,none⟩ (.int .i64 yc)).setCell ⟨w.heap.size+1+1+1,5,none⟩ (.int .i64 yt)).setCell ⟨w.heap.size+1+1+1,6,none⟩ (.int .i64 yk)):=⟨_,rfl⟩
   rw[←hWf]
   have hrow:Wf.heap[w.heap.size+1+1+1]? =some (.cells #[.int .i64 ys,.int .i64 yi,.int .i64 yr,.slice An nn cn,.int .i64 yc,.int .i64 yt,.int .i64 yk] 29 (0,0)):=by rw[hWf];exact gF En.out rfl _ _ _ _ _ _ _
   have hgr:wG.grownBy Wf (some (w.heap.size+1+1+1)):=by rw[hWf];exact grn
   clear hWf t0 t1' t2 t3 t4 t5 t6
   clear p0 p1 p2 p3 p4 q0 q1 q2 q3 q4 q5 q6 r0 r1 r2 z0 z1 z2 z3 z4 z5 z6 f0 f1 f2 f3 f4 f5 f6 k3 l6 l7 l8 bn
   obtain⟨u0,u1,u2,u3,u4,u5,u6⟩:=aG hrow
   refine bodyPost_ret (v:=.tuple #[.agg #[.int .i64 ys,.int .i64 yi,.int .i64 yr,.slice An nn cn,.int .i64 yc,.int .i64 yt,.int .i64 yk],vo,vd,.bool true]) (by simp[results,Tryz.results20,go_sem,u0,u1,u2,u3,u4,u5,u6]) rfl ?_
   have hps:=(fG.other HPG.out hgr En.out (f_ _ _ _ _ _ _ _ _ _) (by decide)).base (b':=w.heap.size) hs6
   have has:=(aU.other HAG.out hgr En.out (by decide)).base (b':=w.heap.size) hs6
   have hbf:Below w.heap.size w Wf:=Below.grown VH.out hgr hsG (fun k hk=>by cases hk;omega)
   rw[iP.out]
   refine⟨.slice An nn cn,vo,vd,rfl,hbf,?_,hps,has⟩
   show(.slice An nn cn=Value.slice Aa na ca∧yL=L)∨dQ Wf w.heap.size (.slice An nn cn) yL
   rw[HYL.out]
   by_cases h10:e=10
   ·exact .inr (dQ.base (dQ.other (dQ.below (dQ.below (dQ.below (dQ.below (OZ.out h10) mR.out) zo.out) rY.out) O4.out) hgr En.out (f_ _ _ _ _ _ _ _ _ _) (by decide)) hs4)
   ·exact .inl ⟨HVA.out h10,zS.out.2.2.1 h10⟩
  ·have h0':(er !=0)=true:=by simpa using h0
   obtain⟨hr0,ho0,hd0⟩:=jW.out.1 h0
   have iP:=hid hr0
   have je:=hid ho0
   have HD0:=hid hd0
   clear h0 hr0 ho0 hd0
   obtain⟨t0,t1',t2,t3,t4,t5,t6⟩:=aG Ez.out
   have y0:=frees Ez.out 0
   have y1:=frees Ez.out 1
   have y2:=frees Ez.out 2
   have y3:=frees Ez.out 3
   have y4:=frees Ez.out 4
   have y5:=frees Ez.out 5
   have y6:=frees Ez.out 6
   go_upto_region 13 with(fail)
   refine bY (fun W=>W.heap[T2]? =some (.cells #[.int .i64 st,.int .i64 id,.int .i64 req,.slice Aa na ca,.int .i64 cnt,.int .i64 ay,.int .i64 au] 29 (0,0))∧wG.grownBy W (some T2)) ⟨gF Ez.out rfl _ _ _ _ _ _ _,grn⟩ ?_
   rintro wH ⟨Zy,Py⟩
   have HPH:=hid (HPG.out.other Py Ez.out (f_ _ _ _ _ _ _ _ _ _) (by decide))
   have HAH:=hid (HAG.out.other Py Ez.out (by decide))
   have HBH:=hid (show Below w.heap.size w wH from Below.grown VH.out Py hsG (fun k hk=>by cases hk;omega))
   have H6H:=hid ((Py.block _ l6 (by simp;omega)).trans H6G.out)
   have H7H:=hid ((Py.block _ l7 (by simp;omega)).trans H7G.out)
   have H8H:=hid ((Py.block _ l8 (by simp;omega)).trans H8G.out)
   have Kr:=hid ((Py.block _ bn (by simp;omega)).trans En.out)
   clear t0 t1' t2 t3 t4 t5 t6 y0 y1 y2 y3 y4 y5 y6
   clear p0 p1 p2 p3 p4 q0 q1 q2 q3 q4 q5 q6 r0 r1 r2 z0 z1 z2 z3 z4 z5 z6 f0 f1 f2 f3 f4 f5 f6 k3 l6 l7 l8 bn
   have hsH:=HBH.out.size
   obtain⟨⟨l6,l7,l8,bn⟩,⟨p0,p1,p2,p3,p4⟩,⟨q0,q1,q2,q3,q4,q5,q6⟩,⟨r0,r1,r2⟩,⟨z0,z1,z2,z3,z4,z5,z6⟩,⟨f0,f1,f2,f3,f4,f5,f6⟩,k3⟩:=bG H6H.out H7H.out H8H.out Kr.out
   obtain⟨t0,t1',t2,t3,t4,t5,t6⟩:=aG Zy
   have ZK:=aj Zy
   clear Zy Py
   go_wp2_with fail
   obtain⟨Wf,hWf⟩: ∃Wf:World,Wf=(((((((wH.setCell ⟨w.heap.size+1+1+1,0,none⟩ (.int .i64 st)).setCell ⟨w.heap.size+1+1+1,1,none⟩ (.int .i64 id)).setCell ⟨w.heap.size+1+1+1,2,none⟩ (.int .i64 req)).setCell ⟨w.heap.size+1+1+1,3,none⟩ (.slice Aa na ca)).setCell ⟨w.heap.size+1+1+1,4,none⟩ (.int .i64 cnt)).setCell ⟨w.heap.size+1+1+1,5,none⟩ (.int .i64 ay)).setCell ⟨w.heap.size+1+1+1,6,none⟩ (.int .i64 au)):=⟨_,rfl⟩
   rw[←hWf]
   have hrow:Wf.heap[w.heap.size+1+1+1]? =some (.cells #[.int .i64 st,.int .i64 id,.int .i64 req,.slice Aa na ca,.int .i64 cnt,.int .i64 ay,.int .i64 au] 29 (0,0)):=by rw[hWf];exact gF Kr.out rfl _ _ _ _ _ _ _
   have hgr:wH.grownBy Wf (some (w.heap.size+1+1+1)):=by rw[hWf];exact grn
   clear hWf t0 t1' t2 t3 t4 t5 t6
   clear p0 p1 p2 p3 p4 q0 q1 q2 q3 q4 q5 q6 r0 r1 r2 z0 z1 z2 z3 z4 z5 z6 f0 f1 f2 f3 f4 f5 f6 k3 l6 l7 l8 bn
   obtain⟨u0,u1,u2,u3,u4,u5,u6⟩:=aG hrow
   refine bodyPost_ret (v:=.tuple #[.agg #[.int .i64 st,.int .i64 id,.int .i64 req,.slice Aa na ca,.int .i64 cnt,.int .i64 ay,.int .i64 au],vo,vd,.bool true]) (by simp[results,Tryz.results20,go_sem,u0,u1,u2,u3,u4,u5,u6]) rfl ?_
   have hps:=(fG.other HPH.out hgr Kr.out (f_ _ _ _ _ _ _ _ _ _) (by decide)).base (b':=w.heap.size) hs6
   have has:=(aU.other HAH.out hgr Kr.out (by decide)).base (b':=w.heap.size) hs6
   have hbf:Below w.heap.size w Wf:=Below.grown HBH.out hgr hsH (fun k hk=>by cases hk;omega)
   rw[iP.out]
   rw[je.out] at hps
   rw[HD0.out] at has
   exact⟨.slice Aa na ca,vo,vd,rfl,hbf,.inl ⟨rfl,rfl⟩,hps,has⟩
open Ne (Rl bF aD bM)
theorem FZ (Ar Aa Ai:Option Addr) (nr cr na ca ni ci:Nat) (R:List Rl) (mc mt mf wt st id req cnt ay au ic ii tick:Int) (E:List aH) (li:List UInt8) (w:World) (B:Nat) (hB:B≤w.heap.size) (hR:aD w B Ar R) (hnr:nr=R.length) (hlr:nr≤1000000) (hE:aJ w B Aa E) (hna:na=E.length) (hca:na≤ca) (hla:na≤1000000) (hI:At w B Ai (li.map bv)) (hni:ni=li.length) (hci:ni≤ci) (iF:ni≤400000000):Calls Tryz.prog 20 #[.agg #[.slice Ar nr cr,.int .i64 mc,.int .i64 mt,.int .i64 mf,.int .i64 wt],.agg #[.int .i64 st,.int .i64 id,.int .i64 req,.slice Aa na ca,.int .i64 cnt,.int .i64 ay,.int .i64 au],.agg #[.int .i64 ic,.int .i64 ii,.slice Ai ni ci],.int .i64 tick] w (xW (eP ⟨R,mc,mt,mf,wt⟩ ⟨st,id,req,E.map aH.o,cnt,ay,au⟩ ⟨ic,ii,li⟩ tick) (.slice Aa na ca) (E.map aH.o) w):=by
 by_cases h:bC ic 1 7=true∧Cp.aV ic ii li.length=0∧dn ⟨R,mc,mt,mf,wt⟩ ⟨st,id,req,E.map aH.o,cnt,ay,au⟩ tick=true
 ·exact F3 Ar Aa Ai nr cr na ca ni ci R mc mt mf wt st id req cnt ay au ic ii tick E li w B hB hR hnr hlr hE hna hca hla hI hni hci iF h.1 h.2.1 h.2.2
 ·exact Jw Ar Aa Ai nr cr na ca ni ci R mc mt mf wt st id req cnt ay au ic ii tick E li w B hB hR hnr hlr hE hna hca hla hI hni hci iF (by
   cases h1:bC ic 1 7
   ·exact .inl rfl
   ·refine .inr ?_
    by_cases h2:Cp.aV ic ii li.length=0
    ·refine .inr ?_
     cases h3:dn ⟨R,mc,mt,mf,wt⟩ ⟨st,id,req,E.map aH.o,cnt,ay,au⟩ tick
     ·rfl
     ·exact absurd ⟨h1,h2,h3⟩ h
    ·exact .inl h2)
end Go.Proofs.YtfkgmbknfnhjoaaGreat

set_option maxHeartbeats 16000000
namespace Go.Proofs.YtfkgmbknfnhjoaaGreat
open Lib (hid)
open Go.RowKit
open Ne (Rl bF aD bM)
end Go.Proofs.YtfkgmbknfnhjoaaGreat
