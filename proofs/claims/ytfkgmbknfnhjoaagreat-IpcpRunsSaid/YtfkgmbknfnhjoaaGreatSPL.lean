/- PL -/
import Derived.Test.YtfkgmbknfnhjoaaGreatSPK
set_option linter.all false
set_option linter.ambiguousOpen false
set_option maxHeartbeats 8000000
namespace Go.Proofs.YtfkgmbknfnhjoaaGreat
open Lib (hid)
open Go.RowKit
open Ne (Rl bF aD bM aS bN)
open Fs (av hasB)
def sH (c:Cf) (a:Au) (inn:Pk) (tick:Int):Option (Int×Pk×List bF)→(Au×List Pk×List Int)×Bool
 |none=>((a,[],[]),true)
 |some (e,ans,next)=>if Fs.bP a.st e≠0 then((a,[],[]),true) else(jo c {a with ask:=next} e inn ans tick,true)
theorem D8 {c:Cf} {a:Au} {inn:Pk} {tick:Int} (hc:bC inn.code 1 7=true) (he:Cp.aV inn.code inn.id inn.data.length=0) (hf:dn c a tick=true):eP c a inn tick=sH c a inn tick (bK c a inn):=by
 unfold eP
 rw[hc,if_neg (by decide),if_neg (by rw[he,hf];simp)]
 cases bK c a inn<;>rfl
set_option maxRecDepth 100000 in
theorem I8 (Ar Aa Ai:Option Addr) (nr cr na ca ni ci:Nat) (R:List Rl) (mc mt mf wt st id req cnt ay au ic ii tick:Int) (E:List aH) (li:List UInt8) (w:World) (B:Nat) (hB:B≤w.heap.size) (hR:aD w B Ar R) (hnr:nr=R.length) (hlr:nr≤1000000) (hE:aJ w B Aa E) (hna:na=E.length) (hla:na≤1000000) (hda: ∀e∈E,e.d.length≤1000000) (hI:At w B Ai (li.map bv)) (hni:ni=li.length) (hci:ni≤ci) (iF:ni≤400000000) (hc:bC ic 1 7=true) (he:Cp.aV ic ii li.length=0) (hf:dn ⟨R,mc,mt,mf,wt⟩ ⟨st,id,req,E.map aH.o,cnt,ay,au⟩ tick=true):Calls Tryz.prog 19 #[.agg #[.slice Ar nr cr,.int .i64 mc,.int .i64 mt,.int .i64 mf,.int .i64 wt],.agg #[.int .i64 st,.int .i64 id,.int .i64 req,.slice Aa na ca,.int .i64 cnt,.int .i64 ay,.int .i64 au],.agg #[.int .i64 ic,.int .i64 ii,.slice Ai ni ci],.int .i64 tick] w (DU (eP ⟨R,mc,mt,mf,wt⟩ ⟨st,id,req,E.map aH.o,cnt,ay,au⟩ ⟨ic,ii,li⟩ tick) w):=by
 have DL:=hid hc
 have jB:=hid he
 have DX:1≤ic∧ic≤7:=by simpa[bC] using hc
 obtain⟨h1,h7⟩:=DX
 have HB:=hid hB
 have HR:=hid hR
 have gB:=hid hnr
 have HE:=hid hE
 have dz:=hid hna
 have jr:=hid hda
 have HI:=hid hI
 have gy:=hid hni
 obtain⟨L,hL⟩: ∃L,E.map aH.o=L:=⟨_,rfl⟩
 have HL:=hid hL
 rw[hL]
 clear hB hR hnr hE hna hda hL hI hni
 rw[HL.out] at hf
 have HF:=hid hf
 obtain⟨r,hr⟩: ∃r,bK ⟨R,mc,mt,mf,wt⟩ ⟨st,id,req,L,cnt,ay,au⟩ ⟨ic,ii,li⟩=r:=⟨_,rfl⟩
 have HW:=hid hr
 have VX:=hid (show eP ⟨R,mc,mt,mf,wt⟩ ⟨st,id,req,L,cnt,ay,au⟩ ⟨ic,ii,li⟩ tick=sH ⟨R,mc,mt,mf,wt⟩ ⟨st,id,req,L,cnt,ay,au⟩ ⟨ic,ii,li⟩ tick r by rw[D8 (c:=⟨R,mc,mt,mf,wt⟩) (a:=⟨st,id,req,L,cnt,ay,au⟩) (inn:=⟨ic,ii,li⟩) hc he hf,hr])
 rw[VX.out]
 clear hc he hf hr VX
 cases r with
 |none=>
  dsimp only[sH]
  go_enter Tryz.func19,Tryz.ntmps19
  go_upto_region 1 with(fail)
  refine fE ?_
  rintro w2 ⟨h6,h7,h8,h12,hbw⟩
  have HB2:=hid hbw
  have qN:=hid h6
  have pW:=hid h7
  have qO:=hid h8
  have jq:=hid h12
  clear h6 h7 h8 h12 hbw
  have hs2:=HB2.out.size
  obtain⟨⟨l6,l7,l8,bn⟩,⟨p0,p1,p2,p3,p4⟩,⟨q0,q1,q2,q3,q4,q5,q6⟩,⟨r0,r1,r2⟩,⟨z0,z1,z2,z3,z4,z5,z6⟩,⟨f0,f1,f2,f3,f4,f5,f6⟩,k3⟩:=bG qN.out pW.out qO.out jq.out
  go_wp2_with (go_at_call 59;refine(eB _ _ _ _ DL.out).mono ?_;rintro e w1 ⟨rfl,rfl⟩)
  refine(Cp.dZ ic ii Ai ni ci li _ B (by have:=HB.out;omega) (HI.out.keep (HB2.out.mono HB.out)) gy.out (by omega)).mono ?_
  unfold Cp.gK
  rw[jB.out]
  rintro x w3 ⟨v3,rfl,hb3,-⟩
  have jv:=hid (show Below w2.heap.size w2 w3 from hb3)
  have HB3:=hid (HB2.out.trans (jv.out.mono hs2))
  have rW:=hid ((jv.out.block _ l6).trans qN.out)
  have mQ:=hid ((jv.out.block _ l7).trans pW.out)
  have m_:=hid ((jv.out.block _ l8).trans qO.out)
  have eU:=hid ((jv.out.block _ bn).trans jq.out)
  clear p0 p1 p2 p3 p4 q0 q1 q2 q3 q4 q5 q6 r0 r1 r2 z0 z1 z2 z3 z4 z5 z6 f0 f1 f2 f3 f4 f5 f6 k3 l6 l7 l8 bn
  have hs3:=HB3.out.size
  obtain⟨⟨l6,l7,l8,bn⟩,⟨p0,p1,p2,p3,p4⟩,⟨q0,q1,q2,q3,q4,q5,q6⟩,⟨r0,r1,r2⟩,⟨z0,z1,z2,z3,z4,z5,z6⟩,⟨f0,f1,f2,f3,f4,f5,f6⟩,k3⟩:=bG rW.out mQ.out m_.out eU.out
  clear hb3
  go_wp2_with fail
  refine(jk Ar nr cr R mc mt mf wt st id req cnt ay au Aa na ca E L HL.out tick _ B (by have:=HB.out;omega) (HR.out.keep (HB3.out.mono HB.out)) gB.out hlr (HE.out.keep (HB3.out.mono HB.out)) dz.out).mono ?_
  rw[HF.out]
  rintro x w4 ⟨rfl,hb4⟩
  have kE:=hid (show Below w3.heap.size w3 w4 from hb4)
  have fu:=hid (HB3.out.trans (kE.out.mono hs3))
  have vN:=hid ((kE.out.block _ l6).trans rW.out)
  have vO:=hid ((kE.out.block _ l7).trans mQ.out)
  have vP:=hid ((kE.out.block _ l8).trans m_.out)
  have jV:=hid ((kE.out.block _ bn).trans eU.out)
  clear p0 p1 p2 p3 p4 q0 q1 q2 q3 q4 q5 q6 r0 r1 r2 z0 z1 z2 z3 z4 z5 z6 f0 f1 f2 f3 f4 f5 f6 k3 l6 l7 l8 bn
  have hs4:=fu.out.size
  obtain⟨⟨l6,l7,l8,bn⟩,⟨p0,p1,p2,p3,p4⟩,⟨q0,q1,q2,q3,q4,q5,q6⟩,⟨r0,r1,r2⟩,⟨z0,z1,z2,z3,z4,z5,z6⟩,⟨f0,f1,f2,f3,f4,f5,f6⟩,k3⟩:=bG vN.out vO.out vP.out jV.out
  clear hb4
  go_wp2_with fail
  refine(oH ic h1 h7 Ar Aa Ai nr cr na ca ni ci R mc mt mf wt st id req cnt ay au ii E li _ B (by have:=HB.out;omega) (HR.out.keep (fu.out.mono HB.out)) gB.out hlr (HE.out.keep (fu.out.mono HB.out)) dz.out hla jr.out (HI.out.keep (fu.out.mono HB.out)) gy.out hci).mono ?_
  rw[HL.out,HW.out]
  rintro x w5 ⟨A5,n5,c5,rfl,hb5⟩
  have nA:=hid (show Below w4.heap.size w4 w5 from hb5)
  have dO:=hid (fu.out.trans (nA.out.mono hs4))
  have zC:=hid ((nA.out.block _ l6).trans vN.out)
  have pX:=hid ((nA.out.block _ l7).trans vO.out)
  have pY:=hid ((nA.out.block _ l8).trans vP.out)
  have eZ:=hid ((nA.out.block _ bn).trans jV.out)
  clear p0 p1 p2 p3 p4 q0 q1 q2 q3 q4 q5 q6 r0 r1 r2 z0 z1 z2 z3 z4 z5 z6 f0 f1 f2 f3 f4 f5 f6 k3 l6 l7 l8 bn
  have hs5:=dO.out.size
  obtain⟨⟨l6,l7,l8,bn⟩,⟨p0,p1,p2,p3,p4⟩,⟨q0,q1,q2,q3,q4,q5,q6⟩,⟨r0,r1,r2⟩,⟨z0,z1,z2,z3,z4,z5,z6⟩,⟨f0,f1,f2,f3,f4,f5,f6⟩,k3⟩:=bG zC.out pX.out pY.out eZ.out
  clear hb5
  go_upto_region 7 with(fail)
  refine bY (fun W=>Below w5.heap.size w5 W) (by exact aA) ?_
  rintro w6 hb6
  have mR:=hid (show Below w5.heap.size w5 w6 from hb6)
  have lC:=hid (dO.out.trans (mR.out.mono hs5))
  have Bz:=hid ((mR.out.block _ l6).trans zC.out)
  have ze:=hid ((mR.out.block _ l7).trans pX.out)
  have zh:=hid ((mR.out.block _ l8).trans pY.out)
  have kZ:=hid ((mR.out.block _ bn).trans eZ.out)
  clear p0 p1 p2 p3 p4 q0 q1 q2 q3 q4 q5 q6 r0 r1 r2 z0 z1 z2 z3 z4 z5 z6 f0 f1 f2 f3 f4 f5 f6 k3 l6 l7 l8 bn
  have hs6:=lC.out.size
  obtain⟨⟨l6,l7,l8,bn⟩,⟨p0,p1,p2,p3,p4⟩,⟨q0,q1,q2,q3,q4,q5,q6⟩,⟨r0,r1,r2⟩,⟨z0,z1,z2,z3,z4,z5,z6⟩,⟨f0,f1,f2,f3,f4,f5,f6⟩,k3⟩:=bG Bz.out ze.out zh.out kZ.out
  clear hb6
  go_wp2_with fail
  refine(mD st id req cnt ay au Aa na ca E _ B (by have:=HB.out;omega) (HE.out.keep (lC.out.mono HB.out)) dz.out hla (fun e he=>by have:=jr.out e he;omega)).mono ?_
  rintro x w9 ⟨v,rfl,E9,A9,n9,c9,rfl,J7,Iw,T9,jf,kM⟩
  have GH:=hid (show E9.map aH.o=L from J7.trans HL.out)
  have qm:=hid kM
  have qp:=hid (show Below w6.heap.size w6 w9 from jf)
  have oP:=hid (lC.out.trans (qp.out.mono hs6))
  have Tc:=hid ((qp.out.block _ l6).trans Bz.out)
  have Te:=hid ((qp.out.block _ l7).trans ze.out)
  have Tf:=hid ((qp.out.block _ l8).trans zh.out)
  have oZ:=hid ((qp.out.block _ bn).trans kZ.out)
  clear p0 p1 p2 p3 p4 q0 q1 q2 q3 q4 q5 q6 r0 r1 r2 z0 z1 z2 z3 z4 z5 z6 f0 f1 f2 f3 f4 f5 f6 k3 l6 l7 l8 bn
  have Ua:=oP.out.size
  obtain⟨⟨l6,l7,l8,bn⟩,⟨p0,p1,p2,p3,p4⟩,⟨q0,q1,q2,q3,q4,q5,q6⟩,⟨r0,r1,r2⟩,⟨z0,z1,z2,z3,z4,z5,z6⟩,⟨f0,f1,f2,f3,f4,f5,f6⟩,k3⟩:=bG Tc.out Te.out Tf.out oZ.out
  clear J7 Iw T9 jf kM
  dsimp only
  go_wp2_with fail
  obtain⟨Wf,hWf⟩: ∃Wf:World,Wf=(((((((w9.setCell ⟨w.heap.size+1+1+1,0,none⟩ (.int .i64 st)).setCell ⟨w.heap.size+1+1+1,1,none⟩ (.int .i64 id)).setCell ⟨w.heap.size+1+1+1,2,none⟩ (.int .i64 req)).setCell ⟨w.heap.size+1+1+1,3,none⟩ (.slice A9 n9 c9)).setCell ⟨w.heap.size+1+1+1,4,none⟩ (.int .i64 cnt)).setCell ⟨w.heap.size+1+1+1,5,none⟩ (.int .i64 ay)).setCell ⟨w.heap.size+1+1+1,6,none⟩ (.int .i64 au)):=⟨_,rfl⟩
  rw[←hWf]
  have hrow:Wf.heap[w.heap.size+1+1+1]? =some (.cells #[.int .i64 st,.int .i64 id,.int .i64 req,.slice A9 n9 c9,.int .i64 cnt,.int .i64 ay,.int .i64 au] 29 (0,0)):=by rw[hWf];exact gF oZ.out rfl _ _ _ _ _ _ _
  have hgr:w9.grownBy Wf (some (w.heap.size+1+1+1)):=by rw[hWf];exact grn
  clear hWf
  clear p0 p1 p2 p3 p4 q0 q1 q2 q3 q4 q5 q6 r0 r1 r2 z0 z1 z2 z3 z4 z5 z6 f0 f1 f2 f3 f4 f5 f6 k3 l6 l7 l8 bn
  obtain⟨u0,u1,u2,u3,u4,u5,u6⟩:=aG hrow
  refine bodyPost_ret (v:=.tuple #[.agg #[.int .i64 st,.int .i64 id,.int .i64 req,.slice A9 n9 c9,.int .i64 cnt,.int .i64 ay,.int .i64 au],.slice none 0 0,.slice none 0 0,.bool true]) (by simp[results,Tryz.results19,go_sem,u0,u1,u2,u3,u4,u5,u6]) rfl ?_
  exact⟨.slice A9 n9 c9,.slice none 0 0,.slice none 0 0,rfl,Below.grown oP.out hgr Ua (fun k hk=>by cases hk;omega),bA.base (aI.jZ (⟨E9,qm.out,GH.out⟩:bA _ _ _ L) hgr oZ.out (by decide) (by decide)) hs6,⟨[],dM.nil _ _,rfl⟩,aU.nil _ _⟩
 |some r=>
  obtain⟨e,⟨xX,aid,ad⟩,next⟩:=r
  dsimp only[sH]
  have zS:=hid (mO HW.out)
  by_cases h10:e=10
  ·subst h10
   by_cases hse:Fs.bP st 10=0
   ·have tC:=hid hse
    rw[if_neg (by rw[hse];decide)]
    clear hse
    obtain⟨⟨⟨ys,yi,yr,yL,yc,yt,yk⟩,o1,d1⟩,hdo⟩: ∃r,jo ⟨R,mc,mt,mf,wt⟩ ⟨st,id,req,next,cnt,ay,au⟩ 10 ⟨ic,ii,li⟩ ⟨xX,aid,ad⟩ tick=r:=⟨_,rfl⟩
    have qg:=hid hdo
    rw[hdo]
    clear hdo
    go_enter Tryz.func19,Tryz.ntmps19
    go_upto_region 1 with(fail)
    refine fE ?_
    rintro w2 ⟨h6,h7,h8,h12,hbw⟩
    have HB2:=hid hbw
    have qN:=hid h6
    have pW:=hid h7
    have qO:=hid h8
    have jq:=hid h12
    clear h6 h7 h8 h12 hbw
    have hs2:=HB2.out.size
    obtain⟨⟨l6,l7,l8,bn⟩,⟨p0,p1,p2,p3,p4⟩,⟨q0,q1,q2,q3,q4,q5,q6⟩,⟨r0,r1,r2⟩,⟨z0,z1,z2,z3,z4,z5,z6⟩,⟨f0,f1,f2,f3,f4,f5,f6⟩,k3⟩:=bG qN.out pW.out qO.out jq.out
    go_wp2_with (go_at_call 59;refine(eB _ _ _ _ DL.out).mono ?_;rintro e w1 ⟨rfl,rfl⟩)
    refine(Cp.dZ ic ii Ai ni ci li _ B (by have:=HB.out;omega) (HI.out.keep (HB2.out.mono HB.out)) gy.out (by omega)).mono ?_
    unfold Cp.gK
    rw[jB.out]
    rintro x w3 ⟨v3,rfl,hb3,-⟩
    have jv:=hid (show Below w2.heap.size w2 w3 from hb3)
    have HB3:=hid (HB2.out.trans (jv.out.mono hs2))
    have rW:=hid ((jv.out.block _ l6).trans qN.out)
    have mQ:=hid ((jv.out.block _ l7).trans pW.out)
    have m_:=hid ((jv.out.block _ l8).trans qO.out)
    have eU:=hid ((jv.out.block _ bn).trans jq.out)
    clear p0 p1 p2 p3 p4 q0 q1 q2 q3 q4 q5 q6 r0 r1 r2 z0 z1 z2 z3 z4 z5 z6 f0 f1 f2 f3 f4 f5 f6 k3 l6 l7 l8 bn
    have hs3:=HB3.out.size
    obtain⟨⟨l6,l7,l8,bn⟩,⟨p0,p1,p2,p3,p4⟩,⟨q0,q1,q2,q3,q4,q5,q6⟩,⟨r0,r1,r2⟩,⟨z0,z1,z2,z3,z4,z5,z6⟩,⟨f0,f1,f2,f3,f4,f5,f6⟩,k3⟩:=bG rW.out mQ.out m_.out eU.out
    clear hb3
    go_wp2_with fail
    refine(jk Ar nr cr R mc mt mf wt st id req cnt ay au Aa na ca E L HL.out tick _ B (by have:=HB.out;omega) (HR.out.keep (HB3.out.mono HB.out)) gB.out hlr (HE.out.keep (HB3.out.mono HB.out)) dz.out).mono ?_
    rw[HF.out]
    rintro x w4 ⟨rfl,hb4⟩
    have kE:=hid (show Below w3.heap.size w3 w4 from hb4)
    have fu:=hid (HB3.out.trans (kE.out.mono hs3))
    have vN:=hid ((kE.out.block _ l6).trans rW.out)
    have vO:=hid ((kE.out.block _ l7).trans mQ.out)
    have vP:=hid ((kE.out.block _ l8).trans m_.out)
    have jV:=hid ((kE.out.block _ bn).trans eU.out)
    clear p0 p1 p2 p3 p4 q0 q1 q2 q3 q4 q5 q6 r0 r1 r2 z0 z1 z2 z3 z4 z5 z6 f0 f1 f2 f3 f4 f5 f6 k3 l6 l7 l8 bn
    have hs4:=fu.out.size
    obtain⟨⟨l6,l7,l8,bn⟩,⟨p0,p1,p2,p3,p4⟩,⟨q0,q1,q2,q3,q4,q5,q6⟩,⟨r0,r1,r2⟩,⟨z0,z1,z2,z3,z4,z5,z6⟩,⟨f0,f1,f2,f3,f4,f5,f6⟩,k3⟩:=bG vN.out vO.out vP.out jV.out
    clear hb4
    go_wp2_with fail
    refine(oH ic h1 h7 Ar Aa Ai nr cr na ca ni ci R mc mt mf wt st id req cnt ay au ii E li _ B (by have:=HB.out;omega) (HR.out.keep (fu.out.mono HB.out)) gB.out hlr (HE.out.keep (fu.out.mono HB.out)) dz.out hla jr.out (HI.out.keep (fu.out.mono HB.out)) gy.out hci).mono ?_
    rw[HL.out,HW.out]
    rintro x w5 ⟨Ad,nd,cd,An,nn,cn,rfl,hb5,hby,hop⟩
    have Kv:=hid (hby.base (aaF hs4 (aaE _)))
    have OZ:=hid hop
    have nA:=hid (show Below w4.heap.size w4 w5 from hb5)
    have dO:=hid (fu.out.trans (nA.out.mono hs4))
    have zC:=hid ((nA.out.block _ l6).trans vN.out)
    have pX:=hid ((nA.out.block _ l7).trans vO.out)
    have pY:=hid ((nA.out.block _ l8).trans vP.out)
    have eZ:=hid ((nA.out.block _ bn).trans jV.out)
    clear p0 p1 p2 p3 p4 q0 q1 q2 q3 q4 q5 q6 r0 r1 r2 z0 z1 z2 z3 z4 z5 z6 f0 f1 f2 f3 f4 f5 f6 k3 l6 l7 l8 bn
    have hs5:=dO.out.size
    obtain⟨⟨l6,l7,l8,bn⟩,⟨p0,p1,p2,p3,p4⟩,⟨q0,q1,q2,q3,q4,q5,q6⟩,⟨r0,r1,r2⟩,⟨z0,z1,z2,z3,z4,z5,z6⟩,⟨f0,f1,f2,f3,f4,f5,f6⟩,k3⟩:=bG zC.out pX.out pY.out eZ.out
    clear hb5 hby hop
    dsimp only
    go_upto_region 7 with(fail)
    obtain⟨T,hT⟩: ∃T,T=w5.heap.size:=⟨_,rfl⟩
    rw[←hT]
    refine bY (fun W=>Below w5.heap.size w5 W∧W.heap[T]? =some (.cells #[.int .i64 xX,.int .i64 aid,.slice Ad nd cd] 32 (0,0))) ⟨by exact aA,by rw[hT];exact heap_alloc_new _ _⟩ ?_
    rintro w6 ⟨hb6,IC⟩
    have BU:=hid IC
    have Zf:w5.heap.size≤T:=by omega
    have Zg:w.heap.size+1+1+1<T:=by omega
    clear hT
    have mR:=hid (show Below w5.heap.size w5 w6 from hb6)
    have lC:=hid (dO.out.trans (mR.out.mono hs5))
    have Bz:=hid ((mR.out.block _ l6).trans zC.out)
    have ze:=hid ((mR.out.block _ l7).trans pX.out)
    have zh:=hid ((mR.out.block _ l8).trans pY.out)
    have kZ:=hid ((mR.out.block _ bn).trans eZ.out)
    clear p0 p1 p2 p3 p4 q0 q1 q2 q3 q4 q5 q6 r0 r1 r2 z0 z1 z2 z3 z4 z5 z6 f0 f1 f2 f3 f4 f5 f6 k3 l6 l7 l8 bn
    have hs6:=lC.out.size
    obtain⟨⟨l6,l7,l8,bn⟩,⟨p0,p1,p2,p3,p4⟩,⟨q0,q1,q2,q3,q4,q5,q6⟩,⟨r0,r1,r2⟩,⟨z0,z1,z2,z3,z4,z5,z6⟩,⟨f0,f1,f2,f3,f4,f5,f6⟩,k3⟩:=bG Bz.out ze.out zh.out kZ.out
    have Es:=hid (Kv.out.below hb6)
    clear hb6 IC
    have lT:=aj BU.out
    obtain⟨t0,t1',t2⟩:=cells3 BU.out
    go_wp2_with fail
    refine(Fs.qJ st 10 _).mono ?_
    rw[show Fs.iI st 10=fun w x w'=> ∃v,x=.returned (.tuple #[.int .i64 (Fs.aZ 10 st),v,.int .i64 0])∧Fs.Told w (Fs.aT 10 st) v w' by unfold Fs.iI;rw[tC.out]]
    rintro x w7 ⟨v7,rfl,lM,-⟩
    have GN:=hid (show Below w6.heap.size w6 w7 from lM)
    have zG:=hid (lC.out.trans (GN.out.mono hs6))
    have Vy:=hid ((GN.out.block _ l6).trans Bz.out)
    have Td:=hid ((GN.out.block _ l7).trans ze.out)
    have Vz:=hid ((GN.out.block _ l8).trans zh.out)
    have Gy:=hid ((GN.out.block _ bn).trans kZ.out)
    clear p0 p1 p2 p3 p4 q0 q1 q2 q3 q4 q5 q6 r0 r1 r2 z0 z1 z2 z3 z4 z5 z6 f0 f1 f2 f3 f4 f5 f6 k3 l6 l7 l8 bn
    have hs7:=zG.out.size
    obtain⟨⟨l6,l7,l8,bn⟩,⟨p0,p1,p2,p3,p4⟩,⟨q0,q1,q2,q3,q4,q5,q6⟩,⟨r0,r1,r2⟩,⟨z0,z1,z2,z3,z4,z5,z6⟩,⟨f0,f1,f2,f3,f4,f5,f6⟩,k3⟩:=bG Vy.out Td.out Vz.out Gy.out
    have Vi:=hid ((lM.block _ lT).trans BU.out)
    have Yo:=hid (Es.out.below lM)
    have YG:=hid (((OZ.out (by trivial)).below mR.out).below lM)
    clear lM t0 t1' t2
    go_upto_region 14 with(fail)
    refine bY (fun W=>W.heap[w.heap.size+1]? =some (.cells #[.int .i64 st,.int .i64 id,.int .i64 req,.slice An nn cn,.int .i64 cnt,.int .i64 ay,.int .i64 au] 29 (0,0))∧w7.grownBy W (some (w.heap.size+1))) ⟨heap_setCell_same _ _ 3 _ _ _ Td.out,grn⟩ ?_
    rintro w8 ⟨h78,Px⟩
    have H78:=hid h78
    have Xu:=hid (show Below w.heap.size w w8 from Below.grown zG.out Px hs7 (fun k hk=>by cases hk;omega))
    have H68:=hid ((Px.block _ l6 (by simp)).trans Vy.out)
    have H88:=hid ((Px.block _ l8 (by simp;try omega)).trans Vz.out)
    have Vx:=hid ((Px.block _ bn (by simp;try omega)).trans Gy.out)
    have HT8:=hid ((Px.block _ (aj Vi.out) (by simp;omega)).trans Vi.out)
    have Yp:=hid (Yo.out.other Px Td.out (by decide))
    have YH:=hid (aI.jZ YG.out Px Td.out (by decide) (by decide))
    clear h78 Px
    clear p0 p1 p2 p3 p4 q0 q1 q2 q3 q4 q5 q6 r0 r1 r2 z0 z1 z2 z3 z4 z5 z6 f0 f1 f2 f3 f4 f5 f6 k3 l6 l7 l8 bn
    have XL:=Xu.out.size
    obtain⟨⟨l6,l7,l8,bn⟩,⟨p0,p1,p2,p3,p4⟩,⟨q0,q1,q2,q3,q4,q5,q6⟩,⟨r0,r1,r2⟩,⟨z0,z1,z2,z3,z4,z5,z6⟩,⟨f0,f1,f2,f3,f4,f5,f6⟩,k3⟩:=bG H68.out H78.out H88.out Vx.out
    have lT8:=aj HT8.out
    obtain⟨t0,t1',t2⟩:=cells3 HT8.out
    obtain⟨Ax,nx',cx,Ex,hex,hax,hnx,hcx,hxl⟩:=YH.out.v
    simp only[Value.slice.injEq] at hex
    obtain⟨rfl,rfl,rfl⟩:=hex
    obtain⟨Ay,ny,cy,Pw,Pp,hny,hcy⟩:=Yp.out.v
    simp only[Value.slice.injEq] at Pw
    obtain⟨rfl,rfl,rfl⟩:=Pw
    have Ym:=hid hax
    have VG:=hid Pp
    have V8:=hid hxl
    have KO:=hid hnx
    have OX:=hid hny
    clear hax Pp hxl hnx hny
    go_wp2_with fail
    refine(yC Ar An Ai Ad nr cr nn cn ni ci nd cd R mc mt mf wt st id req cnt ay au 10 ic ii xX aid tick Ex li ad w8 w8.heap.size (aaE _) ((HR.out.keep (Xu.out.mono HB.out)).more (by have:=HB.out;omega)) gB.out hlr Ym.out KO.out (by have:=(zS.out.2.2.2 (by trivial)).1;have h3:=congrArg List.length V8.out;rw[List.length_map] at h3;have:=KO.out;omega) (fun e he=>by have:=uN V8.out (zS.out.2.2.2 (by trivial)).2 e he;omega) ((HI.out.keep (Xu.out.mono HB.out)).more (by have:=HB.out;omega)) gy.out hci iF VG.out OX.out hcy (by have h3:ad.length≤1488:=zS.out.2.1;have:=OX.out;omega)).mono ?_
    rw[V8.out,qg.out]
    rintro x wE ⟨va,vo,vd,rfl,Pq,⟨E4,Cw,EZ⟩,PW,Po⟩
    obtain⟨A4,c4,rfl,-,-⟩:=ownsRow_form Cw.1
    clear t0 t1' t2
    have uf:=hid (⟨E4,Cw,EZ⟩:bA wE _ _ yL)
    have KI:=hid PW
    have VB:=hid Po
    have zo:=hid (show Below w8.heap.size w8 wE from Pq)
    have BA:=hid (Xu.out.trans (zo.out.mono XL))
    have OL:=hid ((zo.out.block _ l6).trans H68.out)
    have OM:=hid ((zo.out.block _ l7).trans H78.out)
    have OO:=hid ((zo.out.block _ l8).trans H88.out)
    have zB:=hid ((zo.out.block _ bn).trans Vx.out)
    clear p0 p1 p2 p3 p4 q0 q1 q2 q3 q4 q5 q6 r0 r1 r2 z0 z1 z2 z3 z4 z5 z6 f0 f1 f2 f3 f4 f5 f6 k3 l6 l7 l8 bn
    have WR:=BA.out.size
    obtain⟨⟨l6,l7,l8,bn⟩,⟨p0,p1,p2,p3,p4⟩,⟨q0,q1,q2,q3,q4,q5,q6⟩,⟨r0,r1,r2⟩,⟨z0,z1,z2,z3,z4,z5,z6⟩,⟨f0,f1,f2,f3,f4,f5,f6⟩,k3⟩:=bG OL.out OM.out OO.out zB.out
    clear Pq PW Po Cw EZ
    unfold vV
    go_upto_region 15 with(fail)
    obtain⟨T2,Ip⟩: ∃T2,T2=wE.heap.size:=⟨_,rfl⟩
    rw[←Ip]
    refine bY (fun W=>Below wE.heap.size wE W∧W.heap[T2]? =some (.cells #[.int .i64 ys,.int .i64 yi,.int .i64 yr,.slice A4 E4.length c4,.int .i64 yc,.int .i64 yt,.int .i64 yk] 29 (0,0))) ⟨by exact aA,by rw[Ip];exact heap_alloc_new _ _⟩ ?_
    rintro wF ⟨Pt,Ld⟩
    have V5:=hid Ld
    have WB:wE.heap.size≤T2:=by omega
    clear Ip
    have rY:=hid (show Below wE.heap.size wE wF from Pt)
    have tu:=hid (BA.out.trans (rY.out.mono WR))
    have U9:=hid ((rY.out.block _ l6).trans OL.out)
    have U_:=hid ((rY.out.block _ l7).trans OM.out)
    have Va:=hid ((rY.out.block _ l8).trans OO.out)
    have pV:=hid ((rY.out.block _ bn).trans zB.out)
    clear p0 p1 p2 p3 p4 q0 q1 q2 q3 q4 q5 q6 r0 r1 r2 z0 z1 z2 z3 z4 z5 z6 f0 f1 f2 f3 f4 f5 f6 k3 l6 l7 l8 bn
    have WS:=tu.out.size
    obtain⟨⟨l6,l7,l8,bn⟩,⟨p0,p1,p2,p3,p4⟩,⟨q0,q1,q2,q3,q4,q5,q6⟩,⟨r0,r1,r2⟩,⟨z0,z1,z2,z3,z4,z5,z6⟩,⟨f0,f1,f2,f3,f4,f5,f6⟩,k3⟩:=bG U9.out U_.out Va.out pV.out
    clear Pt Ld
    have ZK:=aj V5.out
    obtain⟨t0,t1',t2,t3,t4,t5,t6⟩:=aG V5.out
    go_wp2_with fail
    obtain⟨Wf,hWf⟩: ∃Wf:World,Wf=(((((((wF.setCell ⟨w.heap.size+1+1+1,0,none⟩ (.int .i64 ys)).setCell ⟨w.heap.size+1+1+1,1,none⟩ (.int .i64 yi)).setCell ⟨w.heap.size+1+1+1,2,none⟩ (.int .i64 yr)).setCell ⟨w.heap.size+1+1+1,3,none⟩ (.slice A4 E4.length c4)).setCell ⟨w.heap.size+1+1+1,4,none⟩ (.int .i64 yc)).setCell ⟨w.heap.size+1+1+1,5,none⟩ (.int .i64 yt)).setCell ⟨w.heap.size+1+1+1,6,none⟩ (.int .i64 yk)):=⟨_,rfl⟩
    rw[←hWf]
    have hrow:Wf.heap[w.heap.size+1+1+1]? =some (.cells #[.int .i64 ys,.int .i64 yi,.int .i64 yr,.slice A4 E4.length c4,.int .i64 yc,.int .i64 yt,.int .i64 yk] 29 (0,0)):=by rw[hWf];exact gF pV.out rfl _ _ _ _ _ _ _
    have hgr:wF.grownBy Wf (some (w.heap.size+1+1+1)):=by rw[hWf];exact grn
    clear hWf t0 t1' t2 t3 t4 t5 t6
    clear p0 p1 p2 p3 p4 q0 q1 q2 q3 q4 q5 q6 r0 r1 r2 z0 z1 z2 z3 z4 z5 z6 f0 f1 f2 f3 f4 f5 f6 k3 l6 l7 l8 bn
    obtain⟨u0,u1,u2,u3,u4,u5,u6⟩:=aG hrow
    refine bodyPost_ret (v:=.tuple #[.agg #[.int .i64 ys,.int .i64 yi,.int .i64 yr,.slice A4 E4.length c4,.int .i64 yc,.int .i64 yt,.int .i64 yk],vo,vd,.bool true]) (by simp[results,Tryz.results19,go_sem,u0,u1,u2,u3,u4,u5,u6]) rfl ?_
    exact⟨.slice A4 E4.length c4,vo,vd,rfl,Below.grown tu.out hgr WS (fun k hk=>by cases hk;omega),bA.base (aI.jZ (bA.below uf.out rY.out) hgr pV.out (by decide) (by decide)) XL,dP.base (dP.other (dP.below KI.out rY.out) hgr pV.out (by decide) (by decide)) XL,aU.base (aU.other (aU.below VB.out rY.out) hgr pV.out (by decide)) XL⟩
   ·rw[if_pos hse]
    obtain⟨er,her⟩: ∃er,Fs.bP st 10=er:=⟨_,rfl⟩
    have tC:=hid her
    rw[her] at hse
    have aav:(er !=0)=true:=by simpa using hse
    clear hse her
    go_enter Tryz.func19,Tryz.ntmps19
    go_upto_region 1 with(fail)
    refine fE ?_
    rintro w2 ⟨h6,h7,h8,h12,hbw⟩
    have HB2:=hid hbw
    have qN:=hid h6
    have pW:=hid h7
    have qO:=hid h8
    have jq:=hid h12
    clear h6 h7 h8 h12 hbw
    have hs2:=HB2.out.size
    obtain⟨⟨l6,l7,l8,bn⟩,⟨p0,p1,p2,p3,p4⟩,⟨q0,q1,q2,q3,q4,q5,q6⟩,⟨r0,r1,r2⟩,⟨z0,z1,z2,z3,z4,z5,z6⟩,⟨f0,f1,f2,f3,f4,f5,f6⟩,k3⟩:=bG qN.out pW.out qO.out jq.out
    go_wp2_with (go_at_call 59;refine(eB _ _ _ _ DL.out).mono ?_;rintro e w1 ⟨rfl,rfl⟩)
    refine(Cp.dZ ic ii Ai ni ci li _ B (by have:=HB.out;omega) (HI.out.keep (HB2.out.mono HB.out)) gy.out (by omega)).mono ?_
    unfold Cp.gK
    rw[jB.out]
    rintro x w3 ⟨v3,rfl,hb3,-⟩
    have jv:=hid (show Below w2.heap.size w2 w3 from hb3)
    have HB3:=hid (HB2.out.trans (jv.out.mono hs2))
    have rW:=hid ((jv.out.block _ l6).trans qN.out)
    have mQ:=hid ((jv.out.block _ l7).trans pW.out)
    have m_:=hid ((jv.out.block _ l8).trans qO.out)
    have eU:=hid ((jv.out.block _ bn).trans jq.out)
    clear p0 p1 p2 p3 p4 q0 q1 q2 q3 q4 q5 q6 r0 r1 r2 z0 z1 z2 z3 z4 z5 z6 f0 f1 f2 f3 f4 f5 f6 k3 l6 l7 l8 bn
    have hs3:=HB3.out.size
    obtain⟨⟨l6,l7,l8,bn⟩,⟨p0,p1,p2,p3,p4⟩,⟨q0,q1,q2,q3,q4,q5,q6⟩,⟨r0,r1,r2⟩,⟨z0,z1,z2,z3,z4,z5,z6⟩,⟨f0,f1,f2,f3,f4,f5,f6⟩,k3⟩:=bG rW.out mQ.out m_.out eU.out
    clear hb3
    go_wp2_with fail
    refine(jk Ar nr cr R mc mt mf wt st id req cnt ay au Aa na ca E L HL.out tick _ B (by have:=HB.out;omega) (HR.out.keep (HB3.out.mono HB.out)) gB.out hlr (HE.out.keep (HB3.out.mono HB.out)) dz.out).mono ?_
    rw[HF.out]
    rintro x w4 ⟨rfl,hb4⟩
    have kE:=hid (show Below w3.heap.size w3 w4 from hb4)
    have fu:=hid (HB3.out.trans (kE.out.mono hs3))
    have vN:=hid ((kE.out.block _ l6).trans rW.out)
    have vO:=hid ((kE.out.block _ l7).trans mQ.out)
    have vP:=hid ((kE.out.block _ l8).trans m_.out)
    have jV:=hid ((kE.out.block _ bn).trans eU.out)
    clear p0 p1 p2 p3 p4 q0 q1 q2 q3 q4 q5 q6 r0 r1 r2 z0 z1 z2 z3 z4 z5 z6 f0 f1 f2 f3 f4 f5 f6 k3 l6 l7 l8 bn
    have hs4:=fu.out.size
    obtain⟨⟨l6,l7,l8,bn⟩,⟨p0,p1,p2,p3,p4⟩,⟨q0,q1,q2,q3,q4,q5,q6⟩,⟨r0,r1,r2⟩,⟨z0,z1,z2,z3,z4,z5,z6⟩,⟨f0,f1,f2,f3,f4,f5,f6⟩,k3⟩:=bG vN.out vO.out vP.out jV.out
    clear hb4
    go_wp2_with fail
    refine(oH ic h1 h7 Ar Aa Ai nr cr na ca ni ci R mc mt mf wt st id req cnt ay au ii E li _ B (by have:=HB.out;omega) (HR.out.keep (fu.out.mono HB.out)) gB.out hlr (HE.out.keep (fu.out.mono HB.out)) dz.out hla jr.out (HI.out.keep (fu.out.mono HB.out)) gy.out hci).mono ?_
    rw[HL.out,HW.out]
    rintro x w5 ⟨Ad,nd,cd,An,nn,cn,rfl,hb5,hby,hop⟩
    have Kv:=hid (hby.base (aaF hs4 (aaE _)))
    have OZ:=hid hop
    have nA:=hid (show Below w4.heap.size w4 w5 from hb5)
    have dO:=hid (fu.out.trans (nA.out.mono hs4))
    have zC:=hid ((nA.out.block _ l6).trans vN.out)
    have pX:=hid ((nA.out.block _ l7).trans vO.out)
    have pY:=hid ((nA.out.block _ l8).trans vP.out)
    have eZ:=hid ((nA.out.block _ bn).trans jV.out)
    clear p0 p1 p2 p3 p4 q0 q1 q2 q3 q4 q5 q6 r0 r1 r2 z0 z1 z2 z3 z4 z5 z6 f0 f1 f2 f3 f4 f5 f6 k3 l6 l7 l8 bn
    have hs5:=dO.out.size
    obtain⟨⟨l6,l7,l8,bn⟩,⟨p0,p1,p2,p3,p4⟩,⟨q0,q1,q2,q3,q4,q5,q6⟩,⟨r0,r1,r2⟩,⟨z0,z1,z2,z3,z4,z5,z6⟩,⟨f0,f1,f2,f3,f4,f5,f6⟩,k3⟩:=bG zC.out pX.out pY.out eZ.out
    clear hb5 hby hop
    dsimp only
    go_upto_region 7 with(fail)
    obtain⟨T,hT⟩: ∃T,T=w5.heap.size:=⟨_,rfl⟩
    rw[←hT]
    refine bY (fun W=>Below w5.heap.size w5 W∧W.heap[T]? =some (.cells #[.int .i64 xX,.int .i64 aid,.slice Ad nd cd] 32 (0,0))) ⟨by exact aA,by rw[hT];exact heap_alloc_new _ _⟩ ?_
    rintro w6 ⟨hb6,IC⟩
    have BU:=hid IC
    have Zf:w5.heap.size≤T:=by omega
    have Zg:w.heap.size+1+1+1<T:=by omega
    clear hT
    have mR:=hid (show Below w5.heap.size w5 w6 from hb6)
    have lC:=hid (dO.out.trans (mR.out.mono hs5))
    have Bz:=hid ((mR.out.block _ l6).trans zC.out)
    have ze:=hid ((mR.out.block _ l7).trans pX.out)
    have zh:=hid ((mR.out.block _ l8).trans pY.out)
    have kZ:=hid ((mR.out.block _ bn).trans eZ.out)
    clear p0 p1 p2 p3 p4 q0 q1 q2 q3 q4 q5 q6 r0 r1 r2 z0 z1 z2 z3 z4 z5 z6 f0 f1 f2 f3 f4 f5 f6 k3 l6 l7 l8 bn
    have hs6:=lC.out.size
    obtain⟨⟨l6,l7,l8,bn⟩,⟨p0,p1,p2,p3,p4⟩,⟨q0,q1,q2,q3,q4,q5,q6⟩,⟨r0,r1,r2⟩,⟨z0,z1,z2,z3,z4,z5,z6⟩,⟨f0,f1,f2,f3,f4,f5,f6⟩,k3⟩:=bG Bz.out ze.out zh.out kZ.out
    have Es:=hid (Kv.out.below hb6)
    clear hb6 IC
    have lT:=aj BU.out
    obtain⟨t0,t1',t2⟩:=cells3 BU.out
    go_wp2_with fail
    refine(Fs.qJ st 10 _).mono ?_
    rw[show Fs.iI st 10=fun w x w'=> ∃v,x=.returned (.tuple #[.int .i64 (Fs.aZ 10 st),v,.int .i64 er])∧Fs.Told w (Fs.aT 10 st) v w' by unfold Fs.iI;rw[tC.out]]
    rintro x w7 ⟨v7,rfl,lM,-⟩
    have GN:=hid (show Below w6.heap.size w6 w7 from lM)
    have zG:=hid (lC.out.trans (GN.out.mono hs6))
    have Vy:=hid ((GN.out.block _ l6).trans Bz.out)
    have Td:=hid ((GN.out.block _ l7).trans ze.out)
    have Vz:=hid ((GN.out.block _ l8).trans zh.out)
    have Gy:=hid ((GN.out.block _ bn).trans kZ.out)
    clear p0 p1 p2 p3 p4 q0 q1 q2 q3 q4 q5 q6 r0 r1 r2 z0 z1 z2 z3 z4 z5 z6 f0 f1 f2 f3 f4 f5 f6 k3 l6 l7 l8 bn
    have hs7:=zG.out.size
    obtain⟨⟨l6,l7,l8,bn⟩,⟨p0,p1,p2,p3,p4⟩,⟨q0,q1,q2,q3,q4,q5,q6⟩,⟨r0,r1,r2⟩,⟨z0,z1,z2,z3,z4,z5,z6⟩,⟨f0,f1,f2,f3,f4,f5,f6⟩,k3⟩:=bG Vy.out Td.out Vz.out Gy.out
    clear lM t0 t1' t2
    go_wp2_with fail
    refine(mD st id req cnt ay au Aa na ca E _ B (by have:=HB.out;omega) (HE.out.keep (zG.out.mono HB.out)) dz.out hla (fun e he=>by have:=jr.out e he;omega)).mono ?_
    rintro x w9 ⟨v,rfl,E9,A9,n9,c9,rfl,J7,Iw,T9,jf,kM⟩
    have GH:=hid (show E9.map aH.o=L from J7.trans HL.out)
    have qm:=hid kM
    have qp:=hid (show Below w7.heap.size w7 w9 from jf)
    have oP:=hid (zG.out.trans (qp.out.mono hs7))
    have Tc:=hid ((qp.out.block _ l6).trans Vy.out)
    have Te:=hid ((qp.out.block _ l7).trans Td.out)
    have Tf:=hid ((qp.out.block _ l8).trans Vz.out)
    have oZ:=hid ((qp.out.block _ bn).trans Gy.out)
    clear p0 p1 p2 p3 p4 q0 q1 q2 q3 q4 q5 q6 r0 r1 r2 z0 z1 z2 z3 z4 z5 z6 f0 f1 f2 f3 f4 f5 f6 k3 l6 l7 l8 bn
    have Ua:=oP.out.size
    obtain⟨⟨l6,l7,l8,bn⟩,⟨p0,p1,p2,p3,p4⟩,⟨q0,q1,q2,q3,q4,q5,q6⟩,⟨r0,r1,r2⟩,⟨z0,z1,z2,z3,z4,z5,z6⟩,⟨f0,f1,f2,f3,f4,f5,f6⟩,k3⟩:=bG Tc.out Te.out Tf.out oZ.out
    clear J7 Iw T9 jf kM
    dsimp only
    go_wp2_with fail
    obtain⟨Wf,hWf⟩: ∃Wf:World,Wf=(((((((w9.setCell ⟨w.heap.size+1+1+1,0,none⟩ (.int .i64 st)).setCell ⟨w.heap.size+1+1+1,1,none⟩ (.int .i64 id)).setCell ⟨w.heap.size+1+1+1,2,none⟩ (.int .i64 req)).setCell ⟨w.heap.size+1+1+1,3,none⟩ (.slice A9 n9 c9)).setCell ⟨w.heap.size+1+1+1,4,none⟩ (.int .i64 cnt)).setCell ⟨w.heap.size+1+1+1,5,none⟩ (.int .i64 ay)).setCell ⟨w.heap.size+1+1+1,6,none⟩ (.int .i64 au)):=⟨_,rfl⟩
    rw[←hWf]
    have hrow:Wf.heap[w.heap.size+1+1+1]? =some (.cells #[.int .i64 st,.int .i64 id,.int .i64 req,.slice A9 n9 c9,.int .i64 cnt,.int .i64 ay,.int .i64 au] 29 (0,0)):=by rw[hWf];exact gF oZ.out rfl _ _ _ _ _ _ _
    have hgr:w9.grownBy Wf (some (w.heap.size+1+1+1)):=by rw[hWf];exact grn
    clear hWf
    clear p0 p1 p2 p3 p4 q0 q1 q2 q3 q4 q5 q6 r0 r1 r2 z0 z1 z2 z3 z4 z5 z6 f0 f1 f2 f3 f4 f5 f6 k3 l6 l7 l8 bn
    obtain⟨u0,u1,u2,u3,u4,u5,u6⟩:=aG hrow
    refine bodyPost_ret (v:=.tuple #[.agg #[.int .i64 st,.int .i64 id,.int .i64 req,.slice A9 n9 c9,.int .i64 cnt,.int .i64 ay,.int .i64 au],.slice none 0 0,.slice none 0 0,.bool true]) (by simp[results,Tryz.results19,go_sem,u0,u1,u2,u3,u4,u5,u6]) rfl ?_
    exact⟨.slice A9 n9 c9,.slice none 0 0,.slice none 0 0,rfl,Below.grown oP.out hgr Ua (fun k hk=>by cases hk;omega),bA.base (aI.jZ (⟨E9,qm.out,GH.out⟩:bA _ _ _ L) hgr oZ.out (by decide) (by decide)) hs7,⟨[],dM.nil _ _,rfl⟩,aU.nil _ _⟩
  ·have K_:(e==10)=false:=by simpa using h10
   have aaj:(e==0)=false:=by simpa using zS.out.1
   have gD:=hid (show next=L from zS.out.2.2.1 h10)
   clear h10
   rw[gD.out]
   have HPD:=hid (show(if Fs.bP st e≠0 then((⟨st,id,req,L,cnt,ay,au⟩,[],[]),true) else(jo ⟨R,mc,mt,mf,wt⟩ ⟨st,id,req,L,cnt,ay,au⟩ e ⟨ic,ii,li⟩ ⟨xX,aid,ad⟩ tick,true))=(jo ⟨R,mc,mt,mf,wt⟩ ⟨st,id,req,L,cnt,ay,au⟩ e ⟨ic,ii,li⟩ ⟨xX,aid,ad⟩ tick,true) by
    split
    ·rename_i h
     unfold jo
     rw[if_neg (fun h2=>h h2.2)]
    ·rfl)
   rw[HPD.out]
   obtain⟨⟨⟨ys,yi,yr,yL,yc,yt,yk⟩,o1,d1⟩,hdo⟩: ∃r,jo ⟨R,mc,mt,mf,wt⟩ ⟨st,id,req,L,cnt,ay,au⟩ e ⟨ic,ii,li⟩ ⟨xX,aid,ad⟩ tick=r:=⟨_,rfl⟩
   have qg:=hid hdo
   rw[hdo]
   clear hdo HPD
   go_enter Tryz.func19,Tryz.ntmps19
   go_upto_region 1 with(fail)
   refine fE ?_
   rintro w2 ⟨h6,h7,h8,h12,hbw⟩
   have HB2:=hid hbw
   have qN:=hid h6
   have pW:=hid h7
   have qO:=hid h8
   have jq:=hid h12
   clear h6 h7 h8 h12 hbw
   have hs2:=HB2.out.size
   obtain⟨⟨l6,l7,l8,bn⟩,⟨p0,p1,p2,p3,p4⟩,⟨q0,q1,q2,q3,q4,q5,q6⟩,⟨r0,r1,r2⟩,⟨z0,z1,z2,z3,z4,z5,z6⟩,⟨f0,f1,f2,f3,f4,f5,f6⟩,k3⟩:=bG qN.out pW.out qO.out jq.out
   go_wp2_with (go_at_call 59;refine(eB _ _ _ _ DL.out).mono ?_;rintro e w1 ⟨rfl,rfl⟩)
   refine(Cp.dZ ic ii Ai ni ci li _ B (by have:=HB.out;omega) (HI.out.keep (HB2.out.mono HB.out)) gy.out (by omega)).mono ?_
   unfold Cp.gK
   rw[jB.out]
   rintro x w3 ⟨v3,rfl,hb3,-⟩
   have jv:=hid (show Below w2.heap.size w2 w3 from hb3)
   have HB3:=hid (HB2.out.trans (jv.out.mono hs2))
   have rW:=hid ((jv.out.block _ l6).trans qN.out)
   have mQ:=hid ((jv.out.block _ l7).trans pW.out)
   have m_:=hid ((jv.out.block _ l8).trans qO.out)
   have eU:=hid ((jv.out.block _ bn).trans jq.out)
   clear p0 p1 p2 p3 p4 q0 q1 q2 q3 q4 q5 q6 r0 r1 r2 z0 z1 z2 z3 z4 z5 z6 f0 f1 f2 f3 f4 f5 f6 k3 l6 l7 l8 bn
   have hs3:=HB3.out.size
   obtain⟨⟨l6,l7,l8,bn⟩,⟨p0,p1,p2,p3,p4⟩,⟨q0,q1,q2,q3,q4,q5,q6⟩,⟨r0,r1,r2⟩,⟨z0,z1,z2,z3,z4,z5,z6⟩,⟨f0,f1,f2,f3,f4,f5,f6⟩,k3⟩:=bG rW.out mQ.out m_.out eU.out
   clear hb3
   go_wp2_with fail
   refine(jk Ar nr cr R mc mt mf wt st id req cnt ay au Aa na ca E L HL.out tick _ B (by have:=HB.out;omega) (HR.out.keep (HB3.out.mono HB.out)) gB.out hlr (HE.out.keep (HB3.out.mono HB.out)) dz.out).mono ?_
   rw[HF.out]
   rintro x w4 ⟨rfl,hb4⟩
   have kE:=hid (show Below w3.heap.size w3 w4 from hb4)
   have fu:=hid (HB3.out.trans (kE.out.mono hs3))
   have vN:=hid ((kE.out.block _ l6).trans rW.out)
   have vO:=hid ((kE.out.block _ l7).trans mQ.out)
   have vP:=hid ((kE.out.block _ l8).trans m_.out)
   have jV:=hid ((kE.out.block _ bn).trans eU.out)
   clear p0 p1 p2 p3 p4 q0 q1 q2 q3 q4 q5 q6 r0 r1 r2 z0 z1 z2 z3 z4 z5 z6 f0 f1 f2 f3 f4 f5 f6 k3 l6 l7 l8 bn
   have hs4:=fu.out.size
   obtain⟨⟨l6,l7,l8,bn⟩,⟨p0,p1,p2,p3,p4⟩,⟨q0,q1,q2,q3,q4,q5,q6⟩,⟨r0,r1,r2⟩,⟨z0,z1,z2,z3,z4,z5,z6⟩,⟨f0,f1,f2,f3,f4,f5,f6⟩,k3⟩:=bG vN.out vO.out vP.out jV.out
   clear hb4
   go_wp2_with fail
   refine(oH ic h1 h7 Ar Aa Ai nr cr na ca ni ci R mc mt mf wt st id req cnt ay au ii E li _ B (by have:=HB.out;omega) (HR.out.keep (fu.out.mono HB.out)) gB.out hlr (HE.out.keep (fu.out.mono HB.out)) dz.out hla jr.out (HI.out.keep (fu.out.mono HB.out)) gy.out hci).mono ?_
   rw[HL.out,HW.out]
   rintro x w5 ⟨Ad,nd,cd,An,nn,cn,rfl,hb5,hby,hop⟩
   have Kv:=hid (hby.base (aaF hs4 (aaE _)))
   have OZ:=hid hop
   have nA:=hid (show Below w4.heap.size w4 w5 from hb5)
   have dO:=hid (fu.out.trans (nA.out.mono hs4))
   have zC:=hid ((nA.out.block _ l6).trans vN.out)
   have pX:=hid ((nA.out.block _ l7).trans vO.out)
   have pY:=hid ((nA.out.block _ l8).trans vP.out)
   have eZ:=hid ((nA.out.block _ bn).trans jV.out)
   clear p0 p1 p2 p3 p4 q0 q1 q2 q3 q4 q5 q6 r0 r1 r2 z0 z1 z2 z3 z4 z5 z6 f0 f1 f2 f3 f4 f5 f6 k3 l6 l7 l8 bn
   have hs5:=dO.out.size
   obtain⟨⟨l6,l7,l8,bn⟩,⟨p0,p1,p2,p3,p4⟩,⟨q0,q1,q2,q3,q4,q5,q6⟩,⟨r0,r1,r2⟩,⟨z0,z1,z2,z3,z4,z5,z6⟩,⟨f0,f1,f2,f3,f4,f5,f6⟩,k3⟩:=bG zC.out pX.out pY.out eZ.out
   clear hb5 hby hop
   dsimp only
   go_upto_region 7 with(fail)
   obtain⟨T,hT⟩: ∃T,T=w5.heap.size:=⟨_,rfl⟩
   rw[←hT]
   refine bY (fun W=>Below w5.heap.size w5 W∧W.heap[T]? =some (.cells #[.int .i64 xX,.int .i64 aid,.slice Ad nd cd] 32 (0,0))) ⟨by exact aA,by rw[hT];exact heap_alloc_new _ _⟩ ?_
   rintro w6 ⟨hb6,IC⟩
   have BU:=hid IC
   have Zf:w5.heap.size≤T:=by omega
   have Zg:w.heap.size+1+1+1<T:=by omega
   clear hT
   have mR:=hid (show Below w5.heap.size w5 w6 from hb6)
   have lC:=hid (dO.out.trans (mR.out.mono hs5))
   have Bz:=hid ((mR.out.block _ l6).trans zC.out)
   have ze:=hid ((mR.out.block _ l7).trans pX.out)
   have zh:=hid ((mR.out.block _ l8).trans pY.out)
   have kZ:=hid ((mR.out.block _ bn).trans eZ.out)
   clear p0 p1 p2 p3 p4 q0 q1 q2 q3 q4 q5 q6 r0 r1 r2 z0 z1 z2 z3 z4 z5 z6 f0 f1 f2 f3 f4 f5 f6 k3 l6 l7 l8 bn
   have hs6:=lC.out.size
   obtain⟨⟨l6,l7,l8,bn⟩,⟨p0,p1,p2,p3,p4⟩,⟨q0,q1,q2,q3,q4,q5,q6⟩,⟨r0,r1,r2⟩,⟨z0,z1,z2,z3,z4,z5,z6⟩,⟨f0,f1,f2,f3,f4,f5,f6⟩,k3⟩:=bG Bz.out ze.out zh.out kZ.out
   have Es:=hid (Kv.out.below hb6)
   clear hb6 IC
   have lT:=aj BU.out
   obtain⟨t0,t1',t2⟩:=cells3 BU.out
   obtain⟨Ay,ny,cy,Pw,Pp,hny,hcy⟩:=Es.out.v
   simp only[Value.slice.injEq] at Pw
   obtain⟨rfl,rfl,rfl⟩:=Pw
   have VG:=hid Pp
   have OX:=hid hny
   clear Pp hny
   go_wp2_with fail
   refine(yC Ar Aa Ai Ad nr cr na ca ni ci nd cd R mc mt mf wt st id req cnt ay au e ic ii xX aid tick E li ad w6 w6.heap.size (aaE _) ((HR.out.keep (lC.out.mono HB.out)).more (by have:=HB.out;omega)) gB.out hlr ((HE.out.keep (lC.out.mono HB.out)).more (by have:=HB.out;omega)) dz.out hla (fun e he=>by have:=jr.out e he;omega) ((HI.out.keep (lC.out.mono HB.out)).more (by have:=HB.out;omega)) gy.out hci iF VG.out OX.out hcy (by have h3:ad.length≤1488:=zS.out.2.1;have:=OX.out;omega)).mono ?_
   rw[HL.out,qg.out]
   rintro x wE ⟨va,vo,vd,rfl,Pq,⟨E4,Cw,EZ⟩,PW,Po⟩
   obtain⟨A4,c4,rfl,-,-⟩:=ownsRow_form Cw.1
   clear t0 t1' t2
   have uf:=hid (⟨E4,Cw,EZ⟩:bA wE _ _ yL)
   have KI:=hid PW
   have VB:=hid Po
   have zo:=hid (show Below w6.heap.size w6 wE from Pq)
   have BA:=hid (lC.out.trans (zo.out.mono hs6))
   have OL:=hid ((zo.out.block _ l6).trans Bz.out)
   have OM:=hid ((zo.out.block _ l7).trans ze.out)
   have OO:=hid ((zo.out.block _ l8).trans zh.out)
   have zB:=hid ((zo.out.block _ bn).trans kZ.out)
   clear p0 p1 p2 p3 p4 q0 q1 q2 q3 q4 q5 q6 r0 r1 r2 z0 z1 z2 z3 z4 z5 z6 f0 f1 f2 f3 f4 f5 f6 k3 l6 l7 l8 bn
   have WR:=BA.out.size
   obtain⟨⟨l6,l7,l8,bn⟩,⟨p0,p1,p2,p3,p4⟩,⟨q0,q1,q2,q3,q4,q5,q6⟩,⟨r0,r1,r2⟩,⟨z0,z1,z2,z3,z4,z5,z6⟩,⟨f0,f1,f2,f3,f4,f5,f6⟩,k3⟩:=bG OL.out OM.out OO.out zB.out
   clear Pq PW Po Cw EZ
   unfold vV
   go_upto_region 15 with(fail)
   obtain⟨T2,Ip⟩: ∃T2,T2=wE.heap.size:=⟨_,rfl⟩
   rw[←Ip]
   refine bY (fun W=>Below wE.heap.size wE W∧W.heap[T2]? =some (.cells #[.int .i64 ys,.int .i64 yi,.int .i64 yr,.slice A4 E4.length c4,.int .i64 yc,.int .i64 yt,.int .i64 yk] 29 (0,0))) ⟨by exact aA,by rw[Ip];exact heap_alloc_new _ _⟩ ?_
   rintro wF ⟨Pt,Ld⟩
   have V5:=hid Ld
   have WB:wE.heap.size≤T2:=by omega
   clear Ip
   have rY:=hid (show Below wE.heap.size wE wF from Pt)
   have tu:=hid (BA.out.trans (rY.out.mono WR))
   have U9:=hid ((rY.out.block _ l6).trans OL.out)
   have U_:=hid ((rY.out.block _ l7).trans OM.out)
   have Va:=hid ((rY.out.block _ l8).trans OO.out)
   have pV:=hid ((rY.out.block _ bn).trans zB.out)
   clear p0 p1 p2 p3 p4 q0 q1 q2 q3 q4 q5 q6 r0 r1 r2 z0 z1 z2 z3 z4 z5 z6 f0 f1 f2 f3 f4 f5 f6 k3 l6 l7 l8 bn
   have WS:=tu.out.size
   obtain⟨⟨l6,l7,l8,bn⟩,⟨p0,p1,p2,p3,p4⟩,⟨q0,q1,q2,q3,q4,q5,q6⟩,⟨r0,r1,r2⟩,⟨z0,z1,z2,z3,z4,z5,z6⟩,⟨f0,f1,f2,f3,f4,f5,f6⟩,k3⟩:=bG U9.out U_.out Va.out pV.out
   clear Pt Ld
   have ZK:=aj V5.out
   obtain⟨t0,t1',t2,t3,t4,t5,t6⟩:=aG V5.out
   go_wp2_with fail
   obtain⟨Wf,hWf⟩: ∃Wf:World,Wf=(((((((wF.setCell ⟨w.heap.size+1+1+1,0,none⟩ (.int .i64 ys)).setCell ⟨w.heap.size+1+1+1,1,none⟩ (.int .i64 yi)).setCell ⟨w.heap.size+1+1+1,2,none⟩ (.int .i64 yr)).setCell ⟨w.heap.size+1+1+1,3,none⟩ (.slice A4 E4.length c4)).setCell ⟨w.heap.size+1+1+1,4,none⟩ (.int .i64 yc)).setCell ⟨w.heap.size+1+1+1,5,none⟩ (.int .i64 yt)).setCell ⟨w.heap.size+1+1+1,6,none⟩ (.int .i64 yk)):=⟨_,rfl⟩
   rw[←hWf]
   have hrow:Wf.heap[w.heap.size+1+1+1]? =some (.cells #[.int .i64 ys,.int .i64 yi,.int .i64 yr,.slice A4 E4.length c4,.int .i64 yc,.int .i64 yt,.int .i64 yk] 29 (0,0)):=by rw[hWf];exact gF pV.out rfl _ _ _ _ _ _ _
   have hgr:wF.grownBy Wf (some (w.heap.size+1+1+1)):=by rw[hWf];exact grn
   clear hWf t0 t1' t2 t3 t4 t5 t6
   clear p0 p1 p2 p3 p4 q0 q1 q2 q3 q4 q5 q6 r0 r1 r2 z0 z1 z2 z3 z4 z5 z6 f0 f1 f2 f3 f4 f5 f6 k3 l6 l7 l8 bn
   obtain⟨u0,u1,u2,u3,u4,u5,u6⟩:=aG hrow
   refine bodyPost_ret (v:=.tuple #[.agg #[.int .i64 ys,.int .i64 yi,.int .i64 yr,.slice A4 E4.length c4,.int .i64 yc,.int .i64 yt,.int .i64 yk],vo,vd,.bool true]) (by simp[results,Tryz.results19,go_sem,u0,u1,u2,u3,u4,u5,u6]) rfl ?_
   exact⟨.slice A4 E4.length c4,vo,vd,rfl,Below.grown tu.out hgr WS (fun k hk=>by cases hk;omega),bA.base (aI.jZ (bA.below uf.out rY.out) hgr pV.out (by decide) (by decide)) hs6,dP.base (dP.other (dP.below KI.out rY.out) hgr pV.out (by decide) (by decide)) hs6,aU.base (aU.other (aU.below VB.out rY.out) hgr pV.out (by decide)) hs6⟩
open Ne (Rl bF aD bM)
theorem I7 (Ar Aa Ai:Option Addr) (nr cr na ca ni ci:Nat) (R:List Rl) (mc mt mf wt st id req cnt ay au ic ii tick:Int) (E:List aH) (li:List UInt8) (w:World) (B:Nat) (hB:B≤w.heap.size) (hR:aD w B Ar R) (hnr:nr=R.length) (hlr:nr≤1000000) (hE:aJ w B Aa E) (hna:na=E.length) (hla:na≤1000000) (hda: ∀e∈E,e.d.length≤1000000) (hI:At w B Ai (li.map bv)) (hni:ni=li.length) (hci:ni≤ci) (iF:ni≤400000000):Calls Tryz.prog 19 #[.agg #[.slice Ar nr cr,.int .i64 mc,.int .i64 mt,.int .i64 mf,.int .i64 wt],.agg #[.int .i64 st,.int .i64 id,.int .i64 req,.slice Aa na ca,.int .i64 cnt,.int .i64 ay,.int .i64 au],.agg #[.int .i64 ic,.int .i64 ii,.slice Ai ni ci],.int .i64 tick] w (DU (eP ⟨R,mc,mt,mf,wt⟩ ⟨st,id,req,E.map aH.o,cnt,ay,au⟩ ⟨ic,ii,li⟩ tick) w):=by
 by_cases h:bC ic 1 7=true∧Cp.aV ic ii li.length=0∧dn ⟨R,mc,mt,mf,wt⟩ ⟨st,id,req,E.map aH.o,cnt,ay,au⟩ tick=true
 ·exact I8 Ar Aa Ai nr cr na ca ni ci R mc mt mf wt st id req cnt ay au ic ii tick E li w B hB hR hnr hlr hE hna hla hda hI hni hci iF h.1 h.2.1 h.2.2
 ·exact Oc Ar Aa Ai nr cr na ca ni ci R mc mt mf wt st id req cnt ay au ic ii tick E li w B hB hR hnr hlr hE hna hla hda hI hni hci iF (by
   cases h1:bC ic 1 7
   ·exact .inl rfl
   ·refine .inr ?_
    by_cases h2:Cp.aV ic ii li.length=0
    ·refine .inr ?_
     cases h3:dn ⟨R,mc,mt,mf,wt⟩ ⟨st,id,req,E.map aH.o,cnt,ay,au⟩ tick
     ·rfl
     ·exact absurd ⟨h1,h2,h3⟩ h
    ·exact .inl h2)
end Go.Proofs.YtfkgmbknfnhjoaaGreat
