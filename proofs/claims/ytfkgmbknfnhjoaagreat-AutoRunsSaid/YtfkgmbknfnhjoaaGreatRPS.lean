/- Bundle PS. -/
import Derived.Test.YtfkgmbknfnhjoaaGreatRPR
import Derived.Test.YtfkgmbknfnhjoaaGreatRPL
set_option maxHeartbeats 8000000
namespace Go.Proofs.YtfkgmbknfnhjoaaGreat
open Lib (hid)
open Go.RowKit
set_option linter.unusedSimpArgs false
set_option linter.unusedVariables false
set_option linter.ambiguousOpen false
open Ne (Rl Opt RulesAt areB answerO learnO)
open Fs (av hasB)
set_option maxRecDepth 100000 in
theorem rpack_yes (Ar Aa Ai:Option Addr) (nr cr na ca ni ci:Nat) (R:List Rl) (mc mt mf wt st id req cnt tim nak ic ii tick:Int) (E:List Ent) (li:List UInt8) (w:World) (B:Nat) (hB:B≤w.heap.size) (hR:RulesAt w B Ar R) (hnr:nr=R.length) (hlr:nr≤1000000) (hE:OptsAt w B Aa E) (hna:na=E.length) (hca:na≤ca) (hla:na≤1000000) (hI:At w B Ai (li.map bv)) (hni:ni=li.length) (hci:ni≤ci) (hli:ni≤400000000) (hc:inB ic 1 7=true) (he:Cp.encErr ic ii li.length=0) (hf:fineB ⟨R,mc,mt,mf,wt⟩ ⟨st,id,req,E.map Ent.o,cnt,tim,nak⟩ tick=true):Calls Tryz.prog 20 #[.agg #[.slice Ar nr cr,.int .i64 mc,.int .i64 mt,.int .i64 mf,.int .i64 wt],.agg #[.int .i64 st,.int .i64 id,.int .i64 req,.slice Aa na ca,.int .i64 cnt,.int .i64 tim,.int .i64 nak],.agg #[.int .i64 ic,.int .i64 ii,.slice Ai ni ci],.int .i64 tick] w (RPackP (packO ⟨R,mc,mt,mf,wt⟩ ⟨st,id,req,E.map Ent.o,cnt,tim,nak⟩ ⟨ic,ii,li⟩ tick) (.slice Aa na ca) (E.map Ent.o) w):=by
 have HEN:=hid he
 have h17:1≤ic∧ic≤7:=by simpa[inB] using hc
 obtain⟨h1,h7⟩:=h17
 have hl1: ¬ic<1:=by omega
 have hg7: ¬7<ic:=by omega
 have HB:=hid hB
 have HR:=hid hR
 have HNR:=hid hnr
 have HE:=hid hE
 have HNA:=hid hna
 have HI:=hid hI
 have HNI:=hid hni
 obtain⟨L,hL⟩: ∃L,E.map Ent.o=L:=⟨_,rfl⟩
 have HL:=hid hL
 rw[hL]
 clear hB hR hnr hE hna hL hI hni
 rw[HL.out] at hf
 have HF:=hid hf
 obtain⟨r,hr⟩: ∃r,whichO ⟨R,mc,mt,mf,wt⟩ ⟨st,id,req,L,cnt,tim,nak⟩ ⟨ic,ii,li⟩=r:=⟨_,rfl⟩
 have HW:=hid hr
 have HP0:=hid (show packO ⟨R,mc,mt,mf,wt⟩ ⟨st,id,req,L,cnt,tim,nak⟩ ⟨ic,ii,li⟩ tick=packW ⟨R,mc,mt,mf,wt⟩ ⟨st,id,req,L,cnt,tim,nak⟩ ⟨ic,ii,li⟩ tick r by rw[packO_w (c:=⟨R,mc,mt,mf,wt⟩) (a:=⟨st,id,req,L,cnt,tim,nak⟩) (inn:=⟨ic,ii,li⟩) hc he hf,hr])
 rw[HP0.out]
 clear hc he hf hr HP0
 cases r with
 |none=>
  dsimp only[packW]
  go_enter Tryz.func20,Tryz.ntmps20
  go_upto_region 1 with(fail)
  refine boxes4 ?_
  rintro w2 ⟨h6,h7,h8,h12,hbw⟩
  have HB2:=hid hbw
  have H62:=hid h6
  have H72:=hid h7
  have H82:=hid h8
  have H122:=hid h12
  clear h6 h7 h8 h12 hbw
  have hs2:=HB2.out.size
  obtain⟨⟨l6,l7,l8,l12⟩,⟨p0,p1,p2,p3,p4⟩,⟨q0,q1,q2,q3,q4,q5,q6⟩,⟨r0,r1,r2⟩,⟨z0,z1,z2,z3,z4,z5,z6⟩,⟨f0,f1,f2,f3,f4,f5,f6⟩,k3⟩:=cellsK H62.out H72.out H82.out H122.out
  go_wp2_with fail
  refine(Cp.enc_ref ic ii Ai ni ci li _ B (by have:=HB.out;omega) (HI.out.keep (HB2.out.mono HB.out)) HNI.out (by omega)).mono ?_
  unfold Cp.EncP
  rw[HEN.out]
  rintro x w3 ⟨v3,rfl,hb3,-⟩
  have HQ3:=hid (show Below w2.heap.size w2 w3 from hb3)
  have HB3:=hid (HB2.out.trans (HQ3.out.mono hs2))
  have H63:=hid ((HQ3.out.block _ l6).trans H62.out)
  have H73:=hid ((HQ3.out.block _ l7).trans H72.out)
  have H83:=hid ((HQ3.out.block _ l8).trans H82.out)
  have H123:=hid ((HQ3.out.block _ l12).trans H122.out)
  clear p0 p1 p2 p3 p4 q0 q1 q2 q3 q4 q5 q6 r0 r1 r2 z0 z1 z2 z3 z4 z5 z6 f0 f1 f2 f3 f4 f5 f6 k3 l6 l7 l8 l12
  have hs3:=HB3.out.size
  obtain⟨⟨l6,l7,l8,l12⟩,⟨p0,p1,p2,p3,p4⟩,⟨q0,q1,q2,q3,q4,q5,q6⟩,⟨r0,r1,r2⟩,⟨z0,z1,z2,z3,z4,z5,z6⟩,⟨f0,f1,f2,f3,f4,f5,f6⟩,k3⟩:=cellsK H63.out H73.out H83.out H123.out
  clear hb3
  go_wp2_with fail
  refine(fine_ref Ar nr cr R mc mt mf wt st id req cnt tim nak Aa na ca E L HL.out tick _ B (by have:=HB.out;omega) (HR.out.keep (HB3.out.mono HB.out)) HNR.out hlr (HE.out.keep (HB3.out.mono HB.out)) HNA.out).mono ?_
  rw[HF.out]
  rintro x w4 ⟨rfl,hb4⟩
  have HQ4:=hid (show Below w3.heap.size w3 w4 from hb4)
  have HB4:=hid (HB3.out.trans (HQ4.out.mono hs3))
  have H64:=hid ((HQ4.out.block _ l6).trans H63.out)
  have H74:=hid ((HQ4.out.block _ l7).trans H73.out)
  have H84:=hid ((HQ4.out.block _ l8).trans H83.out)
  have H124:=hid ((HQ4.out.block _ l12).trans H123.out)
  clear p0 p1 p2 p3 p4 q0 q1 q2 q3 q4 q5 q6 r0 r1 r2 z0 z1 z2 z3 z4 z5 z6 f0 f1 f2 f3 f4 f5 f6 k3 l6 l7 l8 l12
  have hs4:=HB4.out.size
  obtain⟨⟨l6,l7,l8,l12⟩,⟨p0,p1,p2,p3,p4⟩,⟨q0,q1,q2,q3,q4,q5,q6⟩,⟨r0,r1,r2⟩,⟨z0,z1,z2,z3,z4,z5,z6⟩,⟨f0,f1,f2,f3,f4,f5,f6⟩,k3⟩:=cellsK H64.out H74.out H84.out H124.out
  clear hb4
  go_wp2_with fail
  refine(rwhich_any ic h1 h7 Ar Aa Ai nr cr na ca ni ci R mc mt mf wt st id req cnt tim nak ii E li _ B (by have:=HB.out;omega) (HR.out.keep (HB4.out.mono HB.out)) HNR.out hlr (HE.out.keep (HB4.out.mono HB.out)) HNA.out hca hla (HI.out.keep (HB4.out.mono HB.out)) HNI.out hci).mono ?_
  rw[HL.out,HW.out]
  rintro x w5 ⟨e,c1,c2,Ad,nd,cd,An,nn,cn,rfl,hb5⟩
  have HQ5:=hid (show Below w4.heap.size w4 w5 from hb5)
  have HB5:=hid (HB4.out.trans (HQ5.out.mono hs4))
  have H65:=hid ((HQ5.out.block _ l6).trans H64.out)
  have H75:=hid ((HQ5.out.block _ l7).trans H74.out)
  have H85:=hid ((HQ5.out.block _ l8).trans H84.out)
  have H125:=hid ((HQ5.out.block _ l12).trans H124.out)
  clear p0 p1 p2 p3 p4 q0 q1 q2 q3 q4 q5 q6 r0 r1 r2 z0 z1 z2 z3 z4 z5 z6 f0 f1 f2 f3 f4 f5 f6 k3 l6 l7 l8 l12
  have hs5:=HB5.out.size
  obtain⟨⟨l6,l7,l8,l12⟩,⟨p0,p1,p2,p3,p4⟩,⟨q0,q1,q2,q3,q4,q5,q6⟩,⟨r0,r1,r2⟩,⟨z0,z1,z2,z3,z4,z5,z6⟩,⟨f0,f1,f2,f3,f4,f5,f6⟩,k3⟩:=cellsK H65.out H75.out H85.out H125.out
  clear hb5
  unfold auV
  go_upto_region 7 with(fail)
  refine wp_w (fun W=>Below w5.heap.size w5 W) (by exact bel) ?_
  rintro w6 hb6
  have HQ6:=hid (show Below w5.heap.size w5 w6 from hb6)
  have HB6:=hid (HB5.out.trans (HQ6.out.mono hs5))
  have H66:=hid ((HQ6.out.block _ l6).trans H65.out)
  have H76:=hid ((HQ6.out.block _ l7).trans H75.out)
  have H86:=hid ((HQ6.out.block _ l8).trans H85.out)
  have H126:=hid ((HQ6.out.block _ l12).trans H125.out)
  clear p0 p1 p2 p3 p4 q0 q1 q2 q3 q4 q5 q6 r0 r1 r2 z0 z1 z2 z3 z4 z5 z6 f0 f1 f2 f3 f4 f5 f6 k3 l6 l7 l8 l12
  have hs6:=HB6.out.size
  obtain⟨⟨l6,l7,l8,l12⟩,⟨p0,p1,p2,p3,p4⟩,⟨q0,q1,q2,q3,q4,q5,q6⟩,⟨r0,r1,r2⟩,⟨z0,z1,z2,z3,z4,z5,z6⟩,⟨f0,f1,f2,f3,f4,f5,f6⟩,k3⟩:=cellsK H66.out H76.out H86.out H126.out
  clear hb6
  go_wp2_with fail
  obtain⟨Wf,hWf⟩: ∃Wf:World,Wf=(((((((w6.setCell ⟨w.heap.size+1+1+1,0,none⟩ (.int .i64 st)).setCell ⟨w.heap.size+1+1+1,1,none⟩ (.int .i64 id)).setCell ⟨w.heap.size+1+1+1,2,none⟩ (.int .i64 req)).setCell ⟨w.heap.size+1+1+1,3,none⟩ (.slice Aa na ca)).setCell ⟨w.heap.size+1+1+1,4,none⟩ (.int .i64 cnt)).setCell ⟨w.heap.size+1+1+1,5,none⟩ (.int .i64 tim)).setCell ⟨w.heap.size+1+1+1,6,none⟩ (.int .i64 nak)):=⟨_,rfl⟩
  rw[←hWf]
  have hrow:Wf.heap[w.heap.size+1+1+1]? =some (.cells #[.int .i64 st,.int .i64 id,.int .i64 req,.slice Aa na ca,.int .i64 cnt,.int .i64 tim,.int .i64 nak] 29 (0,0)):=by rw[hWf];exact row7 H126.out rfl _ _ _ _ _ _ _
  have hgr:w6.grownBy Wf (some (w.heap.size+1+1+1)):=by rw[hWf];exact grn
  clear hWf
  clear p0 p1 p2 p3 p4 q0 q1 q2 q3 q4 q5 q6 r0 r1 r2 z0 z1 z2 z3 z4 z5 z6 f0 f1 f2 f3 f4 f5 f6 k3 l6 l7 l8 l12
  obtain⟨u0,u1,u2,u3,u4,u5,u6⟩:=cells7 hrow
  refine bodyPost_ret (v:=.tuple #[.agg #[.int .i64 st,.int .i64 id,.int .i64 req,.slice Aa na ca,.int .i64 cnt,.int .i64 tim,.int .i64 nak],.slice none 0 0,.slice none 0 0,.bool true]) (by simp[results,Tryz.results20,go_sem,u0,u1,u2,u3,u4,u5,u6]) rfl ?_
  exact⟨.slice Aa na ca,.slice none 0 0,.slice none 0 0,rfl,Below.grown HB6.out hgr hs6 (fun k hk=>by cases hk;omega),.inl ⟨rfl,rfl⟩,PksR.nil _ _,ActsO.nil _ _⟩
 |some r=>
  obtain⟨e,⟨aco,aid,ad⟩,next⟩:=r
  have HWF:=hid (whichO_facts HW.out)
  obtain⟨⟨⟨ys,yi,yr,yL,yc,yt,yk⟩,o1,d1⟩,hdo⟩: ∃r,doO ⟨R,mc,mt,mf,wt⟩ ⟨st,id,req,next,cnt,tim,nak⟩ e ⟨ic,ii,li⟩ ⟨aco,aid,ad⟩ tick=r:=⟨_,rfl⟩
  have HDO:=hid hdo
  have HYL:=hid (show yL=next by have h:=doO_ask ⟨R,mc,mt,mf,wt⟩ ⟨st,id,req,next,cnt,tim,nak⟩ e ⟨ic,ii,li⟩ ⟨aco,aid,ad⟩ tick;rw[hdo] at h;exact h)
  obtain⟨er,her⟩: ∃er,Fs.stepErr st e=er:=⟨_,rfl⟩
  have HER:=hid her
  obtain⟨res,hres⟩: ∃res,packW ⟨R,mc,mt,mf,wt⟩ ⟨st,id,req,L,cnt,tim,nak⟩ ⟨ic,ii,li⟩ tick (some (e,⟨aco,aid,ad⟩,next))=res:=⟨_,rfl⟩
  have HRES:=hid (show(er≠0→res=((⟨st,id,req,L,cnt,tim,nak⟩,[],[]),true)∧o1=[]∧d1=[])∧(er=0→res=((⟨ys,yi,yr,yL,yc,yt,yk⟩,o1,d1),true)) by
   rw[←hres]
   unfold packW
   dsimp only
   rw[her,hdo]
   refine⟨fun h=>⟨if_pos h,?_⟩,fun h=>if_neg (by simpa using h)⟩
   unfold doO at hdo
   dsimp only at hdo
   rw[her,if_neg (fun h2=>h h2.2)] at hdo
   simp only[Prod.mk.injEq] at hdo
   exact⟨hdo.2.1.symm,hdo.2.2.symm⟩)
  rw[hres]
  clear hdo her hres
  go_enter Tryz.func20,Tryz.ntmps20
  go_upto_region 1 with(fail)
  refine boxes4 ?_
  rintro w2 ⟨h6,h7,h8,h12,hbw⟩
  have HB2:=hid hbw
  have H62:=hid h6
  have H72:=hid h7
  have H82:=hid h8
  have H122:=hid h12
  clear h6 h7 h8 h12 hbw
  have hs2:=HB2.out.size
  obtain⟨⟨l6,l7,l8,l12⟩,⟨p0,p1,p2,p3,p4⟩,⟨q0,q1,q2,q3,q4,q5,q6⟩,⟨r0,r1,r2⟩,⟨z0,z1,z2,z3,z4,z5,z6⟩,⟨f0,f1,f2,f3,f4,f5,f6⟩,k3⟩:=cellsK H62.out H72.out H82.out H122.out
  go_wp2_with fail
  refine(Cp.enc_ref ic ii Ai ni ci li _ B (by have:=HB.out;omega) (HI.out.keep (HB2.out.mono HB.out)) HNI.out (by omega)).mono ?_
  unfold Cp.EncP
  rw[HEN.out]
  rintro x w3 ⟨v3,rfl,hb3,-⟩
  have HQ3:=hid (show Below w2.heap.size w2 w3 from hb3)
  have HB3:=hid (HB2.out.trans (HQ3.out.mono hs2))
  have H63:=hid ((HQ3.out.block _ l6).trans H62.out)
  have H73:=hid ((HQ3.out.block _ l7).trans H72.out)
  have H83:=hid ((HQ3.out.block _ l8).trans H82.out)
  have H123:=hid ((HQ3.out.block _ l12).trans H122.out)
  clear p0 p1 p2 p3 p4 q0 q1 q2 q3 q4 q5 q6 r0 r1 r2 z0 z1 z2 z3 z4 z5 z6 f0 f1 f2 f3 f4 f5 f6 k3 l6 l7 l8 l12
  have hs3:=HB3.out.size
  obtain⟨⟨l6,l7,l8,l12⟩,⟨p0,p1,p2,p3,p4⟩,⟨q0,q1,q2,q3,q4,q5,q6⟩,⟨r0,r1,r2⟩,⟨z0,z1,z2,z3,z4,z5,z6⟩,⟨f0,f1,f2,f3,f4,f5,f6⟩,k3⟩:=cellsK H63.out H73.out H83.out H123.out
  clear hb3
  go_wp2_with fail
  refine(fine_ref Ar nr cr R mc mt mf wt st id req cnt tim nak Aa na ca E L HL.out tick _ B (by have:=HB.out;omega) (HR.out.keep (HB3.out.mono HB.out)) HNR.out hlr (HE.out.keep (HB3.out.mono HB.out)) HNA.out).mono ?_
  rw[HF.out]
  rintro x w4 ⟨rfl,hb4⟩
  have HQ4:=hid (show Below w3.heap.size w3 w4 from hb4)
  have HB4:=hid (HB3.out.trans (HQ4.out.mono hs3))
  have H64:=hid ((HQ4.out.block _ l6).trans H63.out)
  have H74:=hid ((HQ4.out.block _ l7).trans H73.out)
  have H84:=hid ((HQ4.out.block _ l8).trans H83.out)
  have H124:=hid ((HQ4.out.block _ l12).trans H123.out)
  clear p0 p1 p2 p3 p4 q0 q1 q2 q3 q4 q5 q6 r0 r1 r2 z0 z1 z2 z3 z4 z5 z6 f0 f1 f2 f3 f4 f5 f6 k3 l6 l7 l8 l12
  have hs4:=HB4.out.size
  obtain⟨⟨l6,l7,l8,l12⟩,⟨p0,p1,p2,p3,p4⟩,⟨q0,q1,q2,q3,q4,q5,q6⟩,⟨r0,r1,r2⟩,⟨z0,z1,z2,z3,z4,z5,z6⟩,⟨f0,f1,f2,f3,f4,f5,f6⟩,k3⟩:=cellsK H64.out H74.out H84.out H124.out
  clear hb4
  go_wp2_with fail
  refine(rwhich_any ic h1 h7 Ar Aa Ai nr cr na ca ni ci R mc mt mf wt st id req cnt tim nak ii E li _ B (by have:=HB.out;omega) (HR.out.keep (HB4.out.mono HB.out)) HNR.out hlr (HE.out.keep (HB4.out.mono HB.out)) HNA.out hca hla (HI.out.keep (HB4.out.mono HB.out)) HNI.out hci).mono ?_
  rw[HL.out,HW.out]
  rintro x w5 ⟨Ad,nd,cd,An,nn,cn,rfl,hb5,hby,hop,hva⟩
  have HBY:=hid hby
  have HOP:=hid hop
  have HVA:=hid hva
  have HQ5:=hid (show Below w4.heap.size w4 w5 from hb5)
  have HB5:=hid (HB4.out.trans (HQ5.out.mono hs4))
  have H65:=hid ((HQ5.out.block _ l6).trans H64.out)
  have H75:=hid ((HQ5.out.block _ l7).trans H74.out)
  have H85:=hid ((HQ5.out.block _ l8).trans H84.out)
  have H125:=hid ((HQ5.out.block _ l12).trans H124.out)
  clear p0 p1 p2 p3 p4 q0 q1 q2 q3 q4 q5 q6 r0 r1 r2 z0 z1 z2 z3 z4 z5 z6 f0 f1 f2 f3 f4 f5 f6 k3 l6 l7 l8 l12
  have hs5:=HB5.out.size
  obtain⟨⟨l6,l7,l8,l12⟩,⟨p0,p1,p2,p3,p4⟩,⟨q0,q1,q2,q3,q4,q5,q6⟩,⟨r0,r1,r2⟩,⟨z0,z1,z2,z3,z4,z5,z6⟩,⟨f0,f1,f2,f3,f4,f5,f6⟩,k3⟩:=cellsK H65.out H75.out H85.out H125.out
  clear hb5 hby hop hva
  unfold auV
  dsimp only
  go_upto_region 7 with(fail)
  obtain⟨T,hT⟩: ∃T,T=w5.heap.size:=⟨_,rfl⟩
  rw[←hT]
  refine wp_w (fun W=>Below w5.heap.size w5 W∧W.heap[T]? =some (.cells #[.int .i64 aco,.int .i64 aid,.slice Ad nd cd] 32 (0,0))∧W.heap[T+1]? =some (.cells #[.int .i64 st,.int .i64 id,.int .i64 req,.slice An nn cn,.int .i64 cnt,.int .i64 tim,.int .i64 nak] 29 (0,0))) ⟨by exact bel,by rw[hT];exact hpa,by rw[hT];exact hpa⟩ ?_
  rintro w6 ⟨hb6,ht6,hu6⟩
  have HT6:=hid ht6
  have HU6:=hid hu6
  have hT5:w5.heap.size≤T:=by omega
  have hTX:w.heap.size+1+1+1<T:=by omega
  clear hT
  have HQ6:=hid (show Below w5.heap.size w5 w6 from hb6)
  have HB6:=hid (HB5.out.trans (HQ6.out.mono hs5))
  have H66:=hid ((HQ6.out.block _ l6).trans H65.out)
  have H76:=hid ((HQ6.out.block _ l7).trans H75.out)
  have H86:=hid ((HQ6.out.block _ l8).trans H85.out)
  have H126:=hid ((HQ6.out.block _ l12).trans H125.out)
  clear p0 p1 p2 p3 p4 q0 q1 q2 q3 q4 q5 q6 r0 r1 r2 z0 z1 z2 z3 z4 z5 z6 f0 f1 f2 f3 f4 f5 f6 k3 l6 l7 l8 l12
  have hs6:=HB6.out.size
  obtain⟨⟨l6,l7,l8,l12⟩,⟨p0,p1,p2,p3,p4⟩,⟨q0,q1,q2,q3,q4,q5,q6⟩,⟨r0,r1,r2⟩,⟨z0,z1,z2,z3,z4,z5,z6⟩,⟨f0,f1,f2,f3,f4,f5,f6⟩,k3⟩:=cellsK H66.out H76.out H86.out H126.out
  have HBY6:=hid (HBY.out.below hb6)
  clear hb6 ht6 hu6
  have lT:=lt_blk HT6.out
  have lU:=lt_blk HU6.out
  obtain⟨t0,t1',t2⟩:=cells3 HT6.out
  obtain⟨x0,x1,x2,x3,x4,x5,x6⟩:=cells7 HU6.out
  obtain⟨Ex,hax,hnx,hxl⟩: ∃Ex,OptsAt w6 w6.heap.size An Ex∧nn=Ex.length∧Ex.map Ent.o=next:=by
   by_cases h10:e=10
   ·obtain⟨A',n',c',Ex,hex,h1,h2,-,h3⟩:=((OptsR.below (HOP.out h10) HQ6.out)).v
    simp only[Value.slice.injEq] at hex
    obtain⟨rfl,rfl,rfl⟩:=hex
    exact⟨Ex,h1,h2,h3⟩
   ·have h:=HVA.out h10
    simp only[Value.slice.injEq] at h
    obtain⟨rfl,rfl,rfl⟩:=h
    exact⟨E,(HE.out.keep (HB6.out.mono HB.out)).more (by have:=HB.out;omega),HNA.out,HL.out.trans (HWF.out.2.2.1 h10).symm⟩
  obtain⟨Ay,ny,cy,hey,hay,hny,hcy⟩:=HBY6.out.v
  simp only[Value.slice.injEq] at hey
  obtain⟨rfl,rfl,rfl⟩:=hey
  have HAX:=hid hax
  have HXL:=hid hxl
  have HX1:=hid hnx
  have HAY:=hid hay
  have HNY:=hid hny
  clear hax hay hxl hnx hny
  go_wp2_with fail
  refine(rdo_any Ar An Ai Ad nr cr nn cn ni ci nd cd R mc mt mf wt st id req cnt tim nak e ic ii aco aid tick Ex li ad w6 w6.heap.size (Nat.le_refl _) ((HR.out.keep (HB6.out.mono HB.out)).more (by have:=HB.out;omega)) HNR.out hlr HAX.out HX1.out ((HI.out.keep (HB6.out.mono HB.out)).more (by have:=HB.out;omega)) HNI.out hci hli HAY.out HNY.out hcy (by have h3:ad.length≤1488:=HWF.out.2.1;have:=HNY.out;omega)).mono ?_
  rw[HXL.out,HDO.out]
  rintro x wE ⟨vo,vd,rfl,hbE,hpE,haE⟩
  have HPE:=hid hpE
  have HAE:=hid haE
  clear t0 t1' t2 x0 x1 x2 x3 x4 x5 x6
  have HQE:=hid (show Below w6.heap.size w6 wE from hbE)
  have HBE:=hid (HB6.out.trans (HQE.out.mono hs6))
  have H6E:=hid ((HQE.out.block _ l6).trans H66.out)
  have H7E:=hid ((HQE.out.block _ l7).trans H76.out)
  have H8E:=hid ((HQE.out.block _ l8).trans H86.out)
  have H12E:=hid ((HQE.out.block _ l12).trans H126.out)
  clear p0 p1 p2 p3 p4 q0 q1 q2 q3 q4 q5 q6 r0 r1 r2 z0 z1 z2 z3 z4 z5 z6 f0 f1 f2 f3 f4 f5 f6 k3 l6 l7 l8 l12
  have hsE:=HBE.out.size
  obtain⟨⟨l6,l7,l8,l12⟩,⟨p0,p1,p2,p3,p4⟩,⟨q0,q1,q2,q3,q4,q5,q6⟩,⟨r0,r1,r2⟩,⟨z0,z1,z2,z3,z4,z5,z6⟩,⟨f0,f1,f2,f3,f4,f5,f6⟩,k3⟩:=cellsK H6E.out H7E.out H8E.out H12E.out
  clear hbE hpE haE
  unfold auV
  go_upto_region 10 with(fail)
  obtain⟨T2,hT2⟩: ∃T2,T2=wE.heap.size:=⟨_,rfl⟩
  rw[←hT2]
  refine wp_w (fun W=>Below wE.heap.size wE W∧W.heap[T2]? =some (.cells #[.int .i64 ys,.int .i64 yi,.int .i64 yr,.slice An nn cn,.int .i64 yc,.int .i64 yt,.int .i64 yk] 29 (0,0))) ⟨by exact bel,by rw[hT2];exact heap_alloc_new _ _⟩ ?_
  rintro wF ⟨hbF,htF⟩
  have hT2E:wE.heap.size≤T2:=by omega
  have hT2X:w.heap.size+1+1+1<T2:=by omega
  clear hT2
  have HQF:=hid (show Below wE.heap.size wE wF from hbF)
  have HBF:=hid (HBE.out.trans (HQF.out.mono hsE))
  have H6F:=hid ((HQF.out.block _ l6).trans H6E.out)
  have H7F:=hid ((HQF.out.block _ l7).trans H7E.out)
  have H8F:=hid ((HQF.out.block _ l8).trans H8E.out)
  have H12F:=hid ((HQF.out.block _ l12).trans H12E.out)
  clear p0 p1 p2 p3 p4 q0 q1 q2 q3 q4 q5 q6 r0 r1 r2 z0 z1 z2 z3 z4 z5 z6 f0 f1 f2 f3 f4 f5 f6 k3 l6 l7 l8 l12
  have hsF:=HBF.out.size
  obtain⟨⟨l6,l7,l8,l12⟩,⟨p0,p1,p2,p3,p4⟩,⟨q0,q1,q2,q3,q4,q5,q6⟩,⟨r0,r1,r2⟩,⟨z0,z1,z2,z3,z4,z5,z6⟩,⟨f0,f1,f2,f3,f4,f5,f6⟩,k3⟩:=cellsK H6F.out H7F.out H8F.out H12F.out
  go_wp2_with fail
  refine(Fs.stepref_any st e _).mono ?_
  rw[show Fs.StepP st e=fun w x w'=> ∃v,x=.returned (.tuple #[.int .i64 (Fs.tabNext e st),v,.int .i64 er])∧Fs.Told w (Fs.tabActs e st) v w' by unfold Fs.StepP;rw[HER.out]]
  rintro x wG ⟨vG,rfl,hbG,-⟩
  have HTG:=hid ((hbG.block _ (lt_blk htF)).trans htF)
  have HQG:=hid (show Below wF.heap.size wF wG from hbG)
  have HBG:=hid (HBF.out.trans (HQG.out.mono hsF))
  have H6G:=hid ((HQG.out.block _ l6).trans H6F.out)
  have H7G:=hid ((HQG.out.block _ l7).trans H7F.out)
  have H8G:=hid ((HQG.out.block _ l8).trans H8F.out)
  have H12G:=hid ((HQG.out.block _ l12).trans H12F.out)
  clear p0 p1 p2 p3 p4 q0 q1 q2 q3 q4 q5 q6 r0 r1 r2 z0 z1 z2 z3 z4 z5 z6 f0 f1 f2 f3 f4 f5 f6 k3 l6 l7 l8 l12
  have hsG:=HBG.out.size
  obtain⟨⟨l6,l7,l8,l12⟩,⟨p0,p1,p2,p3,p4⟩,⟨q0,q1,q2,q3,q4,q5,q6⟩,⟨r0,r1,r2⟩,⟨z0,z1,z2,z3,z4,z5,z6⟩,⟨f0,f1,f2,f3,f4,f5,f6⟩,k3⟩:=cellsK H6G.out H7G.out H8G.out H12G.out
  have HPG:=hid ((HPE.out.below HQF.out).below HQG.out)
  have HAG:=hid ((HAE.out.below HQF.out).below HQG.out)
  clear hbF htF hbG
  have lT2:=lt_blk HTG.out
  by_cases h0:er=0
  ·have h0':(er !=0)=false:=by simp[h0]
   have HR0:=hid (HRES.out.2 h0)
   clear h0
   obtain⟨t0,t1',t2,t3,t4,t5,t6⟩:=cells7 HTG.out
   go_wp2_with fail
   obtain⟨Wf,hWf⟩: ∃Wf:World,Wf=(((((((wG.setCell ⟨w.heap.size+1+1+1,0,none⟩ (.int .i64 ys)).setCell ⟨w.heap.size+1+1+1,1,none⟩ (.int .i64 yi)).setCell ⟨w.heap.size+1+1+1,2,none⟩ (.int .i64 yr)).setCell ⟨w.heap.size+1+1+1,3,none⟩ (.slice An nn cn)).setCell ⟨w.heap.size+1+1+1,4,none⟩ (.int .i64 yc)).setCell ⟨w.heap.size+1+1+1,5,none⟩ (.int .i64 yt)).setCell ⟨w.heap.size+1+1+1,6,none⟩ (.int .i64 yk)):=⟨_,rfl⟩
   rw[←hWf]
   have hrow:Wf.heap[w.heap.size+1+1+1]? =some (.cells #[.int .i64 ys,.int .i64 yi,.int .i64 yr,.slice An nn cn,.int .i64 yc,.int .i64 yt,.int .i64 yk] 29 (0,0)):=by rw[hWf];exact row7 H12G.out rfl _ _ _ _ _ _ _
   have hgr:wG.grownBy Wf (some (w.heap.size+1+1+1)):=by rw[hWf];exact grn
   clear hWf t0 t1' t2 t3 t4 t5 t6
   clear p0 p1 p2 p3 p4 q0 q1 q2 q3 q4 q5 q6 r0 r1 r2 z0 z1 z2 z3 z4 z5 z6 f0 f1 f2 f3 f4 f5 f6 k3 l6 l7 l8 l12
   obtain⟨u0,u1,u2,u3,u4,u5,u6⟩:=cells7 hrow
   refine bodyPost_ret (v:=.tuple #[.agg #[.int .i64 ys,.int .i64 yi,.int .i64 yr,.slice An nn cn,.int .i64 yc,.int .i64 yt,.int .i64 yk],vo,vd,.bool true]) (by simp[results,Tryz.results20,go_sem,u0,u1,u2,u3,u4,u5,u6]) rfl ?_
   have hps:=(PksR.other HPG.out hgr H12G.out (no_bytes7 _ _ _ _ _ _ _ _ _) (by decide)).base (b':=w.heap.size) hs6
   have has:=(ActsO.other HAG.out hgr H12G.out (by decide)).base (b':=w.heap.size) hs6
   have hbf:Below w.heap.size w Wf:=Below.grown HBG.out hgr hsG (fun k hk=>by cases hk;omega)
   rw[HR0.out]
   refine⟨.slice An nn cn,vo,vd,rfl,hbf,?_,hps,has⟩
   show(.slice An nn cn=Value.slice Aa na ca∧yL=L)∨OptsR Wf w.heap.size (.slice An nn cn) yL
   rw[HYL.out]
   by_cases h10:e=10
   ·exact .inr (OptsR.base (OptsR.other (OptsR.below (OptsR.below (OptsR.below (OptsR.below (HOP.out h10) HQ6.out) HQE.out) HQF.out) HQG.out) hgr H12G.out (no_bytes7 _ _ _ _ _ _ _ _ _) (by decide)) hs4)
   ·exact .inl ⟨HVA.out h10,HWF.out.2.2.1 h10⟩
  ·have h0':(er !=0)=true:=by simpa using h0
   obtain⟨hr0,ho0,hd0⟩:=HRES.out.1 h0
   have HR0:=hid hr0
   have HO0:=hid ho0
   have HD0:=hid hd0
   clear h0 hr0 ho0 hd0
   obtain⟨t0,t1',t2,t3,t4,t5,t6⟩:=cells7 HTG.out
   have y0:=frees HTG.out 0
   have y1:=frees HTG.out 1
   have y2:=frees HTG.out 2
   have y3:=frees HTG.out 3
   have y4:=frees HTG.out 4
   have y5:=frees HTG.out 5
   have y6:=frees HTG.out 6
   go_upto_region 13 with(fail)
   refine wp_w (fun W=>W.heap[T2]? =some (.cells #[.int .i64 st,.int .i64 id,.int .i64 req,.slice Aa na ca,.int .i64 cnt,.int .i64 tim,.int .i64 nak] 29 (0,0))∧wG.grownBy W (some T2)) ⟨row7 HTG.out rfl _ _ _ _ _ _ _,grn⟩ ?_
   rintro wH ⟨htH,hgH⟩
   have HPH:=hid (HPG.out.other hgH HTG.out (no_bytes7 _ _ _ _ _ _ _ _ _) (by decide))
   have HAH:=hid (HAG.out.other hgH HTG.out (by decide))
   have HBH:=hid (show Below w.heap.size w wH from Below.grown HBG.out hgH hsG (fun k hk=>by cases hk;omega))
   have H6H:=hid ((hgH.block _ l6 (by simp;omega)).trans H6G.out)
   have H7H:=hid ((hgH.block _ l7 (by simp;omega)).trans H7G.out)
   have H8H:=hid ((hgH.block _ l8 (by simp;omega)).trans H8G.out)
   have H12H:=hid ((hgH.block _ l12 (by simp;omega)).trans H12G.out)
   clear t0 t1' t2 t3 t4 t5 t6 y0 y1 y2 y3 y4 y5 y6
   clear p0 p1 p2 p3 p4 q0 q1 q2 q3 q4 q5 q6 r0 r1 r2 z0 z1 z2 z3 z4 z5 z6 f0 f1 f2 f3 f4 f5 f6 k3 l6 l7 l8 l12
   have hsH:=HBH.out.size
   obtain⟨⟨l6,l7,l8,l12⟩,⟨p0,p1,p2,p3,p4⟩,⟨q0,q1,q2,q3,q4,q5,q6⟩,⟨r0,r1,r2⟩,⟨z0,z1,z2,z3,z4,z5,z6⟩,⟨f0,f1,f2,f3,f4,f5,f6⟩,k3⟩:=cellsK H6H.out H7H.out H8H.out H12H.out
   obtain⟨t0,t1',t2,t3,t4,t5,t6⟩:=cells7 htH
   have lT2:=lt_blk htH
   clear htH hgH
   go_wp2_with fail
   obtain⟨Wf,hWf⟩: ∃Wf:World,Wf=(((((((wH.setCell ⟨w.heap.size+1+1+1,0,none⟩ (.int .i64 st)).setCell ⟨w.heap.size+1+1+1,1,none⟩ (.int .i64 id)).setCell ⟨w.heap.size+1+1+1,2,none⟩ (.int .i64 req)).setCell ⟨w.heap.size+1+1+1,3,none⟩ (.slice Aa na ca)).setCell ⟨w.heap.size+1+1+1,4,none⟩ (.int .i64 cnt)).setCell ⟨w.heap.size+1+1+1,5,none⟩ (.int .i64 tim)).setCell ⟨w.heap.size+1+1+1,6,none⟩ (.int .i64 nak)):=⟨_,rfl⟩
   rw[←hWf]
   have hrow:Wf.heap[w.heap.size+1+1+1]? =some (.cells #[.int .i64 st,.int .i64 id,.int .i64 req,.slice Aa na ca,.int .i64 cnt,.int .i64 tim,.int .i64 nak] 29 (0,0)):=by rw[hWf];exact row7 H12H.out rfl _ _ _ _ _ _ _
   have hgr:wH.grownBy Wf (some (w.heap.size+1+1+1)):=by rw[hWf];exact grn
   clear hWf t0 t1' t2 t3 t4 t5 t6
   clear p0 p1 p2 p3 p4 q0 q1 q2 q3 q4 q5 q6 r0 r1 r2 z0 z1 z2 z3 z4 z5 z6 f0 f1 f2 f3 f4 f5 f6 k3 l6 l7 l8 l12
   obtain⟨u0,u1,u2,u3,u4,u5,u6⟩:=cells7 hrow
   refine bodyPost_ret (v:=.tuple #[.agg #[.int .i64 st,.int .i64 id,.int .i64 req,.slice Aa na ca,.int .i64 cnt,.int .i64 tim,.int .i64 nak],vo,vd,.bool true]) (by simp[results,Tryz.results20,go_sem,u0,u1,u2,u3,u4,u5,u6]) rfl ?_
   have hps:=(PksR.other HPH.out hgr H12H.out (no_bytes7 _ _ _ _ _ _ _ _ _) (by decide)).base (b':=w.heap.size) hs6
   have has:=(ActsO.other HAH.out hgr H12H.out (by decide)).base (b':=w.heap.size) hs6
   have hbf:Below w.heap.size w Wf:=Below.grown HBH.out hgr hsH (fun k hk=>by cases hk;omega)
   rw[HR0.out]
   rw[HO0.out] at hps
   rw[HD0.out] at has
   exact⟨.slice Aa na ca,vo,vd,rfl,hbf,.inl ⟨rfl,rfl⟩,hps,has⟩
end Go.Proofs.YtfkgmbknfnhjoaaGreat
namespace Go.Proofs.YtfkgmbknfnhjoaaGreat
open Lib (hid)
open Go.RowKit
set_option linter.unusedVariables false
set_option linter.ambiguousOpen false
open Ne (Rl Opt RulesAt areB)
theorem rpack_any (Ar Aa Ai:Option Addr) (nr cr na ca ni ci:Nat) (R:List Rl) (mc mt mf wt st id req cnt tim nak ic ii tick:Int) (E:List Ent) (li:List UInt8) (w:World) (B:Nat) (hB:B≤w.heap.size) (hR:RulesAt w B Ar R) (hnr:nr=R.length) (hlr:nr≤1000000) (hE:OptsAt w B Aa E) (hna:na=E.length) (hca:na≤ca) (hla:na≤1000000) (hI:At w B Ai (li.map bv)) (hni:ni=li.length) (hci:ni≤ci) (hli:ni≤400000000):Calls Tryz.prog 20 #[.agg #[.slice Ar nr cr,.int .i64 mc,.int .i64 mt,.int .i64 mf,.int .i64 wt],.agg #[.int .i64 st,.int .i64 id,.int .i64 req,.slice Aa na ca,.int .i64 cnt,.int .i64 tim,.int .i64 nak],.agg #[.int .i64 ic,.int .i64 ii,.slice Ai ni ci],.int .i64 tick] w (RPackP (packO ⟨R,mc,mt,mf,wt⟩ ⟨st,id,req,E.map Ent.o,cnt,tim,nak⟩ ⟨ic,ii,li⟩ tick) (.slice Aa na ca) (E.map Ent.o) w):=by
 by_cases h:inB ic 1 7=true∧Cp.encErr ic ii li.length=0∧fineB ⟨R,mc,mt,mf,wt⟩ ⟨st,id,req,E.map Ent.o,cnt,tim,nak⟩ tick=true
 ·exact rpack_yes Ar Aa Ai nr cr na ca ni ci R mc mt mf wt st id req cnt tim nak ic ii tick E li w B hB hR hnr hlr hE hna hca hla hI hni hci hli h.1 h.2.1 h.2.2
 ·exact rpack_no Ar Aa Ai nr cr na ca ni ci R mc mt mf wt st id req cnt tim nak ic ii tick E li w B hB hR hnr hlr hE hna hca hla hI hni hci hli (by
   cases h1:inB ic 1 7
   ·exact .inl rfl
   ·refine .inr ?_
    by_cases h2:Cp.encErr ic ii li.length=0
    ·refine .inr ?_
     cases h3:fineB ⟨R,mc,mt,mf,wt⟩ ⟨st,id,req,E.map Ent.o,cnt,tim,nak⟩ tick
     ·rfl
     ·exact absurd ⟨h1,h2,h3⟩ h
    ·exact .inl h2)
end Go.Proofs.YtfkgmbknfnhjoaaGreat
