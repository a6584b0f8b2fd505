/- Bundle PQ. -/
import Derived.Test.YtfkgmbknfnhjoaaGreatRPN
import Derived.BigQuiet
set_option maxHeartbeats 8000000
namespace Go.Proofs.YtfkgmbknfnhjoaaGreat
open Lib (hid)
open Go.RowKit
set_option linter.unusedSimpArgs false
set_option linter.unusedVariables false
set_option linter.ambiguousOpen false
open Ne (Rl Opt RulesAt areB answerO learnO)
open Fs (av hasB)
set_option maxRecDepth 100000 in
theorem rwhich_34 (ic:Int) (hic:ic=3∨ic=4) (Ar Aa Ai:Option Addr) (nr cr na ca ni ci:Nat) (R:List Rl) (mc mt mf wt st id req cnt tim nak ii:Int) (E:List Ent) (li:List UInt8) (w:World) (B:Nat) (hB:B≤w.heap.size) (hR:RulesAt w B Ar R) (hnr:nr=R.length) (hlr:nr≤1000000) (hE:OptsAt w B Aa E) (hna:na=E.length) (hca:na≤ca) (hla:na≤1000000) (hI:At w B Ai (li.map bv)) (hni:ni=li.length) (hci:ni≤ci):Calls Tryz.prog 63 #[.agg #[.slice Ar nr cr,.int .i64 mc,.int .i64 mt,.int .i64 mf,.int .i64 wt],.agg #[.int .i64 st,.int .i64 id,.int .i64 req,.slice Aa na ca,.int .i64 cnt,.int .i64 tim,.int .i64 nak],.agg #[.int .i64 ic,.int .i64 ii,.slice Ai ni ci]] w (RWhichP (whichO ⟨R,mc,mt,mf,wt⟩ ⟨st,id,req,E.map Ent.o,cnt,tim,nak⟩ ⟨ic,ii,li⟩) ⟨st,id,req,E.map Ent.o,cnt,tim,nak⟩ (.slice Aa na ca) w):=by
 have HB:=hid hB
 have HR:=hid hR
 have HNR:=hid hnr
 have HE:=hid hE
 have HNA:=hid hna
 have HI:=hid hI
 have HNI:=hid hni
 obtain⟨L,hL⟩: ∃L,E.map Ent.o=L:=⟨_,rfl⟩
 have HL:=hid hL
 rw[hL]
 clear hB hR hnr hE hna hL hI hni
 have HO0:=hid (show whichO ⟨R,mc,mt,mf,wt⟩ ⟨st,id,req,L,cnt,tim,nak⟩ ⟨ic,ii,li⟩=learnedO ⟨st,id,req,L,cnt,tim,nak⟩ ⟨ic,ii,li⟩ by unfold whichO;dsimp only;rw[if_neg (by omega),if_neg (by omega),if_pos hic])
 rw[HO0.out]
 clear HO0
 have HIC:=hid hic
 have e1:(ic==1)=false:=by have:=HIC.out;simp;omega
 have e2:(ic==2)=false:=by have:=HIC.out;simp;omega
 by_cases h3v:ic=3
 all_goals
  first
   |have e3:(ic==3)=true:=by simp;exact h3v
   |have e3:(ic==3)=false:=by simp;exact h3v
  first
   |have e4:(ic==4)=true:=by simp;omega
   |have e4:(ic==4)=false:=by simp;omega
  clear h3v hic
  obtain⟨⟨Y,ye⟩,hd⟩: ∃r,Op.decR li=r:=⟨_,rfl⟩
  have HDR:=hid hd
  by_cases h1:ii=req
  ·have h1':(ii !=req)=false:=by simp[h1]
   by_cases h0:ye=0
   ·subst h0
    obtain⟨⟨nx,ok⟩,hln⟩: ∃r,learnO L ic Y=r:=⟨_,rfl⟩
    have HLN:=hid hln
    obtain⟨⟨eb,ee⟩,hen⟩: ∃r,Op.encR nx=r:=⟨_,rfl⟩
    have HEN:=hid hen
    obtain⟨nb,hnb⟩: ∃nb,eb.length=nb:=⟨_,rfl⟩
    have HNB:=hid hnb
    have HO0:=hid (show learnedO ⟨st,id,req,L,cnt,tim,nak⟩ ⟨ic,ii,li⟩=if ok=true∧ee=0 then some (10,⟨0,0,[]⟩,nx) else none by unfold learnedO;dsimp only;rw[hd];dsimp only;rw[if_neg (by simp[h1]),hln];dsimp only;rw[hen])
    rw[HO0.out]
    clear hd hln hen hnb h1 HO0
    cases ok
    ·rw[if_neg (by simp)]
     go_enter Tryz.func63,Tryz.ntmps63
     go_upto_region 2 with(fail)
     refine boxes6 ?_
     rintro W2 ⟨h6,h7,h8,h12,h13,h15,hbw⟩
     have HBW:=hid hbw
     have H6:=hid h6
     have H7:=hid h7
     have H8:=hid h8
     have H12:=hid h12
     have H13:=hid h13
     have H15:=hid h15
     have hszW:=hbw.size
     have l6:=lt_blk h6
     have l7:=lt_blk h7
     have l8:=lt_blk h8
     have l12:=lt_blk h12
     have l13:=lt_blk h13
     have l15:=lt_blk h15
     obtain⟨p0,p1,p2,p3,p4⟩:=cells5 h6
     obtain⟨q0,q1,q2,q3,q4,q5,q6⟩:=cells7 h7
     obtain⟨r0,r1,r2⟩:=cells3 h8
     obtain⟨z0,z1,z2⟩:=cells3 h15
     obtain⟨s0,s1,s2⟩:=cells3 h12
     obtain⟨m0,m1,m2,m3,m4,m5,m6⟩:=cells7 h13
     have f0:=frees h12 0
     have f1:=frees h12 1
     have f2:=frees h12 2
     have g0:=frees h13 0
     have g1:=frees h13 1
     have g2:=frees h13 2
     have g3:=frees h13 3
     have g4:=frees h13 4
     have g5:=frees h13 5
     have g6:=frees h13 6
     have k3:=frees h7 3
     clear h6 h7 h8 h12 h13 h15 hbw
     go_wp2_with fail
     refine(Op.rdec_any Ai ni ci li _ B (by have:=HB.out;omega) (HI.out.keep (HBW.out.mono HB.out)) HNI.out hci).mono ?_
     rintro x w3 hd
     obtain⟨E3,A3,n3,c3,rfl,hb3,ho3,he3,hn3,hc3,hl3,hsd3⟩:=DecP.get hd HDR.out
     have HO3:=hid ho3
     have HE3:=hid he3
     have HN3:=hid hn3
     have HS3:=hid hsd3
     have HB3:=hid (show Below W2.heap.size W2 w3 from hb3)
     have hs3:=HB3.out.size
     have H73:=hid ((HB3.out.block _ l7).trans H7.out)
     have H83:=hid ((HB3.out.block _ l8).trans H8.out)
     have H123:=hid ((HB3.out.block _ l12).trans H12.out)
     have H133:=hid ((HB3.out.block _ l13).trans H13.out)
     have H153:=hid ((HB3.out.block _ l15).trans H15.out)
     clear p0 p1 p2 p3 p4 q0 q1 q2 q3 q4 q5 q6 r0 r1 r2 z0 z1 z2 s0 s1 s2 m0 m1 m2 m3 m4 m5 m6 f0 f1 f2 g0 g1 g2 g3 g4 g5 g6 k3
     have cp0:=(cells5 ((HB3.out.block _ l6).trans H6.out)).1
     have cp3:=(cells5 ((HB3.out.block _ l6).trans H6.out)).2.2.2.1
     have l6x:w.heap.size<w3.heap.size:=by omega
     obtain⟨⟨l7x,l8x,l12x,l13x,l15x⟩,⟨q0,q1,q2,q3,q4,q5,q6⟩,⟨r0,r1,r2⟩,⟨z0,z1,z2⟩,⟨s0,s1,s2⟩,⟨m0,m1,m2,m3,m4,m5,m6⟩,⟨f0,f1,f2⟩,⟨g0,g1,g2,g3,g4,g5,g6⟩,k3⟩:=cellsR H73.out H83.out H123.out H133.out H153.out
     clear hd hb3 ho3 he3 hn3 hsd3
     go_wp2_with fail
     refine(rlearn2_any Aa A3 na n3 ca c3 ic E E3 _ w3.heap.size (Nat.le_refl _) ((HE.out.keep ((HBW.out.trans (HB3.out.mono hszW)).mono HB.out)).more (by have:=HB.out;omega)) HO3.out.at HNA.out HN3.out hca hla (by first|omega|(have:=HIC.out;omega))).mono ?_
     rw[HL.out,HE3.out,HLN.out]
     rintro x w4 ⟨E4,A4,n4,c4,rfl,he4,hn4,hc4,hb4,hat4,hnew⟩
     have HA4:=hid hat4
     have HE4:=hid he4
     have HN4:=hid hn4
     have HNEW:=hid hnew
     have HB34:=hid hb4
     clear cp0 cp3 l6x l7x l8x l12x l13x l15x
     clear q0 q1 q2 q3 q4 q5 q6 r0 r1 r2 z0 z1 z2 s0 s1 s2 m0 m1 m2 m3 m4 m5 m6 f0 f1 f2 g0 g1 g2 g3 g4 g5 g6 k3
     have HB4:=hid (HB3.out.trans (hb4.mono hs3))
     have hs4:=HB4.out.size
     have hs34:=hb4.size
     clear hb4 hat4 he4 hn4 hnew
     go_wp2_with fail
     refine(Op.renc_any A4 n4 c4 E4 _ _ (Nat.le_refl _) HA4.out HN4.out).mono ?_
     rw[HE4.out]
     rintro x w5 he
     obtain⟨A5,c5,rfl,hb5,ho5,hc5⟩:=EncP.get he HEN.out HNB.out
     have HB45:=hid hb5
     have HB5:=hid (show Below W2.heap.size W2 w5 from HB4.out.trans (hb5.mono hs4))
     have hs5:=HB5.out.size
     have H75:=hid ((HB5.out.block _ l7).trans H7.out)
     have H85:=hid ((HB5.out.block _ l8).trans H8.out)
     have H125:=hid ((HB5.out.block _ l12).trans H12.out)
     have H135:=hid ((HB5.out.block _ l13).trans H13.out)
     have H155:=hid ((HB5.out.block _ l15).trans H15.out)
     have hs45:=hb5.size
     clear he hb5 ho5
     obtain⟨⟨l7x,l8x,l12x,l13x,l15x⟩,⟨q0,q1,q2,q3,q4,q5,q6⟩,⟨r0,r1,r2⟩,⟨z0,z1,z2⟩,⟨s0,s1,s2⟩,⟨m0,m1,m2,m3,m4,m5,m6⟩,⟨f0,f1,f2⟩,⟨g0,g1,g2,g3,g4,g5,g6⟩,k3⟩:=cellsR H75.out H85.out H125.out H135.out H155.out
     go_upto_region 29 with(fail)
     refine wp_w (fun W=>W.heap[w.heap.size+1]? =some (.cells #[.int .i64 st,.int .i64 id,.int .i64 req,.slice A4 n4 c4,.int .i64 cnt,.int .i64 tim,.int .i64 nak] 29 (0,0))∧w5.grownBy W (some (w.heap.size+1))) ⟨heap_setCell_same _ _ 3 _ _ _ H75.out,grn⟩ ?_
     clear l7x l8x l12x l13x l15x
     clear q0 q1 q2 q3 q4 q5 q6 r0 r1 r2 z0 z1 z2 s0 s1 s2 m0 m1 m2 m3 m4 m5 m6 f0 f1 f2 g0 g1 g2 g3 g4 g5 g6 k3
     rintro w6 ⟨h76,hg6⟩
     have H76:=hid h76
     have HG6:=hid hg6
     have HB6:=hid (show Below w.heap.size w w6 from Below.grown (HBW.out.trans (HB5.out.mono hszW)) hg6 (Nat.le_trans hszW hs5) (fun k hk=>by cases hk;omega))
     have hs6:=hg6.size
     have H86:=hid ((hg6.block _ (lt_blk H85.out) (by simp;try omega)).trans H85.out)
     have H126:=hid ((hg6.block _ (lt_blk H125.out) (by simp;try omega)).trans H125.out)
     have H136:=hid ((hg6.block _ (lt_blk H135.out) (by simp;try omega)).trans H135.out)
     have H156:=hid ((hg6.block _ (lt_blk H155.out) (by simp;try omega)).trans H155.out)
     clear h76 hg6
     obtain⟨⟨l7x,l8x,l12x,l13x,l15x⟩,⟨q0,q1,q2,q3,q4,q5,q6⟩,⟨r0,r1,r2⟩,⟨z0,z1,z2⟩,⟨s0,s1,s2⟩,⟨m0,m1,m2,m3,m4,m5,m6⟩,⟨f0,f1,f2⟩,⟨g0,g1,g2,g3,g4,g5,g6⟩,k3⟩:=cellsR H76.out H86.out H126.out H136.out H156.out
     go_wp2_with fail
     go_region
     all_goals
      clear l7x l8x l12x l13x l15x
      clear q0 q1 q2 q3 q4 q5 q6 r0 r1 r2 z0 z1 z2 s0 s1 s2 m0 m1 m2 m3 m4 m5 m6 f0 f1 f2 g0 g1 g2 g3 g4 g5 g6 k3
      obtain⟨Wc,hWc⟩: ∃Wc:World,Wc=(((w6.setCell ⟨w.heap.size+1+1+1,0,none⟩ (.int .i64 0)).setCell ⟨w.heap.size+1+1+1,1,none⟩ (.int .i64 0)).setCell ⟨w.heap.size+1+1+1,2,none⟩ (.slice none 0 0)):=⟨_,rfl⟩
      obtain⟨Wf,hWf⟩: ∃Wf:World,Wf=((((((((Wc.setCell ⟨w.heap.size+1+1+1+1,0,none⟩ (.int .i64 st)).setCell ⟨w.heap.size+1+1+1+1,1,none⟩ (.int .i64 id)).setCell ⟨w.heap.size+1+1+1+1,2,none⟩ (.int .i64 req)).setCell ⟨w.heap.size+1+1+1+1,3,none⟩ (.slice A4 n4 c4)).setCell ⟨w.heap.size+1+1+1+1,4,none⟩ (.int .i64 cnt)).setCell ⟨w.heap.size+1+1+1+1,5,none⟩ (.int .i64 tim)).setCell ⟨w.heap.size+1+1+1+1,6,none⟩ (.int .i64 nak))).drew:=⟨_,rfl⟩
      have hWf2:Wf=(((((((((((w6.setCell ⟨w.heap.size+1+1+1,0,none⟩ (.int .i64 0)).setCell ⟨w.heap.size+1+1+1,1,none⟩ (.int .i64 0)).setCell ⟨w.heap.size+1+1+1,2,none⟩ (.slice none 0 0)).setCell ⟨w.heap.size+1+1+1+1,0,none⟩ (.int .i64 st)).setCell ⟨w.heap.size+1+1+1+1,1,none⟩ (.int .i64 id)).setCell ⟨w.heap.size+1+1+1+1,2,none⟩ (.int .i64 req)).setCell ⟨w.heap.size+1+1+1+1,3,none⟩ (.slice A4 n4 c4)).setCell ⟨w.heap.size+1+1+1+1,4,none⟩ (.int .i64 cnt)).setCell ⟨w.heap.size+1+1+1+1,5,none⟩ (.int .i64 tim)).setCell ⟨w.heap.size+1+1+1+1,6,none⟩ (.int .i64 nak))).drew:=by rw[hWf,hWc]
      go_wp2_with fail
      rw[←hWf2]
      have HZ7:=hid (H126.out)
      have HZ8:=hid ((show Wc.heap[w.heap.size+1+1+1+1]? =(w6).heap[w.heap.size+1+1+1+1]? by rw[hWc];exact set3_other (by omega) _ _ _).trans (H136.out))
      have hg1:(w6).grownBy Wc (some (w.heap.size+1+1+1)):=by rw[hWc];exact grn
      have hrc0:Wc.heap[w.heap.size+1+1+1]? =some (.cells #[.int .i64 0,.int .i64 0,(.slice none 0 0)] 32 (0,0)):=by rw[hWc];exact row3 HZ7.out rfl _ _ _
      have hrc:Wf.heap[w.heap.size+1+1+1]? =some (.cells #[.int .i64 0,.int .i64 0,(.slice none 0 0)] 32 (0,0)):=by rw[hWf,hdrew,set7_other (by omega)];exact hrc0
      have hra:Wf.heap[w.heap.size+1+1+1+1]? =some (.cells #[.int .i64 st,.int .i64 id,.int .i64 req,(.slice A4 n4 c4),.int .i64 cnt,.int .i64 tim,.int .i64 nak] 29 (0,0)):=by rw[hWf,hdrew];exact row7 HZ8.out rfl _ _ _ _ _ _ _
      have hg2:Wc.grownBy Wf (some (w.heap.size+1+1+1+1)):=by rw[hWf];exact grn
      clear hWf2 hWf hWc
      have hbf:Below w.heap.size w Wf:=Below.grown (Below.grown (HB6.out) hg1 (HB6.out.size) (fun k hk=>by cases hk;omega)) hg2 (Nat.le_trans (HB6.out.size) hg1.size) (fun k hk=>by cases hk;omega)
      obtain⟨u0,u1,u2⟩:=cells3 hrc
      obtain⟨e0,e1,e2,e3,e4,e5,e6⟩:=cells7 hra
      refine bodyPost_ret (v:=.tuple #[.int .i64 10,.agg #[.int .i64 0,.int .i64 0,.slice none 0 0],.agg #[.int .i64 st,.int .i64 id,.int .i64 req,.slice A4 n4 c4,.int .i64 cnt,.int .i64 tim,.int .i64 nak],.bool false]) (by simp[results,Tryz.results63,go_sem,u0,u1,u2,e0,e1,e2,e3,e4,e5,e6]) rfl ?_
      exact⟨_,_,_,_,_,_,_,_,_,rfl,hbf⟩
    ·by_cases h5:ee=0
     ·subst h5
      rw[if_pos ⟨rfl,rfl⟩]
      go_enter Tryz.func63,Tryz.ntmps63
      go_upto_region 2 with(fail)
      refine boxes6 ?_
      rintro W2 ⟨h6,h7,h8,h12,h13,h15,hbw⟩
      have HBW:=hid hbw
      have H6:=hid h6
      have H7:=hid h7
      have H8:=hid h8
      have H12:=hid h12
      have H13:=hid h13
      have H15:=hid h15
      have hszW:=hbw.size
      have l6:=lt_blk h6
      have l7:=lt_blk h7
      have l8:=lt_blk h8
      have l12:=lt_blk h12
      have l13:=lt_blk h13
      have l15:=lt_blk h15
      obtain⟨p0,p1,p2,p3,p4⟩:=cells5 h6
      obtain⟨q0,q1,q2,q3,q4,q5,q6⟩:=cells7 h7
      obtain⟨r0,r1,r2⟩:=cells3 h8
      obtain⟨z0,z1,z2⟩:=cells3 h15
      obtain⟨s0,s1,s2⟩:=cells3 h12
      obtain⟨m0,m1,m2,m3,m4,m5,m6⟩:=cells7 h13
      have f0:=frees h12 0
      have f1:=frees h12 1
      have f2:=frees h12 2
      have g0:=frees h13 0
      have g1:=frees h13 1
      have g2:=frees h13 2
      have g3:=frees h13 3
      have g4:=frees h13 4
      have g5:=frees h13 5
      have g6:=frees h13 6
      have k3:=frees h7 3
      clear h6 h7 h8 h12 h13 h15 hbw
      go_wp2_with fail
      refine(Op.rdec_any Ai ni ci li _ B (by have:=HB.out;omega) (HI.out.keep (HBW.out.mono HB.out)) HNI.out hci).mono ?_
      rintro x w3 hd
      obtain⟨E3,A3,n3,c3,rfl,hb3,ho3,he3,hn3,hc3,hl3,hsd3⟩:=DecP.get hd HDR.out
      have HO3:=hid ho3
      have HE3:=hid he3
      have HN3:=hid hn3
      have HS3:=hid hsd3
      have HB3:=hid (show Below W2.heap.size W2 w3 from hb3)
      have hs3:=HB3.out.size
      have H73:=hid ((HB3.out.block _ l7).trans H7.out)
      have H83:=hid ((HB3.out.block _ l8).trans H8.out)
      have H123:=hid ((HB3.out.block _ l12).trans H12.out)
      have H133:=hid ((HB3.out.block _ l13).trans H13.out)
      have H153:=hid ((HB3.out.block _ l15).trans H15.out)
      clear p0 p1 p2 p3 p4 q0 q1 q2 q3 q4 q5 q6 r0 r1 r2 z0 z1 z2 s0 s1 s2 m0 m1 m2 m3 m4 m5 m6 f0 f1 f2 g0 g1 g2 g3 g4 g5 g6 k3
      have cp0:=(cells5 ((HB3.out.block _ l6).trans H6.out)).1
      have cp3:=(cells5 ((HB3.out.block _ l6).trans H6.out)).2.2.2.1
      have l6x:w.heap.size<w3.heap.size:=by omega
      obtain⟨⟨l7x,l8x,l12x,l13x,l15x⟩,⟨q0,q1,q2,q3,q4,q5,q6⟩,⟨r0,r1,r2⟩,⟨z0,z1,z2⟩,⟨s0,s1,s2⟩,⟨m0,m1,m2,m3,m4,m5,m6⟩,⟨f0,f1,f2⟩,⟨g0,g1,g2,g3,g4,g5,g6⟩,k3⟩:=cellsR H73.out H83.out H123.out H133.out H153.out
      clear hd hb3 ho3 he3 hn3 hsd3
      go_wp2_with fail
      refine(rlearn2_any Aa A3 na n3 ca c3 ic E E3 _ w3.heap.size (Nat.le_refl _) ((HE.out.keep ((HBW.out.trans (HB3.out.mono hszW)).mono HB.out)).more (by have:=HB.out;omega)) HO3.out.at HNA.out HN3.out hca hla (by first|omega|(have:=HIC.out;omega))).mono ?_
      rw[HL.out,HE3.out,HLN.out]
      rintro x w4 ⟨E4,A4,n4,c4,rfl,he4,hn4,hc4,hb4,hat4,hnew⟩
      have HA4:=hid hat4
      have HE4:=hid he4
      have HN4:=hid hn4
      have HNEW:=hid hnew
      have HB34:=hid hb4
      clear cp0 cp3 l6x l7x l8x l12x l13x l15x
      clear q0 q1 q2 q3 q4 q5 q6 r0 r1 r2 z0 z1 z2 s0 s1 s2 m0 m1 m2 m3 m4 m5 m6 f0 f1 f2 g0 g1 g2 g3 g4 g5 g6 k3
      have HB4:=hid (HB3.out.trans (hb4.mono hs3))
      have hs4:=HB4.out.size
      have hs34:=hb4.size
      clear hb4 hat4 he4 hn4 hnew
      go_wp2_with fail
      refine(Op.renc_any A4 n4 c4 E4 _ _ (Nat.le_refl _) HA4.out HN4.out).mono ?_
      rw[HE4.out]
      rintro x w5 he
      obtain⟨A5,c5,rfl,hb5,ho5,hc5⟩:=EncP.get he HEN.out HNB.out
      have HB45:=hid hb5
      have HB5:=hid (show Below W2.heap.size W2 w5 from HB4.out.trans (hb5.mono hs4))
      have hs5:=HB5.out.size
      have H75:=hid ((HB5.out.block _ l7).trans H7.out)
      have H85:=hid ((HB5.out.block _ l8).trans H8.out)
      have H125:=hid ((HB5.out.block _ l12).trans H12.out)
      have H135:=hid ((HB5.out.block _ l13).trans H13.out)
      have H155:=hid ((HB5.out.block _ l15).trans H15.out)
      have hs45:=hb5.size
      clear he hb5 ho5
      obtain⟨⟨l7x,l8x,l12x,l13x,l15x⟩,⟨q0,q1,q2,q3,q4,q5,q6⟩,⟨r0,r1,r2⟩,⟨z0,z1,z2⟩,⟨s0,s1,s2⟩,⟨m0,m1,m2,m3,m4,m5,m6⟩,⟨f0,f1,f2⟩,⟨g0,g1,g2,g3,g4,g5,g6⟩,k3⟩:=cellsR H75.out H85.out H125.out H135.out H155.out
      go_upto_region 29 with(fail)
      refine wp_w (fun W=>W.heap[w.heap.size+1]? =some (.cells #[.int .i64 st,.int .i64 id,.int .i64 req,.slice A4 n4 c4,.int .i64 cnt,.int .i64 tim,.int .i64 nak] 29 (0,0))∧w5.grownBy W (some (w.heap.size+1))) ⟨heap_setCell_same _ _ 3 _ _ _ H75.out,grn⟩ ?_
      clear l7x l8x l12x l13x l15x
      clear q0 q1 q2 q3 q4 q5 q6 r0 r1 r2 z0 z1 z2 s0 s1 s2 m0 m1 m2 m3 m4 m5 m6 f0 f1 f2 g0 g1 g2 g3 g4 g5 g6 k3
      rintro w6 ⟨h76,hg6⟩
      have H76:=hid h76
      have HG6:=hid hg6
      have HB6:=hid (show Below w.heap.size w w6 from Below.grown (HBW.out.trans (HB5.out.mono hszW)) hg6 (Nat.le_trans hszW hs5) (fun k hk=>by cases hk;omega))
      have hs6:=hg6.size
      have H86:=hid ((hg6.block _ (lt_blk H85.out) (by simp;try omega)).trans H85.out)
      have H126:=hid ((hg6.block _ (lt_blk H125.out) (by simp;try omega)).trans H125.out)
      have H136:=hid ((hg6.block _ (lt_blk H135.out) (by simp;try omega)).trans H135.out)
      have H156:=hid ((hg6.block _ (lt_blk H155.out) (by simp;try omega)).trans H155.out)
      clear h76 hg6
      obtain⟨⟨l7x,l8x,l12x,l13x,l15x⟩,⟨q0,q1,q2,q3,q4,q5,q6⟩,⟨r0,r1,r2⟩,⟨z0,z1,z2⟩,⟨s0,s1,s2⟩,⟨m0,m1,m2,m3,m4,m5,m6⟩,⟨f0,f1,f2⟩,⟨g0,g1,g2,g3,g4,g5,g6⟩,k3⟩:=cellsR H76.out H86.out H126.out H136.out H156.out
      go_wp2_with fail
      go_region
      all_goals
       clear l7x l8x l12x l13x l15x
       clear q0 q1 q2 q3 q4 q5 q6 r0 r1 r2 z0 z1 z2 s0 s1 s2 m0 m1 m2 m3 m4 m5 m6 f0 f1 f2 g0 g1 g2 g3 g4 g5 g6 k3
       obtain⟨Wc,hWc⟩: ∃Wc:World,Wc=(((w6.setCell ⟨w.heap.size+1+1+1,0,none⟩ (.int .i64 0)).setCell ⟨w.heap.size+1+1+1,1,none⟩ (.int .i64 0)).setCell ⟨w.heap.size+1+1+1,2,none⟩ (.slice none 0 0)):=⟨_,rfl⟩
       obtain⟨Wf,hWf⟩: ∃Wf:World,Wf=((((((((Wc.setCell ⟨w.heap.size+1+1+1+1,0,none⟩ (.int .i64 st)).setCell ⟨w.heap.size+1+1+1+1,1,none⟩ (.int .i64 id)).setCell ⟨w.heap.size+1+1+1+1,2,none⟩ (.int .i64 req)).setCell ⟨w.heap.size+1+1+1+1,3,none⟩ (.slice A4 n4 c4)).setCell ⟨w.heap.size+1+1+1+1,4,none⟩ (.int .i64 cnt)).setCell ⟨w.heap.size+1+1+1+1,5,none⟩ (.int .i64 tim)).setCell ⟨w.heap.size+1+1+1+1,6,none⟩ (.int .i64 nak))).drew:=⟨_,rfl⟩
       have hWf2:Wf=(((((((((((w6.setCell ⟨w.heap.size+1+1+1,0,none⟩ (.int .i64 0)).setCell ⟨w.heap.size+1+1+1,1,none⟩ (.int .i64 0)).setCell ⟨w.heap.size+1+1+1,2,none⟩ (.slice none 0 0)).setCell ⟨w.heap.size+1+1+1+1,0,none⟩ (.int .i64 st)).setCell ⟨w.heap.size+1+1+1+1,1,none⟩ (.int .i64 id)).setCell ⟨w.heap.size+1+1+1+1,2,none⟩ (.int .i64 req)).setCell ⟨w.heap.size+1+1+1+1,3,none⟩ (.slice A4 n4 c4)).setCell ⟨w.heap.size+1+1+1+1,4,none⟩ (.int .i64 cnt)).setCell ⟨w.heap.size+1+1+1+1,5,none⟩ (.int .i64 tim)).setCell ⟨w.heap.size+1+1+1+1,6,none⟩ (.int .i64 nak))).drew:=by rw[hWf,hWc]
       go_wp2_with fail
       rw[←hWf2]
       have HZ7:=hid (H126.out)
       have HZ8:=hid ((show Wc.heap[w.heap.size+1+1+1+1]? =(w6).heap[w.heap.size+1+1+1+1]? by rw[hWc];exact set3_other (by omega) _ _ _).trans (H136.out))
       have hg1:(w6).grownBy Wc (some (w.heap.size+1+1+1)):=by rw[hWc];exact grn
       have hrc0:Wc.heap[w.heap.size+1+1+1]? =some (.cells #[.int .i64 0,.int .i64 0,(.slice none 0 0)] 32 (0,0)):=by rw[hWc];exact row3 HZ7.out rfl _ _ _
       have hrc:Wf.heap[w.heap.size+1+1+1]? =some (.cells #[.int .i64 0,.int .i64 0,(.slice none 0 0)] 32 (0,0)):=by rw[hWf,hdrew,set7_other (by omega)];exact hrc0
       have hra:Wf.heap[w.heap.size+1+1+1+1]? =some (.cells #[.int .i64 st,.int .i64 id,.int .i64 req,(.slice A4 n4 c4),.int .i64 cnt,.int .i64 tim,.int .i64 nak] 29 (0,0)):=by rw[hWf,hdrew];exact row7 HZ8.out rfl _ _ _ _ _ _ _
       have hg2:Wc.grownBy Wf (some (w.heap.size+1+1+1+1)):=by rw[hWf];exact grn
       clear hWf2 hWf hWc
       have hbf:Below w.heap.size w Wf:=Below.grown (Below.grown (HB6.out) hg1 (HB6.out.size) (fun k hk=>by cases hk;omega)) hg2 (Nat.le_trans (HB6.out.size) hg1.size) (fun k hk=>by cases hk;omega)
       obtain⟨u0,u1,u2⟩:=cells3 hrc
       obtain⟨e0,e1,e2,e3,e4,e5,e6⟩:=cells7 hra
       refine bodyPost_ret (v:=.tuple #[.int .i64 10,.agg #[.int .i64 0,.int .i64 0,.slice none 0 0],.agg #[.int .i64 st,.int .i64 id,.int .i64 req,.slice A4 n4 c4,.int .i64 cnt,.int .i64 tim,.int .i64 nak],.bool true]) (by simp[results,Tryz.results63,go_sem,u0,u1,u2,e0,e1,e2,e3,e4,e5,e6]) rfl ?_
       exact⟨none,0,0,A4,n4,c4,rfl,hbf,BytesO.nil _ _,(fun _=>OptsR.base (OptsR.other (OptsR.other (OptsR.other (OptsR.below (⟨E4,by rw[←HN4.out];exact(HNEW.out (by trivial)).1,fun e he=>⟨(((HNEW.out (by trivial)).2 e he).1.keep HB34.out).more hs34,((HNEW.out (by trivial)).2 e he).2⟩,HE4.out⟩:OptsR w4 w3.heap.size (.slice A4 n4 c4) nx) HB45.out) HG6.out H75.out (no_bytes7 _ _ _ _ _ _ _ _ _) (by decide)) hg1 HZ7.out (no_bytes3 _ _ _ _ _) (by decide)) hg2 HZ8.out (no_bytes7 _ _ _ _ _ _ _ _ _) (by decide)) (Nat.le_trans hszW hs3)),fun h=>absurd rfl h⟩
     ·have h5':(ee==0)=false:=by simpa using h5
      rw[if_neg (fun h=>h5 h.2)]
      clear h5
      go_enter Tryz.func63,Tryz.ntmps63
      go_upto_region 2 with(fail)
      refine boxes6 ?_
      rintro W2 ⟨h6,h7,h8,h12,h13,h15,hbw⟩
      have HBW:=hid hbw
      have H6:=hid h6
      have H7:=hid h7
      have H8:=hid h8
      have H12:=hid h12
      have H13:=hid h13
      have H15:=hid h15
      have hszW:=hbw.size
      have l6:=lt_blk h6
      have l7:=lt_blk h7
      have l8:=lt_blk h8
      have l12:=lt_blk h12
      have l13:=lt_blk h13
      have l15:=lt_blk h15
      obtain⟨p0,p1,p2,p3,p4⟩:=cells5 h6
      obtain⟨q0,q1,q2,q3,q4,q5,q6⟩:=cells7 h7
      obtain⟨r0,r1,r2⟩:=cells3 h8
      obtain⟨z0,z1,z2⟩:=cells3 h15
      obtain⟨s0,s1,s2⟩:=cells3 h12
      obtain⟨m0,m1,m2,m3,m4,m5,m6⟩:=cells7 h13
      have f0:=frees h12 0
      have f1:=frees h12 1
      have f2:=frees h12 2
      have g0:=frees h13 0
      have g1:=frees h13 1
      have g2:=frees h13 2
      have g3:=frees h13 3
      have g4:=frees h13 4
      have g5:=frees h13 5
      have g6:=frees h13 6
      have k3:=frees h7 3
      clear h6 h7 h8 h12 h13 h15 hbw
      go_wp2_with fail
      refine(Op.rdec_any Ai ni ci li _ B (by have:=HB.out;omega) (HI.out.keep (HBW.out.mono HB.out)) HNI.out hci).mono ?_
      rintro x w3 hd
      obtain⟨E3,A3,n3,c3,rfl,hb3,ho3,he3,hn3,hc3,hl3,hsd3⟩:=DecP.get hd HDR.out
      have HO3:=hid ho3
      have HE3:=hid he3
      have HN3:=hid hn3
      have HS3:=hid hsd3
      have HB3:=hid (show Below W2.heap.size W2 w3 from hb3)
      have hs3:=HB3.out.size
      have H73:=hid ((HB3.out.block _ l7).trans H7.out)
      have H83:=hid ((HB3.out.block _ l8).trans H8.out)
      have H123:=hid ((HB3.out.block _ l12).trans H12.out)
      have H133:=hid ((HB3.out.block _ l13).trans H13.out)
      have H153:=hid ((HB3.out.block _ l15).trans H15.out)
      clear p0 p1 p2 p3 p4 q0 q1 q2 q3 q4 q5 q6 r0 r1 r2 z0 z1 z2 s0 s1 s2 m0 m1 m2 m3 m4 m5 m6 f0 f1 f2 g0 g1 g2 g3 g4 g5 g6 k3
      have cp0:=(cells5 ((HB3.out.block _ l6).trans H6.out)).1
      have cp3:=(cells5 ((HB3.out.block _ l6).trans H6.out)).2.2.2.1
      have l6x:w.heap.size<w3.heap.size:=by omega
      obtain⟨⟨l7x,l8x,l12x,l13x,l15x⟩,⟨q0,q1,q2,q3,q4,q5,q6⟩,⟨r0,r1,r2⟩,⟨z0,z1,z2⟩,⟨s0,s1,s2⟩,⟨m0,m1,m2,m3,m4,m5,m6⟩,⟨f0,f1,f2⟩,⟨g0,g1,g2,g3,g4,g5,g6⟩,k3⟩:=cellsR H73.out H83.out H123.out H133.out H153.out
      clear hd hb3 ho3 he3 hn3 hsd3
      go_wp2_with fail
      refine(rlearn2_any Aa A3 na n3 ca c3 ic E E3 _ w3.heap.size (Nat.le_refl _) ((HE.out.keep ((HBW.out.trans (HB3.out.mono hszW)).mono HB.out)).more (by have:=HB.out;omega)) HO3.out.at HNA.out HN3.out hca hla (by first|omega|(have:=HIC.out;omega))).mono ?_
      rw[HL.out,HE3.out,HLN.out]
      rintro x w4 ⟨E4,A4,n4,c4,rfl,he4,hn4,hc4,hb4,hat4,hnew⟩
      have HA4:=hid hat4
      have HE4:=hid he4
      have HN4:=hid hn4
      have HNEW:=hid hnew
      have HB34:=hid hb4
      clear cp0 cp3 l6x l7x l8x l12x l13x l15x
      clear q0 q1 q2 q3 q4 q5 q6 r0 r1 r2 z0 z1 z2 s0 s1 s2 m0 m1 m2 m3 m4 m5 m6 f0 f1 f2 g0 g1 g2 g3 g4 g5 g6 k3
      have HB4:=hid (HB3.out.trans (hb4.mono hs3))
      have hs4:=HB4.out.size
      have hs34:=hb4.size
      clear hb4 hat4 he4 hn4 hnew
      go_wp2_with fail
      refine(Op.renc_any A4 n4 c4 E4 _ _ (Nat.le_refl _) HA4.out HN4.out).mono ?_
      rw[HE4.out]
      rintro x w5 he
      obtain⟨A5,c5,rfl,hb5,ho5,hc5⟩:=EncP.get he HEN.out HNB.out
      have HB45:=hid hb5
      have HB5:=hid (show Below W2.heap.size W2 w5 from HB4.out.trans (hb5.mono hs4))
      have hs5:=HB5.out.size
      have H75:=hid ((HB5.out.block _ l7).trans H7.out)
      have H85:=hid ((HB5.out.block _ l8).trans H8.out)
      have H125:=hid ((HB5.out.block _ l12).trans H12.out)
      have H135:=hid ((HB5.out.block _ l13).trans H13.out)
      have H155:=hid ((HB5.out.block _ l15).trans H15.out)
      have hs45:=hb5.size
      clear he hb5 ho5
      obtain⟨⟨l7x,l8x,l12x,l13x,l15x⟩,⟨q0,q1,q2,q3,q4,q5,q6⟩,⟨r0,r1,r2⟩,⟨z0,z1,z2⟩,⟨s0,s1,s2⟩,⟨m0,m1,m2,m3,m4,m5,m6⟩,⟨f0,f1,f2⟩,⟨g0,g1,g2,g3,g4,g5,g6⟩,k3⟩:=cellsR H75.out H85.out H125.out H135.out H155.out
      go_upto_region 29 with(fail)
      refine wp_w (fun W=>W.heap[w.heap.size+1]? =some (.cells #[.int .i64 st,.int .i64 id,.int .i64 req,.slice A4 n4 c4,.int .i64 cnt,.int .i64 tim,.int .i64 nak] 29 (0,0))∧w5.grownBy W (some (w.heap.size+1))) ⟨heap_setCell_same _ _ 3 _ _ _ H75.out,grn⟩ ?_
      clear l7x l8x l12x l13x l15x
      clear q0 q1 q2 q3 q4 q5 q6 r0 r1 r2 z0 z1 z2 s0 s1 s2 m0 m1 m2 m3 m4 m5 m6 f0 f1 f2 g0 g1 g2 g3 g4 g5 g6 k3
      rintro w6 ⟨h76,hg6⟩
      have H76:=hid h76
      have HG6:=hid hg6
      have HB6:=hid (show Below w.heap.size w w6 from Below.grown (HBW.out.trans (HB5.out.mono hszW)) hg6 (Nat.le_trans hszW hs5) (fun k hk=>by cases hk;omega))
      have hs6:=hg6.size
      have H86:=hid ((hg6.block _ (lt_blk H85.out) (by simp;try omega)).trans H85.out)
      have H126:=hid ((hg6.block _ (lt_blk H125.out) (by simp;try omega)).trans H125.out)
      have H136:=hid ((hg6.block _ (lt_blk H135.out) (by simp;try omega)).trans H135.out)
      have H156:=hid ((hg6.block _ (lt_blk H155.out) (by simp;try omega)).trans H155.out)
      clear h76 hg6
      obtain⟨⟨l7x,l8x,l12x,l13x,l15x⟩,⟨q0,q1,q2,q3,q4,q5,q6⟩,⟨r0,r1,r2⟩,⟨z0,z1,z2⟩,⟨s0,s1,s2⟩,⟨m0,m1,m2,m3,m4,m5,m6⟩,⟨f0,f1,f2⟩,⟨g0,g1,g2,g3,g4,g5,g6⟩,k3⟩:=cellsR H76.out H86.out H126.out H136.out H156.out
      go_wp2_with fail
      go_region
      all_goals
       clear l7x l8x l12x l13x l15x
       clear q0 q1 q2 q3 q4 q5 q6 r0 r1 r2 z0 z1 z2 s0 s1 s2 m0 m1 m2 m3 m4 m5 m6 f0 f1 f2 g0 g1 g2 g3 g4 g5 g6 k3
       obtain⟨Wc,hWc⟩: ∃Wc:World,Wc=(((w6.setCell ⟨w.heap.size+1+1+1,0,none⟩ (.int .i64 0)).setCell ⟨w.heap.size+1+1+1,1,none⟩ (.int .i64 0)).setCell ⟨w.heap.size+1+1+1,2,none⟩ (.slice none 0 0)):=⟨_,rfl⟩
       obtain⟨Wf,hWf⟩: ∃Wf:World,Wf=((((((((Wc.setCell ⟨w.heap.size+1+1+1+1,0,none⟩ (.int .i64 st)).setCell ⟨w.heap.size+1+1+1+1,1,none⟩ (.int .i64 id)).setCell ⟨w.heap.size+1+1+1+1,2,none⟩ (.int .i64 req)).setCell ⟨w.heap.size+1+1+1+1,3,none⟩ (.slice A4 n4 c4)).setCell ⟨w.heap.size+1+1+1+1,4,none⟩ (.int .i64 cnt)).setCell ⟨w.heap.size+1+1+1+1,5,none⟩ (.int .i64 tim)).setCell ⟨w.heap.size+1+1+1+1,6,none⟩ (.int .i64 nak))).drew:=⟨_,rfl⟩
       have hWf2:Wf=(((((((((((w6.setCell ⟨w.heap.size+1+1+1,0,none⟩ (.int .i64 0)).setCell ⟨w.heap.size+1+1+1,1,none⟩ (.int .i64 0)).setCell ⟨w.heap.size+1+1+1,2,none⟩ (.slice none 0 0)).setCell ⟨w.heap.size+1+1+1+1,0,none⟩ (.int .i64 st)).setCell ⟨w.heap.size+1+1+1+1,1,none⟩ (.int .i64 id)).setCell ⟨w.heap.size+1+1+1+1,2,none⟩ (.int .i64 req)).setCell ⟨w.heap.size+1+1+1+1,3,none⟩ (.slice A4 n4 c4)).setCell ⟨w.heap.size+1+1+1+1,4,none⟩ (.int .i64 cnt)).setCell ⟨w.heap.size+1+1+1+1,5,none⟩ (.int .i64 tim)).setCell ⟨w.heap.size+1+1+1+1,6,none⟩ (.int .i64 nak))).drew:=by rw[hWf,hWc]
       go_wp2_with fail
       rw[←hWf2]
       have HZ7:=hid (H126.out)
       have HZ8:=hid ((show Wc.heap[w.heap.size+1+1+1+1]? =(w6).heap[w.heap.size+1+1+1+1]? by rw[hWc];exact set3_other (by omega) _ _ _).trans (H136.out))
       have hg1:(w6).grownBy Wc (some (w.heap.size+1+1+1)):=by rw[hWc];exact grn
       have hrc0:Wc.heap[w.heap.size+1+1+1]? =some (.cells #[.int .i64 0,.int .i64 0,(.slice none 0 0)] 32 (0,0)):=by rw[hWc];exact row3 HZ7.out rfl _ _ _
       have hrc:Wf.heap[w.heap.size+1+1+1]? =some (.cells #[.int .i64 0,.int .i64 0,(.slice none 0 0)] 32 (0,0)):=by rw[hWf,hdrew,set7_other (by omega)];exact hrc0
       have hra:Wf.heap[w.heap.size+1+1+1+1]? =some (.cells #[.int .i64 st,.int .i64 id,.int .i64 req,(.slice A4 n4 c4),.int .i64 cnt,.int .i64 tim,.int .i64 nak] 29 (0,0)):=by rw[hWf,hdrew];exact row7 HZ8.out rfl _ _ _ _ _ _ _
       have hg2:Wc.grownBy Wf (some (w.heap.size+1+1+1+1)):=by rw[hWf];exact grn
       clear hWf2 hWf hWc
       have hbf:Below w.heap.size w Wf:=Below.grown (Below.grown (HB6.out) hg1 (HB6.out.size) (fun k hk=>by cases hk;omega)) hg2 (Nat.le_trans (HB6.out.size) hg1.size) (fun k hk=>by cases hk;omega)
       obtain⟨u0,u1,u2⟩:=cells3 hrc
       obtain⟨e0,e1,e2,e3,e4,e5,e6⟩:=cells7 hra
       refine bodyPost_ret (v:=.tuple #[.int .i64 10,.agg #[.int .i64 0,.int .i64 0,.slice none 0 0],.agg #[.int .i64 st,.int .i64 id,.int .i64 req,.slice A4 n4 c4,.int .i64 cnt,.int .i64 tim,.int .i64 nak],.bool false]) (by simp[results,Tryz.results63,go_sem,u0,u1,u2,e0,e1,e2,e3,e4,e5,e6]) rfl ?_
       exact⟨_,_,_,_,_,_,_,_,_,rfl,hbf⟩
   ·have h0':(ye !=0)=true:=by simpa using h0
    have HO0:=hid (show learnedO ⟨st,id,req,L,cnt,tim,nak⟩ ⟨ic,ii,li⟩=none by unfold learnedO;dsimp only;rw[hd];dsimp only;rw[if_pos (.inr h0)])
    rw[HO0.out]
    clear hd h1 h0 HO0
    go_enter Tryz.func63,Tryz.ntmps63
    go_upto_region 2 with(fail)
    refine boxes6 ?_
    rintro W2 ⟨h6,h7,h8,h12,h13,h15,hbw⟩
    have HBW:=hid hbw
    have H6:=hid h6
    have H7:=hid h7
    have H8:=hid h8
    have H12:=hid h12
    have H13:=hid h13
    have H15:=hid h15
    have hszW:=hbw.size
    have l6:=lt_blk h6
    have l7:=lt_blk h7
    have l8:=lt_blk h8
    have l12:=lt_blk h12
    have l13:=lt_blk h13
    have l15:=lt_blk h15
    obtain⟨p0,p1,p2,p3,p4⟩:=cells5 h6
    obtain⟨q0,q1,q2,q3,q4,q5,q6⟩:=cells7 h7
    obtain⟨r0,r1,r2⟩:=cells3 h8
    obtain⟨z0,z1,z2⟩:=cells3 h15
    obtain⟨s0,s1,s2⟩:=cells3 h12
    obtain⟨m0,m1,m2,m3,m4,m5,m6⟩:=cells7 h13
    have f0:=frees h12 0
    have f1:=frees h12 1
    have f2:=frees h12 2
    have g0:=frees h13 0
    have g1:=frees h13 1
    have g2:=frees h13 2
    have g3:=frees h13 3
    have g4:=frees h13 4
    have g5:=frees h13 5
    have g6:=frees h13 6
    have k3:=frees h7 3
    clear h6 h7 h8 h12 h13 h15 hbw
    go_wp2_with fail
    refine(Op.rdec_any Ai ni ci li _ B (by have:=HB.out;omega) (HI.out.keep (HBW.out.mono HB.out)) HNI.out hci).mono ?_
    rintro x w3 hd
    obtain⟨E3,A3,n3,c3,rfl,hb3,ho3,he3,hn3,hc3,hl3,hsd3⟩:=DecP.get hd HDR.out
    have HO3:=hid ho3
    have HE3:=hid he3
    have HN3:=hid hn3
    have HS3:=hid hsd3
    have HB3:=hid (show Below W2.heap.size W2 w3 from hb3)
    have hs3:=HB3.out.size
    have H73:=hid ((HB3.out.block _ l7).trans H7.out)
    have H83:=hid ((HB3.out.block _ l8).trans H8.out)
    have H123:=hid ((HB3.out.block _ l12).trans H12.out)
    have H133:=hid ((HB3.out.block _ l13).trans H13.out)
    have H153:=hid ((HB3.out.block _ l15).trans H15.out)
    clear p0 p1 p2 p3 p4 q0 q1 q2 q3 q4 q5 q6 r0 r1 r2 z0 z1 z2 s0 s1 s2 m0 m1 m2 m3 m4 m5 m6 f0 f1 f2 g0 g1 g2 g3 g4 g5 g6 k3
    have cp0:=(cells5 ((HB3.out.block _ l6).trans H6.out)).1
    have cp3:=(cells5 ((HB3.out.block _ l6).trans H6.out)).2.2.2.1
    have l6x:w.heap.size<w3.heap.size:=by omega
    obtain⟨⟨l7x,l8x,l12x,l13x,l15x⟩,⟨q0,q1,q2,q3,q4,q5,q6⟩,⟨r0,r1,r2⟩,⟨z0,z1,z2⟩,⟨s0,s1,s2⟩,⟨m0,m1,m2,m3,m4,m5,m6⟩,⟨f0,f1,f2⟩,⟨g0,g1,g2,g3,g4,g5,g6⟩,k3⟩:=cellsR H73.out H83.out H123.out H133.out H153.out
    clear hd hb3 ho3 he3 hn3 hsd3
    go_wp2_with fail
    go_region_held3 (fun w'=>w'.cell? ⟨w.heap.size+1+1+1+1+1,0,none⟩=some (.int .i64 0)∧w'.cell? ⟨w.heap.size+1+1+1+1+1,1,none⟩=some (.int .i64 0)∧w'.cell? ⟨w.heap.size+1+1+1+1+1,2,none⟩=some (.slice none 0 0)∧w'.cell? ⟨w.heap.size+1,0,none⟩=some (.int .i64 st)∧w'.cell? ⟨w.heap.size+1,1,none⟩=some (.int .i64 id)∧w'.cell? ⟨w.heap.size+1,2,none⟩=some (.int .i64 req)∧w'.cell? ⟨w.heap.size+1,3,none⟩=some (.slice Aa na ca)∧w'.cell? ⟨w.heap.size+1,4,none⟩=some (.int .i64 cnt)∧w'.cell? ⟨w.heap.size+1,5,none⟩=some (.int .i64 tim)∧w'.cell? ⟨w.heap.size+1,6,none⟩=some (.int .i64 nak)) (first|(go_keep;done)|(go_simp;done)|(simp[go_sem];done)) (fail)
    all_goals
     clear q0 q1 q2 q3 q4 q5 q6 r0 r1 r2 z0 z1 z2 s0 s1 s2 m0 m1 m2 m3 m4 m5 m6 f0 f1 f2 g0 g1 g2 g3 g4 g5 g6 k3
     obtain⟨Wc,hWc⟩: ∃Wc:World,Wc=(((w3.setCell ⟨w.heap.size+1+1+1,0,none⟩ (.int .i64 0)).setCell ⟨w.heap.size+1+1+1,1,none⟩ (.int .i64 0)).setCell ⟨w.heap.size+1+1+1,2,none⟩ (.slice none 0 0)):=⟨_,rfl⟩
     obtain⟨Wf,hWf⟩: ∃Wf:World,Wf=((((((((Wc.setCell ⟨w.heap.size+1+1+1+1,0,none⟩ (.int .i64 st)).setCell ⟨w.heap.size+1+1+1+1,1,none⟩ (.int .i64 id)).setCell ⟨w.heap.size+1+1+1+1,2,none⟩ (.int .i64 req)).setCell ⟨w.heap.size+1+1+1+1,3,none⟩ (.slice Aa na ca)).setCell ⟨w.heap.size+1+1+1+1,4,none⟩ (.int .i64 cnt)).setCell ⟨w.heap.size+1+1+1+1,5,none⟩ (.int .i64 tim)).setCell ⟨w.heap.size+1+1+1+1,6,none⟩ (.int .i64 nak))).drew:=⟨_,rfl⟩
     have hWf2:Wf=(((((((((((w3.setCell ⟨w.heap.size+1+1+1,0,none⟩ (.int .i64 0)).setCell ⟨w.heap.size+1+1+1,1,none⟩ (.int .i64 0)).setCell ⟨w.heap.size+1+1+1,2,none⟩ (.slice none 0 0)).setCell ⟨w.heap.size+1+1+1+1,0,none⟩ (.int .i64 st)).setCell ⟨w.heap.size+1+1+1+1,1,none⟩ (.int .i64 id)).setCell ⟨w.heap.size+1+1+1+1,2,none⟩ (.int .i64 req)).setCell ⟨w.heap.size+1+1+1+1,3,none⟩ (.slice Aa na ca)).setCell ⟨w.heap.size+1+1+1+1,4,none⟩ (.int .i64 cnt)).setCell ⟨w.heap.size+1+1+1+1,5,none⟩ (.int .i64 tim)).setCell ⟨w.heap.size+1+1+1+1,6,none⟩ (.int .i64 nak))).drew:=by rw[hWf,hWc]
     go_wp2_with fail
     rw[←hWf2]
     have HZ7:=hid (H123.out)
     have HZ8:=hid ((show Wc.heap[w.heap.size+1+1+1+1]? =(w3).heap[w.heap.size+1+1+1+1]? by rw[hWc];exact set3_other (by omega) _ _ _).trans (H133.out))
     have hg1:(w3).grownBy Wc (some (w.heap.size+1+1+1)):=by rw[hWc];exact grn
     have hrc0:Wc.heap[w.heap.size+1+1+1]? =some (.cells #[.int .i64 0,.int .i64 0,(.slice none 0 0)] 32 (0,0)):=by rw[hWc];exact row3 HZ7.out rfl _ _ _
     have hrc:Wf.heap[w.heap.size+1+1+1]? =some (.cells #[.int .i64 0,.int .i64 0,(.slice none 0 0)] 32 (0,0)):=by rw[hWf,hdrew,set7_other (by omega)];exact hrc0
     have hra:Wf.heap[w.heap.size+1+1+1+1]? =some (.cells #[.int .i64 st,.int .i64 id,.int .i64 req,(.slice Aa na ca),.int .i64 cnt,.int .i64 tim,.int .i64 nak] 29 (0,0)):=by rw[hWf,hdrew];exact row7 HZ8.out rfl _ _ _ _ _ _ _
     have hg2:Wc.grownBy Wf (some (w.heap.size+1+1+1+1)):=by rw[hWf];exact grn
     clear hWf2 hWf hWc
     have hbf:Below w.heap.size w Wf:=Below.grown (Below.grown (HBW.out.trans (HB3.out.mono hszW)) hg1 (Nat.le_trans hszW hs3) (fun k hk=>by cases hk;omega)) hg2 (Nat.le_trans (Nat.le_trans hszW hs3) hg1.size) (fun k hk=>by cases hk;omega)
     obtain⟨u0,u1,u2⟩:=cells3 hrc
     obtain⟨e0,e1,e2,e3,e4,e5,e6⟩:=cells7 hra
     refine bodyPost_ret (v:=.tuple #[.int .i64 0,.agg #[.int .i64 0,.int .i64 0,.slice none 0 0],.agg #[.int .i64 st,.int .i64 id,.int .i64 req,.slice Aa na ca,.int .i64 cnt,.int .i64 tim,.int .i64 nak],.bool false]) (by simp[results,Tryz.results63,go_sem,u0,u1,u2,e0,e1,e2,e3,e4,e5,e6]) rfl ?_
     exact⟨_,_,_,_,_,_,_,_,_,rfl,hbf⟩
  ·have h1':(ii !=req)=true:=by simpa using h1
   have HO0:=hid (show learnedO ⟨st,id,req,L,cnt,tim,nak⟩ ⟨ic,ii,li⟩=none by unfold learnedO;rw[if_pos (.inl h1)])
   rw[HO0.out]
   clear hd h1 HO0
   go_enter Tryz.func63,Tryz.ntmps63
   go_upto_region 2 with(fail)
   refine boxes6 ?_
   rintro W2 ⟨h6,h7,h8,h12,h13,h15,hbw⟩
   have HBW:=hid hbw
   have H6:=hid h6
   have H7:=hid h7
   have H8:=hid h8
   have H12:=hid h12
   have H13:=hid h13
   have H15:=hid h15
   have hszW:=hbw.size
   have l6:=lt_blk h6
   have l7:=lt_blk h7
   have l8:=lt_blk h8
   have l12:=lt_blk h12
   have l13:=lt_blk h13
   have l15:=lt_blk h15
   obtain⟨p0,p1,p2,p3,p4⟩:=cells5 h6
   obtain⟨q0,q1,q2,q3,q4,q5,q6⟩:=cells7 h7
   obtain⟨r0,r1,r2⟩:=cells3 h8
   obtain⟨z0,z1,z2⟩:=cells3 h15
   obtain⟨s0,s1,s2⟩:=cells3 h12
   obtain⟨m0,m1,m2,m3,m4,m5,m6⟩:=cells7 h13
   have f0:=frees h12 0
   have f1:=frees h12 1
   have f2:=frees h12 2
   have g0:=frees h13 0
   have g1:=frees h13 1
   have g2:=frees h13 2
   have g3:=frees h13 3
   have g4:=frees h13 4
   have g5:=frees h13 5
   have g6:=frees h13 6
   have k3:=frees h7 3
   clear h6 h7 h8 h12 h13 h15 hbw
   go_wp2_with fail
   refine(Op.rdec_any Ai ni ci li _ B (by have:=HB.out;omega) (HI.out.keep (HBW.out.mono HB.out)) HNI.out hci).mono ?_
   rintro x w3 hd
   obtain⟨E3,A3,n3,c3,rfl,hb3,ho3,he3,hn3,hc3,hl3,hsd3⟩:=DecP.get hd HDR.out
   have HO3:=hid ho3
   have HE3:=hid he3
   have HN3:=hid hn3
   have HS3:=hid hsd3
   have HB3:=hid (show Below W2.heap.size W2 w3 from hb3)
   have hs3:=HB3.out.size
   have H73:=hid ((HB3.out.block _ l7).trans H7.out)
   have H83:=hid ((HB3.out.block _ l8).trans H8.out)
   have H123:=hid ((HB3.out.block _ l12).trans H12.out)
   have H133:=hid ((HB3.out.block _ l13).trans H13.out)
   have H153:=hid ((HB3.out.block _ l15).trans H15.out)
   clear p0 p1 p2 p3 p4 q0 q1 q2 q3 q4 q5 q6 r0 r1 r2 z0 z1 z2 s0 s1 s2 m0 m1 m2 m3 m4 m5 m6 f0 f1 f2 g0 g1 g2 g3 g4 g5 g6 k3
   have cp0:=(cells5 ((HB3.out.block _ l6).trans H6.out)).1
   have cp3:=(cells5 ((HB3.out.block _ l6).trans H6.out)).2.2.2.1
   have l6x:w.heap.size<w3.heap.size:=by omega
   obtain⟨⟨l7x,l8x,l12x,l13x,l15x⟩,⟨q0,q1,q2,q3,q4,q5,q6⟩,⟨r0,r1,r2⟩,⟨z0,z1,z2⟩,⟨s0,s1,s2⟩,⟨m0,m1,m2,m3,m4,m5,m6⟩,⟨f0,f1,f2⟩,⟨g0,g1,g2,g3,g4,g5,g6⟩,k3⟩:=cellsR H73.out H83.out H123.out H133.out H153.out
   clear hd hb3 ho3 he3 hn3 hsd3
   go_wp2_with fail
   go_region_held3 (fun w'=>w'.cell? ⟨w.heap.size+1+1+1+1+1,0,none⟩=some (.int .i64 0)∧w'.cell? ⟨w.heap.size+1+1+1+1+1,1,none⟩=some (.int .i64 0)∧w'.cell? ⟨w.heap.size+1+1+1+1+1,2,none⟩=some (.slice none 0 0)∧w'.cell? ⟨w.heap.size+1,0,none⟩=some (.int .i64 st)∧w'.cell? ⟨w.heap.size+1,1,none⟩=some (.int .i64 id)∧w'.cell? ⟨w.heap.size+1,2,none⟩=some (.int .i64 req)∧w'.cell? ⟨w.heap.size+1,3,none⟩=some (.slice Aa na ca)∧w'.cell? ⟨w.heap.size+1,4,none⟩=some (.int .i64 cnt)∧w'.cell? ⟨w.heap.size+1,5,none⟩=some (.int .i64 tim)∧w'.cell? ⟨w.heap.size+1,6,none⟩=some (.int .i64 nak)) (first|(go_keep;done)|(go_simp;done)|(simp[go_sem];done)) (fail)
   all_goals
    clear q0 q1 q2 q3 q4 q5 q6 r0 r1 r2 z0 z1 z2 s0 s1 s2 m0 m1 m2 m3 m4 m5 m6 f0 f1 f2 g0 g1 g2 g3 g4 g5 g6 k3
    obtain⟨Wc,hWc⟩: ∃Wc:World,Wc=(((w3.setCell ⟨w.heap.size+1+1+1,0,none⟩ (.int .i64 0)).setCell ⟨w.heap.size+1+1+1,1,none⟩ (.int .i64 0)).setCell ⟨w.heap.size+1+1+1,2,none⟩ (.slice none 0 0)):=⟨_,rfl⟩
    obtain⟨Wf,hWf⟩: ∃Wf:World,Wf=((((((((Wc.setCell ⟨w.heap.size+1+1+1+1,0,none⟩ (.int .i64 st)).setCell ⟨w.heap.size+1+1+1+1,1,none⟩ (.int .i64 id)).setCell ⟨w.heap.size+1+1+1+1,2,none⟩ (.int .i64 req)).setCell ⟨w.heap.size+1+1+1+1,3,none⟩ (.slice Aa na ca)).setCell ⟨w.heap.size+1+1+1+1,4,none⟩ (.int .i64 cnt)).setCell ⟨w.heap.size+1+1+1+1,5,none⟩ (.int .i64 tim)).setCell ⟨w.heap.size+1+1+1+1,6,none⟩ (.int .i64 nak))).drew:=⟨_,rfl⟩
    have hWf2:Wf=(((((((((((w3.setCell ⟨w.heap.size+1+1+1,0,none⟩ (.int .i64 0)).setCell ⟨w.heap.size+1+1+1,1,none⟩ (.int .i64 0)).setCell ⟨w.heap.size+1+1+1,2,none⟩ (.slice none 0 0)).setCell ⟨w.heap.size+1+1+1+1,0,none⟩ (.int .i64 st)).setCell ⟨w.heap.size+1+1+1+1,1,none⟩ (.int .i64 id)).setCell ⟨w.heap.size+1+1+1+1,2,none⟩ (.int .i64 req)).setCell ⟨w.heap.size+1+1+1+1,3,none⟩ (.slice Aa na ca)).setCell ⟨w.heap.size+1+1+1+1,4,none⟩ (.int .i64 cnt)).setCell ⟨w.heap.size+1+1+1+1,5,none⟩ (.int .i64 tim)).setCell ⟨w.heap.size+1+1+1+1,6,none⟩ (.int .i64 nak))).drew:=by rw[hWf,hWc]
    go_wp2_with fail
    rw[←hWf2]
    have HZ7:=hid (H123.out)
    have HZ8:=hid ((show Wc.heap[w.heap.size+1+1+1+1]? =(w3).heap[w.heap.size+1+1+1+1]? by rw[hWc];exact set3_other (by omega) _ _ _).trans (H133.out))
    have hg1:(w3).grownBy Wc (some (w.heap.size+1+1+1)):=by rw[hWc];exact grn
    have hrc0:Wc.heap[w.heap.size+1+1+1]? =some (.cells #[.int .i64 0,.int .i64 0,(.slice none 0 0)] 32 (0,0)):=by rw[hWc];exact row3 HZ7.out rfl _ _ _
    have hrc:Wf.heap[w.heap.size+1+1+1]? =some (.cells #[.int .i64 0,.int .i64 0,(.slice none 0 0)] 32 (0,0)):=by rw[hWf,hdrew,set7_other (by omega)];exact hrc0
    have hra:Wf.heap[w.heap.size+1+1+1+1]? =some (.cells #[.int .i64 st,.int .i64 id,.int .i64 req,(.slice Aa na ca),.int .i64 cnt,.int .i64 tim,.int .i64 nak] 29 (0,0)):=by rw[hWf,hdrew];exact row7 HZ8.out rfl _ _ _ _ _ _ _
    have hg2:Wc.grownBy Wf (some (w.heap.size+1+1+1+1)):=by rw[hWf];exact grn
    clear hWf2 hWf hWc
    have hbf:Below w.heap.size w Wf:=Below.grown (Below.grown (HBW.out.trans (HB3.out.mono hszW)) hg1 (Nat.le_trans hszW hs3) (fun k hk=>by cases hk;omega)) hg2 (Nat.le_trans (Nat.le_trans hszW hs3) hg1.size) (fun k hk=>by cases hk;omega)
    obtain⟨u0,u1,u2⟩:=cells3 hrc
    obtain⟨e0,e1,e2,e3,e4,e5,e6⟩:=cells7 hra
    refine bodyPost_ret (v:=.tuple #[.int .i64 0,.agg #[.int .i64 0,.int .i64 0,.slice none 0 0],.agg #[.int .i64 st,.int .i64 id,.int .i64 req,.slice Aa na ca,.int .i64 cnt,.int .i64 tim,.int .i64 nak],.bool false]) (by simp[results,Tryz.results63,go_sem,u0,u1,u2,e0,e1,e2,e3,e4,e5,e6]) rfl ?_
    exact⟨_,_,_,_,_,_,_,_,_,rfl,hbf⟩
end Go.Proofs.YtfkgmbknfnhjoaaGreat
