/- Bundle PO. -/
import Derived.Test.YtfkgmbknfnhjoaaGreatRPM
set_option maxHeartbeats 8000000
namespace Go.Proofs.YtfkgmbknfnhjoaaGreat
open Lib (hid)
open Go.RowKit
set_option linter.unusedSimpArgs false
set_option linter.unusedVariables false
set_option linter.ambiguousOpen false
open Ne (Rl Opt RulesAt areB answerO learnO)
open Fs (av hasB)
set_option maxRecDepth 100000 in
theorem rwhich_7 (Ar Aa Ai:Option Addr) (nr cr na ca ni ci:Nat) (R:List Rl) (mc mt mf wt st id req cnt tim nak ii:Int) (E:List Ent) (li:List UInt8) (w:World) (B:Nat) (hB:B≤w.heap.size) (hR:RulesAt w B Ar R) (hnr:nr=R.length) (hlr:nr≤1000000) (hE:OptsAt w B Aa E) (hna:na=E.length) (hca:na≤ca) (hla:na≤1000000) (hI:At w B Ai (li.map bv)) (hni:ni=li.length) (hci:ni≤ci):Calls Tryz.prog 63 #[.agg #[.slice Ar nr cr,.int .i64 mc,.int .i64 mt,.int .i64 mf,.int .i64 wt],.agg #[.int .i64 st,.int .i64 id,.int .i64 req,.slice Aa na ca,.int .i64 cnt,.int .i64 tim,.int .i64 nak],.agg #[.int .i64 7,.int .i64 ii,.slice Ai ni ci]] w (RWhichP (whichO ⟨R,mc,mt,mf,wt⟩ ⟨st,id,req,E.map Ent.o,cnt,tim,nak⟩ ⟨7,ii,li⟩) ⟨st,id,req,E.map Ent.o,cnt,tim,nak⟩ (.slice Aa na ca) w):=by
 have HB:=hid hB
 have HR:=hid hR
 have HNR:=hid hnr
 have HE:=hid hE
 have HNA:=hid hna
 have HI:=hid hI
 have HNI:=hid hni
 obtain⟨L,hL⟩: ∃L,E.map Ent.o=L:=⟨_,rfl⟩
 have HL:=hid hL
 rw[hL]
 clear hB hR hnr hE hna hL hI hni
 by_cases hl:li=[]
 ·have e0:((ni:Int)==0)=true:=by have:=HNI.out;rw[hl] at this;simp at this;simp[this]
  have HO:=hid (show whichO ⟨R,mc,mt,mf,wt⟩ ⟨st,id,req,L,cnt,tim,nak⟩ ⟨7,ii,li⟩=none by rw[hl];rfl)
  rw[HO.out]
  clear hl
  go_enter Tryz.func63,Tryz.ntmps63
  go_upto_region 2 with(fail)
  refine boxes6 ?_
  rintro W2 ⟨h6,h7,h8,h12,h13,h15,hbw⟩
  have HBW:=hid hbw
  have H6:=hid h6
  have H7:=hid h7
  have H8:=hid h8
  have H12:=hid h12
  have H13:=hid h13
  have H15:=hid h15
  have hszW:=hbw.size
  have l6:=lt_blk h6
  have l7:=lt_blk h7
  have l8:=lt_blk h8
  have l12:=lt_blk h12
  have l13:=lt_blk h13
  have l15:=lt_blk h15
  obtain⟨p0,p1,p2,p3,p4⟩:=cells5 h6
  obtain⟨q0,q1,q2,q3,q4,q5,q6⟩:=cells7 h7
  obtain⟨r0,r1,r2⟩:=cells3 h8
  obtain⟨z0,z1,z2⟩:=cells3 h15
  obtain⟨s0,s1,s2⟩:=cells3 h12
  obtain⟨m0,m1,m2,m3,m4,m5,m6⟩:=cells7 h13
  have f0:=frees h12 0
  have f1:=frees h12 1
  have f2:=frees h12 2
  have g0:=frees h13 0
  have g1:=frees h13 1
  have g2:=frees h13 2
  have g3:=frees h13 3
  have g4:=frees h13 4
  have g5:=frees h13 5
  have g6:=frees h13 6
  have k3:=frees h7 3
  clear h6 h7 h8 h12 h13 h15 hbw
  go_wp2_with fail
  go_region_held3 (fun w'=>w'.cell? ⟨w.heap.size+1+1+1+1+1,0,none⟩=some (.int .i64 0)∧w'.cell? ⟨w.heap.size+1+1+1+1+1,1,none⟩=some (.int .i64 0)∧w'.cell? ⟨w.heap.size+1+1+1+1+1,2,none⟩=some (.slice none 0 0)∧w'.cell? ⟨w.heap.size+1,0,none⟩=some (.int .i64 st)∧w'.cell? ⟨w.heap.size+1,1,none⟩=some (.int .i64 id)∧w'.cell? ⟨w.heap.size+1,2,none⟩=some (.int .i64 req)∧w'.cell? ⟨w.heap.size+1,3,none⟩=some (.slice Aa na ca)∧w'.cell? ⟨w.heap.size+1,4,none⟩=some (.int .i64 cnt)∧w'.cell? ⟨w.heap.size+1,5,none⟩=some (.int .i64 tim)∧w'.cell? ⟨w.heap.size+1,6,none⟩=some (.int .i64 nak)) (first|(go_keep;done)|(go_simp;done)|(simp[go_sem];done)) (fail)
  all_goals
   clear p0 p1 p2 p3 p4 q0 q1 q2 q3 q4 q5 q6 r0 r1 r2 z0 z1 z2 s0 s1 s2 m0 m1 m2 m3 m4 m5 m6 f0 f1 f2 g0 g1 g2 g3 g4 g5 g6 k3
   obtain⟨Wc,hWc⟩: ∃Wc:World,Wc=(((W2.setCell ⟨w.heap.size+1+1+1,0,none⟩ (.int .i64 0)).setCell ⟨w.heap.size+1+1+1,1,none⟩ (.int .i64 0)).setCell ⟨w.heap.size+1+1+1,2,none⟩ (.slice none 0 0)):=⟨_,rfl⟩
   obtain⟨Wf,hWf⟩: ∃Wf:World,Wf=((((((((Wc.setCell ⟨w.heap.size+1+1+1+1,0,none⟩ (.int .i64 st)).setCell ⟨w.heap.size+1+1+1+1,1,none⟩ (.int .i64 id)).setCell ⟨w.heap.size+1+1+1+1,2,none⟩ (.int .i64 req)).setCell ⟨w.heap.size+1+1+1+1,3,none⟩ (.slice Aa na ca)).setCell ⟨w.heap.size+1+1+1+1,4,none⟩ (.int .i64 cnt)).setCell ⟨w.heap.size+1+1+1+1,5,none⟩ (.int .i64 tim)).setCell ⟨w.heap.size+1+1+1+1,6,none⟩ (.int .i64 nak))).drew:=⟨_,rfl⟩
   have hWf2:Wf=(((((((((((W2.setCell ⟨w.heap.size+1+1+1,0,none⟩ (.int .i64 0)).setCell ⟨w.heap.size+1+1+1,1,none⟩ (.int .i64 0)).setCell ⟨w.heap.size+1+1+1,2,none⟩ (.slice none 0 0)).setCell ⟨w.heap.size+1+1+1+1,0,none⟩ (.int .i64 st)).setCell ⟨w.heap.size+1+1+1+1,1,none⟩ (.int .i64 id)).setCell ⟨w.heap.size+1+1+1+1,2,none⟩ (.int .i64 req)).setCell ⟨w.heap.size+1+1+1+1,3,none⟩ (.slice Aa na ca)).setCell ⟨w.heap.size+1+1+1+1,4,none⟩ (.int .i64 cnt)).setCell ⟨w.heap.size+1+1+1+1,5,none⟩ (.int .i64 tim)).setCell ⟨w.heap.size+1+1+1+1,6,none⟩ (.int .i64 nak))).drew:=by rw[hWf,hWc]
   go_wp2_with fail
   rw[←hWf2]
   have HZ7:=hid (H12.out)
   have HZ8:=hid ((show Wc.heap[w.heap.size+1+1+1+1]? =(W2).heap[w.heap.size+1+1+1+1]? by rw[hWc];exact set3_other (by omega) _ _ _).trans (H13.out))
   have hg1:(W2).grownBy Wc (some (w.heap.size+1+1+1)):=by rw[hWc];exact grn
   have hrc0:Wc.heap[w.heap.size+1+1+1]? =some (.cells #[.int .i64 0,.int .i64 0,(.slice none 0 0)] 32 (0,0)):=by rw[hWc];exact row3 HZ7.out rfl _ _ _
   have hrc:Wf.heap[w.heap.size+1+1+1]? =some (.cells #[.int .i64 0,.int .i64 0,(.slice none 0 0)] 32 (0,0)):=by rw[hWf,hdrew,set7_other (by omega)];exact hrc0
   have hra:Wf.heap[w.heap.size+1+1+1+1]? =some (.cells #[.int .i64 st,.int .i64 id,.int .i64 req,(.slice Aa na ca),.int .i64 cnt,.int .i64 tim,.int .i64 nak] 29 (0,0)):=by rw[hWf,hdrew];exact row7 HZ8.out rfl _ _ _ _ _ _ _
   have hg2:Wc.grownBy Wf (some (w.heap.size+1+1+1+1)):=by rw[hWf];exact grn
   clear hWf2 hWf hWc
   have hbf:Below w.heap.size w Wf:=Below.grown (Below.grown (HBW.out) hg1 (hszW) (fun k hk=>by cases hk;omega)) hg2 (Nat.le_trans (hszW) hg1.size) (fun k hk=>by cases hk;omega)
   obtain⟨u0,u1,u2⟩:=cells3 hrc
   obtain⟨e0,e1,e2,e3,e4,e5,e6⟩:=cells7 hra
   refine bodyPost_ret (v:=.tuple #[.int .i64 0,.agg #[.int .i64 0,.int .i64 0,.slice none 0 0],.agg #[.int .i64 st,.int .i64 id,.int .i64 req,.slice Aa na ca,.int .i64 cnt,.int .i64 tim,.int .i64 nak],.bool false]) (by simp[results,Tryz.results63,go_sem,u0,u1,u2,e0,e1,e2,e3,e4,e5,e6]) rfl ?_
   exact⟨_,_,_,_,_,_,_,_,_,rfl,hbf⟩
 ·obtain⟨x,r,hl2⟩:=List.exists_cons_of_ne_nil hl
  obtain⟨b,o,hAi,hbB,hcc⟩:=HI.out.get (by rw[hl2];simp)
  have HX:=hid (hcc 0 (bv x) (by rw[hl2];rfl))
  clear hcc
  obtain⟨xn,hxn⟩: ∃xn:Nat,x.toNat=xn:=⟨_,rfl⟩
  have hbv:bv x=.int .u8 (xn:Int):=by rw[←hxn];rfl
  rw[hbv] at HX
  have jj0:(0:Int)<(ni:Int):=by have:=HNI.out;rw[hl2] at this;simp at this;omega
  have e0:((ni:Int)==0)=false:=by simp;omega
  have HO0:=hid (show whichO ⟨R,mc,mt,mf,wt⟩ ⟨st,id,req,L,cnt,tim,nak⟩ ⟨7,ii,li⟩=if 1≤xn∧xn≤7 then some (15,⟨0,0,[]⟩,L) else some (14,⟨0,0,[]⟩,L) by rw[hl2,←hxn];rfl)
  rw[HO0.out]
  have HAI:=hid hAi
  clear HO0 hbv hxn hl hl2 hAi
  by_cases h17:1≤xn∧xn≤7
  ·rw[if_pos h17]
   have hge:decide ((1:Int)≤(xn:Int))=true:=by simp;omega
   have hle:decide ((xn:Int)≤7)=true:=by simp;omega
   clear h17
   go_enter Tryz.func63,Tryz.ntmps63
   go_upto_region 2 with(fail)
   refine boxes6 ?_
   rintro W2 ⟨h6,h7,h8,h12,h13,h15,hbw⟩
   have HBW:=hid hbw
   have H6:=hid h6
   have H7:=hid h7
   have H8:=hid h8
   have H12:=hid h12
   have H13:=hid h13
   have H15:=hid h15
   have hszW:=hbw.size
   have l6:=lt_blk h6
   have l7:=lt_blk h7
   have l8:=lt_blk h8
   have l12:=lt_blk h12
   have l13:=lt_blk h13
   have l15:=lt_blk h15
   obtain⟨p0,p1,p2,p3,p4⟩:=cells5 h6
   obtain⟨q0,q1,q2,q3,q4,q5,q6⟩:=cells7 h7
   obtain⟨r0,r1,r2⟩:=cells3 h8
   obtain⟨z0,z1,z2⟩:=cells3 h15
   obtain⟨s0,s1,s2⟩:=cells3 h12
   obtain⟨m0,m1,m2,m3,m4,m5,m6⟩:=cells7 h13
   have f0:=frees h12 0
   have f1:=frees h12 1
   have f2:=frees h12 2
   have g0:=frees h13 0
   have g1:=frees h13 1
   have g2:=frees h13 2
   have g3:=frees h13 3
   have g4:=frees h13 4
   have g5:=frees h13 5
   have g6:=frees h13 6
   have k3:=frees h7 3
   clear h6 h7 h8 h12 h13 h15 hbw
   have hAi:=HAI.out
   subst hAi
   have hbz:b<W2.heap.size:=by have:=HB.out;omega
   have cx:W2.cell? ⟨b,o+0,none⟩=some (.int .u8 (xn:Int)):=(HBW.out.cell (p:=⟨b,o+0,none⟩) (by have:=HB.out;show b<_;omega)).trans HX.out
   simp only[Nat.add_zero] at cx
   go_wp2_with fail
   go_region_held3 (fun w'=>w'.cell? ⟨w.heap.size+1+1+1+1+1,0,none⟩=some (.int .i64 0)∧w'.cell? ⟨w.heap.size+1+1+1+1+1,1,none⟩=some (.int .i64 0)∧w'.cell? ⟨w.heap.size+1+1+1+1+1,2,none⟩=some (.slice none 0 0)∧w'.cell? ⟨w.heap.size+1,0,none⟩=some (.int .i64 st)∧w'.cell? ⟨w.heap.size+1,1,none⟩=some (.int .i64 id)∧w'.cell? ⟨w.heap.size+1,2,none⟩=some (.int .i64 req)∧w'.cell? ⟨w.heap.size+1,3,none⟩=some (.slice Aa na ca)∧w'.cell? ⟨w.heap.size+1,4,none⟩=some (.int .i64 cnt)∧w'.cell? ⟨w.heap.size+1,5,none⟩=some (.int .i64 tim)∧w'.cell? ⟨w.heap.size+1,6,none⟩=some (.int .i64 nak)) (first|(go_keep;done)|(go_simp;done)|(simp[go_sem];done)) (fail)
   all_goals
    clear p0 p1 p2 p3 p4 q0 q1 q2 q3 q4 q5 q6 r0 r1 r2 z0 z1 z2 s0 s1 s2 m0 m1 m2 m3 m4 m5 m6 f0 f1 f2 g0 g1 g2 g3 g4 g5 g6 k3
    obtain⟨Wc,hWc⟩: ∃Wc:World,Wc=(((W2.setCell ⟨w.heap.size+1+1+1,0,none⟩ (.int .i64 0)).setCell ⟨w.heap.size+1+1+1,1,none⟩ (.int .i64 0)).setCell ⟨w.heap.size+1+1+1,2,none⟩ (.slice none 0 0)):=⟨_,rfl⟩
    obtain⟨Wf,hWf⟩: ∃Wf:World,Wf=((((((((Wc.setCell ⟨w.heap.size+1+1+1+1,0,none⟩ (.int .i64 st)).setCell ⟨w.heap.size+1+1+1+1,1,none⟩ (.int .i64 id)).setCell ⟨w.heap.size+1+1+1+1,2,none⟩ (.int .i64 req)).setCell ⟨w.heap.size+1+1+1+1,3,none⟩ (.slice Aa na ca)).setCell ⟨w.heap.size+1+1+1+1,4,none⟩ (.int .i64 cnt)).setCell ⟨w.heap.size+1+1+1+1,5,none⟩ (.int .i64 tim)).setCell ⟨w.heap.size+1+1+1+1,6,none⟩ (.int .i64 nak))).drew:=⟨_,rfl⟩
    have hWf2:Wf=(((((((((((W2.setCell ⟨w.heap.size+1+1+1,0,none⟩ (.int .i64 0)).setCell ⟨w.heap.size+1+1+1,1,none⟩ (.int .i64 0)).setCell ⟨w.heap.size+1+1+1,2,none⟩ (.slice none 0 0)).setCell ⟨w.heap.size+1+1+1+1,0,none⟩ (.int .i64 st)).setCell ⟨w.heap.size+1+1+1+1,1,none⟩ (.int .i64 id)).setCell ⟨w.heap.size+1+1+1+1,2,none⟩ (.int .i64 req)).setCell ⟨w.heap.size+1+1+1+1,3,none⟩ (.slice Aa na ca)).setCell ⟨w.heap.size+1+1+1+1,4,none⟩ (.int .i64 cnt)).setCell ⟨w.heap.size+1+1+1+1,5,none⟩ (.int .i64 tim)).setCell ⟨w.heap.size+1+1+1+1,6,none⟩ (.int .i64 nak))).drew:=by rw[hWf,hWc]
    go_wp2_with fail
    rw[←hWf2]
    have HZ7:=hid (H12.out)
    have HZ8:=hid ((show Wc.heap[w.heap.size+1+1+1+1]? =(W2).heap[w.heap.size+1+1+1+1]? by rw[hWc];exact set3_other (by omega) _ _ _).trans (H13.out))
    have hg1:(W2).grownBy Wc (some (w.heap.size+1+1+1)):=by rw[hWc];exact grn
    have hrc0:Wc.heap[w.heap.size+1+1+1]? =some (.cells #[.int .i64 0,.int .i64 0,(.slice none 0 0)] 32 (0,0)):=by rw[hWc];exact row3 HZ7.out rfl _ _ _
    have hrc:Wf.heap[w.heap.size+1+1+1]? =some (.cells #[.int .i64 0,.int .i64 0,(.slice none 0 0)] 32 (0,0)):=by rw[hWf,hdrew,set7_other (by omega)];exact hrc0
    have hra:Wf.heap[w.heap.size+1+1+1+1]? =some (.cells #[.int .i64 st,.int .i64 id,.int .i64 req,(.slice Aa na ca),.int .i64 cnt,.int .i64 tim,.int .i64 nak] 29 (0,0)):=by rw[hWf,hdrew];exact row7 HZ8.out rfl _ _ _ _ _ _ _
    have hg2:Wc.grownBy Wf (some (w.heap.size+1+1+1+1)):=by rw[hWf];exact grn
    clear hWf2 hWf hWc
    have hbf:Below w.heap.size w Wf:=Below.grown (Below.grown (HBW.out) hg1 (hszW) (fun k hk=>by cases hk;omega)) hg2 (Nat.le_trans (hszW) hg1.size) (fun k hk=>by cases hk;omega)
    obtain⟨u0,u1,u2⟩:=cells3 hrc
    obtain⟨e0,e1,e2,e3,e4,e5,e6⟩:=cells7 hra
    refine bodyPost_ret (v:=.tuple #[.int .i64 15,.agg #[.int .i64 0,.int .i64 0,.slice none 0 0],.agg #[.int .i64 st,.int .i64 id,.int .i64 req,.slice Aa na ca,.int .i64 cnt,.int .i64 tim,.int .i64 nak],.bool true]) (by simp[results,Tryz.results63,go_sem,u0,u1,u2,e0,e1,e2,e3,e4,e5,e6]) rfl ?_
    exact⟨none,0,0,Aa,na,ca,rfl,hbf,BytesO.nil _ _,(fun h=>by cases h),fun _=>rfl⟩
  ·by_cases h18:1≤xn
   ·rw[if_neg h17]
    have hge:decide ((1:Int)≤(xn:Int))=true:=by simp;omega
    have hle:decide ((xn:Int)≤7)=false:=by simp;omega
    clear h17
    go_enter Tryz.func63,Tryz.ntmps63
    go_upto_region 2 with(fail)
    refine boxes6 ?_
    rintro W2 ⟨h6,h7,h8,h12,h13,h15,hbw⟩
    have HBW:=hid hbw
    have H6:=hid h6
    have H7:=hid h7
    have H8:=hid h8
    have H12:=hid h12
    have H13:=hid h13
    have H15:=hid h15
    have hszW:=hbw.size
    have l6:=lt_blk h6
    have l7:=lt_blk h7
    have l8:=lt_blk h8
    have l12:=lt_blk h12
    have l13:=lt_blk h13
    have l15:=lt_blk h15
    obtain⟨p0,p1,p2,p3,p4⟩:=cells5 h6
    obtain⟨q0,q1,q2,q3,q4,q5,q6⟩:=cells7 h7
    obtain⟨r0,r1,r2⟩:=cells3 h8
    obtain⟨z0,z1,z2⟩:=cells3 h15
    obtain⟨s0,s1,s2⟩:=cells3 h12
    obtain⟨m0,m1,m2,m3,m4,m5,m6⟩:=cells7 h13
    have f0:=frees h12 0
    have f1:=frees h12 1
    have f2:=frees h12 2
    have g0:=frees h13 0
    have g1:=frees h13 1
    have g2:=frees h13 2
    have g3:=frees h13 3
    have g4:=frees h13 4
    have g5:=frees h13 5
    have g6:=frees h13 6
    have k3:=frees h7 3
    clear h6 h7 h8 h12 h13 h15 hbw
    have hAi:=HAI.out
    subst hAi
    have hbz:b<W2.heap.size:=by have:=HB.out;omega
    have cx:W2.cell? ⟨b,o+0,none⟩=some (.int .u8 (xn:Int)):=(HBW.out.cell (p:=⟨b,o+0,none⟩) (by have:=HB.out;show b<_;omega)).trans HX.out
    simp only[Nat.add_zero] at cx
    go_wp2_with fail
    go_region_held3 (fun w'=>w'.cell? ⟨w.heap.size+1+1+1+1+1,0,none⟩=some (.int .i64 0)∧w'.cell? ⟨w.heap.size+1+1+1+1+1,1,none⟩=some (.int .i64 0)∧w'.cell? ⟨w.heap.size+1+1+1+1+1,2,none⟩=some (.slice none 0 0)∧w'.cell? ⟨w.heap.size+1,0,none⟩=some (.int .i64 st)∧w'.cell? ⟨w.heap.size+1,1,none⟩=some (.int .i64 id)∧w'.cell? ⟨w.heap.size+1,2,none⟩=some (.int .i64 req)∧w'.cell? ⟨w.heap.size+1,3,none⟩=some (.slice Aa na ca)∧w'.cell? ⟨w.heap.size+1,4,none⟩=some (.int .i64 cnt)∧w'.cell? ⟨w.heap.size+1,5,none⟩=some (.int .i64 tim)∧w'.cell? ⟨w.heap.size+1,6,none⟩=some (.int .i64 nak)) (first|(go_keep;done)|(go_simp;done)|(simp[go_sem];done)) (fail)
    all_goals
     clear p0 p1 p2 p3 p4 q0 q1 q2 q3 q4 q5 q6 r0 r1 r2 z0 z1 z2 s0 s1 s2 m0 m1 m2 m3 m4 m5 m6 f0 f1 f2 g0 g1 g2 g3 g4 g5 g6 k3
     obtain⟨Wc,hWc⟩: ∃Wc:World,Wc=(((W2.setCell ⟨w.heap.size+1+1+1,0,none⟩ (.int .i64 0)).setCell ⟨w.heap.size+1+1+1,1,none⟩ (.int .i64 0)).setCell ⟨w.heap.size+1+1+1,2,none⟩ (.slice none 0 0)):=⟨_,rfl⟩
     obtain⟨Wf,hWf⟩: ∃Wf:World,Wf=((((((((Wc.setCell ⟨w.heap.size+1+1+1+1,0,none⟩ (.int .i64 st)).setCell ⟨w.heap.size+1+1+1+1,1,none⟩ (.int .i64 id)).setCell ⟨w.heap.size+1+1+1+1,2,none⟩ (.int .i64 req)).setCell ⟨w.heap.size+1+1+1+1,3,none⟩ (.slice Aa na ca)).setCell ⟨w.heap.size+1+1+1+1,4,none⟩ (.int .i64 cnt)).setCell ⟨w.heap.size+1+1+1+1,5,none⟩ (.int .i64 tim)).setCell ⟨w.heap.size+1+1+1+1,6,none⟩ (.int .i64 nak))).drew:=⟨_,rfl⟩
     have hWf2:Wf=(((((((((((W2.setCell ⟨w.heap.size+1+1+1,0,none⟩ (.int .i64 0)).setCell ⟨w.heap.size+1+1+1,1,none⟩ (.int .i64 0)).setCell ⟨w.heap.size+1+1+1,2,none⟩ (.slice none 0 0)).setCell ⟨w.heap.size+1+1+1+1,0,none⟩ (.int .i64 st)).setCell ⟨w.heap.size+1+1+1+1,1,none⟩ (.int .i64 id)).setCell ⟨w.heap.size+1+1+1+1,2,none⟩ (.int .i64 req)).setCell ⟨w.heap.size+1+1+1+1,3,none⟩ (.slice Aa na ca)).setCell ⟨w.heap.size+1+1+1+1,4,none⟩ (.int .i64 cnt)).setCell ⟨w.heap.size+1+1+1+1,5,none⟩ (.int .i64 tim)).setCell ⟨w.heap.size+1+1+1+1,6,none⟩ (.int .i64 nak))).drew:=by rw[hWf,hWc]
     go_wp2_with fail
     rw[←hWf2]
     have HZ7:=hid (H12.out)
     have HZ8:=hid ((show Wc.heap[w.heap.size+1+1+1+1]? =(W2).heap[w.heap.size+1+1+1+1]? by rw[hWc];exact set3_other (by omega) _ _ _).trans (H13.out))
     have hg1:(W2).grownBy Wc (some (w.heap.size+1+1+1)):=by rw[hWc];exact grn
     have hrc0:Wc.heap[w.heap.size+1+1+1]? =some (.cells #[.int .i64 0,.int .i64 0,(.slice none 0 0)] 32 (0,0)):=by rw[hWc];exact row3 HZ7.out rfl _ _ _
     have hrc:Wf.heap[w.heap.size+1+1+1]? =some (.cells #[.int .i64 0,.int .i64 0,(.slice none 0 0)] 32 (0,0)):=by rw[hWf,hdrew,set7_other (by omega)];exact hrc0
     have hra:Wf.heap[w.heap.size+1+1+1+1]? =some (.cells #[.int .i64 st,.int .i64 id,.int .i64 req,(.slice Aa na ca),.int .i64 cnt,.int .i64 tim,.int .i64 nak] 29 (0,0)):=by rw[hWf,hdrew];exact row7 HZ8.out rfl _ _ _ _ _ _ _
     have hg2:Wc.grownBy Wf (some (w.heap.size+1+1+1+1)):=by rw[hWf];exact grn
     clear hWf2 hWf hWc
     have hbf:Below w.heap.size w Wf:=Below.grown (Below.grown (HBW.out) hg1 (hszW) (fun k hk=>by cases hk;omega)) hg2 (Nat.le_trans (hszW) hg1.size) (fun k hk=>by cases hk;omega)
     obtain⟨u0,u1,u2⟩:=cells3 hrc
     obtain⟨e0,e1,e2,e3,e4,e5,e6⟩:=cells7 hra
     refine bodyPost_ret (v:=.tuple #[.int .i64 14,.agg #[.int .i64 0,.int .i64 0,.slice none 0 0],.agg #[.int .i64 st,.int .i64 id,.int .i64 req,.slice Aa na ca,.int .i64 cnt,.int .i64 tim,.int .i64 nak],.bool true]) (by simp[results,Tryz.results63,go_sem,u0,u1,u2,e0,e1,e2,e3,e4,e5,e6]) rfl ?_
     exact⟨none,0,0,Aa,na,ca,rfl,hbf,BytesO.nil _ _,(fun h=>by cases h),fun _=>rfl⟩
   ·rw[if_neg h17]
    have hge:decide ((1:Int)≤(xn:Int))=false:=by simp;omega
    have hle:decide ((xn:Int)≤7)=true:=by simp;omega
    clear h17
    go_enter Tryz.func63,Tryz.ntmps63
    go_upto_region 2 with(fail)
    refine boxes6 ?_
    rintro W2 ⟨h6,h7,h8,h12,h13,h15,hbw⟩
    have HBW:=hid hbw
    have H6:=hid h6
    have H7:=hid h7
    have H8:=hid h8
    have H12:=hid h12
    have H13:=hid h13
    have H15:=hid h15
    have hszW:=hbw.size
    have l6:=lt_blk h6
    have l7:=lt_blk h7
    have l8:=lt_blk h8
    have l12:=lt_blk h12
    have l13:=lt_blk h13
    have l15:=lt_blk h15
    obtain⟨p0,p1,p2,p3,p4⟩:=cells5 h6
    obtain⟨q0,q1,q2,q3,q4,q5,q6⟩:=cells7 h7
    obtain⟨r0,r1,r2⟩:=cells3 h8
    obtain⟨z0,z1,z2⟩:=cells3 h15
    obtain⟨s0,s1,s2⟩:=cells3 h12
    obtain⟨m0,m1,m2,m3,m4,m5,m6⟩:=cells7 h13
    have f0:=frees h12 0
    have f1:=frees h12 1
    have f2:=frees h12 2
    have g0:=frees h13 0
    have g1:=frees h13 1
    have g2:=frees h13 2
    have g3:=frees h13 3
    have g4:=frees h13 4
    have g5:=frees h13 5
    have g6:=frees h13 6
    have k3:=frees h7 3
    clear h6 h7 h8 h12 h13 h15 hbw
    have hAi:=HAI.out
    subst hAi
    have hbz:b<W2.heap.size:=by have:=HB.out;omega
    have cx:W2.cell? ⟨b,o+0,none⟩=some (.int .u8 (xn:Int)):=(HBW.out.cell (p:=⟨b,o+0,none⟩) (by have:=HB.out;show b<_;omega)).trans HX.out
    simp only[Nat.add_zero] at cx
    go_wp2_with fail
    go_region_held3 (fun w'=>w'.cell? ⟨w.heap.size+1+1+1+1+1,0,none⟩=some (.int .i64 0)∧w'.cell? ⟨w.heap.size+1+1+1+1+1,1,none⟩=some (.int .i64 0)∧w'.cell? ⟨w.heap.size+1+1+1+1+1,2,none⟩=some (.slice none 0 0)∧w'.cell? ⟨w.heap.size+1,0,none⟩=some (.int .i64 st)∧w'.cell? ⟨w.heap.size+1,1,none⟩=some (.int .i64 id)∧w'.cell? ⟨w.heap.size+1,2,none⟩=some (.int .i64 req)∧w'.cell? ⟨w.heap.size+1,3,none⟩=some (.slice Aa na ca)∧w'.cell? ⟨w.heap.size+1,4,none⟩=some (.int .i64 cnt)∧w'.cell? ⟨w.heap.size+1,5,none⟩=some (.int .i64 tim)∧w'.cell? ⟨w.heap.size+1,6,none⟩=some (.int .i64 nak)) (first|(go_keep;done)|(go_simp;done)|(simp[go_sem];done)) (fail)
    all_goals
     clear p0 p1 p2 p3 p4 q0 q1 q2 q3 q4 q5 q6 r0 r1 r2 z0 z1 z2 s0 s1 s2 m0 m1 m2 m3 m4 m5 m6 f0 f1 f2 g0 g1 g2 g3 g4 g5 g6 k3
     obtain⟨Wc,hWc⟩: ∃Wc:World,Wc=(((W2.setCell ⟨w.heap.size+1+1+1,0,none⟩ (.int .i64 0)).setCell ⟨w.heap.size+1+1+1,1,none⟩ (.int .i64 0)).setCell ⟨w.heap.size+1+1+1,2,none⟩ (.slice none 0 0)):=⟨_,rfl⟩
     obtain⟨Wf,hWf⟩: ∃Wf:World,Wf=((((((((Wc.setCell ⟨w.heap.size+1+1+1+1,0,none⟩ (.int .i64 st)).setCell ⟨w.heap.size+1+1+1+1,1,none⟩ (.int .i64 id)).setCell ⟨w.heap.size+1+1+1+1,2,none⟩ (.int .i64 req)).setCell ⟨w.heap.size+1+1+1+1,3,none⟩ (.slice Aa na ca)).setCell ⟨w.heap.size+1+1+1+1,4,none⟩ (.int .i64 cnt)).setCell ⟨w.heap.size+1+1+1+1,5,none⟩ (.int .i64 tim)).setCell ⟨w.heap.size+1+1+1+1,6,none⟩ (.int .i64 nak))).drew:=⟨_,rfl⟩
     have hWf2:Wf=(((((((((((W2.setCell ⟨w.heap.size+1+1+1,0,none⟩ (.int .i64 0)).setCell ⟨w.heap.size+1+1+1,1,none⟩ (.int .i64 0)).setCell ⟨w.heap.size+1+1+1,2,none⟩ (.slice none 0 0)).setCell ⟨w.heap.size+1+1+1+1,0,none⟩ (.int .i64 st)).setCell ⟨w.heap.size+1+1+1+1,1,none⟩ (.int .i64 id)).setCell ⟨w.heap.size+1+1+1+1,2,none⟩ (.int .i64 req)).setCell ⟨w.heap.size+1+1+1+1,3,none⟩ (.slice Aa na ca)).setCell ⟨w.heap.size+1+1+1+1,4,none⟩ (.int .i64 cnt)).setCell ⟨w.heap.size+1+1+1+1,5,none⟩ (.int .i64 tim)).setCell ⟨w.heap.size+1+1+1+1,6,none⟩ (.int .i64 nak))).drew:=by rw[hWf,hWc]
     go_wp2_with fail
     rw[←hWf2]
     have HZ7:=hid (H12.out)
     have HZ8:=hid ((show Wc.heap[w.heap.size+1+1+1+1]? =(W2).heap[w.heap.size+1+1+1+1]? by rw[hWc];exact set3_other (by omega) _ _ _).trans (H13.out))
     have hg1:(W2).grownBy Wc (some (w.heap.size+1+1+1)):=by rw[hWc];exact grn
     have hrc0:Wc.heap[w.heap.size+1+1+1]? =some (.cells #[.int .i64 0,.int .i64 0,(.slice none 0 0)] 32 (0,0)):=by rw[hWc];exact row3 HZ7.out rfl _ _ _
     have hrc:Wf.heap[w.heap.size+1+1+1]? =some (.cells #[.int .i64 0,.int .i64 0,(.slice none 0 0)] 32 (0,0)):=by rw[hWf,hdrew,set7_other (by omega)];exact hrc0
     have hra:Wf.heap[w.heap.size+1+1+1+1]? =some (.cells #[.int .i64 st,.int .i64 id,.int .i64 req,(.slice Aa na ca),.int .i64 cnt,.int .i64 tim,.int .i64 nak] 29 (0,0)):=by rw[hWf,hdrew];exact row7 HZ8.out rfl _ _ _ _ _ _ _
     have hg2:Wc.grownBy Wf (some (w.heap.size+1+1+1+1)):=by rw[hWf];exact grn
     clear hWf2 hWf hWc
     have hbf:Below w.heap.size w Wf:=Below.grown (Below.grown (HBW.out) hg1 (hszW) (fun k hk=>by cases hk;omega)) hg2 (Nat.le_trans (hszW) hg1.size) (fun k hk=>by cases hk;omega)
     obtain⟨u0,u1,u2⟩:=cells3 hrc
     obtain⟨e0,e1,e2,e3,e4,e5,e6⟩:=cells7 hra
     refine bodyPost_ret (v:=.tuple #[.int .i64 14,.agg #[.int .i64 0,.int .i64 0,.slice none 0 0],.agg #[.int .i64 st,.int .i64 id,.int .i64 req,.slice Aa na ca,.int .i64 cnt,.int .i64 tim,.int .i64 nak],.bool true]) (by simp[results,Tryz.results63,go_sem,u0,u1,u2,e0,e1,e2,e3,e4,e5,e6]) rfl ?_
     exact⟨none,0,0,Aa,na,ca,rfl,hbf,BytesO.nil _ _,(fun h=>by cases h),fun _=>rfl⟩
end Go.Proofs.YtfkgmbknfnhjoaaGreat
