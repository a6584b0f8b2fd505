/- Bundle PN. -/
import Derived.Test.YtfkgmbknfnhjoaaGreatRPM
set_option maxHeartbeats 8000000
namespace Go.Proofs.YtfkgmbknfnhjoaaGreat
open Lib (hid)
open Go.RowKit
set_option linter.unusedSimpArgs false
set_option linter.unusedVariables false
set_option linter.ambiguousOpen false
open Ne (Rl Opt RulesAt areB answerO learnO)
open Fs (av hasB)
set_option maxRecDepth 100000 in
theorem rwhich_1 (Ar Aa Ai:Option Addr) (nr cr na ca ni ci:Nat) (R:List Rl) (mc mt mf wt st id req cnt tim nak ii:Int) (E:List Ent) (li:List UInt8) (w:World) (B:Nat) (hB:B≤w.heap.size) (hR:RulesAt w B Ar R) (hnr:nr=R.length) (hlr:nr≤1000000) (hE:OptsAt w B Aa E) (hna:na=E.length) (hca:na≤ca) (hla:na≤1000000) (hI:At w B Ai (li.map bv)) (hni:ni=li.length) (hci:ni≤ci):Calls Tryz.prog 63 #[.agg #[.slice Ar nr cr,.int .i64 mc,.int .i64 mt,.int .i64 mf,.int .i64 wt],.agg #[.int .i64 st,.int .i64 id,.int .i64 req,.slice Aa na ca,.int .i64 cnt,.int .i64 tim,.int .i64 nak],.agg #[.int .i64 1,.int .i64 ii,.slice Ai ni ci]] w (RWhichP (whichO ⟨R,mc,mt,mf,wt⟩ ⟨st,id,req,E.map Ent.o,cnt,tim,nak⟩ ⟨1,ii,li⟩) ⟨st,id,req,E.map Ent.o,cnt,tim,nak⟩ (.slice Aa na ca) w):=by
 have HB:=hid hB
 have HR:=hid hR
 have HNR:=hid hnr
 have HE:=hid hE
 have HNA:=hid hna
 have HI:=hid hI
 have HNI:=hid hni
 obtain⟨L,hL⟩: ∃L,E.map Ent.o=L:=⟨_,rfl⟩
 have HL:=hid hL
 rw[hL]
 clear hB hR hnr hE hna hL hI hni
 have HO0:=hid (show whichO ⟨R,mc,mt,mf,wt⟩ ⟨st,id,req,L,cnt,tim,nak⟩ ⟨1,ii,li⟩=askedO ⟨R,mc,mt,mf,wt⟩ ⟨st,id,req,L,cnt,tim,nak⟩ ⟨1,ii,li⟩ from if_pos rfl)
 rw[HO0.out]
 clear HO0
 obtain⟨⟨Y,ye⟩,hd⟩: ∃r,Op.decR li=r:=⟨_,rfl⟩
 have HDR:=hid hd
 by_cases h0:ye=0
 ·subst h0
  obtain⟨⟨co,back⟩,han⟩: ∃r,answerO R Y nak mf=r:=⟨_,rfl⟩
  have HAN:=hid han
  obtain⟨⟨eb,ee⟩,hen⟩: ∃r,Op.encR back=r:=⟨_,rfl⟩
  have HEN:=hid hen
  obtain⟨nb,hnb⟩: ∃nb,eb.length=nb:=⟨_,rfl⟩
  have HNB:=hid hnb
  have HO:=hid (show askedO ⟨R,mc,mt,mf,wt⟩ ⟨st,id,req,L,cnt,tim,nak⟩ ⟨1,ii,li⟩=if ee≠0 then none else some (if co=2 then 7 else 8,⟨co,ii,eb⟩,L) by unfold askedO;dsimp only;rw[hd];dsimp only;rw[han];dsimp only;rw[hen];simp)
  rw[HO.out]
  clear hd han hen hnb HO
  by_cases h5:ee=0
  ·rw[if_neg (by simpa using h5)]
   by_cases h2:co=2
   ·have h2':(co==2)=true:=by simpa using h2
    have h5':(ee==0)=true:=by simpa using h5
    rw[if_pos h2]
    clear h2 h5
    go_enter Tryz.func63,Tryz.ntmps63
    go_upto_region 2 with(fail)
    refine boxes6 ?_
    rintro W2 ⟨h6,h7,h8,h12,h13,h15,hbw⟩
    have HBW:=hid hbw
    have H6:=hid h6
    have H7:=hid h7
    have H8:=hid h8
    have H12:=hid h12
    have H13:=hid h13
    have H15:=hid h15
    have hszW:=hbw.size
    have l6:=lt_blk h6
    have l7:=lt_blk h7
    have l8:=lt_blk h8
    have l12:=lt_blk h12
    have l13:=lt_blk h13
    have l15:=lt_blk h15
    obtain⟨p0,p1,p2,p3,p4⟩:=cells5 h6
    obtain⟨q0,q1,q2,q3,q4,q5,q6⟩:=cells7 h7
    obtain⟨r0,r1,r2⟩:=cells3 h8
    obtain⟨z0,z1,z2⟩:=cells3 h15
    obtain⟨s0,s1,s2⟩:=cells3 h12
    obtain⟨m0,m1,m2,m3,m4,m5,m6⟩:=cells7 h13
    have f0:=frees h12 0
    have f1:=frees h12 1
    have f2:=frees h12 2
    have g0:=frees h13 0
    have g1:=frees h13 1
    have g2:=frees h13 2
    have g3:=frees h13 3
    have g4:=frees h13 4
    have g5:=frees h13 5
    have g6:=frees h13 6
    have k3:=frees h7 3
    clear h6 h7 h8 h12 h13 h15 hbw
    go_wp2_with fail
    refine(Op.rdec_any Ai ni ci li _ B (by have:=HB.out;omega) (HI.out.keep (HBW.out.mono HB.out)) HNI.out hci).mono ?_
    rintro x w3 hd
    obtain⟨E3,A3,n3,c3,rfl,hb3,ho3,he3,hn3,hc3,hl3,hsd3⟩:=DecP.get hd HDR.out
    have HO3:=hid ho3
    have HE3:=hid he3
    have HN3:=hid hn3
    have HS3:=hid hsd3
    have HB3:=hid (show Below W2.heap.size W2 w3 from hb3)
    have hs3:=HB3.out.size
    have H73:=hid ((HB3.out.block _ l7).trans H7.out)
    have H83:=hid ((HB3.out.block _ l8).trans H8.out)
    have H123:=hid ((HB3.out.block _ l12).trans H12.out)
    have H133:=hid ((HB3.out.block _ l13).trans H13.out)
    have H153:=hid ((HB3.out.block _ l15).trans H15.out)
    clear p0 p1 p2 p3 p4 q0 q1 q2 q3 q4 q5 q6 r0 r1 r2 z0 z1 z2 s0 s1 s2 m0 m1 m2 m3 m4 m5 m6 f0 f1 f2 g0 g1 g2 g3 g4 g5 g6 k3
    have cp0:=(cells5 ((HB3.out.block _ l6).trans H6.out)).1
    have cp3:=(cells5 ((HB3.out.block _ l6).trans H6.out)).2.2.2.1
    have l6x:w.heap.size<w3.heap.size:=by omega
    obtain⟨⟨l7x,l8x,l12x,l13x,l15x⟩,⟨q0,q1,q2,q3,q4,q5,q6⟩,⟨r0,r1,r2⟩,⟨z0,z1,z2⟩,⟨s0,s1,s2⟩,⟨m0,m1,m2,m3,m4,m5,m6⟩,⟨f0,f1,f2⟩,⟨g0,g1,g2,g3,g4,g5,g6⟩,k3⟩:=cellsR H73.out H83.out H123.out H133.out H153.out
    clear hd hb3 ho3 he3 hn3 hsd3
    go_wp2_with fail
    refine(Ne.ranswer_any Ar A3 nr cr n3 c3 nak mf R E3 Y HE3.out _ w3.heap.size (Nat.le_refl _) ((HR.out.keep ((HBW.out.trans (HB3.out.mono hszW)).mono HB.out)).more (by have:=HB.out;omega)) HNR.out hlr HO3.out.at HN3.out hc3 (by omega) (fun e he=>by have:=HS3.out e he;omega)).mono ?_
    rw[HAN.out]
    rintro x w4 ⟨E4,A4,n4,c4,rfl,he4,hn4,hc4,hb4,hat4⟩
    have HA4:=hid hat4
    have HE4:=hid he4
    have HN4:=hid (show n4=E4.length by rw[hn4,←he4,List.length_map])
    clear cp0 cp3 l6x l7x l8x l12x l13x l15x
    clear q0 q1 q2 q3 q4 q5 q6 r0 r1 r2 z0 z1 z2 s0 s1 s2 m0 m1 m2 m3 m4 m5 m6 f0 f1 f2 g0 g1 g2 g3 g4 g5 g6 k3
    have HB4:=hid (HB3.out.trans (hb4.mono hs3))
    have hs4:=HB4.out.size
    clear hb4 hat4 he4 hn4
    go_wp2_with fail
    refine(Op.renc_any A4 n4 c4 E4 _ _ (Nat.le_refl _) HA4.out HN4.out).mono ?_
    rw[HE4.out]
    rintro x w5 he
    obtain⟨A5,c5,rfl,hb5,ho5,hc5⟩:=EncP.get he HEN.out HNB.out
    have HO5:=hid ho5
    have HB5:=hid (show Below W2.heap.size W2 w5 from HB4.out.trans (hb5.mono hs4))
    have hs5:=HB5.out.size
    have H75:=hid ((HB5.out.block _ l7).trans H7.out)
    have H85:=hid ((HB5.out.block _ l8).trans H8.out)
    have H125:=hid ((HB5.out.block _ l12).trans H12.out)
    have H135:=hid ((HB5.out.block _ l13).trans H13.out)
    have H155:=hid ((HB5.out.block _ l15).trans H15.out)
    have hs45:=hb5.size
    clear he hb5 ho5
    obtain⟨⟨l7x,l8x,l12x,l13x,l15x⟩,⟨q0,q1,q2,q3,q4,q5,q6⟩,⟨r0,r1,r2⟩,⟨z0,z1,z2⟩,⟨s0,s1,s2⟩,⟨m0,m1,m2,m3,m4,m5,m6⟩,⟨f0,f1,f2⟩,⟨g0,g1,g2,g3,g4,g5,g6⟩,k3⟩:=cellsR H75.out H85.out H125.out H135.out H155.out
    go_wp2_with fail
    go_region_held3 (fun w'=>w'.cell? ⟨w.heap.size+1+1,1,none⟩=some (.int .i64 ii)∧w'.cell? ⟨w.heap.size+1,0,none⟩=some (.int .i64 st)∧w'.cell? ⟨w.heap.size+1,1,none⟩=some (.int .i64 id)∧w'.cell? ⟨w.heap.size+1,2,none⟩=some (.int .i64 req)∧w'.cell? ⟨w.heap.size+1,3,none⟩=some (.slice Aa na ca)∧w'.cell? ⟨w.heap.size+1,4,none⟩=some (.int .i64 cnt)∧w'.cell? ⟨w.heap.size+1,5,none⟩=some (.int .i64 tim)∧w'.cell? ⟨w.heap.size+1,6,none⟩=some (.int .i64 nak)) (first|(go_keep;done)|(go_simp;done)|(simp[go_sem];done)) (fail)
    all_goals
     clear q0 q1 q2 q3 q4 q5 q6 r0 r1 r2 z0 z1 z2 s0 s1 s2 m0 m1 m2 m3 m4 m5 m6 f0 f1 f2 g0 g1 g2 g3 g4 g5 g6 k3
     obtain⟨Wc,hWc⟩: ∃Wc:World,Wc=(((w5.setCell ⟨w.heap.size+1+1+1,0,none⟩ (.int .i64 co)).setCell ⟨w.heap.size+1+1+1,1,none⟩ (.int .i64 ii)).setCell ⟨w.heap.size+1+1+1,2,none⟩ (.slice A5 nb c5)):=⟨_,rfl⟩
     obtain⟨Wf,hWf⟩: ∃Wf:World,Wf=((((((((Wc.setCell ⟨w.heap.size+1+1+1+1,0,none⟩ (.int .i64 st)).setCell ⟨w.heap.size+1+1+1+1,1,none⟩ (.int .i64 id)).setCell ⟨w.heap.size+1+1+1+1,2,none⟩ (.int .i64 req)).setCell ⟨w.heap.size+1+1+1+1,3,none⟩ (.slice Aa na ca)).setCell ⟨w.heap.size+1+1+1+1,4,none⟩ (.int .i64 cnt)).setCell ⟨w.heap.size+1+1+1+1,5,none⟩ (.int .i64 tim)).setCell ⟨w.heap.size+1+1+1+1,6,none⟩ (.int .i64 nak))).drew:=⟨_,rfl⟩
     have hWf2:Wf=(((((((((((w5.setCell ⟨w.heap.size+1+1+1,0,none⟩ (.int .i64 co)).setCell ⟨w.heap.size+1+1+1,1,none⟩ (.int .i64 ii)).setCell ⟨w.heap.size+1+1+1,2,none⟩ (.slice A5 nb c5)).setCell ⟨w.heap.size+1+1+1+1,0,none⟩ (.int .i64 st)).setCell ⟨w.heap.size+1+1+1+1,1,none⟩ (.int .i64 id)).setCell ⟨w.heap.size+1+1+1+1,2,none⟩ (.int .i64 req)).setCell ⟨w.heap.size+1+1+1+1,3,none⟩ (.slice Aa na ca)).setCell ⟨w.heap.size+1+1+1+1,4,none⟩ (.int .i64 cnt)).setCell ⟨w.heap.size+1+1+1+1,5,none⟩ (.int .i64 tim)).setCell ⟨w.heap.size+1+1+1+1,6,none⟩ (.int .i64 nak))).drew:=by rw[hWf,hWc]
     go_wp2_with fail
     rw[←hWf2]
     have HZ7:=hid (H125.out)
     have HZ8:=hid ((show Wc.heap[w.heap.size+1+1+1+1]? =(w5).heap[w.heap.size+1+1+1+1]? by rw[hWc];exact set3_other (by omega) _ _ _).trans (H135.out))
     have hg1:(w5).grownBy Wc (some (w.heap.size+1+1+1)):=by rw[hWc];exact grn
     have hrc0:Wc.heap[w.heap.size+1+1+1]? =some (.cells #[.int .i64 co,.int .i64 ii,(.slice A5 nb c5)] 32 (0,0)):=by rw[hWc];exact row3 HZ7.out rfl _ _ _
     have hrc:Wf.heap[w.heap.size+1+1+1]? =some (.cells #[.int .i64 co,.int .i64 ii,(.slice A5 nb c5)] 32 (0,0)):=by rw[hWf,hdrew,set7_other (by omega)];exact hrc0
     have hra:Wf.heap[w.heap.size+1+1+1+1]? =some (.cells #[.int .i64 st,.int .i64 id,.int .i64 req,(.slice Aa na ca),.int .i64 cnt,.int .i64 tim,.int .i64 nak] 29 (0,0)):=by rw[hWf,hdrew];exact row7 HZ8.out rfl _ _ _ _ _ _ _
     have hg2:Wc.grownBy Wf (some (w.heap.size+1+1+1+1)):=by rw[hWf];exact grn
     clear hWf2 hWf hWc
     have hby:BytesO Wf w.heap.size (.slice A5 nb c5) eb:=by
      have h:=(BytesO.other (BytesO.other (l:=eb) (by unfold BytesO;rw[HNB.out];exact HO5.out) hg1 HZ7.out (by decide)) hg2 HZ8.out (by decide))
      exact h.base (by omega)
     have hbf:Below w.heap.size w Wf:=Below.grown (Below.grown (HBW.out.trans (HB5.out.mono hszW)) hg1 (Nat.le_trans hszW hs5) (fun k hk=>by cases hk;omega)) hg2 (Nat.le_trans (Nat.le_trans hszW hs5) hg1.size) (fun k hk=>by cases hk;omega)
     obtain⟨u0,u1,u2⟩:=cells3 hrc
     obtain⟨e0,e1,e2,e3,e4,e5,e6⟩:=cells7 hra
     refine bodyPost_ret (v:=.tuple #[.int .i64 7,.agg #[.int .i64 co,.int .i64 ii,.slice A5 nb c5],.agg #[.int .i64 st,.int .i64 id,.int .i64 req,.slice Aa na ca,.int .i64 cnt,.int .i64 tim,.int .i64 nak],.bool true]) (by simp[results,Tryz.results63,go_sem,u0,u1,u2,e0,e1,e2,e3,e4,e5,e6]) rfl ?_
     exact⟨A5,nb,c5,Aa,na,ca,rfl,hbf,hby,(fun h=>by cases h),fun _=>rfl⟩
   ·have h2':(co==2)=false:=by simpa using h2
    have h5':(ee==0)=true:=by simpa using h5
    rw[if_neg h2]
    clear h2 h5
    go_enter Tryz.func63,Tryz.ntmps63
    go_upto_region 2 with(fail)
    refine boxes6 ?_
    rintro W2 ⟨h6,h7,h8,h12,h13,h15,hbw⟩
    have HBW:=hid hbw
    have H6:=hid h6
    have H7:=hid h7
    have H8:=hid h8
    have H12:=hid h12
    have H13:=hid h13
    have H15:=hid h15
    have hszW:=hbw.size
    have l6:=lt_blk h6
    have l7:=lt_blk h7
    have l8:=lt_blk h8
    have l12:=lt_blk h12
    have l13:=lt_blk h13
    have l15:=lt_blk h15
    obtain⟨p0,p1,p2,p3,p4⟩:=cells5 h6
    obtain⟨q0,q1,q2,q3,q4,q5,q6⟩:=cells7 h7
    obtain⟨r0,r1,r2⟩:=cells3 h8
    obtain⟨z0,z1,z2⟩:=cells3 h15
    obtain⟨s0,s1,s2⟩:=cells3 h12
    obtain⟨m0,m1,m2,m3,m4,m5,m6⟩:=cells7 h13
    have f0:=frees h12 0
    have f1:=frees h12 1
    have f2:=frees h12 2
    have g0:=frees h13 0
    have g1:=frees h13 1
    have g2:=frees h13 2
    have g3:=frees h13 3
    have g4:=frees h13 4
    have g5:=frees h13 5
    have g6:=frees h13 6
    have k3:=frees h7 3
    clear h6 h7 h8 h12 h13 h15 hbw
    go_wp2_with fail
    refine(Op.rdec_any Ai ni ci li _ B (by have:=HB.out;omega) (HI.out.keep (HBW.out.mono HB.out)) HNI.out hci).mono ?_
    rintro x w3 hd
    obtain⟨E3,A3,n3,c3,rfl,hb3,ho3,he3,hn3,hc3,hl3,hsd3⟩:=DecP.get hd HDR.out
    have HO3:=hid ho3
    have HE3:=hid he3
    have HN3:=hid hn3
    have HS3:=hid hsd3
    have HB3:=hid (show Below W2.heap.size W2 w3 from hb3)
    have hs3:=HB3.out.size
    have H73:=hid ((HB3.out.block _ l7).trans H7.out)
    have H83:=hid ((HB3.out.block _ l8).trans H8.out)
    have H123:=hid ((HB3.out.block _ l12).trans H12.out)
    have H133:=hid ((HB3.out.block _ l13).trans H13.out)
    have H153:=hid ((HB3.out.block _ l15).trans H15.out)
    clear p0 p1 p2 p3 p4 q0 q1 q2 q3 q4 q5 q6 r0 r1 r2 z0 z1 z2 s0 s1 s2 m0 m1 m2 m3 m4 m5 m6 f0 f1 f2 g0 g1 g2 g3 g4 g5 g6 k3
    have cp0:=(cells5 ((HB3.out.block _ l6).trans H6.out)).1
    have cp3:=(cells5 ((HB3.out.block _ l6).trans H6.out)).2.2.2.1
    have l6x:w.heap.size<w3.heap.size:=by omega
    obtain⟨⟨l7x,l8x,l12x,l13x,l15x⟩,⟨q0,q1,q2,q3,q4,q5,q6⟩,⟨r0,r1,r2⟩,⟨z0,z1,z2⟩,⟨s0,s1,s2⟩,⟨m0,m1,m2,m3,m4,m5,m6⟩,⟨f0,f1,f2⟩,⟨g0,g1,g2,g3,g4,g5,g6⟩,k3⟩:=cellsR H73.out H83.out H123.out H133.out H153.out
    clear hd hb3 ho3 he3 hn3 hsd3
    go_wp2_with fail
    refine(Ne.ranswer_any Ar A3 nr cr n3 c3 nak mf R E3 Y HE3.out _ w3.heap.size (Nat.le_refl _) ((HR.out.keep ((HBW.out.trans (HB3.out.mono hszW)).mono HB.out)).more (by have:=HB.out;omega)) HNR.out hlr HO3.out.at HN3.out hc3 (by omega) (fun e he=>by have:=HS3.out e he;omega)).mono ?_
    rw[HAN.out]
    rintro x w4 ⟨E4,A4,n4,c4,rfl,he4,hn4,hc4,hb4,hat4⟩
    have HA4:=hid hat4
    have HE4:=hid he4
    have HN4:=hid (show n4=E4.length by rw[hn4,←he4,List.length_map])
    clear cp0 cp3 l6x l7x l8x l12x l13x l15x
    clear q0 q1 q2 q3 q4 q5 q6 r0 r1 r2 z0 z1 z2 s0 s1 s2 m0 m1 m2 m3 m4 m5 m6 f0 f1 f2 g0 g1 g2 g3 g4 g5 g6 k3
    have HB4:=hid (HB3.out.trans (hb4.mono hs3))
    have hs4:=HB4.out.size
    clear hb4 hat4 he4 hn4
    go_wp2_with fail
    refine(Op.renc_any A4 n4 c4 E4 _ _ (Nat.le_refl _) HA4.out HN4.out).mono ?_
    rw[HE4.out]
    rintro x w5 he
    obtain⟨A5,c5,rfl,hb5,ho5,hc5⟩:=EncP.get he HEN.out HNB.out
    have HO5:=hid ho5
    have HB5:=hid (show Below W2.heap.size W2 w5 from HB4.out.trans (hb5.mono hs4))
    have hs5:=HB5.out.size
    have H75:=hid ((HB5.out.block _ l7).trans H7.out)
    have H85:=hid ((HB5.out.block _ l8).trans H8.out)
    have H125:=hid ((HB5.out.block _ l12).trans H12.out)
    have H135:=hid ((HB5.out.block _ l13).trans H13.out)
    have H155:=hid ((HB5.out.block _ l15).trans H15.out)
    have hs45:=hb5.size
    clear he hb5 ho5
    obtain⟨⟨l7x,l8x,l12x,l13x,l15x⟩,⟨q0,q1,q2,q3,q4,q5,q6⟩,⟨r0,r1,r2⟩,⟨z0,z1,z2⟩,⟨s0,s1,s2⟩,⟨m0,m1,m2,m3,m4,m5,m6⟩,⟨f0,f1,f2⟩,⟨g0,g1,g2,g3,g4,g5,g6⟩,k3⟩:=cellsR H75.out H85.out H125.out H135.out H155.out
    go_wp2_with fail
    go_region_held3 (fun w'=>w'.cell? ⟨w.heap.size+1+1,1,none⟩=some (.int .i64 ii)∧w'.cell? ⟨w.heap.size+1,0,none⟩=some (.int .i64 st)∧w'.cell? ⟨w.heap.size+1,1,none⟩=some (.int .i64 id)∧w'.cell? ⟨w.heap.size+1,2,none⟩=some (.int .i64 req)∧w'.cell? ⟨w.heap.size+1,3,none⟩=some (.slice Aa na ca)∧w'.cell? ⟨w.heap.size+1,4,none⟩=some (.int .i64 cnt)∧w'.cell? ⟨w.heap.size+1,5,none⟩=some (.int .i64 tim)∧w'.cell? ⟨w.heap.size+1,6,none⟩=some (.int .i64 nak)) (first|(go_keep;done)|(go_simp;done)|(simp[go_sem];done)) (fail)
    all_goals
     clear q0 q1 q2 q3 q4 q5 q6 r0 r1 r2 z0 z1 z2 s0 s1 s2 m0 m1 m2 m3 m4 m5 m6 f0 f1 f2 g0 g1 g2 g3 g4 g5 g6 k3
     obtain⟨Wc,hWc⟩: ∃Wc:World,Wc=(((w5.setCell ⟨w.heap.size+1+1+1,0,none⟩ (.int .i64 co)).setCell ⟨w.heap.size+1+1+1,1,none⟩ (.int .i64 ii)).setCell ⟨w.heap.size+1+1+1,2,none⟩ (.slice A5 nb c5)):=⟨_,rfl⟩
     obtain⟨Wf,hWf⟩: ∃Wf:World,Wf=((((((((Wc.setCell ⟨w.heap.size+1+1+1+1,0,none⟩ (.int .i64 st)).setCell ⟨w.heap.size+1+1+1+1,1,none⟩ (.int .i64 id)).setCell ⟨w.heap.size+1+1+1+1,2,none⟩ (.int .i64 req)).setCell ⟨w.heap.size+1+1+1+1,3,none⟩ (.slice Aa na ca)).setCell ⟨w.heap.size+1+1+1+1,4,none⟩ (.int .i64 cnt)).setCell ⟨w.heap.size+1+1+1+1,5,none⟩ (.int .i64 tim)).setCell ⟨w.heap.size+1+1+1+1,6,none⟩ (.int .i64 nak))).drew:=⟨_,rfl⟩
     have hWf2:Wf=(((((((((((w5.setCell ⟨w.heap.size+1+1+1,0,none⟩ (.int .i64 co)).setCell ⟨w.heap.size+1+1+1,1,none⟩ (.int .i64 ii)).setCell ⟨w.heap.size+1+1+1,2,none⟩ (.slice A5 nb c5)).setCell ⟨w.heap.size+1+1+1+1,0,none⟩ (.int .i64 st)).setCell ⟨w.heap.size+1+1+1+1,1,none⟩ (.int .i64 id)).setCell ⟨w.heap.size+1+1+1+1,2,none⟩ (.int .i64 req)).setCell ⟨w.heap.size+1+1+1+1,3,none⟩ (.slice Aa na ca)).setCell ⟨w.heap.size+1+1+1+1,4,none⟩ (.int .i64 cnt)).setCell ⟨w.heap.size+1+1+1+1,5,none⟩ (.int .i64 tim)).setCell ⟨w.heap.size+1+1+1+1,6,none⟩ (.int .i64 nak))).drew:=by rw[hWf,hWc]
     go_wp2_with fail
     rw[←hWf2]
     have HZ7:=hid (H125.out)
     have HZ8:=hid ((show Wc.heap[w.heap.size+1+1+1+1]? =(w5).heap[w.heap.size+1+1+1+1]? by rw[hWc];exact set3_other (by omega) _ _ _).trans (H135.out))
     have hg1:(w5).grownBy Wc (some (w.heap.size+1+1+1)):=by rw[hWc];exact grn
     have hrc0:Wc.heap[w.heap.size+1+1+1]? =some (.cells #[.int .i64 co,.int .i64 ii,(.slice A5 nb c5)] 32 (0,0)):=by rw[hWc];exact row3 HZ7.out rfl _ _ _
     have hrc:Wf.heap[w.heap.size+1+1+1]? =some (.cells #[.int .i64 co,.int .i64 ii,(.slice A5 nb c5)] 32 (0,0)):=by rw[hWf,hdrew,set7_other (by omega)];exact hrc0
     have hra:Wf.heap[w.heap.size+1+1+1+1]? =some (.cells #[.int .i64 st,.int .i64 id,.int .i64 req,(.slice Aa na ca),.int .i64 cnt,.int .i64 tim,.int .i64 nak] 29 (0,0)):=by rw[hWf,hdrew];exact row7 HZ8.out rfl _ _ _ _ _ _ _
     have hg2:Wc.grownBy Wf (some (w.heap.size+1+1+1+1)):=by rw[hWf];exact grn
     clear hWf2 hWf hWc
     have hby:BytesO Wf w.heap.size (.slice A5 nb c5) eb:=by
      have h:=(BytesO.other (BytesO.other (l:=eb) (by unfold BytesO;rw[HNB.out];exact HO5.out) hg1 HZ7.out (by decide)) hg2 HZ8.out (by decide))
      exact h.base (by omega)
     have hbf:Below w.heap.size w Wf:=Below.grown (Below.grown (HBW.out.trans (HB5.out.mono hszW)) hg1 (Nat.le_trans hszW hs5) (fun k hk=>by cases hk;omega)) hg2 (Nat.le_trans (Nat.le_trans hszW hs5) hg1.size) (fun k hk=>by cases hk;omega)
     obtain⟨u0,u1,u2⟩:=cells3 hrc
     obtain⟨e0,e1,e2,e3,e4,e5,e6⟩:=cells7 hra
     refine bodyPost_ret (v:=.tuple #[.int .i64 8,.agg #[.int .i64 co,.int .i64 ii,.slice A5 nb c5],.agg #[.int .i64 st,.int .i64 id,.int .i64 req,.slice Aa na ca,.int .i64 cnt,.int .i64 tim,.int .i64 nak],.bool true]) (by simp[results,Tryz.results63,go_sem,u0,u1,u2,e0,e1,e2,e3,e4,e5,e6]) rfl ?_
     exact⟨A5,nb,c5,Aa,na,ca,rfl,hbf,hby,(fun h=>by cases h),fun _=>rfl⟩
  ·by_cases h2:co=2
   ·have h2':(co==2)=true:=by simpa using h2
    have h5':(ee==0)=false:=by simpa using h5
    rw[if_pos h5]
    clear h2 h5
    go_enter Tryz.func63,Tryz.ntmps63
    go_upto_region 2 with(fail)
    refine boxes6 ?_
    rintro W2 ⟨h6,h7,h8,h12,h13,h15,hbw⟩
    have HBW:=hid hbw
    have H6:=hid h6
    have H7:=hid h7
    have H8:=hid h8
    have H12:=hid h12
    have H13:=hid h13
    have H15:=hid h15
    have hszW:=hbw.size
    have l6:=lt_blk h6
    have l7:=lt_blk h7
    have l8:=lt_blk h8
    have l12:=lt_blk h12
    have l13:=lt_blk h13
    have l15:=lt_blk h15
    obtain⟨p0,p1,p2,p3,p4⟩:=cells5 h6
    obtain⟨q0,q1,q2,q3,q4,q5,q6⟩:=cells7 h7
    obtain⟨r0,r1,r2⟩:=cells3 h8
    obtain⟨z0,z1,z2⟩:=cells3 h15
    obtain⟨s0,s1,s2⟩:=cells3 h12
    obtain⟨m0,m1,m2,m3,m4,m5,m6⟩:=cells7 h13
    have f0:=frees h12 0
    have f1:=frees h12 1
    have f2:=frees h12 2
    have g0:=frees h13 0
    have g1:=frees h13 1
    have g2:=frees h13 2
    have g3:=frees h13 3
    have g4:=frees h13 4
    have g5:=frees h13 5
    have g6:=frees h13 6
    have k3:=frees h7 3
    clear h6 h7 h8 h12 h13 h15 hbw
    go_wp2_with fail
    refine(Op.rdec_any Ai ni ci li _ B (by have:=HB.out;omega) (HI.out.keep (HBW.out.mono HB.out)) HNI.out hci).mono ?_
    rintro x w3 hd
    obtain⟨E3,A3,n3,c3,rfl,hb3,ho3,he3,hn3,hc3,hl3,hsd3⟩:=DecP.get hd HDR.out
    have HO3:=hid ho3
    have HE3:=hid he3
    have HN3:=hid hn3
    have HS3:=hid hsd3
    have HB3:=hid (show Below W2.heap.size W2 w3 from hb3)
    have hs3:=HB3.out.size
    have H73:=hid ((HB3.out.block _ l7).trans H7.out)
    have H83:=hid ((HB3.out.block _ l8).trans H8.out)
    have H123:=hid ((HB3.out.block _ l12).trans H12.out)
    have H133:=hid ((HB3.out.block _ l13).trans H13.out)
    have H153:=hid ((HB3.out.block _ l15).trans H15.out)
    clear p0 p1 p2 p3 p4 q0 q1 q2 q3 q4 q5 q6 r0 r1 r2 z0 z1 z2 s0 s1 s2 m0 m1 m2 m3 m4 m5 m6 f0 f1 f2 g0 g1 g2 g3 g4 g5 g6 k3
    have cp0:=(cells5 ((HB3.out.block _ l6).trans H6.out)).1
    have cp3:=(cells5 ((HB3.out.block _ l6).trans H6.out)).2.2.2.1
    have l6x:w.heap.size<w3.heap.size:=by omega
    obtain⟨⟨l7x,l8x,l12x,l13x,l15x⟩,⟨q0,q1,q2,q3,q4,q5,q6⟩,⟨r0,r1,r2⟩,⟨z0,z1,z2⟩,⟨s0,s1,s2⟩,⟨m0,m1,m2,m3,m4,m5,m6⟩,⟨f0,f1,f2⟩,⟨g0,g1,g2,g3,g4,g5,g6⟩,k3⟩:=cellsR H73.out H83.out H123.out H133.out H153.out
    clear hd hb3 ho3 he3 hn3 hsd3
    go_wp2_with fail
    refine(Ne.ranswer_any Ar A3 nr cr n3 c3 nak mf R E3 Y HE3.out _ w3.heap.size (Nat.le_refl _) ((HR.out.keep ((HBW.out.trans (HB3.out.mono hszW)).mono HB.out)).more (by have:=HB.out;omega)) HNR.out hlr HO3.out.at HN3.out hc3 (by omega) (fun e he=>by have:=HS3.out e he;omega)).mono ?_
    rw[HAN.out]
    rintro x w4 ⟨E4,A4,n4,c4,rfl,he4,hn4,hc4,hb4,hat4⟩
    have HA4:=hid hat4
    have HE4:=hid he4
    have HN4:=hid (show n4=E4.length by rw[hn4,←he4,List.length_map])
    clear cp0 cp3 l6x l7x l8x l12x l13x l15x
    clear q0 q1 q2 q3 q4 q5 q6 r0 r1 r2 z0 z1 z2 s0 s1 s2 m0 m1 m2 m3 m4 m5 m6 f0 f1 f2 g0 g1 g2 g3 g4 g5 g6 k3
    have HB4:=hid (HB3.out.trans (hb4.mono hs3))
    have hs4:=HB4.out.size
    clear hb4 hat4 he4 hn4
    go_wp2_with fail
    refine(Op.renc_any A4 n4 c4 E4 _ _ (Nat.le_refl _) HA4.out HN4.out).mono ?_
    rw[HE4.out]
    rintro x w5 he
    obtain⟨A5,c5,rfl,hb5,ho5,hc5⟩:=EncP.get he HEN.out HNB.out
    have HO5:=hid ho5
    have HB5:=hid (show Below W2.heap.size W2 w5 from HB4.out.trans (hb5.mono hs4))
    have hs5:=HB5.out.size
    have H75:=hid ((HB5.out.block _ l7).trans H7.out)
    have H85:=hid ((HB5.out.block _ l8).trans H8.out)
    have H125:=hid ((HB5.out.block _ l12).trans H12.out)
    have H135:=hid ((HB5.out.block _ l13).trans H13.out)
    have H155:=hid ((HB5.out.block _ l15).trans H15.out)
    have hs45:=hb5.size
    clear he hb5 ho5
    obtain⟨⟨l7x,l8x,l12x,l13x,l15x⟩,⟨q0,q1,q2,q3,q4,q5,q6⟩,⟨r0,r1,r2⟩,⟨z0,z1,z2⟩,⟨s0,s1,s2⟩,⟨m0,m1,m2,m3,m4,m5,m6⟩,⟨f0,f1,f2⟩,⟨g0,g1,g2,g3,g4,g5,g6⟩,k3⟩:=cellsR H75.out H85.out H125.out H135.out H155.out
    go_wp2_with fail
    go_region_held3 (fun w'=>w'.cell? ⟨w.heap.size+1+1,1,none⟩=some (.int .i64 ii)∧w'.cell? ⟨w.heap.size+1,0,none⟩=some (.int .i64 st)∧w'.cell? ⟨w.heap.size+1,1,none⟩=some (.int .i64 id)∧w'.cell? ⟨w.heap.size+1,2,none⟩=some (.int .i64 req)∧w'.cell? ⟨w.heap.size+1,3,none⟩=some (.slice Aa na ca)∧w'.cell? ⟨w.heap.size+1,4,none⟩=some (.int .i64 cnt)∧w'.cell? ⟨w.heap.size+1,5,none⟩=some (.int .i64 tim)∧w'.cell? ⟨w.heap.size+1,6,none⟩=some (.int .i64 nak)) (first|(go_keep;done)|(go_simp;done)|(simp[go_sem];done)) (fail)
    all_goals
     clear q0 q1 q2 q3 q4 q5 q6 r0 r1 r2 z0 z1 z2 s0 s1 s2 m0 m1 m2 m3 m4 m5 m6 f0 f1 f2 g0 g1 g2 g3 g4 g5 g6 k3
     obtain⟨Wc,hWc⟩: ∃Wc:World,Wc=(((w5.setCell ⟨w.heap.size+1+1+1,0,none⟩ (.int .i64 co)).setCell ⟨w.heap.size+1+1+1,1,none⟩ (.int .i64 ii)).setCell ⟨w.heap.size+1+1+1,2,none⟩ (.slice A5 nb c5)):=⟨_,rfl⟩
     obtain⟨Wf,hWf⟩: ∃Wf:World,Wf=((((((((Wc.setCell ⟨w.heap.size+1+1+1+1,0,none⟩ (.int .i64 st)).setCell ⟨w.heap.size+1+1+1+1,1,none⟩ (.int .i64 id)).setCell ⟨w.heap.size+1+1+1+1,2,none⟩ (.int .i64 req)).setCell ⟨w.heap.size+1+1+1+1,3,none⟩ (.slice Aa na ca)).setCell ⟨w.heap.size+1+1+1+1,4,none⟩ (.int .i64 cnt)).setCell ⟨w.heap.size+1+1+1+1,5,none⟩ (.int .i64 tim)).setCell ⟨w.heap.size+1+1+1+1,6,none⟩ (.int .i64 nak))).drew:=⟨_,rfl⟩
     have hWf2:Wf=(((((((((((w5.setCell ⟨w.heap.size+1+1+1,0,none⟩ (.int .i64 co)).setCell ⟨w.heap.size+1+1+1,1,none⟩ (.int .i64 ii)).setCell ⟨w.heap.size+1+1+1,2,none⟩ (.slice A5 nb c5)).setCell ⟨w.heap.size+1+1+1+1,0,none⟩ (.int .i64 st)).setCell ⟨w.heap.size+1+1+1+1,1,none⟩ (.int .i64 id)).setCell ⟨w.heap.size+1+1+1+1,2,none⟩ (.int .i64 req)).setCell ⟨w.heap.size+1+1+1+1,3,none⟩ (.slice Aa na ca)).setCell ⟨w.heap.size+1+1+1+1,4,none⟩ (.int .i64 cnt)).setCell ⟨w.heap.size+1+1+1+1,5,none⟩ (.int .i64 tim)).setCell ⟨w.heap.size+1+1+1+1,6,none⟩ (.int .i64 nak))).drew:=by rw[hWf,hWc]
     go_wp2_with fail
     rw[←hWf2]
     have HZ7:=hid (H125.out)
     have HZ8:=hid ((show Wc.heap[w.heap.size+1+1+1+1]? =(w5).heap[w.heap.size+1+1+1+1]? by rw[hWc];exact set3_other (by omega) _ _ _).trans (H135.out))
     have hg1:(w5).grownBy Wc (some (w.heap.size+1+1+1)):=by rw[hWc];exact grn
     have hrc0:Wc.heap[w.heap.size+1+1+1]? =some (.cells #[.int .i64 co,.int .i64 ii,(.slice A5 nb c5)] 32 (0,0)):=by rw[hWc];exact row3 HZ7.out rfl _ _ _
     have hrc:Wf.heap[w.heap.size+1+1+1]? =some (.cells #[.int .i64 co,.int .i64 ii,(.slice A5 nb c5)] 32 (0,0)):=by rw[hWf,hdrew,set7_other (by omega)];exact hrc0
     have hra:Wf.heap[w.heap.size+1+1+1+1]? =some (.cells #[.int .i64 st,.int .i64 id,.int .i64 req,(.slice Aa na ca),.int .i64 cnt,.int .i64 tim,.int .i64 nak] 29 (0,0)):=by rw[hWf,hdrew];exact row7 HZ8.out rfl _ _ _ _ _ _ _
     have hg2:Wc.grownBy Wf (some (w.heap.size+1+1+1+1)):=by rw[hWf];exact grn
     clear hWf2 hWf hWc
     have hby:BytesO Wf w.heap.size (.slice A5 nb c5) eb:=by
      have h:=(BytesO.other (BytesO.other (l:=eb) (by unfold BytesO;rw[HNB.out];exact HO5.out) hg1 HZ7.out (by decide)) hg2 HZ8.out (by decide))
      exact h.base (by omega)
     have hbf:Below w.heap.size w Wf:=Below.grown (Below.grown (HBW.out.trans (HB5.out.mono hszW)) hg1 (Nat.le_trans hszW hs5) (fun k hk=>by cases hk;omega)) hg2 (Nat.le_trans (Nat.le_trans hszW hs5) hg1.size) (fun k hk=>by cases hk;omega)
     obtain⟨u0,u1,u2⟩:=cells3 hrc
     obtain⟨e0,e1,e2,e3,e4,e5,e6⟩:=cells7 hra
     refine bodyPost_ret (v:=.tuple #[.int .i64 7,.agg #[.int .i64 co,.int .i64 ii,.slice A5 nb c5],.agg #[.int .i64 st,.int .i64 id,.int .i64 req,.slice Aa na ca,.int .i64 cnt,.int .i64 tim,.int .i64 nak],.bool false]) (by simp[results,Tryz.results63,go_sem,u0,u1,u2,e0,e1,e2,e3,e4,e5,e6]) rfl ?_
     exact⟨_,_,_,_,_,_,_,_,_,rfl,hbf⟩
   ·have h2':(co==2)=false:=by simpa using h2
    have h5':(ee==0)=false:=by simpa using h5
    rw[if_pos h5]
    clear h2 h5
    go_enter Tryz.func63,Tryz.ntmps63
    go_upto_region 2 with(fail)
    refine boxes6 ?_
    rintro W2 ⟨h6,h7,h8,h12,h13,h15,hbw⟩
    have HBW:=hid hbw
    have H6:=hid h6
    have H7:=hid h7
    have H8:=hid h8
    have H12:=hid h12
    have H13:=hid h13
    have H15:=hid h15
    have hszW:=hbw.size
    have l6:=lt_blk h6
    have l7:=lt_blk h7
    have l8:=lt_blk h8
    have l12:=lt_blk h12
    have l13:=lt_blk h13
    have l15:=lt_blk h15
    obtain⟨p0,p1,p2,p3,p4⟩:=cells5 h6
    obtain⟨q0,q1,q2,q3,q4,q5,q6⟩:=cells7 h7
    obtain⟨r0,r1,r2⟩:=cells3 h8
    obtain⟨z0,z1,z2⟩:=cells3 h15
    obtain⟨s0,s1,s2⟩:=cells3 h12
    obtain⟨m0,m1,m2,m3,m4,m5,m6⟩:=cells7 h13
    have f0:=frees h12 0
    have f1:=frees h12 1
    have f2:=frees h12 2
    have g0:=frees h13 0
    have g1:=frees h13 1
    have g2:=frees h13 2
    have g3:=frees h13 3
    have g4:=frees h13 4
    have g5:=frees h13 5
    have g6:=frees h13 6
    have k3:=frees h7 3
    clear h6 h7 h8 h12 h13 h15 hbw
    go_wp2_with fail
    refine(Op.rdec_any Ai ni ci li _ B (by have:=HB.out;omega) (HI.out.keep (HBW.out.mono HB.out)) HNI.out hci).mono ?_
    rintro x w3 hd
    obtain⟨E3,A3,n3,c3,rfl,hb3,ho3,he3,hn3,hc3,hl3,hsd3⟩:=DecP.get hd HDR.out
    have HO3:=hid ho3
    have HE3:=hid he3
    have HN3:=hid hn3
    have HS3:=hid hsd3
    have HB3:=hid (show Below W2.heap.size W2 w3 from hb3)
    have hs3:=HB3.out.size
    have H73:=hid ((HB3.out.block _ l7).trans H7.out)
    have H83:=hid ((HB3.out.block _ l8).trans H8.out)
    have H123:=hid ((HB3.out.block _ l12).trans H12.out)
    have H133:=hid ((HB3.out.block _ l13).trans H13.out)
    have H153:=hid ((HB3.out.block _ l15).trans H15.out)
    clear p0 p1 p2 p3 p4 q0 q1 q2 q3 q4 q5 q6 r0 r1 r2 z0 z1 z2 s0 s1 s2 m0 m1 m2 m3 m4 m5 m6 f0 f1 f2 g0 g1 g2 g3 g4 g5 g6 k3
    have cp0:=(cells5 ((HB3.out.block _ l6).trans H6.out)).1
    have cp3:=(cells5 ((HB3.out.block _ l6).trans H6.out)).2.2.2.1
    have l6x:w.heap.size<w3.heap.size:=by omega
    obtain⟨⟨l7x,l8x,l12x,l13x,l15x⟩,⟨q0,q1,q2,q3,q4,q5,q6⟩,⟨r0,r1,r2⟩,⟨z0,z1,z2⟩,⟨s0,s1,s2⟩,⟨m0,m1,m2,m3,m4,m5,m6⟩,⟨f0,f1,f2⟩,⟨g0,g1,g2,g3,g4,g5,g6⟩,k3⟩:=cellsR H73.out H83.out H123.out H133.out H153.out
    clear hd hb3 ho3 he3 hn3 hsd3
    go_wp2_with fail
    refine(Ne.ranswer_any Ar A3 nr cr n3 c3 nak mf R E3 Y HE3.out _ w3.heap.size (Nat.le_refl _) ((HR.out.keep ((HBW.out.trans (HB3.out.mono hszW)).mono HB.out)).more (by have:=HB.out;omega)) HNR.out hlr HO3.out.at HN3.out hc3 (by omega) (fun e he=>by have:=HS3.out e he;omega)).mono ?_
    rw[HAN.out]
    rintro x w4 ⟨E4,A4,n4,c4,rfl,he4,hn4,hc4,hb4,hat4⟩
    have HA4:=hid hat4
    have HE4:=hid he4
    have HN4:=hid (show n4=E4.length by rw[hn4,←he4,List.length_map])
    clear cp0 cp3 l6x l7x l8x l12x l13x l15x
    clear q0 q1 q2 q3 q4 q5 q6 r0 r1 r2 z0 z1 z2 s0 s1 s2 m0 m1 m2 m3 m4 m5 m6 f0 f1 f2 g0 g1 g2 g3 g4 g5 g6 k3
    have HB4:=hid (HB3.out.trans (hb4.mono hs3))
    have hs4:=HB4.out.size
    clear hb4 hat4 he4 hn4
    go_wp2_with fail
    refine(Op.renc_any A4 n4 c4 E4 _ _ (Nat.le_refl _) HA4.out HN4.out).mono ?_
    rw[HE4.out]
    rintro x w5 he
    obtain⟨A5,c5,rfl,hb5,ho5,hc5⟩:=EncP.get he HEN.out HNB.out
    have HO5:=hid ho5
    have HB5:=hid (show Below W2.heap.size W2 w5 from HB4.out.trans (hb5.mono hs4))
    have hs5:=HB5.out.size
    have H75:=hid ((HB5.out.block _ l7).trans H7.out)
    have H85:=hid ((HB5.out.block _ l8).trans H8.out)
    have H125:=hid ((HB5.out.block _ l12).trans H12.out)
    have H135:=hid ((HB5.out.block _ l13).trans H13.out)
    have H155:=hid ((HB5.out.block _ l15).trans H15.out)
    have hs45:=hb5.size
    clear he hb5 ho5
    obtain⟨⟨l7x,l8x,l12x,l13x,l15x⟩,⟨q0,q1,q2,q3,q4,q5,q6⟩,⟨r0,r1,r2⟩,⟨z0,z1,z2⟩,⟨s0,s1,s2⟩,⟨m0,m1,m2,m3,m4,m5,m6⟩,⟨f0,f1,f2⟩,⟨g0,g1,g2,g3,g4,g5,g6⟩,k3⟩:=cellsR H75.out H85.out H125.out H135.out H155.out
    go_wp2_with fail
    go_region_held3 (fun w'=>w'.cell? ⟨w.heap.size+1+1,1,none⟩=some (.int .i64 ii)∧w'.cell? ⟨w.heap.size+1,0,none⟩=some (.int .i64 st)∧w'.cell? ⟨w.heap.size+1,1,none⟩=some (.int .i64 id)∧w'.cell? ⟨w.heap.size+1,2,none⟩=some (.int .i64 req)∧w'.cell? ⟨w.heap.size+1,3,none⟩=some (.slice Aa na ca)∧w'.cell? ⟨w.heap.size+1,4,none⟩=some (.int .i64 cnt)∧w'.cell? ⟨w.heap.size+1,5,none⟩=some (.int .i64 tim)∧w'.cell? ⟨w.heap.size+1,6,none⟩=some (.int .i64 nak)) (first|(go_keep;done)|(go_simp;done)|(simp[go_sem];done)) (fail)
    all_goals
     clear q0 q1 q2 q3 q4 q5 q6 r0 r1 r2 z0 z1 z2 s0 s1 s2 m0 m1 m2 m3 m4 m5 m6 f0 f1 f2 g0 g1 g2 g3 g4 g5 g6 k3
     obtain⟨Wc,hWc⟩: ∃Wc:World,Wc=(((w5.setCell ⟨w.heap.size+1+1+1,0,none⟩ (.int .i64 co)).setCell ⟨w.heap.size+1+1+1,1,none⟩ (.int .i64 ii)).setCell ⟨w.heap.size+1+1+1,2,none⟩ (.slice A5 nb c5)):=⟨_,rfl⟩
     obtain⟨Wf,hWf⟩: ∃Wf:World,Wf=((((((((Wc.setCell ⟨w.heap.size+1+1+1+1,0,none⟩ (.int .i64 st)).setCell ⟨w.heap.size+1+1+1+1,1,none⟩ (.int .i64 id)).setCell ⟨w.heap.size+1+1+1+1,2,none⟩ (.int .i64 req)).setCell ⟨w.heap.size+1+1+1+1,3,none⟩ (.slice Aa na ca)).setCell ⟨w.heap.size+1+1+1+1,4,none⟩ (.int .i64 cnt)).setCell ⟨w.heap.size+1+1+1+1,5,none⟩ (.int .i64 tim)).setCell ⟨w.heap.size+1+1+1+1,6,none⟩ (.int .i64 nak))).drew:=⟨_,rfl⟩
     have hWf2:Wf=(((((((((((w5.setCell ⟨w.heap.size+1+1+1,0,none⟩ (.int .i64 co)).setCell ⟨w.heap.size+1+1+1,1,none⟩ (.int .i64 ii)).setCell ⟨w.heap.size+1+1+1,2,none⟩ (.slice A5 nb c5)).setCell ⟨w.heap.size+1+1+1+1,0,none⟩ (.int .i64 st)).setCell ⟨w.heap.size+1+1+1+1,1,none⟩ (.int .i64 id)).setCell ⟨w.heap.size+1+1+1+1,2,none⟩ (.int .i64 req)).setCell ⟨w.heap.size+1+1+1+1,3,none⟩ (.slice Aa na ca)).setCell ⟨w.heap.size+1+1+1+1,4,none⟩ (.int .i64 cnt)).setCell ⟨w.heap.size+1+1+1+1,5,none⟩ (.int .i64 tim)).setCell ⟨w.heap.size+1+1+1+1,6,none⟩ (.int .i64 nak))).drew:=by rw[hWf,hWc]
     go_wp2_with fail
     rw[←hWf2]
     have HZ7:=hid (H125.out)
     have HZ8:=hid ((show Wc.heap[w.heap.size+1+1+1+1]? =(w5).heap[w.heap.size+1+1+1+1]? by rw[hWc];exact set3_other (by omega) _ _ _).trans (H135.out))
     have hg1:(w5).grownBy Wc (some (w.heap.size+1+1+1)):=by rw[hWc];exact grn
     have hrc0:Wc.heap[w.heap.size+1+1+1]? =some (.cells #[.int .i64 co,.int .i64 ii,(.slice A5 nb c5)] 32 (0,0)):=by rw[hWc];exact row3 HZ7.out rfl _ _ _
     have hrc:Wf.heap[w.heap.size+1+1+1]? =some (.cells #[.int .i64 co,.int .i64 ii,(.slice A5 nb c5)] 32 (0,0)):=by rw[hWf,hdrew,set7_other (by omega)];exact hrc0
     have hra:Wf.heap[w.heap.size+1+1+1+1]? =some (.cells #[.int .i64 st,.int .i64 id,.int .i64 req,(.slice Aa na ca),.int .i64 cnt,.int .i64 tim,.int .i64 nak] 29 (0,0)):=by rw[hWf,hdrew];exact row7 HZ8.out rfl _ _ _ _ _ _ _
     have hg2:Wc.grownBy Wf (some (w.heap.size+1+1+1+1)):=by rw[hWf];exact grn
     clear hWf2 hWf hWc
     have hby:BytesO Wf w.heap.size (.slice A5 nb c5) eb:=by
      have h:=(BytesO.other (BytesO.other (l:=eb) (by unfold BytesO;rw[HNB.out];exact HO5.out) hg1 HZ7.out (by decide)) hg2 HZ8.out (by decide))
      exact h.base (by omega)
     have hbf:Below w.heap.size w Wf:=Below.grown (Below.grown (HBW.out.trans (HB5.out.mono hszW)) hg1 (Nat.le_trans hszW hs5) (fun k hk=>by cases hk;omega)) hg2 (Nat.le_trans (Nat.le_trans hszW hs5) hg1.size) (fun k hk=>by cases hk;omega)
     obtain⟨u0,u1,u2⟩:=cells3 hrc
     obtain⟨e0,e1,e2,e3,e4,e5,e6⟩:=cells7 hra
     refine bodyPost_ret (v:=.tuple #[.int .i64 8,.agg #[.int .i64 co,.int .i64 ii,.slice A5 nb c5],.agg #[.int .i64 st,.int .i64 id,.int .i64 req,.slice Aa na ca,.int .i64 cnt,.int .i64 tim,.int .i64 nak],.bool false]) (by simp[results,Tryz.results63,go_sem,u0,u1,u2,e0,e1,e2,e3,e4,e5,e6]) rfl ?_
     exact⟨_,_,_,_,_,_,_,_,_,rfl,hbf⟩
 ·have h0':(ye !=0)=true:=by simpa using h0
  have HO:=hid (show askedO ⟨R,mc,mt,mf,wt⟩ ⟨st,id,req,L,cnt,tim,nak⟩ ⟨1,ii,li⟩=none by unfold askedO;dsimp only;rw[hd];simp[h0])
  rw[HO.out]
  clear hd h0
  go_enter Tryz.func63,Tryz.ntmps63
  go_upto_region 2 with(fail)
  refine boxes6 ?_
  rintro W2 ⟨h6,h7,h8,h12,h13,h15,hbw⟩
  have HBW:=hid hbw
  have H6:=hid h6
  have H7:=hid h7
  have H8:=hid h8
  have H12:=hid h12
  have H13:=hid h13
  have H15:=hid h15
  have hszW:=hbw.size
  have l6:=lt_blk h6
  have l7:=lt_blk h7
  have l8:=lt_blk h8
  have l12:=lt_blk h12
  have l13:=lt_blk h13
  have l15:=lt_blk h15
  obtain⟨p0,p1,p2,p3,p4⟩:=cells5 h6
  obtain⟨q0,q1,q2,q3,q4,q5,q6⟩:=cells7 h7
  obtain⟨r0,r1,r2⟩:=cells3 h8
  obtain⟨z0,z1,z2⟩:=cells3 h15
  obtain⟨s0,s1,s2⟩:=cells3 h12
  obtain⟨m0,m1,m2,m3,m4,m5,m6⟩:=cells7 h13
  have f0:=frees h12 0
  have f1:=frees h12 1
  have f2:=frees h12 2
  have g0:=frees h13 0
  have g1:=frees h13 1
  have g2:=frees h13 2
  have g3:=frees h13 3
  have g4:=frees h13 4
  have g5:=frees h13 5
  have g6:=frees h13 6
  have k3:=frees h7 3
  clear h6 h7 h8 h12 h13 h15 hbw
  go_wp2_with fail
  refine(Op.rdec_any Ai ni ci li _ B (by have:=HB.out;omega) (HI.out.keep (HBW.out.mono HB.out)) HNI.out hci).mono ?_
  rintro x w3 hd
  obtain⟨E3,A3,n3,c3,rfl,hb3,ho3,he3,hn3,hc3,hl3,hsd3⟩:=DecP.get hd HDR.out
  have HO3:=hid ho3
  have HE3:=hid he3
  have HN3:=hid hn3
  have HS3:=hid hsd3
  have HB3:=hid (show Below W2.heap.size W2 w3 from hb3)
  have hs3:=HB3.out.size
  have H73:=hid ((HB3.out.block _ l7).trans H7.out)
  have H83:=hid ((HB3.out.block _ l8).trans H8.out)
  have H123:=hid ((HB3.out.block _ l12).trans H12.out)
  have H133:=hid ((HB3.out.block _ l13).trans H13.out)
  have H153:=hid ((HB3.out.block _ l15).trans H15.out)
  clear p0 p1 p2 p3 p4 q0 q1 q2 q3 q4 q5 q6 r0 r1 r2 z0 z1 z2 s0 s1 s2 m0 m1 m2 m3 m4 m5 m6 f0 f1 f2 g0 g1 g2 g3 g4 g5 g6 k3
  have cp0:=(cells5 ((HB3.out.block _ l6).trans H6.out)).1
  have cp3:=(cells5 ((HB3.out.block _ l6).trans H6.out)).2.2.2.1
  have l6x:w.heap.size<w3.heap.size:=by omega
  obtain⟨⟨l7x,l8x,l12x,l13x,l15x⟩,⟨q0,q1,q2,q3,q4,q5,q6⟩,⟨r0,r1,r2⟩,⟨z0,z1,z2⟩,⟨s0,s1,s2⟩,⟨m0,m1,m2,m3,m4,m5,m6⟩,⟨f0,f1,f2⟩,⟨g0,g1,g2,g3,g4,g5,g6⟩,k3⟩:=cellsR H73.out H83.out H123.out H133.out H153.out
  clear hd hb3 ho3 he3 hn3 hsd3
  go_wp2_with fail
  go_region_held3 (fun w'=>w'.cell? ⟨w.heap.size+1+1+1+1+1,0,none⟩=some (.int .i64 0)∧w'.cell? ⟨w.heap.size+1+1+1+1+1,1,none⟩=some (.int .i64 0)∧w'.cell? ⟨w.heap.size+1+1+1+1+1,2,none⟩=some (.slice none 0 0)∧w'.cell? ⟨w.heap.size+1,0,none⟩=some (.int .i64 st)∧w'.cell? ⟨w.heap.size+1,1,none⟩=some (.int .i64 id)∧w'.cell? ⟨w.heap.size+1,2,none⟩=some (.int .i64 req)∧w'.cell? ⟨w.heap.size+1,3,none⟩=some (.slice Aa na ca)∧w'.cell? ⟨w.heap.size+1,4,none⟩=some (.int .i64 cnt)∧w'.cell? ⟨w.heap.size+1,5,none⟩=some (.int .i64 tim)∧w'.cell? ⟨w.heap.size+1,6,none⟩=some (.int .i64 nak)) (first|(go_keep;done)|(go_simp;done)|(simp[go_sem];done)) (fail)
  all_goals
   clear q0 q1 q2 q3 q4 q5 q6 r0 r1 r2 z0 z1 z2 s0 s1 s2 m0 m1 m2 m3 m4 m5 m6 f0 f1 f2 g0 g1 g2 g3 g4 g5 g6 k3
   obtain⟨Wc,hWc⟩: ∃Wc:World,Wc=(((w3.setCell ⟨w.heap.size+1+1+1,0,none⟩ (.int .i64 0)).setCell ⟨w.heap.size+1+1+1,1,none⟩ (.int .i64 0)).setCell ⟨w.heap.size+1+1+1,2,none⟩ (.slice none 0 0)):=⟨_,rfl⟩
   obtain⟨Wf,hWf⟩: ∃Wf:World,Wf=((((((((Wc.setCell ⟨w.heap.size+1+1+1+1,0,none⟩ (.int .i64 st)).setCell ⟨w.heap.size+1+1+1+1,1,none⟩ (.int .i64 id)).setCell ⟨w.heap.size+1+1+1+1,2,none⟩ (.int .i64 req)).setCell ⟨w.heap.size+1+1+1+1,3,none⟩ (.slice Aa na ca)).setCell ⟨w.heap.size+1+1+1+1,4,none⟩ (.int .i64 cnt)).setCell ⟨w.heap.size+1+1+1+1,5,none⟩ (.int .i64 tim)).setCell ⟨w.heap.size+1+1+1+1,6,none⟩ (.int .i64 nak))).drew:=⟨_,rfl⟩
   have hWf2:Wf=(((((((((((w3.setCell ⟨w.heap.size+1+1+1,0,none⟩ (.int .i64 0)).setCell ⟨w.heap.size+1+1+1,1,none⟩ (.int .i64 0)).setCell ⟨w.heap.size+1+1+1,2,none⟩ (.slice none 0 0)).setCell ⟨w.heap.size+1+1+1+1,0,none⟩ (.int .i64 st)).setCell ⟨w.heap.size+1+1+1+1,1,none⟩ (.int .i64 id)).setCell ⟨w.heap.size+1+1+1+1,2,none⟩ (.int .i64 req)).setCell ⟨w.heap.size+1+1+1+1,3,none⟩ (.slice Aa na ca)).setCell ⟨w.heap.size+1+1+1+1,4,none⟩ (.int .i64 cnt)).setCell ⟨w.heap.size+1+1+1+1,5,none⟩ (.int .i64 tim)).setCell ⟨w.heap.size+1+1+1+1,6,none⟩ (.int .i64 nak))).drew:=by rw[hWf,hWc]
   go_wp2_with fail
   rw[←hWf2]
   have HZ7:=hid (H123.out)
   have HZ8:=hid ((show Wc.heap[w.heap.size+1+1+1+1]? =(w3).heap[w.heap.size+1+1+1+1]? by rw[hWc];exact set3_other (by omega) _ _ _).trans (H133.out))
   have hg1:(w3).grownBy Wc (some (w.heap.size+1+1+1)):=by rw[hWc];exact grn
   have hrc0:Wc.heap[w.heap.size+1+1+1]? =some (.cells #[.int .i64 0,.int .i64 0,(.slice none 0 0)] 32 (0,0)):=by rw[hWc];exact row3 HZ7.out rfl _ _ _
   have hrc:Wf.heap[w.heap.size+1+1+1]? =some (.cells #[.int .i64 0,.int .i64 0,(.slice none 0 0)] 32 (0,0)):=by rw[hWf,hdrew,set7_other (by omega)];exact hrc0
   have hra:Wf.heap[w.heap.size+1+1+1+1]? =some (.cells #[.int .i64 st,.int .i64 id,.int .i64 req,(.slice Aa na ca),.int .i64 cnt,.int .i64 tim,.int .i64 nak] 29 (0,0)):=by rw[hWf,hdrew];exact row7 HZ8.out rfl _ _ _ _ _ _ _
   have hg2:Wc.grownBy Wf (some (w.heap.size+1+1+1+1)):=by rw[hWf];exact grn
   clear hWf2 hWf hWc
   have hbf:Below w.heap.size w Wf:=Below.grown (Below.grown (HBW.out.trans (HB3.out.mono hszW)) hg1 (Nat.le_trans hszW hs3) (fun k hk=>by cases hk;omega)) hg2 (Nat.le_trans (Nat.le_trans hszW hs3) hg1.size) (fun k hk=>by cases hk;omega)
   obtain⟨u0,u1,u2⟩:=cells3 hrc
   obtain⟨e0,e1,e2,e3,e4,e5,e6⟩:=cells7 hra
   refine bodyPost_ret (v:=.tuple #[.int .i64 0,.agg #[.int .i64 0,.int .i64 0,.slice none 0 0],.agg #[.int .i64 st,.int .i64 id,.int .i64 req,.slice Aa na ca,.int .i64 cnt,.int .i64 tim,.int .i64 nak],.bool false]) (by simp[results,Tryz.results63,go_sem,u0,u1,u2,e0,e1,e2,e3,e4,e5,e6]) rfl ?_
   exact⟨_,_,_,_,_,_,_,_,_,rfl,hbf⟩
end Go.Proofs.YtfkgmbknfnhjoaaGreat
