/- Bundle PP. -/
import Derived.Test.YtfkgmbknfnhjoaaGreatRPN
import Derived.BigQuiet
set_option maxHeartbeats 8000000
namespace Go.Proofs.YtfkgmbknfnhjoaaGreat
open Lib (hid)
open Go.RowKit
set_option linter.unusedSimpArgs false
set_option linter.unusedVariables false
set_option linter.ambiguousOpen false
open Ne (Rl Opt RulesAt areB answerO learnO)
open Fs (av hasB)
theorem conv_at {W:World} {B:Nat} {A:Option Addr} {n c:Nat} {l:List UInt8} (h:At W B A (l.map bv)) (hn:n=l.length):(convert 30 9 (.slice A n c)).run Tryz.prog W.drew=.ok (.string ⟨l.toArray⟩) W.drew:=
 run_str Tryz.underlying30 Tryz.underlying5 Tryz.underlying9 hn (show At W.drew B A (l.map bv) from h)
theorem BytesO.at {W:World} {base:Nat} {A:Option Addr} {n c:Nat} {l:List UInt8} (h:BytesO W base (.slice A n c) l):At W W.heap.size A (l.map bv):=by
 obtain⟨A',n',c',e,h1,-,-⟩:=h.v
 cases e
 exact h1
set_option maxRecDepth 100000 in
theorem rwhich_2a (Ar Aa Ai:Option Addr) (nr cr na ca ni ci:Nat) (R:List Rl) (mc mt mf wt st id req cnt tim nak ii:Int) (E:List Ent) (li:List UInt8) (w:World) (B:Nat) (hB:B≤w.heap.size) (hR:RulesAt w B Ar R) (hnr:nr=R.length) (hlr:nr≤1000000) (hE:OptsAt w B Aa E) (hna:na=E.length) (hca:na≤ca) (hla:na≤1000000) (hI:At w B Ai (li.map bv)) (hni:ni=li.length) (hci:ni≤ci) (hq:ii=req∧li≠(Op.encR (E.map Ent.o)).1):Calls Tryz.prog 63 #[.agg #[.slice Ar nr cr,.int .i64 mc,.int .i64 mt,.int .i64 mf,.int .i64 wt],.agg #[.int .i64 st,.int .i64 id,.int .i64 req,.slice Aa na ca,.int .i64 cnt,.int .i64 tim,.int .i64 nak],.agg #[.int .i64 2,.int .i64 ii,.slice Ai ni ci]] w (RWhichP (whichO ⟨R,mc,mt,mf,wt⟩ ⟨st,id,req,E.map Ent.o,cnt,tim,nak⟩ ⟨2,ii,li⟩) ⟨st,id,req,E.map Ent.o,cnt,tim,nak⟩ (.slice Aa na ca) w):=by
 have HB:=hid hB
 have HR:=hid hR
 have HNR:=hid hnr
 have HE:=hid hE
 have HNA:=hid hna
 have HI:=hid hI
 have HNI:=hid hni
 obtain⟨L,hL⟩: ∃L,E.map Ent.o=L:=⟨_,rfl⟩
 have HL:=hid hL
 rw[hL]
 clear hB hR hnr hE hna hL hI hni
 rw[HL.out] at hq
 obtain⟨⟨eb,ee⟩,hen⟩: ∃r,Op.encR L=r:=⟨_,rfl⟩
 have HEN:=hid hen
 obtain⟨nb,hnb⟩: ∃nb,eb.length=nb:=⟨_,rfl⟩
 have HNB:=hid hnb
 have HO0:=hid (show whichO ⟨R,mc,mt,mf,wt⟩ ⟨st,id,req,L,cnt,tim,nak⟩ ⟨2,ii,li⟩=if ii=req∧li=eb then some (9,⟨0,0,[]⟩,L) else none by have h:whichO ⟨R,mc,mt,mf,wt⟩ ⟨st,id,req,L,cnt,tim,nak⟩ ⟨2,ii,li⟩=if ii=req∧li=(Op.encR L).1 then some (9,⟨0,0,[]⟩,L) else none:=rfl;rw[h,hen])
 rw[HO0.out]
 rw[hen] at hq
 dsimp only at hq
 clear hen hnb HO0
 have HQ:=hid (show¬(ii=req∧li=eb) from fun h=>hq.2 h.2)
 rw[if_neg HQ.out]
 have h1':(ii==req)=true:=by simpa using hq.1
 have h2:(li==eb)=false:=by simpa using hq.2
 clear hq
 go_enter Tryz.func63,Tryz.ntmps63
 go_upto_region 2 with(fail)
 refine boxes6 ?_
 rintro W2 ⟨h6,h7,h8,h12,h13,h15,hbw⟩
 have HBW:=hid hbw
 have H6:=hid h6
 have H7:=hid h7
 have H8:=hid h8
 have H12:=hid h12
 have H13:=hid h13
 have H15:=hid h15
 have hszW:=hbw.size
 have l6:=lt_blk h6
 have l7:=lt_blk h7
 have l8:=lt_blk h8
 have l12:=lt_blk h12
 have l13:=lt_blk h13
 have l15:=lt_blk h15
 obtain⟨p0,p1,p2,p3,p4⟩:=cells5 h6
 obtain⟨q0,q1,q2,q3,q4,q5,q6⟩:=cells7 h7
 obtain⟨r0,r1,r2⟩:=cells3 h8
 obtain⟨z0,z1,z2⟩:=cells3 h15
 obtain⟨s0,s1,s2⟩:=cells3 h12
 obtain⟨m0,m1,m2,m3,m4,m5,m6⟩:=cells7 h13
 have f0:=frees h12 0
 have f1:=frees h12 1
 have f2:=frees h12 2
 have g0:=frees h13 0
 have g1:=frees h13 1
 have g2:=frees h13 2
 have g3:=frees h13 3
 have g4:=frees h13 4
 have g5:=frees h13 5
 have g6:=frees h13 6
 have k3:=frees h7 3
 clear h6 h7 h8 h12 h13 h15 hbw
 go_wp2_with fail
 refine(Op.renc_any Aa na ca E _ B (by have:=HB.out;omega) (HE.out.keep (HBW.out.mono HB.out)) HNA.out).mono ?_
 rw[HL.out]
 rintro x w5 he
 obtain⟨A5,c5,rfl,hb5,ho5,hc5⟩:=EncP.get he HEN.out HNB.out
 have HO5:=hid ho5
 have HB5:=hid (show Below W2.heap.size W2 w5 from hb5)
 have hs5:=HB5.out.size
 have H75:=hid ((HB5.out.block _ l7).trans H7.out)
 have H85:=hid ((HB5.out.block _ l8).trans H8.out)
 have H125:=hid ((HB5.out.block _ l12).trans H12.out)
 have H135:=hid ((HB5.out.block _ l13).trans H13.out)
 have H155:=hid ((HB5.out.block _ l15).trans H15.out)
 clear p0 p1 p2 p3 p4 q0 q1 q2 q3 q4 q5 q6 r0 r1 r2 z0 z1 z2 s0 s1 s2 m0 m1 m2 m3 m4 m5 m6 f0 f1 f2 g0 g1 g2 g3 g4 g5 g6 k3
 clear he hb5 ho5
 obtain⟨⟨l7x,l8x,l12x,l13x,l15x⟩,⟨q0,q1,q2,q3,q4,q5,q6⟩,⟨r0,r1,r2⟩,⟨z0,z1,z2⟩,⟨s0,s1,s2⟩,⟨m0,m1,m2,m3,m4,m5,m6⟩,⟨f0,f1,f2⟩,⟨g0,g1,g2,g3,g4,g5,g6⟩,k3⟩:=cellsR H75.out H85.out H125.out H135.out H155.out
 go_wp2_with fail
 have o1:BytesO w5 w.heap.size (.slice A5 nb c5) eb:=by unfold BytesO;rw[HNB.out];exact own_base HO5.out (by omega)
 have hgc:w5.grownBy (((w5.setCell ⟨w.heap.size+1+1+1,0,none⟩ (.int .i64 0)).setCell ⟨w.heap.size+1+1+1,1,none⟩ (.int .i64 0)).setCell ⟨w.heap.size+1+1+1,2,none⟩ (.slice none 0 0)) (some (w.heap.size+1+1+1)):=grn
 have o2:=o1.other hgc H125.out (by decide)
 have h8c:((((w5.setCell ⟨w.heap.size+1+1+1,0,none⟩ (.int .i64 0)).setCell ⟨w.heap.size+1+1+1,1,none⟩ (.int .i64 0)).setCell ⟨w.heap.size+1+1+1,2,none⟩ (.slice none 0 0))).heap[w.heap.size+1+1+1+1]? =w5.heap[w.heap.size+1+1+1+1]?:=set3_other (by omega) _ _ _
 have hga:((((w5.setCell ⟨w.heap.size+1+1+1,0,none⟩ (.int .i64 0)).setCell ⟨w.heap.size+1+1+1,1,none⟩ (.int .i64 0)).setCell ⟨w.heap.size+1+1+1,2,none⟩ (.slice none 0 0))).grownBy ((((((((((w5.setCell ⟨w.heap.size+1+1+1,0,none⟩ (.int .i64 0)).setCell ⟨w.heap.size+1+1+1,1,none⟩ (.int .i64 0)).setCell ⟨w.heap.size+1+1+1,2,none⟩ (.slice none 0 0)).setCell ⟨w.heap.size+1+1+1+1,0,none⟩ (.int .i64 st)).setCell ⟨w.heap.size+1+1+1+1,1,none⟩ (.int .i64 id)).setCell ⟨w.heap.size+1+1+1+1,2,none⟩ (.int .i64 req)).setCell ⟨w.heap.size+1+1+1+1,3,none⟩ (.slice Aa na ca)).setCell ⟨w.heap.size+1+1+1+1,4,none⟩ (.int .i64 cnt)).setCell ⟨w.heap.size+1+1+1+1,5,none⟩ (.int .i64 tim)).setCell ⟨w.heap.size+1+1+1+1,6,none⟩ (.int .i64 nak)) (some (w.heap.size+1+1+1+1)):=grn
 have o3:=o2.other hga (h8c.trans H135.out) (by decide)
 have gg1:At w5 w.heap.size Ai (li.map bv):=(HI.out.keep ((HBW.out.trans (HB5.out.mono hszW)).mono HB.out)).more HB.out
 have hlw:w.heap.size≤w5.heap.size:=by omega
 have gg2:=gg1.keep (below_of_grown hgc (by omega)|>.mono (show w.heap.size≤w.heap.size+1+1+1 by omega))
 have gg3:=gg2.keep (below_of_grown hga (by simp;omega)|>.mono (show w.heap.size≤w.heap.size+1+1+1+1 by omega))
 have k1:=conv_at (c:=ci) gg1 HNI.out
 have k2:=conv_at (c:=ci) gg2 HNI.out
 have k3':=conv_at (c:=ci) gg3 HNI.out
 have k4:=conv_at (c:=c5) o1.at HNB.out.symm
 have k5:=conv_at (c:=c5) o2.at HNB.out.symm
 have k6:=conv_at (c:=c5) o3.at HNB.out.symm
 clear o1 o2 o3 gg1 gg2 gg3 hgc hga h8c hlw
 go_region
 all_goals
  clear h2 h1' k1 k2 k3' k4 k5 k6
  clear q0 q1 q2 q3 q4 q5 q6 r0 r1 r2 z0 z1 z2 s0 s1 s2 m0 m1 m2 m3 m4 m5 m6 f0 f1 f2 g0 g1 g2 g3 g4 g5 g6 k3
  obtain⟨Wc,hWc⟩: ∃Wc:World,Wc=(((w5.setCell ⟨w.heap.size+1+1+1,0,none⟩ (.int .i64 0)).setCell ⟨w.heap.size+1+1+1,1,none⟩ (.int .i64 0)).setCell ⟨w.heap.size+1+1+1,2,none⟩ (.slice none 0 0)):=⟨_,rfl⟩
  obtain⟨Wf,hWf⟩: ∃Wf:World,Wf=((((((((Wc.setCell ⟨w.heap.size+1+1+1+1,0,none⟩ (.int .i64 st)).setCell ⟨w.heap.size+1+1+1+1,1,none⟩ (.int .i64 id)).setCell ⟨w.heap.size+1+1+1+1,2,none⟩ (.int .i64 req)).setCell ⟨w.heap.size+1+1+1+1,3,none⟩ (.slice Aa na ca)).setCell ⟨w.heap.size+1+1+1+1,4,none⟩ (.int .i64 cnt)).setCell ⟨w.heap.size+1+1+1+1,5,none⟩ (.int .i64 tim)).setCell ⟨w.heap.size+1+1+1+1,6,none⟩ (.int .i64 nak))).drew:=⟨_,rfl⟩
  have hWf2:Wf=(((((((((((w5.setCell ⟨w.heap.size+1+1+1,0,none⟩ (.int .i64 0)).setCell ⟨w.heap.size+1+1+1,1,none⟩ (.int .i64 0)).setCell ⟨w.heap.size+1+1+1,2,none⟩ (.slice none 0 0)).setCell ⟨w.heap.size+1+1+1+1,0,none⟩ (.int .i64 st)).setCell ⟨w.heap.size+1+1+1+1,1,none⟩ (.int .i64 id)).setCell ⟨w.heap.size+1+1+1+1,2,none⟩ (.int .i64 req)).setCell ⟨w.heap.size+1+1+1+1,3,none⟩ (.slice Aa na ca)).setCell ⟨w.heap.size+1+1+1+1,4,none⟩ (.int .i64 cnt)).setCell ⟨w.heap.size+1+1+1+1,5,none⟩ (.int .i64 tim)).setCell ⟨w.heap.size+1+1+1+1,6,none⟩ (.int .i64 nak))).drew:=by rw[hWf,hWc]
  go_wp2_with fail
  rw[←hWf2]
  have HZ7:=hid (H125.out)
  have HZ8:=hid ((show Wc.heap[w.heap.size+1+1+1+1]? =(w5).heap[w.heap.size+1+1+1+1]? by rw[hWc];exact set3_other (by omega) _ _ _).trans (H135.out))
  have hg1:(w5).grownBy Wc (some (w.heap.size+1+1+1)):=by rw[hWc];exact grn
  have hrc0:Wc.heap[w.heap.size+1+1+1]? =some (.cells #[.int .i64 0,.int .i64 0,(.slice none 0 0)] 32 (0,0)):=by rw[hWc];exact row3 HZ7.out rfl _ _ _
  have hrc:Wf.heap[w.heap.size+1+1+1]? =some (.cells #[.int .i64 0,.int .i64 0,(.slice none 0 0)] 32 (0,0)):=by rw[hWf,hdrew,set7_other (by omega)];exact hrc0
  have hra:Wf.heap[w.heap.size+1+1+1+1]? =some (.cells #[.int .i64 st,.int .i64 id,.int .i64 req,(.slice Aa na ca),.int .i64 cnt,.int .i64 tim,.int .i64 nak] 29 (0,0)):=by rw[hWf,hdrew];exact row7 HZ8.out rfl _ _ _ _ _ _ _
  have hg2:Wc.grownBy Wf (some (w.heap.size+1+1+1+1)):=by rw[hWf];exact grn
  clear hWf2 hWf hWc
  have hbf:Below w.heap.size w Wf:=Below.grown (Below.grown (HBW.out.trans (HB5.out.mono hszW)) hg1 (Nat.le_trans hszW hs5) (fun k hk=>by cases hk;omega)) hg2 (Nat.le_trans (Nat.le_trans hszW hs5) hg1.size) (fun k hk=>by cases hk;omega)
  obtain⟨u0,u1,u2⟩:=cells3 hrc
  obtain⟨e0,e1,e2,e3,e4,e5,e6⟩:=cells7 hra
  refine bodyPost_ret (v:=.tuple #[.int .i64 9,.agg #[.int .i64 0,.int .i64 0,.slice none 0 0],.agg #[.int .i64 st,.int .i64 id,.int .i64 req,.slice Aa na ca,.int .i64 cnt,.int .i64 tim,.int .i64 nak],.bool false]) (by simp[results,Tryz.results63,go_sem,u0,u1,u2,e0,e1,e2,e3,e4,e5,e6]) rfl ?_
  exact⟨_,_,_,_,_,_,_,_,_,rfl,hbf⟩
set_option maxRecDepth 100000 in
theorem rwhich_2c (Ar Aa Ai:Option Addr) (nr cr na ca ni ci:Nat) (R:List Rl) (mc mt mf wt st id req cnt tim nak ii:Int) (E:List Ent) (li:List UInt8) (w:World) (B:Nat) (hB:B≤w.heap.size) (hR:RulesAt w B Ar R) (hnr:nr=R.length) (hlr:nr≤1000000) (hE:OptsAt w B Aa E) (hna:na=E.length) (hca:na≤ca) (hla:na≤1000000) (hI:At w B Ai (li.map bv)) (hni:ni=li.length) (hci:ni≤ci) (hq:ii≠req∧(Op.encR (E.map Ent.o)).1=(Op.encR (E.map Ent.o)).1):Calls Tryz.prog 63 #[.agg #[.slice Ar nr cr,.int .i64 mc,.int .i64 mt,.int .i64 mf,.int .i64 wt],.agg #[.int .i64 st,.int .i64 id,.int .i64 req,.slice Aa na ca,.int .i64 cnt,.int .i64 tim,.int .i64 nak],.agg #[.int .i64 2,.int .i64 ii,.slice Ai ni ci]] w (RWhichP (whichO ⟨R,mc,mt,mf,wt⟩ ⟨st,id,req,E.map Ent.o,cnt,tim,nak⟩ ⟨2,ii,li⟩) ⟨st,id,req,E.map Ent.o,cnt,tim,nak⟩ (.slice Aa na ca) w):=by
 have HB:=hid hB
 have HR:=hid hR
 have HNR:=hid hnr
 have HE:=hid hE
 have HNA:=hid hna
 have HI:=hid hI
 have HNI:=hid hni
 obtain⟨L,hL⟩: ∃L,E.map Ent.o=L:=⟨_,rfl⟩
 have HL:=hid hL
 rw[hL]
 clear hB hR hnr hE hna hL hI hni
 rw[HL.out] at hq
 obtain⟨⟨eb,ee⟩,hen⟩: ∃r,Op.encR L=r:=⟨_,rfl⟩
 have HEN:=hid hen
 obtain⟨nb,hnb⟩: ∃nb,eb.length=nb:=⟨_,rfl⟩
 have HNB:=hid hnb
 have HO0:=hid (show whichO ⟨R,mc,mt,mf,wt⟩ ⟨st,id,req,L,cnt,tim,nak⟩ ⟨2,ii,li⟩=if ii=req∧li=eb then some (9,⟨0,0,[]⟩,L) else none by have h:whichO ⟨R,mc,mt,mf,wt⟩ ⟨st,id,req,L,cnt,tim,nak⟩ ⟨2,ii,li⟩=if ii=req∧li=(Op.encR L).1 then some (9,⟨0,0,[]⟩,L) else none:=rfl;rw[h,hen])
 rw[HO0.out]
 rw[hen] at hq
 dsimp only at hq
 clear hen hnb HO0
 have HQ:=hid (show¬(ii=req∧li=eb) from fun h=>hq.1 h.1)
 rw[if_neg HQ.out]
 have h1':(ii==req)=false:=by simpa using hq.1
 clear hq
 go_enter Tryz.func63,Tryz.ntmps63
 go_upto_region 2 with(fail)
 refine boxes6 ?_
 rintro W2 ⟨h6,h7,h8,h12,h13,h15,hbw⟩
 have HBW:=hid hbw
 have H6:=hid h6
 have H7:=hid h7
 have H8:=hid h8
 have H12:=hid h12
 have H13:=hid h13
 have H15:=hid h15
 have hszW:=hbw.size
 have l6:=lt_blk h6
 have l7:=lt_blk h7
 have l8:=lt_blk h8
 have l12:=lt_blk h12
 have l13:=lt_blk h13
 have l15:=lt_blk h15
 obtain⟨p0,p1,p2,p3,p4⟩:=cells5 h6
 obtain⟨q0,q1,q2,q3,q4,q5,q6⟩:=cells7 h7
 obtain⟨r0,r1,r2⟩:=cells3 h8
 obtain⟨z0,z1,z2⟩:=cells3 h15
 obtain⟨s0,s1,s2⟩:=cells3 h12
 obtain⟨m0,m1,m2,m3,m4,m5,m6⟩:=cells7 h13
 have f0:=frees h12 0
 have f1:=frees h12 1
 have f2:=frees h12 2
 have g0:=frees h13 0
 have g1:=frees h13 1
 have g2:=frees h13 2
 have g3:=frees h13 3
 have g4:=frees h13 4
 have g5:=frees h13 5
 have g6:=frees h13 6
 have k3:=frees h7 3
 clear h6 h7 h8 h12 h13 h15 hbw
 go_wp2_with fail
 refine(Op.renc_any Aa na ca E _ B (by have:=HB.out;omega) (HE.out.keep (HBW.out.mono HB.out)) HNA.out).mono ?_
 rw[HL.out]
 rintro x w5 he
 obtain⟨A5,c5,rfl,hb5,ho5,hc5⟩:=EncP.get he HEN.out HNB.out
 have HO5:=hid ho5
 have HB5:=hid (show Below W2.heap.size W2 w5 from hb5)
 have hs5:=HB5.out.size
 have H75:=hid ((HB5.out.block _ l7).trans H7.out)
 have H85:=hid ((HB5.out.block _ l8).trans H8.out)
 have H125:=hid ((HB5.out.block _ l12).trans H12.out)
 have H135:=hid ((HB5.out.block _ l13).trans H13.out)
 have H155:=hid ((HB5.out.block _ l15).trans H15.out)
 clear p0 p1 p2 p3 p4 q0 q1 q2 q3 q4 q5 q6 r0 r1 r2 z0 z1 z2 s0 s1 s2 m0 m1 m2 m3 m4 m5 m6 f0 f1 f2 g0 g1 g2 g3 g4 g5 g6 k3
 clear he hb5 ho5
 obtain⟨⟨l7x,l8x,l12x,l13x,l15x⟩,⟨q0,q1,q2,q3,q4,q5,q6⟩,⟨r0,r1,r2⟩,⟨z0,z1,z2⟩,⟨s0,s1,s2⟩,⟨m0,m1,m2,m3,m4,m5,m6⟩,⟨f0,f1,f2⟩,⟨g0,g1,g2,g3,g4,g5,g6⟩,k3⟩:=cellsR H75.out H85.out H125.out H135.out H155.out
 go_wp2_with fail
 go_region
 all_goals
  skip
  clear q0 q1 q2 q3 q4 q5 q6 r0 r1 r2 z0 z1 z2 s0 s1 s2 m0 m1 m2 m3 m4 m5 m6 f0 f1 f2 g0 g1 g2 g3 g4 g5 g6 k3
  obtain⟨Wc,hWc⟩: ∃Wc:World,Wc=(((w5.setCell ⟨w.heap.size+1+1+1,0,none⟩ (.int .i64 0)).setCell ⟨w.heap.size+1+1+1,1,none⟩ (.int .i64 0)).setCell ⟨w.heap.size+1+1+1,2,none⟩ (.slice none 0 0)):=⟨_,rfl⟩
  obtain⟨Wf,hWf⟩: ∃Wf:World,Wf=((((((((Wc.setCell ⟨w.heap.size+1+1+1+1,0,none⟩ (.int .i64 st)).setCell ⟨w.heap.size+1+1+1+1,1,none⟩ (.int .i64 id)).setCell ⟨w.heap.size+1+1+1+1,2,none⟩ (.int .i64 req)).setCell ⟨w.heap.size+1+1+1+1,3,none⟩ (.slice Aa na ca)).setCell ⟨w.heap.size+1+1+1+1,4,none⟩ (.int .i64 cnt)).setCell ⟨w.heap.size+1+1+1+1,5,none⟩ (.int .i64 tim)).setCell ⟨w.heap.size+1+1+1+1,6,none⟩ (.int .i64 nak))).drew:=⟨_,rfl⟩
  have hWf2:Wf=(((((((((((w5.setCell ⟨w.heap.size+1+1+1,0,none⟩ (.int .i64 0)).setCell ⟨w.heap.size+1+1+1,1,none⟩ (.int .i64 0)).setCell ⟨w.heap.size+1+1+1,2,none⟩ (.slice none 0 0)).setCell ⟨w.heap.size+1+1+1+1,0,none⟩ (.int .i64 st)).setCell ⟨w.heap.size+1+1+1+1,1,none⟩ (.int .i64 id)).setCell ⟨w.heap.size+1+1+1+1,2,none⟩ (.int .i64 req)).setCell ⟨w.heap.size+1+1+1+1,3,none⟩ (.slice Aa na ca)).setCell ⟨w.heap.size+1+1+1+1,4,none⟩ (.int .i64 cnt)).setCell ⟨w.heap.size+1+1+1+1,5,none⟩ (.int .i64 tim)).setCell ⟨w.heap.size+1+1+1+1,6,none⟩ (.int .i64 nak))).drew:=by rw[hWf,hWc]
  go_wp2_with fail
  rw[←hWf2]
  have HZ7:=hid (H125.out)
  have HZ8:=hid ((show Wc.heap[w.heap.size+1+1+1+1]? =(w5).heap[w.heap.size+1+1+1+1]? by rw[hWc];exact set3_other (by omega) _ _ _).trans (H135.out))
  have hg1:(w5).grownBy Wc (some (w.heap.size+1+1+1)):=by rw[hWc];exact grn
  have hrc0:Wc.heap[w.heap.size+1+1+1]? =some (.cells #[.int .i64 0,.int .i64 0,(.slice none 0 0)] 32 (0,0)):=by rw[hWc];exact row3 HZ7.out rfl _ _ _
  have hrc:Wf.heap[w.heap.size+1+1+1]? =some (.cells #[.int .i64 0,.int .i64 0,(.slice none 0 0)] 32 (0,0)):=by rw[hWf,hdrew,set7_other (by omega)];exact hrc0
  have hra:Wf.heap[w.heap.size+1+1+1+1]? =some (.cells #[.int .i64 st,.int .i64 id,.int .i64 req,(.slice Aa na ca),.int .i64 cnt,.int .i64 tim,.int .i64 nak] 29 (0,0)):=by rw[hWf,hdrew];exact row7 HZ8.out rfl _ _ _ _ _ _ _
  have hg2:Wc.grownBy Wf (some (w.heap.size+1+1+1+1)):=by rw[hWf];exact grn
  clear hWf2 hWf hWc
  have hbf:Below w.heap.size w Wf:=Below.grown (Below.grown (HBW.out.trans (HB5.out.mono hszW)) hg1 (Nat.le_trans hszW hs5) (fun k hk=>by cases hk;omega)) hg2 (Nat.le_trans (Nat.le_trans hszW hs5) hg1.size) (fun k hk=>by cases hk;omega)
  obtain⟨u0,u1,u2⟩:=cells3 hrc
  obtain⟨e0,e1,e2,e3,e4,e5,e6⟩:=cells7 hra
  refine bodyPost_ret (v:=.tuple #[.int .i64 9,.agg #[.int .i64 0,.int .i64 0,.slice none 0 0],.agg #[.int .i64 st,.int .i64 id,.int .i64 req,.slice Aa na ca,.int .i64 cnt,.int .i64 tim,.int .i64 nak],.bool false]) (by simp[results,Tryz.results63,go_sem,u0,u1,u2,e0,e1,e2,e3,e4,e5,e6]) rfl ?_
  exact⟨_,_,_,_,_,_,_,_,_,rfl,hbf⟩
set_option maxRecDepth 100000 in
theorem rwhich_2b (Ar Aa Ai:Option Addr) (nr cr na ca ni ci:Nat) (R:List Rl) (mc mt mf wt st id req cnt tim nak ii:Int) (E:List Ent) (li:List UInt8) (w:World) (B:Nat) (hB:B≤w.heap.size) (hR:RulesAt w B Ar R) (hnr:nr=R.length) (hlr:nr≤1000000) (hE:OptsAt w B Aa E) (hna:na=E.length) (hca:na≤ca) (hla:na≤1000000) (hI:At w B Ai (li.map bv)) (hni:ni=li.length) (hci:ni≤ci) (hq:ii=req∧li=(Op.encR (E.map Ent.o)).1):Calls Tryz.prog 63 #[.agg #[.slice Ar nr cr,.int .i64 mc,.int .i64 mt,.int .i64 mf,.int .i64 wt],.agg #[.int .i64 st,.int .i64 id,.int .i64 req,.slice Aa na ca,.int .i64 cnt,.int .i64 tim,.int .i64 nak],.agg #[.int .i64 2,.int .i64 ii,.slice Ai ni ci]] w (RWhichP (whichO ⟨R,mc,mt,mf,wt⟩ ⟨st,id,req,E.map Ent.o,cnt,tim,nak⟩ ⟨2,ii,li⟩) ⟨st,id,req,E.map Ent.o,cnt,tim,nak⟩ (.slice Aa na ca) w):=by
 have HB:=hid hB
 have HR:=hid hR
 have HNR:=hid hnr
 have HE:=hid hE
 have HNA:=hid hna
 have HI:=hid hI
 have HNI:=hid hni
 obtain⟨L,hL⟩: ∃L,E.map Ent.o=L:=⟨_,rfl⟩
 have HL:=hid hL
 rw[hL]
 clear hB hR hnr hE hna hL hI hni
 rw[HL.out] at hq
 obtain⟨⟨eb,ee⟩,hen⟩: ∃r,Op.encR L=r:=⟨_,rfl⟩
 have HEN:=hid hen
 obtain⟨nb,hnb⟩: ∃nb,eb.length=nb:=⟨_,rfl⟩
 have HNB:=hid hnb
 have HO0:=hid (show whichO ⟨R,mc,mt,mf,wt⟩ ⟨st,id,req,L,cnt,tim,nak⟩ ⟨2,ii,li⟩=if ii=req∧li=eb then some (9,⟨0,0,[]⟩,L) else none by have h:whichO ⟨R,mc,mt,mf,wt⟩ ⟨st,id,req,L,cnt,tim,nak⟩ ⟨2,ii,li⟩=if ii=req∧li=(Op.encR L).1 then some (9,⟨0,0,[]⟩,L) else none:=rfl;rw[h,hen])
 rw[HO0.out]
 rw[hen] at hq
 dsimp only at hq
 clear hen hnb HO0
 rw[if_pos hq]
 have h1':(ii==req)=true:=by simpa using hq.1
 have h2:(li==eb)=true:=by simpa using hq.2
 clear hq
 go_enter Tryz.func63,Tryz.ntmps63
 go_upto_region 2 with(fail)
 refine boxes6 ?_
 rintro W2 ⟨h6,h7,h8,h12,h13,h15,hbw⟩
 have HBW:=hid hbw
 have H6:=hid h6
 have H7:=hid h7
 have H8:=hid h8
 have H12:=hid h12
 have H13:=hid h13
 have H15:=hid h15
 have hszW:=hbw.size
 have l6:=lt_blk h6
 have l7:=lt_blk h7
 have l8:=lt_blk h8
 have l12:=lt_blk h12
 have l13:=lt_blk h13
 have l15:=lt_blk h15
 obtain⟨p0,p1,p2,p3,p4⟩:=cells5 h6
 obtain⟨q0,q1,q2,q3,q4,q5,q6⟩:=cells7 h7
 obtain⟨r0,r1,r2⟩:=cells3 h8
 obtain⟨z0,z1,z2⟩:=cells3 h15
 obtain⟨s0,s1,s2⟩:=cells3 h12
 obtain⟨m0,m1,m2,m3,m4,m5,m6⟩:=cells7 h13
 have f0:=frees h12 0
 have f1:=frees h12 1
 have f2:=frees h12 2
 have g0:=frees h13 0
 have g1:=frees h13 1
 have g2:=frees h13 2
 have g3:=frees h13 3
 have g4:=frees h13 4
 have g5:=frees h13 5
 have g6:=frees h13 6
 have k3:=frees h7 3
 clear h6 h7 h8 h12 h13 h15 hbw
 go_wp2_with fail
 refine(Op.renc_any Aa na ca E _ B (by have:=HB.out;omega) (HE.out.keep (HBW.out.mono HB.out)) HNA.out).mono ?_
 rw[HL.out]
 rintro x w5 he
 obtain⟨A5,c5,rfl,hb5,ho5,hc5⟩:=EncP.get he HEN.out HNB.out
 have HO5:=hid ho5
 have HB5:=hid (show Below W2.heap.size W2 w5 from hb5)
 have hs5:=HB5.out.size
 have H75:=hid ((HB5.out.block _ l7).trans H7.out)
 have H85:=hid ((HB5.out.block _ l8).trans H8.out)
 have H125:=hid ((HB5.out.block _ l12).trans H12.out)
 have H135:=hid ((HB5.out.block _ l13).trans H13.out)
 have H155:=hid ((HB5.out.block _ l15).trans H15.out)
 clear p0 p1 p2 p3 p4 q0 q1 q2 q3 q4 q5 q6 r0 r1 r2 z0 z1 z2 s0 s1 s2 m0 m1 m2 m3 m4 m5 m6 f0 f1 f2 g0 g1 g2 g3 g4 g5 g6 k3
 clear he hb5 ho5
 obtain⟨⟨l7x,l8x,l12x,l13x,l15x⟩,⟨q0,q1,q2,q3,q4,q5,q6⟩,⟨r0,r1,r2⟩,⟨z0,z1,z2⟩,⟨s0,s1,s2⟩,⟨m0,m1,m2,m3,m4,m5,m6⟩,⟨f0,f1,f2⟩,⟨g0,g1,g2,g3,g4,g5,g6⟩,k3⟩:=cellsR H75.out H85.out H125.out H135.out H155.out
 go_wp2_with fail
 have o1:BytesO w5 w.heap.size (.slice A5 nb c5) eb:=by unfold BytesO;rw[HNB.out];exact own_base HO5.out (by omega)
 have hgc:w5.grownBy (((w5.setCell ⟨w.heap.size+1+1+1,0,none⟩ (.int .i64 0)).setCell ⟨w.heap.size+1+1+1,1,none⟩ (.int .i64 0)).setCell ⟨w.heap.size+1+1+1,2,none⟩ (.slice none 0 0)) (some (w.heap.size+1+1+1)):=grn
 have o2:=o1.other hgc H125.out (by decide)
 have h8c:((((w5.setCell ⟨w.heap.size+1+1+1,0,none⟩ (.int .i64 0)).setCell ⟨w.heap.size+1+1+1,1,none⟩ (.int .i64 0)).setCell ⟨w.heap.size+1+1+1,2,none⟩ (.slice none 0 0))).heap[w.heap.size+1+1+1+1]? =w5.heap[w.heap.size+1+1+1+1]?:=set3_other (by omega) _ _ _
 have hga:((((w5.setCell ⟨w.heap.size+1+1+1,0,none⟩ (.int .i64 0)).setCell ⟨w.heap.size+1+1+1,1,none⟩ (.int .i64 0)).setCell ⟨w.heap.size+1+1+1,2,none⟩ (.slice none 0 0))).grownBy ((((((((((w5.setCell ⟨w.heap.size+1+1+1,0,none⟩ (.int .i64 0)).setCell ⟨w.heap.size+1+1+1,1,none⟩ (.int .i64 0)).setCell ⟨w.heap.size+1+1+1,2,none⟩ (.slice none 0 0)).setCell ⟨w.heap.size+1+1+1+1,0,none⟩ (.int .i64 st)).setCell ⟨w.heap.size+1+1+1+1,1,none⟩ (.int .i64 id)).setCell ⟨w.heap.size+1+1+1+1,2,none⟩ (.int .i64 req)).setCell ⟨w.heap.size+1+1+1+1,3,none⟩ (.slice Aa na ca)).setCell ⟨w.heap.size+1+1+1+1,4,none⟩ (.int .i64 cnt)).setCell ⟨w.heap.size+1+1+1+1,5,none⟩ (.int .i64 tim)).setCell ⟨w.heap.size+1+1+1+1,6,none⟩ (.int .i64 nak)) (some (w.heap.size+1+1+1+1)):=grn
 have o3:=o2.other hga (h8c.trans H135.out) (by decide)
 have gg1:At w5 w.heap.size Ai (li.map bv):=(HI.out.keep ((HBW.out.trans (HB5.out.mono hszW)).mono HB.out)).more HB.out
 have hlw:w.heap.size≤w5.heap.size:=by omega
 have gg2:=gg1.keep (below_of_grown hgc (by omega)|>.mono (show w.heap.size≤w.heap.size+1+1+1 by omega))
 have gg3:=gg2.keep (below_of_grown hga (by simp;omega)|>.mono (show w.heap.size≤w.heap.size+1+1+1+1 by omega))
 have k1:=conv_at (c:=ci) gg1 HNI.out
 have k2:=conv_at (c:=ci) gg2 HNI.out
 have k3':=conv_at (c:=ci) gg3 HNI.out
 have k4:=conv_at (c:=c5) o1.at HNB.out.symm
 have k5:=conv_at (c:=c5) o2.at HNB.out.symm
 have k6:=conv_at (c:=c5) o3.at HNB.out.symm
 clear o1 o2 o3 gg1 gg2 gg3 hgc hga h8c hlw
 go_region
 all_goals
  clear h2 h1' k1 k2 k3' k4 k5 k6
  clear q0 q1 q2 q3 q4 q5 q6 r0 r1 r2 z0 z1 z2 s0 s1 s2 m0 m1 m2 m3 m4 m5 m6 f0 f1 f2 g0 g1 g2 g3 g4 g5 g6 k3
  obtain⟨Wc,hWc⟩: ∃Wc:World,Wc=(((w5.setCell ⟨w.heap.size+1+1+1,0,none⟩ (.int .i64 0)).setCell ⟨w.heap.size+1+1+1,1,none⟩ (.int .i64 0)).setCell ⟨w.heap.size+1+1+1,2,none⟩ (.slice none 0 0)):=⟨_,rfl⟩
  obtain⟨Wf,hWf⟩: ∃Wf:World,Wf=((((((((Wc.setCell ⟨w.heap.size+1+1+1+1,0,none⟩ (.int .i64 st)).setCell ⟨w.heap.size+1+1+1+1,1,none⟩ (.int .i64 id)).setCell ⟨w.heap.size+1+1+1+1,2,none⟩ (.int .i64 req)).setCell ⟨w.heap.size+1+1+1+1,3,none⟩ (.slice Aa na ca)).setCell ⟨w.heap.size+1+1+1+1,4,none⟩ (.int .i64 cnt)).setCell ⟨w.heap.size+1+1+1+1,5,none⟩ (.int .i64 tim)).setCell ⟨w.heap.size+1+1+1+1,6,none⟩ (.int .i64 nak))).drew:=⟨_,rfl⟩
  have hWf2:Wf=(((((((((((w5.setCell ⟨w.heap.size+1+1+1,0,none⟩ (.int .i64 0)).setCell ⟨w.heap.size+1+1+1,1,none⟩ (.int .i64 0)).setCell ⟨w.heap.size+1+1+1,2,none⟩ (.slice none 0 0)).setCell ⟨w.heap.size+1+1+1+1,0,none⟩ (.int .i64 st)).setCell ⟨w.heap.size+1+1+1+1,1,none⟩ (.int .i64 id)).setCell ⟨w.heap.size+1+1+1+1,2,none⟩ (.int .i64 req)).setCell ⟨w.heap.size+1+1+1+1,3,none⟩ (.slice Aa na ca)).setCell ⟨w.heap.size+1+1+1+1,4,none⟩ (.int .i64 cnt)).setCell ⟨w.heap.size+1+1+1+1,5,none⟩ (.int .i64 tim)).setCell ⟨w.heap.size+1+1+1+1,6,none⟩ (.int .i64 nak))).drew:=by rw[hWf,hWc]
  go_wp2_with fail
  rw[←hWf2]
  have HZ7:=hid (H125.out)
  have HZ8:=hid ((show Wc.heap[w.heap.size+1+1+1+1]? =(w5).heap[w.heap.size+1+1+1+1]? by rw[hWc];exact set3_other (by omega) _ _ _).trans (H135.out))
  have hg1:(w5).grownBy Wc (some (w.heap.size+1+1+1)):=by rw[hWc];exact grn
  have hrc0:Wc.heap[w.heap.size+1+1+1]? =some (.cells #[.int .i64 0,.int .i64 0,(.slice none 0 0)] 32 (0,0)):=by rw[hWc];exact row3 HZ7.out rfl _ _ _
  have hrc:Wf.heap[w.heap.size+1+1+1]? =some (.cells #[.int .i64 0,.int .i64 0,(.slice none 0 0)] 32 (0,0)):=by rw[hWf,hdrew,set7_other (by omega)];exact hrc0
  have hra:Wf.heap[w.heap.size+1+1+1+1]? =some (.cells #[.int .i64 st,.int .i64 id,.int .i64 req,(.slice Aa na ca),.int .i64 cnt,.int .i64 tim,.int .i64 nak] 29 (0,0)):=by rw[hWf,hdrew];exact row7 HZ8.out rfl _ _ _ _ _ _ _
  have hg2:Wc.grownBy Wf (some (w.heap.size+1+1+1+1)):=by rw[hWf];exact grn
  clear hWf2 hWf hWc
  have hbf:Below w.heap.size w Wf:=Below.grown (Below.grown (HBW.out.trans (HB5.out.mono hszW)) hg1 (Nat.le_trans hszW hs5) (fun k hk=>by cases hk;omega)) hg2 (Nat.le_trans (Nat.le_trans hszW hs5) hg1.size) (fun k hk=>by cases hk;omega)
  obtain⟨u0,u1,u2⟩:=cells3 hrc
  obtain⟨e0,e1,e2,e3,e4,e5,e6⟩:=cells7 hra
  refine bodyPost_ret (v:=.tuple #[.int .i64 9,.agg #[.int .i64 0,.int .i64 0,.slice none 0 0],.agg #[.int .i64 st,.int .i64 id,.int .i64 req,.slice Aa na ca,.int .i64 cnt,.int .i64 tim,.int .i64 nak],.bool true]) (by simp[results,Tryz.results63,go_sem,u0,u1,u2,e0,e1,e2,e3,e4,e5,e6]) rfl ?_
  exact⟨none,0,0,Aa,na,ca,rfl,hbf,BytesO.nil _ _,(fun h=>by cases h),fun _=>rfl⟩
theorem rwhich_2 (Ar Aa Ai:Option Addr) (nr cr na ca ni ci:Nat) (R:List Rl) (mc mt mf wt st id req cnt tim nak ii:Int) (E:List Ent) (li:List UInt8) (w:World) (B:Nat) (hB:B≤w.heap.size) (hR:RulesAt w B Ar R) (hnr:nr=R.length) (hlr:nr≤1000000) (hE:OptsAt w B Aa E) (hna:na=E.length) (hca:na≤ca) (hla:na≤1000000) (hI:At w B Ai (li.map bv)) (hni:ni=li.length) (hci:ni≤ci):Calls Tryz.prog 63 #[.agg #[.slice Ar nr cr,.int .i64 mc,.int .i64 mt,.int .i64 mf,.int .i64 wt],.agg #[.int .i64 st,.int .i64 id,.int .i64 req,.slice Aa na ca,.int .i64 cnt,.int .i64 tim,.int .i64 nak],.agg #[.int .i64 2,.int .i64 ii,.slice Ai ni ci]] w (RWhichP (whichO ⟨R,mc,mt,mf,wt⟩ ⟨st,id,req,E.map Ent.o,cnt,tim,nak⟩ ⟨2,ii,li⟩) ⟨st,id,req,E.map Ent.o,cnt,tim,nak⟩ (.slice Aa na ca) w):=by
 by_cases h1:ii=req
 ·by_cases h2:li=(Op.encR (E.map Ent.o)).1
  ·exact rwhich_2b Ar Aa Ai nr cr na ca ni ci R mc mt mf wt st id req cnt tim nak ii E li w B hB hR hnr hlr hE hna hca hla hI hni hci ⟨h1,h2⟩
  ·exact rwhich_2a Ar Aa Ai nr cr na ca ni ci R mc mt mf wt st id req cnt tim nak ii E li w B hB hR hnr hlr hE hna hca hla hI hni hci ⟨h1,h2⟩
 ·exact rwhich_2c Ar Aa Ai nr cr na ca ni ci R mc mt mf wt st id req cnt tim nak ii E li w B hB hR hnr hlr hE hna hca hla hI hni hci ⟨h1,rfl⟩
end Go.Proofs.YtfkgmbknfnhjoaaGreat
