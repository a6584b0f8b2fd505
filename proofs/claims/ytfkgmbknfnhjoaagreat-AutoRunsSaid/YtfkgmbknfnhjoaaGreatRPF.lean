/- Bundle PF. -/
import Derived.Test.YtfkgmbknfnhjoaaGreatRPD
import Derived.Test.YtfkgmbknfnhjoaaGreatRPE
set_option maxHeartbeats 8000000
namespace Go.Proofs.YtfkgmbknfnhjoaaGreat
open Lib (hid)
open Go.RowKit
set_option linter.unusedSimpArgs false
set_option linter.unusedVariables false
set_option linter.ambiguousOpen false
open Ne (Rl Opt RulesAt areB)
open Fs (av hasB)
def RowPks (W:World) (base:Nat) (v:Value) (P:List Pe):Prop:=
 W.ownsRow base 32 3 v P.length (cellsP P)∧ ∀e∈P,(At W base e.a (e.d.map bv)∧e.d.length≤e.c)∨W.ownsRow base 5 1 e.v e.d.length (e.d.map bv)
theorem RowPks.below {A C:World} {base:Nat} {v:Value} {P:List Pe} (h:RowPks A base v P) (hb:Below A.heap.size A C) (hB:base≤A.heap.size):RowPks C base v P:=
 ⟨own_below h.1 hb,fun x hx=>(h.2 x hx).imp (fun h=>⟨h.1.keep (hb.mono hB),h.2⟩) (fun h=>own_below h hb)⟩
theorem RowPks.nil (A:World) (b:Nat):RowPks A b (.slice none 0 0) []:=⟨own_nil _ _ _ _,fun _ h=>by cases h⟩
theorem RowPks.other {A C:World} {base X:Nat} {v:Value} {P:List Pe} {cur:Array Value} {e':TypeId} (h:RowPks A base v P) (hg:A.grownBy C (some X)) (hX:A.heap[X]? =some (.cells cur e' (0,0))) (hbX:base≤X) (h1:e'≠32) (h2:e'≠5) (hB:base≤A.heap.size):RowPks C base v P:=
 ⟨own_stays h.1 hg fun r e=>by cases e;exact .inr (.inr ⟨_,_,hX,h1⟩),fun x hx=>(h.2 x hx).imp (fun h=>⟨h.1.grown hg hB (fun k e=>by cases e;exact hbX),h.2⟩) (fun h=>own_stays h hg fun r e=>by cases e;exact .inr (.inr ⟨_,_,hX,h2⟩))⟩
theorem RowPks.pushed {W W2:World} {base:Nat} {v v3:Value} {P:List Pe} {co id:Int} {A2:Option Addr} {dd:List UInt8} {c2:Nat} (h:RowPks W base v P)
  (h2:(At W base A2 (dd.map bv)∧dd.length≤c2)∨W.ownsRow base 5 1 (.slice A2 dd.length c2) dd.length (dd.map bv)) (h3:W2.ownsRow base 32 3 v3 (P.length+1) (cellsP P++[.int .i64 co,.int .i64 id,.slice A2 dd.length c2]))
  (hg:W.grownBy W2 v.ownBlock) (hB:base≤W.heap.size):RowPks W2 base v3 (P++[⟨co,id,dd,A2,c2⟩]):=by
 have hr: ∀r,v.ownBlock=some r→r<base∨(∃o:Obj,W.heap[r]? =some o∧o.isCells=false)∨(∃cur e',W.heap[r]? =some (.cells cur e' (0,0))∧e'≠5):=fun r e=>by
  obtain⟨cur,hc⟩:=own_type h.1 e
  exact .inr (.inr ⟨cur,32,hc,by decide⟩)
 refine⟨by rw[cellsP_snoc];simpa[Pe.v] using h3,fun e he=>?_⟩
 rcases List.mem_append.1 he with he|he
 ·exact(h.2 e he).imp (fun h1=>⟨h1.1.grown hg hB (fun k e=>own_le h.1 e),h1.2⟩) (fun h1=>own_stays h1 hg hr)
 ·simp only[List.mem_singleton] at he
  subst he
  exact h2.imp (fun h1=>⟨h1.1.grown hg hB (fun k e=>own_le h.1 e),h1.2⟩) (fun h1=>own_stays h1 hg hr)
theorem grown_of_below {w w':World} {r:Option Nat} (h:Below w.heap.size w w'):w.grownBy w' r:=⟨h.os,h.tape,h.output,h.size,fun k hk _=>h.block k hk⟩
def rcs (vr:Value) (mc mt mf wt st id req:Int) (va:Value) (cnt tim nak:Int) (vo:Value):Array Value:=#[vr,.int .i64 mc,.int .i64 mt,.int .i64 mf,.int .i64 wt,.int .i64 st,.int .i64 id,.int .i64 req,va,.int .i64 cnt,.int .i64 tim,.int .i64 nak,vo]
set_option maxRecDepth 100000 in
theorem row13 {w:World} {X:Nat} {cs:Array Value} {T:TypeId} (h:w.heap[X]? =some (.cells cs T (0,0))) (hc:cs.size=13) (a0 a1 a2 a3 a4 a5 a6 a7 a8 a9 a10 a11 a12:Value):
  (((((((((((((w.setCell ⟨X,0,none⟩ a0).setCell ⟨X,1,none⟩ a1).setCell ⟨X,2,none⟩ a2).setCell ⟨X,3,none⟩ a3).setCell ⟨X,4,none⟩ a4).setCell ⟨X,5,none⟩ a5).setCell ⟨X,6,none⟩ a6).setCell ⟨X,7,none⟩ a7).setCell ⟨X,8,none⟩ a8).setCell ⟨X,9,none⟩ a9).setCell ⟨X,10,none⟩ a10).setCell ⟨X,11,none⟩ a11).setCell ⟨X,12,none⟩ a12).heap[X]? =some (.cells #[a0,a1,a2,a3,a4,a5,a6,a7,a8,a9,a10,a11,a12] T (0,0)):=by
 obtain⟨l⟩:=cs
 match l,hc with
 |[x0,x1,x2,x3,x4,x5,x6,x7,x8,x9,x10,x11,x12],_=>
  have e0:=heap_setCell_same w X 0 _ _ a0 h
  simp only[List.setIfInBounds_toArray,List.set_cons_zero,List.set_cons_succ] at e0
  have e1:=heap_setCell_same _ X 1 _ _ a1 e0
  simp only[List.setIfInBounds_toArray,List.set_cons_zero,List.set_cons_succ] at e1
  have e2:=heap_setCell_same _ X 2 _ _ a2 e1
  simp only[List.setIfInBounds_toArray,List.set_cons_zero,List.set_cons_succ] at e2
  have e3:=heap_setCell_same _ X 3 _ _ a3 e2
  simp only[List.setIfInBounds_toArray,List.set_cons_zero,List.set_cons_succ] at e3
  have e4:=heap_setCell_same _ X 4 _ _ a4 e3
  simp only[List.setIfInBounds_toArray,List.set_cons_zero,List.set_cons_succ] at e4
  have e5:=heap_setCell_same _ X 5 _ _ a5 e4
  simp only[List.setIfInBounds_toArray,List.set_cons_zero,List.set_cons_succ] at e5
  have e6:=heap_setCell_same _ X 6 _ _ a6 e5
  simp only[List.setIfInBounds_toArray,List.set_cons_zero,List.set_cons_succ] at e6
  have e7:=heap_setCell_same _ X 7 _ _ a7 e6
  simp only[List.setIfInBounds_toArray,List.set_cons_zero,List.set_cons_succ] at e7
  have e8:=heap_setCell_same _ X 8 _ _ a8 e7
  simp only[List.setIfInBounds_toArray,List.set_cons_zero,List.set_cons_succ] at e8
  have e9:=heap_setCell_same _ X 9 _ _ a9 e8
  simp only[List.setIfInBounds_toArray,List.set_cons_zero,List.set_cons_succ] at e9
  have e10:=heap_setCell_same _ X 10 _ _ a10 e9
  simp only[List.setIfInBounds_toArray,List.set_cons_zero,List.set_cons_succ] at e10
  have e11:=heap_setCell_same _ X 11 _ _ a11 e10
  simp only[List.setIfInBounds_toArray,List.set_cons_zero,List.set_cons_succ] at e11
  have e12:=heap_setCell_same _ X 12 _ _ a12 e11
  simp only[List.setIfInBounds_toArray,List.set_cons_zero,List.set_cons_succ] at e12
  exact e12
def RB (W:World) (X:Nat) (vr:Value) (mc mt mf wt st id req:Int) (va:Value) (cnt tim nak:Int) (vo:Value):Prop:=W.heap[X]? =some (.cells (rcs vr mc mt mf wt st id req va cnt tim nak vo) 107 (0,0))
section
variable {W W':World} {X:Nat} {vr va vo:Value} {mc mt mf wt st id req cnt tim nak:Int}
theorem RB.lt (h:RB W X vr mc mt mf wt st id req va cnt tim nak vo):X<W.heap.size:=lt_blk h
theorem RB.cell (h:RB W X vr mc mt mf wt st id req va cnt tim nak vo) (i:Nat) {v:Value} (hv:(rcs vr mc mt mf wt st id req va cnt tim nak vo)[i]? =some v):W.cell? ⟨X,i,none⟩=some v:=(cell_of_row W X i _ _ _ h).trans hv
theorem RB.cells (h:RB W X vr mc mt mf wt st id req va cnt tim nak vo):(W.cell? ⟨X,0,none⟩=some vr∧W.cell? ⟨X,1,none⟩=some (.int .i64 mc)∧W.cell? ⟨X,2,none⟩=some (.int .i64 mt)∧W.cell? ⟨X,3,none⟩=some (.int .i64 mf)∧W.cell? ⟨X,4,none⟩=some (.int .i64 wt))∧
  (W.cell? ⟨X,5,none⟩=some (.int .i64 st)∧W.cell? ⟨X,6,none⟩=some (.int .i64 id)∧W.cell? ⟨X,7,none⟩=some (.int .i64 req)∧W.cell? ⟨X,8,none⟩=some va∧W.cell? ⟨X,9,none⟩=some (.int .i64 cnt)∧W.cell? ⟨X,10,none⟩=some (.int .i64 tim)∧W.cell? ⟨X,11,none⟩=some (.int .i64 nak))∧W.cell? ⟨X,12,none⟩=some vo:=
 ⟨⟨h.cell 0 rfl,h.cell 1 rfl,h.cell 2 rfl,h.cell 3 rfl,h.cell 4 rfl⟩,⟨h.cell 5 rfl,h.cell 6 rfl,h.cell 7 rfl,h.cell 8 rfl,h.cell 9 rfl,h.cell 10 rfl,h.cell 11 rfl⟩,h.cell 12 rfl⟩
theorem RB.free (h:RB W X vr mc mt mf wt st id req va cnt tim nak vo) (i:Nat):W.frozen? ⟨X,i,none⟩=false:=frozen_of_row W X i _ _ h
theorem RB.keep (h:RB W X vr mc mt mf wt st id req va cnt tim nak vo) (hb:Below W.heap.size W W'):RB W' X vr mc mt mf wt st id req va cnt tim nak vo:=(hb.block X h.lt).trans h
theorem RB.apart (h:RB W X vr mc mt mf wt st id req va cnt tim nak vo) {row:Option Nat} (hg:W.grownBy W' row) (hr:row≠some X):RB W' X vr mc mt mf wt st id req va cnt tim nak vo:=(hg.block X h.lt (fun e=>hr e.symm)).trans h
theorem RB.sid (h:RB W X vr mc mt mf wt st id req va cnt tim nak vo) (x:Int):RB (W.setCell ⟨X,6,none⟩ (.int .i64 x)) X vr mc mt mf wt st x req va cnt tim nak vo:=heap_setCell_same W X 6 _ _ _ h
theorem RB.stim (h:RB W X vr mc mt mf wt st id req va cnt tim nak vo) (x:Int):RB (W.setCell ⟨X,10,none⟩ (.int .i64 x)) X vr mc mt mf wt st id req va cnt x nak vo:=heap_setCell_same W X 10 _ _ _ h
end
end Go.Proofs.YtfkgmbknfnhjoaaGreat
namespace Go.Proofs.YtfkgmbknfnhjoaaGreat
open Lib (hid)
open Go.RowKit
set_option linter.unusedSimpArgs false
set_option linter.unusedVariables false
set_option linter.ambiguousOpen false
open Ne (Rl Opt RulesAt areB)
open Fs (av hasB)
theorem own_ne_typ {w:World} {base:Nat} {e e':TypeId} {size n:Nat} {v:Value} {xs:List Value} (h:w.ownsRow base e size v n xs) {X:Nat} {cs:Array Value} (hX:w.heap[X]? =some (.cells cs e' (0,0))) (hne:e≠e'):v.ownBlock≠some X:=by
 intro hk
 obtain⟨cur,hc⟩:=own_type h hk
 rw[hX] at hc
 cases hc
 exact hne rfl
def AskedP (vr:Value) (mc mt mf wt st id req:Int) (va:Value) (cnt tim nak:Int) (vo:Value) (base:Nat) (P:List Pe) (q:List Pk) (w:World) (x:Ending) (w':World):Prop:=
 ∃v' P',x=.returned (.agg #[vr,.int .i64 mc,.int .i64 mt,.int .i64 mf,.int .i64 wt,.int .i64 st,.int .i64 id,.int .i64 req,va,.int .i64 cnt,.int .i64 tim,.int .i64 nak,v'])∧w.grownBy w' vo.ownBlock∧RowPks w' base v' P'∧P'.map Pe.o=P.map Pe.o++q
set_option maxRecDepth 100000 in
theorem asked_ref (Ar Aa A:Option Addr) (nr cr na ca n c:Nat) (mc mt mf wt st id req cnt tim nak co tick:Int) (l:List UInt8) (vo:Value) (P:List Pe) (w:World) (base:Nat) (hb:base≤w.heap.size) (hP:RowPks w base vo P) (hlo:P.length≤999) (hn:n=l.length)
  (hA:(At w base A (l.map bv)∧l.length≤c)∨w.ownsRow base 5 1 (.slice A l.length c) l.length (l.map bv)) (h0:0≤tick) (h1:tick≤1099511627776) (h2:1≤wt) (h3:wt≤1048576) (h4:0≤cnt) (h5:cnt≤1000) (h6:0≤id) (h7:id≤255):
  Calls Tryz.prog 91 #[.agg #[.slice Ar nr cr,.int .i64 mc,.int .i64 mt,.int .i64 mf,.int .i64 wt,.int .i64 st,.int .i64 id,.int .i64 req,.slice Aa na ca,.int .i64 cnt,.int .i64 tim,.int .i64 nak,vo],.int .i64 co,.slice A n c,.int .i64 tick] w (AskedP (.slice Ar nr cr) mc mt mf wt st (nxt id) req (.slice Aa na ca) (dec cnt) (tick+wt) nak vo base P [⟨co,nxt id,l⟩] w):=by
 subst hn
 obtain⟨Ao,co',rfl,-,-⟩:=ownsRow_form hP.1
 have HP:=hid hP
 have HA:=hid hA
 clear hP hA
 have e1:Int.tmod (id+1) 256=nxt id:=Int.tmod_eq_emod_of_nonneg (by omega)
 obtain⟨hj0,hj1⟩:=nxt_in id
 obtain⟨j,hj⟩: ∃j,nxt id=j:=⟨_,rfl⟩
 rw[hj] at e1 hj0 hj1
 rw[hj]
 have e2:IntKind.i64.wrap (tick+wt)=tick+wt:=IntWalk.i64_in _ (by omega)
 obtain⟨pn,hpn⟩: ∃pn,P.length=pn:=⟨_,rfl⟩
 have HPN:=hid hpn
 rw[hpn] at HP hlo
 rw[hpn]
 clear hj hpn
 obtain⟨dc,hdc⟩: ∃dc,dec cnt=dc:=⟨_,rfl⟩
 have HDC:=hid hdc
 rw[hdc]
 clear hdc
 go_enter Tryz.func91,Tryz.ntmps91
 go_upto_region 1 with(fail)
 refine wp_w (fun W=>RB W w.heap.size (.slice Ar nr cr) mc mt mf wt st id req (.slice Aa na ca) cnt tim nak (.slice Ao pn co')∧RB W (w.heap.size+1) (.slice none 0 0) 0 0 0 0 0 0 0 (.slice none 0 0) 0 0 0 (.slice none 0 0)∧Below w.heap.size w W) ⟨?_,?_,by exact bel⟩ ?_
 ·show(World.alloc _ _).heap[w.heap.size]? =_
  exact hpa
 ·show(World.alloc _ _).heap[w.heap.size+1]? =_
  exact hpa
 rintro W1 ⟨hx1,hy1,hb1⟩
 have HX1:=hid hx1
 have HY1:=hid hy1
 have HB1:=hid hb1
 have lx1:=hx1.lt
 have ly1:=hy1.lt
 obtain⟨⟨p0,p1,p2,p3,p4⟩,⟨p5,p6,p7,p8,p9,p10,p11⟩,p12⟩:=hx1.cells
 have f6:=hx1.free 6
 have hsz1:=hb1.size
 clear hx1 hy1 hb1
 have HP1:=hid (HP.out.below HB1.out hb)
 have HPX:=hid (HP1.out.other (grown_set W1 w.heap.size 6 (.int .i64 j)) HX1.out hb (by decide) (by decide) (Nat.le_trans hb hsz1))
 have HGW:=hid (grown_of_below (r:=(Value.slice Ao pn co').ownBlock) HB1.out)
 have HD:=hid (show(At (W1.setCell ⟨w.heap.size,6,none⟩ (.int .i64 j)) base A (l.map bv)∧l.length≤c)∨(W1.setCell ⟨w.heap.size,6,none⟩ (.int .i64 j)).ownsRow base 5 1 (.slice A l.length c) l.length (l.map bv) from by
  have h1:(At W1 base A (l.map bv)∧l.length≤c)∨W1.ownsRow base 5 1 (.slice A l.length c) l.length (l.map bv):=HA.out.imp (fun h=>⟨h.1.keep (HB1.out.mono hb),h.2⟩) (fun h=>own_below h HB1.out)
  exact h1.imp (fun h=>⟨h.1.grown (grown_set _ _ _ _) (Nat.le_trans hb hsz1) (fun k e=>by cases e;exact hb),h.2⟩) (fun h=>ownsRow_setCell_other h (own_ne_typ (e':=107) (X:=w.heap.size) h (show W1.heap[w.heap.size]? =some (.cells _ 107 (0,0)) from HX1.out) (by decide)) _))
 have hdc:dc=if 0<cnt then cnt-1 else cnt:=HDC.out.symm
 by_cases hc:0<cnt
 all_goals
  first|(rw[if_pos hc] at hdc)|(rw[if_neg hc] at hdc)
  subst dc
  go_wp2_with (at_builtin;go_loud (refine wpList_appg base rfl (.tmp 17) (.tmp 24) 43 rfl 32 Tryz.underlying43 (.agg #[.int .i64 0,.int .i64 0,.slice none 0 0]) 3 40 infoCtl rfl (by decide) (by decide) (.slice Ao pn co') pn (cellsP P) rfl (by have h:=HPX.out.1;rw[HPN.out] at h;exact own_below h (by exact bel)) (W1.heap.size+1) (some ⟨W1.heap.size,0,none⟩) 1 1 [.int .i64 co,.int .i64 j,.slice A l.length c] rfl rfl (by omega) (by exact At.newN _ _ _ _ _ (by simp) rfl) (by intro u hu;simp at hu;rcases hu with rfl|rfl|rfl<;>rfl) (by simp;omega) ?_);intro A4 c4 w3 ho3 hc3 hg3;have HO3:=hid ho3;have HG3:=hid hg3;have hx3:=RB.apart (RB.keep (HX1.out.sid j) (by exact bel)) hg3 (own_ne_typ HP1.out.1 HX1.out (by decide));have hy3:=RB.apart (RB.keep (W':=(W1.setCell ⟨w.heap.size,6,none⟩ (.int .i64 j)).alloc (.cells #[.int .i64 co,.int .i64 j,.slice A l.length c] 32)) (show RB (W1.setCell ⟨w.heap.size,6,none⟩ (.int .i64 j)) (w.heap.size+1) (.slice none 0 0) 0 0 0 0 0 0 0 (.slice none 0 0) 0 0 0 (.slice none 0 0) from(heap_setCell_other _ _ _ _ (by simp)).trans HY1.out) (by exact bel)) hg3 (own_ne_typ HP1.out.1 HY1.out (by decide));have HX3:=hid hx3;have HY3:=hid hy3;obtain⟨⟨b0,b1,b2,b3,b4⟩,⟨b5,b6,b7,b8,b9,b10,b11⟩,b12⟩:=hx3.cells;obtain⟨⟨y0,y1,y2,y3,y4⟩,⟨y5,y6,y7,y8,y9,y10,y11⟩,y12⟩:=hy3.cells;have g0:=hy3.free 0;have g1:=hy3.free 1;have g2:=hy3.free 2;have g3:=hy3.free 3;have g4:=hy3.free 4;have g5:=hy3.free 5;have g6:=hy3.free 6;have g7:=hy3.free 7;have g8:=hy3.free 8;have g9:=hy3.free 9;have g10:=hy3.free 10;have g11:=hy3.free 11;have g12:=hy3.free 12;have k9:=hx3.free 9;have k10:=hx3.free 10;have k12:=hx3.free 12;have lx3:=hx3.lt;have ly3:=hy3.lt;have HP3:=hid (RowPks.pushed (co:=co) (id:=j) (HPX.out.below (C:=(W1.setCell ⟨w.heap.size,6,none⟩ (.int .i64 j)).alloc (.cells #[.int .i64 co,.int .i64 j,.slice A l.length c] 32)) (by exact bel) (by simp;omega)) (HD.out.imp (fun h=>⟨h.1.keep (by have hbs:base≤(W1.setCell ⟨w.heap.size,6,none⟩ (.int .i64 j)).heap.size:=(by simp;omega);exact bel),h.2⟩) (fun h=>own_below h (by exact bel))) (by rw[HPN.out];exact ho3) hg3 (by simp;omega));have HGW3:=hid (World.grownBy.trans (show w.grownBy ((W1.setCell ⟨w.heap.size,6,none⟩ (.int .i64 j)).alloc (.cells #[.int .i64 co,.int .i64 j,.slice A l.length c] 32)) (Value.slice Ao pn co').ownBlock from by have:=HGW.out;exact grn) hg3);clear ho3 hc3 hg3 hx3 hy3 p0 p1 p2 p3 p4 p5 p6 p7 p8 p9 p10 p11 p12 f6)
 ·obtain⟨WT,hWT⟩: ∃WT:World,WT=(((w3.setCell ⟨w.heap.size,12,none⟩ (.slice A4 (pn+1) c4)).setCell ⟨w.heap.size,9,none⟩ (.int .i64 (cnt-1))).setCell ⟨w.heap.size,10,none⟩ (.int .i64 (tick+wt))):=⟨_,rfl⟩
  obtain⟨Wf,hWf⟩: ∃Wf:World,Wf=(((((((((((((WT.setCell ⟨(w.heap.size+1),0,none⟩ (.slice Ar nr cr)).setCell ⟨(w.heap.size+1),1,none⟩ (.int .i64 mc)).setCell ⟨(w.heap.size+1),2,none⟩ (.int .i64 mt)).setCell ⟨(w.heap.size+1),3,none⟩ (.int .i64 mf)).setCell ⟨(w.heap.size+1),4,none⟩ (.int .i64 wt)).setCell ⟨(w.heap.size+1),5,none⟩ (.int .i64 st)).setCell ⟨(w.heap.size+1),6,none⟩ (.int .i64 j)).setCell ⟨(w.heap.size+1),7,none⟩ (.int .i64 req)).setCell ⟨(w.heap.size+1),8,none⟩ (.slice Aa na ca)).setCell ⟨(w.heap.size+1),9,none⟩ (.int .i64 (cnt-1))).setCell ⟨(w.heap.size+1),10,none⟩ (.int .i64 (tick+wt))).setCell ⟨(w.heap.size+1),11,none⟩ (.int .i64 nak)).setCell ⟨(w.heap.size+1),12,none⟩ (.slice A4 (pn+1) c4)):=⟨_,rfl⟩
  have hWf2:Wf=(((((((((((((((((w3.setCell ⟨w.heap.size,12,none⟩ (.slice A4 (pn+1) c4)).setCell ⟨w.heap.size,9,none⟩ (.int .i64 (cnt-1))).setCell ⟨w.heap.size,10,none⟩ (.int .i64 (tick+wt)))).setCell ⟨(w.heap.size+1),0,none⟩ (.slice Ar nr cr)).setCell ⟨(w.heap.size+1),1,none⟩ (.int .i64 mc)).setCell ⟨(w.heap.size+1),2,none⟩ (.int .i64 mt)).setCell ⟨(w.heap.size+1),3,none⟩ (.int .i64 mf)).setCell ⟨(w.heap.size+1),4,none⟩ (.int .i64 wt)).setCell ⟨(w.heap.size+1),5,none⟩ (.int .i64 st)).setCell ⟨(w.heap.size+1),6,none⟩ (.int .i64 j)).setCell ⟨(w.heap.size+1),7,none⟩ (.int .i64 req)).setCell ⟨(w.heap.size+1),8,none⟩ (.slice Aa na ca)).setCell ⟨(w.heap.size+1),9,none⟩ (.int .i64 (cnt-1))).setCell ⟨(w.heap.size+1),10,none⟩ (.int .i64 (tick+wt))).setCell ⟨(w.heap.size+1),11,none⟩ (.int .i64 nak)).setCell ⟨(w.heap.size+1),12,none⟩ (.slice A4 (pn+1) c4)):=by rw[hWf,hWT]
  rw[←hWf2]
  have hgT:w3.grownBy WT (some w.heap.size):=by rw[hWT];exact grn
  have hyT:=HY3.out.apart hgT (by simp)
  have hrow:RB Wf (w.heap.size+1) (.slice Ar nr cr) mc mt mf wt st (j) (req) (.slice Aa na ca) ((cnt-1)) ((tick+wt)) (nak) ((.slice A4 (pn+1) c4)):=by rw[hWf];exact row13 hyT rfl _ _ _ _ _ _ _ _ _ _ _ _ _
  have hgr:WT.grownBy Wf (some (w.heap.size+1)):=by rw[hWf];exact grn
  have hgf:w.grownBy Wf (Value.slice Ao pn co').ownBlock:=by
   have h3:=HGW3.out
   rw[hWf,hWT]
   exact grn
  have hpT:=HP3.out.other hgT HX3.out hb (by decide) (by decide) (Nat.le_trans hb HGW3.out.size)
  have hpf:=hpT.other hgr hyT (by omega) (by decide) (by decide) (Nat.le_trans hb (Nat.le_trans HGW3.out.size hgT.size))
  clear hWf hWf2 hWT b0 b1 b2 b3 b4 b5 b6 b7 b8 b9 b10 b11 b12 y0 y1 y2 y3 y4 y5 y6 y7 y8 y9 y10 y11 y12 g0 g1 g2 g3 g4 g5 g6 g7 g8 g9 g10 g11 g12
  obtain⟨⟨u0,u1,u2,u3,u4⟩,⟨u5,u6,u7,u8,u9,u10,u11⟩,u12⟩:=hrow.cells
  refine bodyPost_ret (v:=.agg #[.slice Ar nr cr,.int .i64 mc,.int .i64 mt,.int .i64 mf,.int .i64 wt,.int .i64 st,.int .i64 (j),.int .i64 (req),.slice Aa na ca,.int .i64 ((cnt-1)),.int .i64 ((tick+wt)),.int .i64 (nak),(.slice A4 (pn+1) c4)]) (by simp[results,Tryz.results91,go_sem,u0,u1,u2,u3,u4,u5,u6,u7,u8,u9,u10,u11,u12]) rfl ?_
  exact⟨_,_,by rw[show dec cnt=cnt-1 from if_pos hc],hgf,hpf,by rw[List.map_append];rfl⟩
 ·obtain⟨WT,hWT⟩: ∃WT:World,WT=((w3.setCell ⟨w.heap.size,12,none⟩ (.slice A4 (pn+1) c4)).setCell ⟨w.heap.size,10,none⟩ (.int .i64 (tick+wt))):=⟨_,rfl⟩
  obtain⟨Wf,hWf⟩: ∃Wf:World,Wf=(((((((((((((WT.setCell ⟨(w.heap.size+1),0,none⟩ (.slice Ar nr cr)).setCell ⟨(w.heap.size+1),1,none⟩ (.int .i64 mc)).setCell ⟨(w.heap.size+1),2,none⟩ (.int .i64 mt)).setCell ⟨(w.heap.size+1),3,none⟩ (.int .i64 mf)).setCell ⟨(w.heap.size+1),4,none⟩ (.int .i64 wt)).setCell ⟨(w.heap.size+1),5,none⟩ (.int .i64 st)).setCell ⟨(w.heap.size+1),6,none⟩ (.int .i64 j)).setCell ⟨(w.heap.size+1),7,none⟩ (.int .i64 req)).setCell ⟨(w.heap.size+1),8,none⟩ (.slice Aa na ca)).setCell ⟨(w.heap.size+1),9,none⟩ (.int .i64 cnt)).setCell ⟨(w.heap.size+1),10,none⟩ (.int .i64 (tick+wt))).setCell ⟨(w.heap.size+1),11,none⟩ (.int .i64 nak)).setCell ⟨(w.heap.size+1),12,none⟩ (.slice A4 (pn+1) c4)):=⟨_,rfl⟩
  have hWf2:Wf=((((((((((((((((w3.setCell ⟨w.heap.size,12,none⟩ (.slice A4 (pn+1) c4)).setCell ⟨w.heap.size,10,none⟩ (.int .i64 (tick+wt)))).setCell ⟨(w.heap.size+1),0,none⟩ (.slice Ar nr cr)).setCell ⟨(w.heap.size+1),1,none⟩ (.int .i64 mc)).setCell ⟨(w.heap.size+1),2,none⟩ (.int .i64 mt)).setCell ⟨(w.heap.size+1),3,none⟩ (.int .i64 mf)).setCell ⟨(w.heap.size+1),4,none⟩ (.int .i64 wt)).setCell ⟨(w.heap.size+1),5,none⟩ (.int .i64 st)).setCell ⟨(w.heap.size+1),6,none⟩ (.int .i64 j)).setCell ⟨(w.heap.size+1),7,none⟩ (.int .i64 req)).setCell ⟨(w.heap.size+1),8,none⟩ (.slice Aa na ca)).setCell ⟨(w.heap.size+1),9,none⟩ (.int .i64 cnt)).setCell ⟨(w.heap.size+1),10,none⟩ (.int .i64 (tick+wt))).setCell ⟨(w.heap.size+1),11,none⟩ (.int .i64 nak)).setCell ⟨(w.heap.size+1),12,none⟩ (.slice A4 (pn+1) c4)):=by rw[hWf,hWT]
  rw[←hWf2]
  have hgT:w3.grownBy WT (some w.heap.size):=by rw[hWT];exact grn
  have hyT:=HY3.out.apart hgT (by simp)
  have hrow:RB Wf (w.heap.size+1) (.slice Ar nr cr) mc mt mf wt st (j) (req) (.slice Aa na ca) (cnt) ((tick+wt)) (nak) ((.slice A4 (pn+1) c4)):=by rw[hWf];exact row13 hyT rfl _ _ _ _ _ _ _ _ _ _ _ _ _
  have hgr:WT.grownBy Wf (some (w.heap.size+1)):=by rw[hWf];exact grn
  have hgf:w.grownBy Wf (Value.slice Ao pn co').ownBlock:=by
   have h3:=HGW3.out
   rw[hWf,hWT]
   exact grn
  have hpT:=HP3.out.other hgT HX3.out hb (by decide) (by decide) (Nat.le_trans hb HGW3.out.size)
  have hpf:=hpT.other hgr hyT (by omega) (by decide) (by decide) (Nat.le_trans hb (Nat.le_trans HGW3.out.size hgT.size))
  clear hWf hWf2 hWT b0 b1 b2 b3 b4 b5 b6 b7 b8 b9 b10 b11 b12 y0 y1 y2 y3 y4 y5 y6 y7 y8 y9 y10 y11 y12 g0 g1 g2 g3 g4 g5 g6 g7 g8 g9 g10 g11 g12
  obtain⟨⟨u0,u1,u2,u3,u4⟩,⟨u5,u6,u7,u8,u9,u10,u11⟩,u12⟩:=hrow.cells
  refine bodyPost_ret (v:=.agg #[.slice Ar nr cr,.int .i64 mc,.int .i64 mt,.int .i64 mf,.int .i64 wt,.int .i64 st,.int .i64 (j),.int .i64 (req),.slice Aa na ca,.int .i64 (cnt),.int .i64 ((tick+wt)),.int .i64 (nak),(.slice A4 (pn+1) c4)]) (by simp[results,Tryz.results91,go_sem,u0,u1,u2,u3,u4,u5,u6,u7,u8,u9,u10,u11,u12]) rfl ?_
  exact⟨_,_,rfl,hgf,hpf,by rw[List.map_append];rfl⟩
end Go.Proofs.YtfkgmbknfnhjoaaGreat
namespace Go.Proofs.YtfkgmbknfnhjoaaGreat
open Lib (hid)
open Go.RowKit
set_option linter.unusedSimpArgs false
set_option linter.unusedVariables false
set_option linter.ambiguousOpen false
open Ne (Rl Opt RulesAt areB)
open Fs (av hasB)
def ActRP (vr va:Value) (c:Cf) (r:Au×List Pk) (vo:Value) (base:Nat) (P:List Pe) (w:World) (x:Ending) (w':World):Prop:=
 ∃v' P',x=.returned (.agg #[vr,.int .i64 c.mc,.int .i64 c.mt,.int .i64 c.mf,.int .i64 c.wt,.int .i64 r.1.st,.int .i64 r.1.id,.int .i64 r.1.req,va,.int .i64 r.1.cnt,.int .i64 r.1.tim,.int .i64 r.1.nak,v'])∧w.grownBy w' vo.ownBlock∧RowPks w' base v' P'∧P'.map Pe.o=P.map Pe.o++r.2
set_option maxRecDepth 100000 in
theorem ract_6 (Ar Aa Ai An Ad:Option Addr) (nr cr na ca ni ci nn cn nd cd:Nat) (mc mt mf wt st id req cnt tim nak ic ii ac ai tick:Int) (E:List Ent) (R:List Rl) (li ln:List UInt8) (acts:List Int) (vo:Value) (P:List Pe) (w:World) (base:Nat) (hb:base≤w.heap.size) (hP:RowPks w base vo P) (hlo:P.length≤999) (hE:OptsAt w w.heap.size Aa E) (hna:na=E.length) (hI:At w base Ai (li.map bv)) (hni:ni=li.length) (hci:ni≤ci) (hli:ni≤400000000) (hN:At w base An (ln.map bv)) (hnn:nn=ln.length) (hcn:nn≤cn) (hD:At w w.heap.size Ad (acts.map av)) (hnd:nd=acts.length) (hnd3:nd≤1000) (hk:NumOk ⟨R,mc,mt,mf,wt⟩ ⟨st,id,req,E.map Ent.o,cnt,tim,nak⟩ tick):Calls Tryz.prog 56 #[.agg #[.slice Ar nr cr,.int .i64 mc,.int .i64 mt,.int .i64 mf,.int .i64 wt,.int .i64 st,.int .i64 id,.int .i64 req,.slice Aa na ca,.int .i64 cnt,.int .i64 tim,.int .i64 nak,vo],.int .i64 6,.slice Ad nd cd,.agg #[.int .i64 ic,.int .i64 ii,.slice Ai ni ci],.agg #[.int .i64 ac,.int .i64 ai,.slice An nn cn],.int .i64 tick] w (ActRP (.slice Ar nr cr) (.slice Aa na ca) ⟨R,mc,mt,mf,wt⟩ (actO ⟨R,mc,mt,mf,wt⟩ ⟨ic,ii,li⟩ ⟨ac,ai,ln⟩ tick acts ⟨st,id,req,E.map Ent.o,cnt,tim,nak⟩ 6) vo base P w):=by
 subst hnn
 subst hni
 obtain⟨Ao,co',rfl,-,-⟩:=ownsRow_form hP.1
 have HP:=hid hP
 have HE:=hid hE
 have HNA:=hid hna
 have HI:=hid hI
 have HN:=hid hN
 have HD:=hid (And.intro hD hnd)
 have HK:=hid hk
 obtain⟨pn,hpn⟩: ∃pn,P.length=pn:=⟨_,rfl⟩
 have HPN:=hid hpn
 rw[hpn] at HP hlo
 rw[hpn]
 clear hP hE hna hI hN hD hnd hk hpn
 have hx:=HK.out
 have t0:=hx.t0
 have t1:=hx.t1
 have w0:=hx.w0
 have w1:=hx.w1
 dsimp only at t0 t1 w0 w1
 have e2:IntKind.i64.wrap (tick+wt)=tick+wt:=IntWalk.i64_in _ (by omega)
 clear hx
 show Calls _ _ _ _ (ActRP _ _ _ (⟨st,id,req,E.map Ent.o,0,tick+wt,nak⟩,[]) _ _ _ _)
 go_enter Tryz.func56,Tryz.ntmps56
 go_upto_region 1 with(fail)
 refine wp_w (fun W=>RB W w.heap.size (.slice Ar nr cr) mc mt mf wt st id req (.slice Aa na ca) cnt tim nak (.slice Ao pn co')∧W.heap[w.heap.size+1]? =some (.cells #[.int .i64 ic,.int .i64 ii,.slice Ai li.length ci] 32 (0,0))∧W.heap[w.heap.size+1+1]? =some (.cells #[.int .i64 ac,.int .i64 ai,.slice An ln.length cn] 32 (0,0))∧RB W (w.heap.size+1+1+1) (.slice none 0 0) 0 0 0 0 0 0 0 (.slice none 0 0) 0 0 0 (.slice none 0 0)∧Below w.heap.size w W) ⟨?_,?_,?_,?_,by exact bel⟩ ?_
 ·show(World.alloc _ _).heap[w.heap.size]? =_
  exact hpa
 ·show(World.alloc _ _).heap[w.heap.size+1]? =_
  exact hpa
 ·show(World.alloc _ _).heap[w.heap.size+1+1]? =_
  exact hpa
 ·show(World.alloc _ _).heap[w.heap.size+1+1+1]? =_
  exact hpa
 rintro w3 ⟨hx3,h9,h10,hy3,hb3⟩
 have HX3:=hid hx3
 have H9:=hid h9
 have H10:=hid h10
 have HY3:=hid hy3
 have HB3:=hid hb3
 have HP3:=hid (HP.out.below hb3 hb)
 have HGW3:=hid (grown_of_below (r:=(Value.slice Ao pn co').ownBlock) hb3)
 have hsz3:=hb3.size
 obtain⟨⟨b0,b1,b2,b3,b4⟩,⟨b5,b6,b7,b8,b9,b10,b11⟩,b12⟩:=hx3.cells
 obtain⟨i0,i1,i2⟩:=cells3 h9
 obtain⟨n0,n1,n2⟩:=cells3 h10
 have k6:=hx3.free 6
 have k7:=hx3.free 7
 have k9:=hx3.free 9
 have k10:=hx3.free 10
 have k11:=hx3.free 11
 have k12:=hx3.free 12
 have l9:=lt_blk h9
 have l10:=lt_blk h10
 have lx3:=hx3.lt
 have ly3:=hy3.lt
 obtain⟨⟨y0,y1,y2,y3,y4⟩,⟨y5,y6,y7,y8,y9,y10,y11⟩,y12⟩:=hy3.cells
 have g0:=hy3.free 0
 have g1:=hy3.free 1
 have g2:=hy3.free 2
 have g3:=hy3.free 3
 have g4:=hy3.free 4
 have g5:=hy3.free 5
 have g6:=hy3.free 6
 have g7:=hy3.free 7
 have g8:=hy3.free 8
 have g9:=hy3.free 9
 have g10:=hy3.free 10
 have g11:=hy3.free 11
 have g12:=hy3.free 12
 clear hx3 h9 h10 hy3 hb3
 go_wp2_with fail
 obtain⟨WT,hWT⟩: ∃WT:World,WT=((w3.setCell ⟨w.heap.size,9,none⟩ (Value.int .i64 0)).setCell ⟨w.heap.size,10,none⟩ (.int .i64 (tick+wt))):=⟨_,rfl⟩
 obtain⟨Wf,hWf⟩: ∃Wf:World,Wf=(((((((((((((WT.setCell ⟨(w.heap.size+1+1+1),0,none⟩ (.slice Ar nr cr)).setCell ⟨(w.heap.size+1+1+1),1,none⟩ (.int .i64 mc)).setCell ⟨(w.heap.size+1+1+1),2,none⟩ (.int .i64 mt)).setCell ⟨(w.heap.size+1+1+1),3,none⟩ (.int .i64 mf)).setCell ⟨(w.heap.size+1+1+1),4,none⟩ (.int .i64 wt)).setCell ⟨(w.heap.size+1+1+1),5,none⟩ (.int .i64 st)).setCell ⟨(w.heap.size+1+1+1),6,none⟩ (.int .i64 id)).setCell ⟨(w.heap.size+1+1+1),7,none⟩ (.int .i64 req)).setCell ⟨(w.heap.size+1+1+1),8,none⟩ (.slice Aa na ca)).setCell ⟨(w.heap.size+1+1+1),9,none⟩ (.int .i64 0)).setCell ⟨(w.heap.size+1+1+1),10,none⟩ (.int .i64 (tick+wt))).setCell ⟨(w.heap.size+1+1+1),11,none⟩ (.int .i64 nak)).setCell ⟨(w.heap.size+1+1+1),12,none⟩ (.slice Ao pn co')):=⟨_,rfl⟩
 have hWf2:Wf=((((((((((((((((w3.setCell ⟨w.heap.size,9,none⟩ (Value.int .i64 0)).setCell ⟨w.heap.size,10,none⟩ (.int .i64 (tick+wt)))).setCell ⟨(w.heap.size+1+1+1),0,none⟩ (.slice Ar nr cr)).setCell ⟨(w.heap.size+1+1+1),1,none⟩ (.int .i64 mc)).setCell ⟨(w.heap.size+1+1+1),2,none⟩ (.int .i64 mt)).setCell ⟨(w.heap.size+1+1+1),3,none⟩ (.int .i64 mf)).setCell ⟨(w.heap.size+1+1+1),4,none⟩ (.int .i64 wt)).setCell ⟨(w.heap.size+1+1+1),5,none⟩ (.int .i64 st)).setCell ⟨(w.heap.size+1+1+1),6,none⟩ (.int .i64 id)).setCell ⟨(w.heap.size+1+1+1),7,none⟩ (.int .i64 req)).setCell ⟨(w.heap.size+1+1+1),8,none⟩ (.slice Aa na ca)).setCell ⟨(w.heap.size+1+1+1),9,none⟩ (.int .i64 0)).setCell ⟨(w.heap.size+1+1+1),10,none⟩ (.int .i64 (tick+wt))).setCell ⟨(w.heap.size+1+1+1),11,none⟩ (.int .i64 nak)).setCell ⟨(w.heap.size+1+1+1),12,none⟩ (.slice Ao pn co')):=by rw[hWf,hWT]
 rw[←hWf2]
 have hgT:w3.grownBy WT (some w.heap.size):=by rw[hWT];exact grn
 have hyT:=HY3.out.apart hgT (by intro e;have:=Option.some.inj e;omega)
 have hrow:RB Wf (w.heap.size+1+1+1) (.slice Ar nr cr) mc mt mf wt st (id) (req) (.slice Aa na ca) (0) ((tick+wt)) (nak) ((.slice Ao pn co')):=by rw[hWf];exact row13 hyT rfl _ _ _ _ _ _ _ _ _ _ _ _ _
 have hgr:WT.grownBy Wf (some (w.heap.size+1+1+1)):=by rw[hWf];exact grn
 have hgf:w.grownBy Wf (Value.slice Ao pn co').ownBlock:=by
  have h3:=HGW3.out
  rw[hWf,hWT]
  exact grn
 have hpT:=HP3.out.other hgT HX3.out hb (by decide) (by decide) (Nat.le_trans hb HGW3.out.size)
 have hpf:=hpT.other hgr hyT (by omega) (by decide) (by decide) (Nat.le_trans hb (Nat.le_trans HGW3.out.size hgT.size))
 clear hWf hWf2 hWT b0 b1 b2 b3 b4 b5 b6 b7 b8 b9 b10 b11 b12 y0 y1 y2 y3 y4 y5 y6 y7 y8 y9 y10 y11 y12 g0 g1 g2 g3 g4 g5 g6 g7 g8 g9 g10 g11 g12
 obtain⟨⟨u0,u1,u2,u3,u4⟩,⟨u5,u6,u7,u8,u9,u10,u11⟩,u12⟩:=hrow.cells
 refine bodyPost_ret (v:=.agg #[.slice Ar nr cr,.int .i64 mc,.int .i64 mt,.int .i64 mf,.int .i64 wt,.int .i64 st,.int .i64 (id),.int .i64 (req),.slice Aa na ca,.int .i64 (0),.int .i64 ((tick+wt)),.int .i64 (nak),(.slice Ao pn co')]) (by simp[results,Tryz.results56,go_sem,u0,u1,u2,u3,u4,u5,u6,u7,u8,u9,u10,u11,u12]) rfl ?_
 exact⟨_,_,rfl,hgf,hpf,by rw[List.append_nil]⟩
set_option maxRecDepth 100000 in
theorem ract_8 (Ar Aa Ai An Ad:Option Addr) (nr cr na ca ni ci nn cn nd cd:Nat) (mc mt mf wt st id req cnt tim nak ic ii ac ai tick:Int) (E:List Ent) (R:List Rl) (li ln:List UInt8) (acts:List Int) (vo:Value) (P:List Pe) (w:World) (base:Nat) (hb:base≤w.heap.size) (hP:RowPks w base vo P) (hlo:P.length≤999) (hE:OptsAt w w.heap.size Aa E) (hna:na=E.length) (hI:At w base Ai (li.map bv)) (hni:ni=li.length) (hci:ni≤ci) (hli:ni≤400000000) (hN:At w base An (ln.map bv)) (hnn:nn=ln.length) (hcn:nn≤cn) (hD:At w w.heap.size Ad (acts.map av)) (hnd:nd=acts.length) (hnd3:nd≤1000) (hk:NumOk ⟨R,mc,mt,mf,wt⟩ ⟨st,id,req,E.map Ent.o,cnt,tim,nak⟩ tick):Calls Tryz.prog 56 #[.agg #[.slice Ar nr cr,.int .i64 mc,.int .i64 mt,.int .i64 mf,.int .i64 wt,.int .i64 st,.int .i64 id,.int .i64 req,.slice Aa na ca,.int .i64 cnt,.int .i64 tim,.int .i64 nak,vo],.int .i64 8,.slice Ad nd cd,.agg #[.int .i64 ic,.int .i64 ii,.slice Ai ni ci],.agg #[.int .i64 ac,.int .i64 ai,.slice An nn cn],.int .i64 tick] w (ActRP (.slice Ar nr cr) (.slice Aa na ca) ⟨R,mc,mt,mf,wt⟩ (actO ⟨R,mc,mt,mf,wt⟩ ⟨ic,ii,li⟩ ⟨ac,ai,ln⟩ tick acts ⟨st,id,req,E.map Ent.o,cnt,tim,nak⟩ 8) vo base P w):=by
 subst hnn
 subst hni
 obtain⟨Ao,co',rfl,-,-⟩:=ownsRow_form hP.1
 have HP:=hid hP
 have HE:=hid hE
 have HNA:=hid hna
 have HI:=hid hI
 have HN:=hid hN
 have HD:=hid (And.intro hD hnd)
 have HK:=hid hk
 obtain⟨pn,hpn⟩: ∃pn,P.length=pn:=⟨_,rfl⟩
 have HPN:=hid hpn
 rw[hpn] at HP hlo
 rw[hpn]
 clear hP hE hna hI hN hD hnd hk hpn
 show Calls _ _ _ _ (ActRP _ _ _ (⟨st,id,req,E.map Ent.o,cnt,tim,0⟩,[⟨ac,ai,ln⟩]) _ _ _ _)
 go_enter Tryz.func56,Tryz.ntmps56
 go_upto_region 1 with(fail)
 refine wp_w (fun W=>RB W w.heap.size (.slice Ar nr cr) mc mt mf wt st id req (.slice Aa na ca) cnt tim nak (.slice Ao pn co')∧W.heap[w.heap.size+1]? =some (.cells #[.int .i64 ic,.int .i64 ii,.slice Ai li.length ci] 32 (0,0))∧W.heap[w.heap.size+1+1]? =some (.cells #[.int .i64 ac,.int .i64 ai,.slice An ln.length cn] 32 (0,0))∧RB W (w.heap.size+1+1+1) (.slice none 0 0) 0 0 0 0 0 0 0 (.slice none 0 0) 0 0 0 (.slice none 0 0)∧Below w.heap.size w W) ⟨?_,?_,?_,?_,by exact bel⟩ ?_
 ·show(World.alloc _ _).heap[w.heap.size]? =_
  exact hpa
 ·show(World.alloc _ _).heap[w.heap.size+1]? =_
  exact hpa
 ·show(World.alloc _ _).heap[w.heap.size+1+1]? =_
  exact hpa
 ·show(World.alloc _ _).heap[w.heap.size+1+1+1]? =_
  exact hpa
 rintro W1 ⟨hx3,h9,h10,hy3,hb3⟩
 have HX3:=hid hx3
 have H9:=hid h9
 have H10:=hid h10
 have HY3:=hid hy3
 have HB3:=hid hb3
 have HP3:=hid (HP.out.below hb3 hb)
 have HGW3:=hid (grown_of_below (r:=(Value.slice Ao pn co').ownBlock) hb3)
 have hsz3:=hb3.size
 obtain⟨⟨b0,b1,b2,b3,b4⟩,⟨b5,b6,b7,b8,b9,b10,b11⟩,b12⟩:=hx3.cells
 obtain⟨i0,i1,i2⟩:=cells3 h9
 obtain⟨n0,n1,n2⟩:=cells3 h10
 have k6:=hx3.free 6
 have k7:=hx3.free 7
 have k9:=hx3.free 9
 have k10:=hx3.free 10
 have k11:=hx3.free 11
 have k12:=hx3.free 12
 have l9:=lt_blk h9
 have l10:=lt_blk h10
 have lx3:=hx3.lt
 have ly3:=hy3.lt
 clear hx3 h9 h10 hy3 hb3
 go_wp2_with (at_builtin;go_loud (refine wpList_appg base rfl (.tmp 69) (.tmp 71) 43 rfl 32 Tryz.underlying43 (.agg #[.int .i64 0,.int .i64 0,.slice none 0 0]) 3 40 infoCtl rfl (by decide) (by decide) (.slice Ao pn co') pn (cellsP P) rfl (by have h:=HP3.out.1;rw[HPN.out] at h;exact own_below h (by exact bel)) ((W1).heap.size+1) (some ⟨(W1).heap.size,0,none⟩) 1 1 [.int .i64 (ac),.int .i64 (ai),.slice (An) (ln.length) (cn)] rfl rfl (by omega) (by exact At.newN _ _ _ _ _ (by simp) rfl) (by intro u hu;simp at hu;rcases hu with rfl|rfl|rfl<;>rfl) (by simp;omega) ?_);intro A4 c4 w3 ho3 hc3 hg3;have hx3:=RB.apart (RB.keep HX3.out (by exact bel)) hg3 (own_ne_typ HP3.out.1 HX3.out (by decide));have hy3:=RB.apart (RB.keep HY3.out (by exact bel)) hg3 (own_ne_typ HP3.out.1 HY3.out (by decide));have HP4:=hid (RowPks.pushed (co:=ac) (id:=ai) (HP3.out.below (C:=(W1).alloc (.cells #[.int .i64 (ac),.int .i64 (ai),.slice (An) (ln.length) (cn)] 32)) (by exact bel) (by omega)) (.inl ⟨(HN.out.keep (HB3.out.mono hb)).keep (by have hbs:base≤W1.heap.size:=(by omega);exact bel),hcn⟩) (by rw[HPN.out];exact ho3) hg3 (by simp;omega));have HGW4:=hid (World.grownBy.trans (show w.grownBy ((W1).alloc (.cells #[.int .i64 (ac),.int .i64 (ai),.slice (An) (ln.length) (cn)] 32)) (Value.slice Ao pn co').ownBlock from by have:=HGW3.out;exact grn) hg3);clear HX3 HY3 HP3 HGW3 b0 b1 b2 b3 b4 b5 b6 b7 b8 b9 b10 b11 b12 k6 k7 k9 k10 k11 k12;have HX3:=hid hx3;have HY3:=hid hy3;have HP3:=HP4;have HGW3:=HGW4;obtain⟨⟨b0,b1,b2,b3,b4⟩,⟨b5,b6,b7,b8,b9,b10,b11⟩,b12⟩:=hx3.cells;obtain⟨⟨y0,y1,y2,y3,y4⟩,⟨y5,y6,y7,y8,y9,y10,y11⟩,y12⟩:=hy3.cells;have g0:=hy3.free 0;have g1:=hy3.free 1;have g2:=hy3.free 2;have g3:=hy3.free 3;have g4:=hy3.free 4;have g5:=hy3.free 5;have g6:=hy3.free 6;have g7:=hy3.free 7;have g8:=hy3.free 8;have g9:=hy3.free 9;have g10:=hy3.free 10;have g11:=hy3.free 11;have g12:=hy3.free 12;have k6:=hx3.free 6;have k7:=hx3.free 7;have k9:=hx3.free 9;have k10:=hx3.free 10;have k11:=hx3.free 11;have k12:=hx3.free 12;have lz3:=hx3.lt;have lw3:=hy3.lt;clear ho3 hc3 hg3 hx3 hy3)
 obtain⟨WT,hWT⟩: ∃WT:World,WT=((w3.setCell ⟨w.heap.size,12,none⟩ (Value.slice A4 (pn+1) c4)).setCell ⟨w.heap.size,11,none⟩ (.int .i64 0)):=⟨_,rfl⟩
 obtain⟨Wf,hWf⟩: ∃Wf:World,Wf=(((((((((((((WT.setCell ⟨(w.heap.size+1+1+1),0,none⟩ (.slice Ar nr cr)).setCell ⟨(w.heap.size+1+1+1),1,none⟩ (.int .i64 mc)).setCell ⟨(w.heap.size+1+1+1),2,none⟩ (.int .i64 mt)).setCell ⟨(w.heap.size+1+1+1),3,none⟩ (.int .i64 mf)).setCell ⟨(w.heap.size+1+1+1),4,none⟩ (.int .i64 wt)).setCell ⟨(w.heap.size+1+1+1),5,none⟩ (.int .i64 st)).setCell ⟨(w.heap.size+1+1+1),6,none⟩ (.int .i64 id)).setCell ⟨(w.heap.size+1+1+1),7,none⟩ (.int .i64 req)).setCell ⟨(w.heap.size+1+1+1),8,none⟩ (.slice Aa na ca)).setCell ⟨(w.heap.size+1+1+1),9,none⟩ (.int .i64 cnt)).setCell ⟨(w.heap.size+1+1+1),10,none⟩ (.int .i64 tim)).setCell ⟨(w.heap.size+1+1+1),11,none⟩ (.int .i64 0)).setCell ⟨(w.heap.size+1+1+1),12,none⟩ (.slice A4 (pn+1) c4)):=⟨_,rfl⟩
 have hWf2:Wf=((((((((((((((((w3.setCell ⟨w.heap.size,12,none⟩ (Value.slice A4 (pn+1) c4)).setCell ⟨w.heap.size,11,none⟩ (.int .i64 0))).setCell ⟨(w.heap.size+1+1+1),0,none⟩ (.slice Ar nr cr)).setCell ⟨(w.heap.size+1+1+1),1,none⟩ (.int .i64 mc)).setCell ⟨(w.heap.size+1+1+1),2,none⟩ (.int .i64 mt)).setCell ⟨(w.heap.size+1+1+1),3,none⟩ (.int .i64 mf)).setCell ⟨(w.heap.size+1+1+1),4,none⟩ (.int .i64 wt)).setCell ⟨(w.heap.size+1+1+1),5,none⟩ (.int .i64 st)).setCell ⟨(w.heap.size+1+1+1),6,none⟩ (.int .i64 id)).setCell ⟨(w.heap.size+1+1+1),7,none⟩ (.int .i64 req)).setCell ⟨(w.heap.size+1+1+1),8,none⟩ (.slice Aa na ca)).setCell ⟨(w.heap.size+1+1+1),9,none⟩ (.int .i64 cnt)).setCell ⟨(w.heap.size+1+1+1),10,none⟩ (.int .i64 tim)).setCell ⟨(w.heap.size+1+1+1),11,none⟩ (.int .i64 0)).setCell ⟨(w.heap.size+1+1+1),12,none⟩ (.slice A4 (pn+1) c4)):=by rw[hWf,hWT]
 rw[←hWf2]
 have hgT:w3.grownBy WT (some w.heap.size):=by rw[hWT];exact grn
 have hyT:=HY3.out.apart hgT (by intro e;have:=Option.some.inj e;omega)
 have hrow:RB Wf (w.heap.size+1+1+1) (.slice Ar nr cr) mc mt mf wt st (id) (req) (.slice Aa na ca) (cnt) (tim) (0) ((.slice A4 (pn+1) c4)):=by rw[hWf];exact row13 hyT rfl _ _ _ _ _ _ _ _ _ _ _ _ _
 have hgr:WT.grownBy Wf (some (w.heap.size+1+1+1)):=by rw[hWf];exact grn
 have hgf:w.grownBy Wf (Value.slice Ao pn co').ownBlock:=by
  have h3:=HGW3.out
  rw[hWf,hWT]
  exact grn
 have hpT:=HP3.out.other hgT HX3.out hb (by decide) (by decide) (Nat.le_trans hb HGW3.out.size)
 have hpf:=hpT.other hgr hyT (by omega) (by decide) (by decide) (Nat.le_trans hb (Nat.le_trans HGW3.out.size hgT.size))
 clear hWf hWf2 hWT b0 b1 b2 b3 b4 b5 b6 b7 b8 b9 b10 b11 b12 y0 y1 y2 y3 y4 y5 y6 y7 y8 y9 y10 y11 y12 g0 g1 g2 g3 g4 g5 g6 g7 g8 g9 g10 g11 g12
 obtain⟨⟨u0,u1,u2,u3,u4⟩,⟨u5,u6,u7,u8,u9,u10,u11⟩,u12⟩:=hrow.cells
 refine bodyPost_ret (v:=.agg #[.slice Ar nr cr,.int .i64 mc,.int .i64 mt,.int .i64 mf,.int .i64 wt,.int .i64 st,.int .i64 (id),.int .i64 (req),.slice Aa na ca,.int .i64 (cnt),.int .i64 (tim),.int .i64 (0),(.slice A4 (pn+1) c4)]) (by simp[results,Tryz.results56,go_sem,u0,u1,u2,u3,u4,u5,u6,u7,u8,u9,u10,u11,u12]) rfl ?_
 exact⟨_,_,rfl,hgf,hpf,by rw[List.map_append];rfl⟩
end Go.Proofs.YtfkgmbknfnhjoaaGreat
