/- PF -/
import Derived.Test.YtfkgmbknfnhjoaaGreatSPD
import Derived.Test.YtfkgmbknfnhjoaaGreatSZ40
set_option linter.all false
set_option linter.ambiguousOpen false
set_option maxHeartbeats 8000000
namespace Go.Proofs.YtfkgmbknfnhjoaaGreat
open Lib (hid)
open Go.RowKit
open Ne (Rl bF aD bM)
open Fs (av hasB)
def bS (W:World) (base:Nat) (v:Value) (P:List Pe):Prop:=
 W.ownsRow base 32 3 v P.length (eX P)∧ ∀e∈P,(At W base e.a (e.d.map bv)∧e.d.length≤e.c)∨W.ownsRow base 5 1 e.v e.d.length (e.d.map bv)
theorem bS.below {A C:World} {base:Nat} {v:Value} {P:List Pe} (h:bS A base v P) (hb:Below A.heap.size A C) (hB:base≤A.heap.size):bS C base v P:=
 ⟨own_below h.1 hb,fun x hx=>(h.2 x hx).imp (fun h=>⟨h.1.keep (hb.mono hB),h.2⟩) (fun h=>own_below h hb)⟩
theorem bS.nil (A:World) (b:Nat):bS A b (.slice none 0 0) []:=⟨aN _ _ _ _,fun _ h=>by cases h⟩
theorem bS.other {A C:World} {base X:Nat} {v:Value} {P:List Pe} {cur:Array Value} {e':TypeId} (h:bS A base v P) (hg:A.grownBy C (some X)) (hX:A.heap[X]? =some (.cells cur e' (0,0))) (hbX:base≤X) (h1:e'≠32) (h2:e'≠5) (hB:base≤A.heap.size):bS C base v P:=
 ⟨aW h.1 hg fun r e=>by cases e;exact .inr (.inr ⟨_,_,hX,h1⟩),fun x hx=>(h.2 x hx).imp (fun h=>⟨h.1.grown hg hB (fun k e=>by cases e;exact hbX),h.2⟩) (fun h=>aW h hg fun r e=>by cases e;exact .inr (.inr ⟨_,_,hX,h2⟩))⟩
theorem bS.pushed {W W2:World} {base:Nat} {v v3:Value} {P:List Pe} {co id:Int} {A2:Option Addr} {dd:List UInt8} {c2:Nat} (h:bS W base v P)
  (h2:(At W base A2 (dd.map bv)∧dd.length≤c2)∨W.ownsRow base 5 1 (.slice A2 dd.length c2) dd.length (dd.map bv)) (h3:W2.ownsRow base 32 3 v3 (P.length+1) (eX P++[.int .i64 co,.int .i64 id,.slice A2 dd.length c2]))
  (hg:W.grownBy W2 v.ownBlock) (hB:base≤W.heap.size):bS W2 base v3 (P++[⟨co,id,dd,A2,c2⟩]):=by
 have hr: ∀r,v.ownBlock=some r→r<base∨(∃o:Obj,W.heap[r]? =some o∧o.isCells=false)∨(∃cur e',W.heap[r]? =some (.cells cur e' (0,0))∧e'≠5):=fun r e=>by
  obtain⟨cur,hc⟩:=bL h.1 e
  exact .inr (.inr ⟨cur,32,hc,by decide⟩)
 refine⟨by rw[rZ];simpa[Pe.v] using h3,fun e he=>?_⟩
 rcases List.mem_append.1 he with he|he
 ·exact(h.2 e he).imp (fun h1=>⟨h1.1.grown hg hB (fun k e=>eu h.1 e),h1.2⟩) (fun h1=>aW h1 hg hr)
 ·simp only[List.mem_singleton] at he
  subst he
  exact h2.imp (fun h1=>⟨h1.1.grown hg hB (fun k e=>eu h.1 e),h1.2⟩) (fun h1=>aW h1 hg hr)
theorem cO {w w':World} {r:Option Nat} (h:Below w.heap.size w w'):w.grownBy w' r:=⟨h.os,h.tape,h.output,h.size,fun k hk _=>h.block k hk⟩
def rcs (vr:Value) (mc mt mf wt st id req:Int) (va:Value) (cnt ay au:Int) (vo:Value):Array Value:=#[vr,.int .i64 mc,.int .i64 mt,.int .i64 mf,.int .i64 wt,.int .i64 st,.int .i64 id,.int .i64 req,va,.int .i64 cnt,.int .i64 ay,.int .i64 au,vo]
set_option maxRecDepth 100000 in
theorem jy {w:World} {X:Nat} {cs:Array Value} {T:TypeId} (h:w.heap[X]? =some (.cells cs T (0,0))) (hc:cs.size=13) (a0 a1 a2 a3 a4 a5 a6 a7 a8 a9 TF TG a12:Value):
  (((((((((((((w.setCell ⟨X,0,none⟩ a0).setCell ⟨X,1,none⟩ a1).setCell ⟨X,2,none⟩ a2).setCell ⟨X,3,none⟩ a3).setCell ⟨X,4,none⟩ a4).setCell ⟨X,5,none⟩ a5).setCell ⟨X,6,none⟩ a6).setCell ⟨X,7,none⟩ a7).setCell ⟨X,8,none⟩ a8).setCell ⟨X,9,none⟩ a9).setCell ⟨X,10,none⟩ TF).setCell ⟨X,11,none⟩ TG).setCell ⟨X,12,none⟩ a12).heap[X]? =some (.cells #[a0,a1,a2,a3,a4,a5,a6,a7,a8,a9,TF,TG,a12] T (0,0)):=by
 obtain⟨l⟩:=cs
 match l,hc with
 |[x0,x1,x2,x3,x4,x5,x6,x7,x8,x9,x10,Xp,x12],_=>
  have e0:=heap_setCell_same w X 0 _ _ a0 h
  simp only[aaB,aaC,aaD] at e0
  have e1:=heap_setCell_same _ X 1 _ _ a1 e0
  simp only[aaB,aaC,aaD] at e1
  have e2:=heap_setCell_same _ X 2 _ _ a2 e1
  simp only[aaB,aaC,aaD] at e2
  have e3:=heap_setCell_same _ X 3 _ _ a3 e2
  simp only[aaB,aaC,aaD] at e3
  have e4:=heap_setCell_same _ X 4 _ _ a4 e3
  simp only[aaB,aaC,aaD] at e4
  have e5:=heap_setCell_same _ X 5 _ _ a5 e4
  simp only[aaB,aaC,aaD] at e5
  have e6:=heap_setCell_same _ X 6 _ _ a6 e5
  simp only[aaB,aaC,aaD] at e6
  have e7:=heap_setCell_same _ X 7 _ _ a7 e6
  simp only[aaB,aaC,aaD] at e7
  have e8:=heap_setCell_same _ X 8 _ _ a8 e7
  simp only[aaB,aaC,aaD] at e8
  have e9:=heap_setCell_same _ X 9 _ _ a9 e8
  simp only[aaB,aaC,aaD] at e9
  have e10:=heap_setCell_same _ X 10 _ _ TF e9
  simp only[aaB,aaC,aaD] at e10
  have e11:=heap_setCell_same _ X 11 _ _ TG e10
  simp only[aaB,aaC,aaD] at e11
  have e12:=heap_setCell_same _ X 12 _ _ a12 e11
  simp only[aaB,aaC,aaD] at e12
  exact e12
def RB (W:World) (X:Nat) (vr:Value) (mc mt mf wt st id req:Int) (va:Value) (cnt ay au:Int) (vo:Value):Prop:=W.heap[X]? =some (.cells (rcs vr mc mt mf wt st id req va cnt ay au vo) 107 (0,0))
section
variable {W W':World} {X:Nat} {vr va vo:Value} {mc mt mf wt st id req cnt ay au:Int}
theorem RB.lt (h:RB W X vr mc mt mf wt st id req va cnt ay au vo):X<W.heap.size:=aj h
theorem RB.cell (h:RB W X vr mc mt mf wt st id req va cnt ay au vo) (i:Nat) {v:Value} (hv:(rcs vr mc mt mf wt st id req va cnt ay au vo)[i]? =some v):W.cell? ⟨X,i,none⟩=some v:=(cell_of_row W X i _ _ _ h).trans hv
theorem RB.cells (h:RB W X vr mc mt mf wt st id req va cnt ay au vo):(W.cell? ⟨X,0,none⟩=some vr∧W.cell? ⟨X,1,none⟩=some (.int .i64 mc)∧W.cell? ⟨X,2,none⟩=some (.int .i64 mt)∧W.cell? ⟨X,3,none⟩=some (.int .i64 mf)∧W.cell? ⟨X,4,none⟩=some (.int .i64 wt))∧
  (W.cell? ⟨X,5,none⟩=some (.int .i64 st)∧W.cell? ⟨X,6,none⟩=some (.int .i64 id)∧W.cell? ⟨X,7,none⟩=some (.int .i64 req)∧W.cell? ⟨X,8,none⟩=some va∧W.cell? ⟨X,9,none⟩=some (.int .i64 cnt)∧W.cell? ⟨X,10,none⟩=some (.int .i64 ay)∧W.cell? ⟨X,11,none⟩=some (.int .i64 au))∧W.cell? ⟨X,12,none⟩=some vo:=
 ⟨⟨h.cell 0 rfl,h.cell 1 rfl,h.cell 2 rfl,h.cell 3 rfl,h.cell 4 rfl⟩,⟨h.cell 5 rfl,h.cell 6 rfl,h.cell 7 rfl,h.cell 8 rfl,h.cell 9 rfl,h.cell 10 rfl,h.cell 11 rfl⟩,h.cell 12 rfl⟩
theorem RB.free (h:RB W X vr mc mt mf wt st id req va cnt ay au vo) (i:Nat):W.frozen? ⟨X,i,none⟩=false:=frozen_of_row W X i _ _ h
theorem RB.keep (h:RB W X vr mc mt mf wt st id req va cnt ay au vo) (hb:Below W.heap.size W W'):RB W' X vr mc mt mf wt st id req va cnt ay au vo:=(hb.block X h.lt).trans h
theorem RB.apart (h:RB W X vr mc mt mf wt st id req va cnt ay au vo) {row:Option Nat} (hg:W.grownBy W' row) (hr:row≠some X):RB W' X vr mc mt mf wt st id req va cnt ay au vo:=(hg.block X h.lt (fun e=>hr e.symm)).trans h
theorem RB.Z5 (h:RB W X vr mc mt mf wt st id req va cnt ay au vo) (x:Int):RB (W.setCell ⟨X,6,none⟩ (.int .i64 x)) X vr mc mt mf wt st x req va cnt ay au vo:=heap_setCell_same W X 6 _ _ _ h
theorem RB.Z6 (h:RB W X vr mc mt mf wt st id req va cnt ay au vo) (x:Int):RB (W.setCell ⟨X,10,none⟩ (.int .i64 x)) X vr mc mt mf wt st id req va cnt x au vo:=heap_setCell_same W X 10 _ _ _ h
end
theorem bW {w:World} {base:Nat} {e e':TypeId} {size n:Nat} {v:Value} {xs:List Value} (h:w.ownsRow base e size v n xs) {X:Nat} {cs:Array Value} (hX:w.heap[X]? =some (.cells cs e' (0,0))) (hne:e≠e'):v.ownBlock≠some X:=by
 intro hk
 obtain⟨cur,hc⟩:=bL h hk
 rw[hX] at hc
 cases hc
 exact hne rfl
def SX (vr:Value) (mc mt mf wt st id req:Int) (va:Value) (cnt ay au:Int) (vo:Value) (base:Nat) (P:List Pe) (q:List Pk) (w:World) (x:Ending) (w':World):Prop:=
 ∃v' P',x=.returned (.agg #[vr,.int .i64 mc,.int .i64 mt,.int .i64 mf,.int .i64 wt,.int .i64 st,.int .i64 id,.int .i64 req,va,.int .i64 cnt,.int .i64 ay,.int .i64 au,v'])∧w.grownBy w' vo.ownBlock∧bS w' base v' P'∧P'.map Pe.o=P.map Pe.o++q
set_option maxRecDepth 100000 in
theorem wT (Ar Aa A:Option Addr) (nr cr na ca n c:Nat) (mc mt mf wt st id req cnt ay au co tick:Int) (l:List UInt8) (vo:Value) (P:List Pe) (w:World) (base:Nat) (hb:base≤w.heap.size) (hP:bS w base vo P) (hlo:P.length≤999) (hn:n=l.length)
  (hA:(At w base A (l.map bv)∧l.length≤c)∨w.ownsRow base 5 1 (.slice A l.length c) l.length (l.map bv)) (h0:0≤tick) (h1:tick≤1099511627776) (h2:1≤wt) (h3:wt≤1048576) (h4:0≤cnt) (h5:cnt≤1000) (h6:0≤id) (h7:id≤255):
  Calls Tryz.prog 91 #[.agg #[.slice Ar nr cr,.int .i64 mc,.int .i64 mt,.int .i64 mf,.int .i64 wt,.int .i64 st,.int .i64 id,.int .i64 req,.slice Aa na ca,.int .i64 cnt,.int .i64 ay,.int .i64 au,vo],.int .i64 co,.slice A n c,.int .i64 tick] w (SX (.slice Ar nr cr) mc mt mf wt st (jY id) req (.slice Aa na ca) (dec cnt) (tick+wt) au vo base P [⟨co,jY id,l⟩] w):=by
 subst hn
 obtain⟨Ao,fq,rfl,-,-⟩:=ownsRow_form hP.1
 have HP:=hid hP
 have HA:=hid hA
 clear hP hA
 have e1:Int.tmod (id+1) 256=jY id:=Int.tmod_eq_emod_of_nonneg (by omega)
 obtain⟨hj0,hj1⟩:=yN id
 obtain⟨j,hj⟩: ∃j,jY id=j:=⟨_,rfl⟩
 rw[hj] at e1 hj0 hj1
 rw[hj]
 have e2:IntKind.i64.wrap (tick+wt)=tick+wt:=IntWalk.i64_in _ (by omega)
 obtain⟨pn,hpn⟩: ∃pn,P.length=pn:=⟨_,rfl⟩
 have qo:=hid hpn
 rw[hpn] at HP hlo
 rw[hpn]
 clear hj hpn
 obtain⟨dc,hdc⟩: ∃dc,dec cnt=dc:=⟨_,rfl⟩
 have Yt:=hid hdc
 rw[hdc]
 clear hdc
 go_enter Tryz.func91,Tryz.ntmps91
 go_upto_region 1 with(fail)
 refine bY (fun W=>RB W w.heap.size (.slice Ar nr cr) mc mt mf wt st id req (.slice Aa na ca) cnt ay au (.slice Ao pn fq)∧RB W (w.heap.size+1) (.slice none 0 0) 0 0 0 0 0 0 0 (.slice none 0 0) 0 0 0 (.slice none 0 0)∧Below w.heap.size w W) ⟨?_,?_,by exact aA⟩ ?_
 ·show(World.alloc _ _).heap[w.heap.size]? =_
  exact hpa
 ·show(World.alloc _ _).heap[w.heap.size+1]? =_
  exact hpa
 rintro W1 ⟨hx1,hy1,hb1⟩
 have KO:=hid hx1
 have HY1:=hid hy1
 have HB1:=hid hb1
 have lx1:=hx1.lt
 have ly1:=hy1.lt
 obtain⟨⟨p0,p1,p2,p3,p4⟩,⟨p5,p6,p7,p8,p9,p10,p11⟩,p12⟩:=hx1.cells
 have f6:=hx1.free 6
 have hsz1:=hb1.size
 clear hx1 hy1 hb1
 have YI:=hid (HP.out.below HB1.out hb)
 have HPX:=hid (YI.out.other (bV W1 w.heap.size 6 (.int .i64 j)) KO.out hb (by decide) (by decide) (aaF hb hsz1))
 have HGW:=hid (cO (r:=(Value.slice Ao pn fq).ownBlock) HB1.out)
 have HD:=hid (show(At (W1.setCell ⟨w.heap.size,6,none⟩ (.int .i64 j)) base A (l.map bv)∧l.length≤c)∨(W1.setCell ⟨w.heap.size,6,none⟩ (.int .i64 j)).ownsRow base 5 1 (.slice A l.length c) l.length (l.map bv) from by
  have h1:(At W1 base A (l.map bv)∧l.length≤c)∨W1.ownsRow base 5 1 (.slice A l.length c) l.length (l.map bv):=HA.out.imp (fun h=>⟨h.1.keep (HB1.out.mono hb),h.2⟩) (fun h=>own_below h HB1.out)
  exact h1.imp (fun h=>⟨h.1.grown (bV _ _ _ _) (aaF hb hsz1) (fun k e=>by cases e;exact hb),h.2⟩) (fun h=>ownsRow_setCell_other h (bW (e':=107) (X:=w.heap.size) h (show W1.heap[w.heap.size]? =some (.cells _ 107 (0,0)) from KO.out) (by decide)) _))
 have hdc:dc=if 0<cnt then cnt-1 else cnt:=Yt.out.symm
 by_cases hc:0<cnt
 all_goals
  first|(rw[if_pos hc] at hdc)|(rw[if_neg hc] at hdc)
  subst dc
  go_wp2_with (at_builtin;go_loud (refine iy base rfl (.tmp 17) (.tmp 24) 43 rfl 32 Tryz.underlying43 (.agg #[.int .i64 0,.int .i64 0,.slice none 0 0]) 3 40 kV rfl (by decide) (by decide) (.slice Ao pn fq) pn (eX P) rfl (by have h:=HPX.out.1;rw[qo.out] at h;exact own_below h (by exact aA)) (W1.heap.size+1) (some ⟨W1.heap.size,0,none⟩) 1 1 [.int .i64 co,.int .i64 j,.slice A l.length c] rfl rfl (by omega) (by exact At.gW _ _ _ _ _ (by simp) rfl) (by intro u hu;simp at hu;rcases hu with rfl|rfl|rfl<;>rfl) (by simp;omega) ?_);intro A4 c4 w3 ho3 hc3 hg3;have gZ:=hid ho3;have sQ:=hid hg3;have hx3:=RB.apart (RB.keep (KO.out.Z5 j) (by exact aA)) hg3 (bW YI.out.1 KO.out (by decide));have hy3:=RB.apart (RB.keep (W':=(W1.setCell ⟨w.heap.size,6,none⟩ (.int .i64 j)).alloc (.cells #[.int .i64 co,.int .i64 j,.slice A l.length c] 32)) (show RB (W1.setCell ⟨w.heap.size,6,none⟩ (.int .i64 j)) (w.heap.size+1) (.slice none 0 0) 0 0 0 0 0 0 0 (.slice none 0 0) 0 0 0 (.slice none 0 0) from(heap_setCell_other _ _ _ _ (by simp)).trans HY1.out) (by exact aA)) hg3 (bW YI.out.1 HY1.out (by decide));have gX:=hid hx3;have gY:=hid hy3;obtain⟨⟨b0,b1,b2,b3,b4⟩,⟨b5,b6,b7,b8,b9,b10,b11⟩,b12⟩:=hx3.cells;obtain⟨⟨y0,y1,y2,y3,y4⟩,⟨y5,y6,y7,y8,y9,tQ,tT⟩,tV⟩:=hy3.cells;have g0:=hy3.free 0;have g1:=hy3.free 1;have g2:=hy3.free 2;have g3:=hy3.free 3;have g4:=hy3.free 4;have g5:=hy3.free 5;have g6:=hy3.free 6;have g7:=hy3.free 7;have g8:=hy3.free 8;have g9:=hy3.free 9;have g10:=hy3.free 10;have g11:=hy3.free 11;have g12:=hy3.free 12;have k9:=hx3.free 9;have k10:=hx3.free 10;have k12:=hx3.free 12;have CX:=hx3.lt;have D5:=hy3.lt;have fD:=hid (bS.pushed (co:=co) (id:=j) (HPX.out.below (C:=(W1.setCell ⟨w.heap.size,6,none⟩ (.int .i64 j)).alloc (.cells #[.int .i64 co,.int .i64 j,.slice A l.length c] 32)) (by exact aA) (by simp;omega)) (HD.out.imp (fun h=>⟨h.1.keep (by have hbs:base≤(W1.setCell ⟨w.heap.size,6,none⟩ (.int .i64 j)).heap.size:=(by simp;omega);exact aA),h.2⟩) (fun h=>own_below h (by exact aA))) (by rw[qo.out];exact ho3) hg3 (by simp;omega));have cK:=hid (World.grownBy.trans (show w.grownBy ((W1.setCell ⟨w.heap.size,6,none⟩ (.int .i64 j)).alloc (.cells #[.int .i64 co,.int .i64 j,.slice A l.length c] 32)) (Value.slice Ao pn fq).ownBlock from by have:=HGW.out;exact grn) hg3);clear ho3 hc3 hg3 hx3 hy3 p0 p1 p2 p3 p4 p5 p6 p7 p8 p9 p10 p11 p12 f6)
 focus
  obtain⟨WT,iE⟩: ∃WT:World,WT=(((w3.setCell ⟨w.heap.size,12,none⟩ (.slice A4 (pn+1) c4)).setCell ⟨w.heap.size,9,none⟩ (.int .i64 (cnt-1))).setCell ⟨w.heap.size,10,none⟩ (.int .i64 (tick+wt))):=⟨_,rfl⟩
  obtain⟨Wf,hWf⟩: ∃Wf:World,Wf=(((((((((((((WT.setCell ⟨(w.heap.size+1),0,none⟩ (.slice Ar nr cr)).setCell ⟨(w.heap.size+1),1,none⟩ (.int .i64 mc)).setCell ⟨(w.heap.size+1),2,none⟩ (.int .i64 mt)).setCell ⟨(w.heap.size+1),3,none⟩ (.int .i64 mf)).setCell ⟨(w.heap.size+1),4,none⟩ (.int .i64 wt)).setCell ⟨(w.heap.size+1),5,none⟩ (.int .i64 st)).setCell ⟨(w.heap.size+1),6,none⟩ (.int .i64 j)).setCell ⟨(w.heap.size+1),7,none⟩ (.int .i64 req)).setCell ⟨(w.heap.size+1),8,none⟩ (.slice Aa na ca)).setCell ⟨(w.heap.size+1),9,none⟩ (.int .i64 (cnt-1))).setCell ⟨(w.heap.size+1),10,none⟩ (.int .i64 (tick+wt))).setCell ⟨(w.heap.size+1),11,none⟩ (.int .i64 au)).setCell ⟨(w.heap.size+1),12,none⟩ (.slice A4 (pn+1) c4)):=⟨_,rfl⟩
  have bO:Wf=(((((((((((((((((w3.setCell ⟨w.heap.size,12,none⟩ (.slice A4 (pn+1) c4)).setCell ⟨w.heap.size,9,none⟩ (.int .i64 (cnt-1))).setCell ⟨w.heap.size,10,none⟩ (.int .i64 (tick+wt)))).setCell ⟨(w.heap.size+1),0,none⟩ (.slice Ar nr cr)).setCell ⟨(w.heap.size+1),1,none⟩ (.int .i64 mc)).setCell ⟨(w.heap.size+1),2,none⟩ (.int .i64 mt)).setCell ⟨(w.heap.size+1),3,none⟩ (.int .i64 mf)).setCell ⟨(w.heap.size+1),4,none⟩ (.int .i64 wt)).setCell ⟨(w.heap.size+1),5,none⟩ (.int .i64 st)).setCell ⟨(w.heap.size+1),6,none⟩ (.int .i64 j)).setCell ⟨(w.heap.size+1),7,none⟩ (.int .i64 req)).setCell ⟨(w.heap.size+1),8,none⟩ (.slice Aa na ca)).setCell ⟨(w.heap.size+1),9,none⟩ (.int .i64 (cnt-1))).setCell ⟨(w.heap.size+1),10,none⟩ (.int .i64 (tick+wt))).setCell ⟨(w.heap.size+1),11,none⟩ (.int .i64 au)).setCell ⟨(w.heap.size+1),12,none⟩ (.slice A4 (pn+1) c4)):=by rw[hWf,iE]
  rw[←bO]
  have jN:w3.grownBy WT (some w.heap.size):=by rw[iE];exact grn
  have lS:=gY.out.apart jN (by simp)
  have hrow:RB Wf (w.heap.size+1) (.slice Ar nr cr) mc mt mf wt st (j) (req) (.slice Aa na ca) ((cnt-1)) ((tick+wt)) (au) ((.slice A4 (pn+1) c4)):=by rw[hWf];exact jy lS rfl _ _ _ _ _ _ _ _ _ _ _ _ _
 rotate_left
 focus
  obtain⟨WT,iE⟩: ∃WT:World,WT=((w3.setCell ⟨w.heap.size,12,none⟩ (.slice A4 (pn+1) c4)).setCell ⟨w.heap.size,10,none⟩ (.int .i64 (tick+wt))):=⟨_,rfl⟩
  obtain⟨Wf,hWf⟩: ∃Wf:World,Wf=(((((((((((((WT.setCell ⟨(w.heap.size+1),0,none⟩ (.slice Ar nr cr)).setCell ⟨(w.heap.size+1),1,none⟩ (.int .i64 mc)).setCell ⟨(w.heap.size+1),2,none⟩ (.int .i64 mt)).setCell ⟨(w.heap.size+1),3,none⟩ (.int .i64 mf)).setCell ⟨(w.heap.size+1),4,none⟩ (.int .i64 wt)).setCell ⟨(w.heap.size+1),5,none⟩ (.int .i64 st)).setCell ⟨(w.heap.size+1),6,none⟩ (.int .i64 j)).setCell ⟨(w.heap.size+1),7,none⟩ (.int .i64 req)).setCell ⟨(w.heap.size+1),8,none⟩ (.slice Aa na ca)).setCell ⟨(w.heap.size+1),9,none⟩ (.int .i64 cnt)).setCell ⟨(w.heap.size+1),10,none⟩ (.int .i64 (tick+wt))).setCell ⟨(w.heap.size+1),11,none⟩ (.int .i64 au)).setCell ⟨(w.heap.size+1),12,none⟩ (.slice A4 (pn+1) c4)):=⟨_,rfl⟩
  have bO:Wf=((((((((((((((((w3.setCell ⟨w.heap.size,12,none⟩ (.slice A4 (pn+1) c4)).setCell ⟨w.heap.size,10,none⟩ (.int .i64 (tick+wt)))).setCell ⟨(w.heap.size+1),0,none⟩ (.slice Ar nr cr)).setCell ⟨(w.heap.size+1),1,none⟩ (.int .i64 mc)).setCell ⟨(w.heap.size+1),2,none⟩ (.int .i64 mt)).setCell ⟨(w.heap.size+1),3,none⟩ (.int .i64 mf)).setCell ⟨(w.heap.size+1),4,none⟩ (.int .i64 wt)).setCell ⟨(w.heap.size+1),5,none⟩ (.int .i64 st)).setCell ⟨(w.heap.size+1),6,none⟩ (.int .i64 j)).setCell ⟨(w.heap.size+1),7,none⟩ (.int .i64 req)).setCell ⟨(w.heap.size+1),8,none⟩ (.slice Aa na ca)).setCell ⟨(w.heap.size+1),9,none⟩ (.int .i64 cnt)).setCell ⟨(w.heap.size+1),10,none⟩ (.int .i64 (tick+wt))).setCell ⟨(w.heap.size+1),11,none⟩ (.int .i64 au)).setCell ⟨(w.heap.size+1),12,none⟩ (.slice A4 (pn+1) c4)):=by rw[hWf,iE]
  rw[←bO]
  have jN:w3.grownBy WT (some w.heap.size):=by rw[iE];exact grn
  have lS:=gY.out.apart jN (by simp)
  have hrow:RB Wf (w.heap.size+1) (.slice Ar nr cr) mc mt mf wt st (j) (req) (.slice Aa na ca) (cnt) ((tick+wt)) (au) ((.slice A4 (pn+1) c4)):=by rw[hWf];exact jy lS rfl _ _ _ _ _ _ _ _ _ _ _ _ _
 rotate_left
 all_goals
  have hgr:WT.grownBy Wf (some (w.heap.size+1)):=by rw[hWf];exact grn
  have hgf:w.grownBy Wf (Value.slice Ao pn fq).ownBlock:=by
   have h3:=cK.out
   rw[hWf,iE]
   exact grn
  have uT:=fD.out.other jN gX.out hb (by decide) (by decide) (aaF hb cK.out.size)
  have hpf:=uT.other hgr lS (by omega) (by decide) (by decide) (aaF hb (aaF cK.out.size jN.size))
  clear hWf bO iE b0 b1 b2 b3 b4 b5 b6 b7 b8 b9 b10 b11 b12 y0 y1 y2 y3 y4 y5 y6 y7 y8 y9 tQ tT tV g0 g1 g2 g3 g4 g5 g6 g7 g8 g9 g10 g11 g12
  obtain⟨⟨u0,u1,u2,u3,u4⟩,⟨u5,u6,u7,u8,u9,sK,sM⟩,sN⟩:=hrow.cells
 ·refine bodyPost_ret (v:=.agg #[.slice Ar nr cr,.int .i64 mc,.int .i64 mt,.int .i64 mf,.int .i64 wt,.int .i64 st,.int .i64 (j),.int .i64 (req),.slice Aa na ca,.int .i64 ((cnt-1)),.int .i64 ((tick+wt)),.int .i64 (au),(.slice A4 (pn+1) c4)]) (by simp[results,Tryz.results91,go_sem,u0,u1,u2,u3,u4,u5,u6,u7,u8,u9,sK,sM,sN]) rfl ?_
  exact⟨_,_,by rw[show dec cnt=cnt-1 from if_pos hc],hgf,hpf,by rw[List.map_append];rfl⟩
 ·refine bodyPost_ret (v:=.agg #[.slice Ar nr cr,.int .i64 mc,.int .i64 mt,.int .i64 mf,.int .i64 wt,.int .i64 st,.int .i64 (j),.int .i64 (req),.slice Aa na ca,.int .i64 (cnt),.int .i64 ((tick+wt)),.int .i64 (au),(.slice A4 (pn+1) c4)]) (by simp[results,Tryz.results91,go_sem,u0,u1,u2,u3,u4,u5,u6,u7,u8,u9,sK,sM,sN]) rfl ?_
  exact⟨_,_,rfl,hgf,hpf,by rw[List.map_append];rfl⟩
def iR (vr va:Value) (c:Cf) (r:Au×List Pk) (vo:Value) (base:Nat) (P:List Pe) (w:World) (x:Ending) (w':World):Prop:=
 ∃v' P',x=.returned (.agg #[vr,.int .i64 c.mc,.int .i64 c.mt,.int .i64 c.mf,.int .i64 c.wt,.int .i64 r.1.st,.int .i64 r.1.id,.int .i64 r.1.req,va,.int .i64 r.1.cnt,.int .i64 r.1.ay,.int .i64 r.1.au,v'])∧w.grownBy w' vo.ownBlock∧bS w' base v' P'∧P'.map Pe.o=P.map Pe.o++r.2
set_option maxRecDepth 100000 in
theorem UK (Ar Aa Ai An Ad:Option Addr) (nr cr na ca ni ci nn cn nd cd:Nat) (mc mt mf wt st id req cnt ay au ic ii ac ai tick:Int) (E:List aH) (R:List Rl) (li ln:List UInt8) (acts:List Int) (vo:Value) (P:List Pe) (w:World) (base:Nat) (hb:base≤w.heap.size) (hP:bS w base vo P) (hlo:P.length≤999) (hE:aJ w w.heap.size Aa E) (hna:na=E.length) (hI:At w base Ai (li.map bv)) (hni:ni=li.length) (hci:ni≤ci) (iF:ni≤400000000) (hN:At w base An (ln.map bv)) (hnn:nn=ln.length) (hcn:nn≤cn) (hD:At w w.heap.size Ad (acts.map av)) (hnd:nd=acts.length) (kN:nd≤1000) (hk:gN ⟨R,mc,mt,mf,wt⟩ ⟨st,id,req,E.map aH.o,cnt,ay,au⟩ tick):Calls Tryz.prog 56 #[.agg #[.slice Ar nr cr,.int .i64 mc,.int .i64 mt,.int .i64 mf,.int .i64 wt,.int .i64 st,.int .i64 id,.int .i64 req,.slice Aa na ca,.int .i64 cnt,.int .i64 ay,.int .i64 au,vo],.int .i64 6,.slice Ad nd cd,.agg #[.int .i64 ic,.int .i64 ii,.slice Ai ni ci],.agg #[.int .i64 ac,.int .i64 ai,.slice An nn cn],.int .i64 tick] w (iR (.slice Ar nr cr) (.slice Aa na ca) ⟨R,mc,mt,mf,wt⟩ (fK ⟨R,mc,mt,mf,wt⟩ ⟨ic,ii,li⟩ ⟨ac,ai,ln⟩ tick acts ⟨st,id,req,E.map aH.o,cnt,ay,au⟩ 6) vo base P w):=by
 subst hnn
 subst hni
 obtain⟨Ao,fq,rfl,-,-⟩:=ownsRow_form hP.1
 have HP:=hid hP
 have HE:=hid hE
 have dz:=hid hna
 have HI:=hid hI
 have HN:=hid hN
 have HD:=hid (And.intro hD hnd)
 have HK:=hid hk
 obtain⟨pn,hpn⟩: ∃pn,P.length=pn:=⟨_,rfl⟩
 have qo:=hid hpn
 rw[hpn] at HP hlo
 rw[hpn]
 clear hP hE hna hI hN hD hnd hk hpn
 have hx:=HK.out
 have t0:=hx.t0
 have t1:=hx.t1
 have w0:=hx.w0
 have w1:=hx.w1
 dsimp only at t0 t1 w0 w1
 have e2:IntKind.i64.wrap (tick+wt)=tick+wt:=IntWalk.i64_in _ (by omega)
 clear hx
 show Calls _ _ _ _ (iR _ _ _ (⟨st,id,req,E.map aH.o,0,tick+wt,au⟩,[]) _ _ _ _)
 go_enter Tryz.func56,Tryz.ntmps56
 go_upto_region 1 with(fail)
 refine bY (fun W=>RB W w.heap.size (.slice Ar nr cr) mc mt mf wt st id req (.slice Aa na ca) cnt ay au (.slice Ao pn fq)∧W.heap[w.heap.size+1]? =some (.cells #[.int .i64 ic,.int .i64 ii,.slice Ai li.length ci] 32 (0,0))∧W.heap[w.heap.size+1+1]? =some (.cells #[.int .i64 ac,.int .i64 ai,.slice An ln.length cn] 32 (0,0))∧RB W (w.heap.size+1+1+1) (.slice none 0 0) 0 0 0 0 0 0 0 (.slice none 0 0) 0 0 0 (.slice none 0 0)∧Below w.heap.size w W) ⟨?_,?_,?_,?_,by exact aA⟩ ?_
 ·show(World.alloc _ _).heap[w.heap.size]? =_
  exact hpa
 ·show(World.alloc _ _).heap[w.heap.size+1]? =_
  exact hpa
 ·show(World.alloc _ _).heap[w.heap.size+1+1]? =_
  exact hpa
 ·show(World.alloc _ _).heap[w.heap.size+1+1+1]? =_
  exact hpa
 rintro w3 ⟨hx3,h9,h10,hy3,hb3⟩
 have gX:=hid hx3
 have H9:=hid h9
 have za:=hid h10
 have gY:=hid hy3
 have HB3:=hid hb3
 have fD:=hid (HP.out.below hb3 hb)
 have cK:=hid (cO (r:=(Value.slice Ao pn fq).ownBlock) hb3)
 have oK:=hb3.size
 obtain⟨⟨b0,b1,b2,b3,b4⟩,⟨b5,b6,b7,b8,b9,b10,b11⟩,b12⟩:=hx3.cells
 obtain⟨i0,i1,i2⟩:=cells3 h9
 obtain⟨n0,n1,n2⟩:=cells3 h10
 have k6:=hx3.free 6
 have k7:=hx3.free 7
 have k9:=hx3.free 9
 have k10:=hx3.free 10
 have k11:=hx3.free 11
 have k12:=hx3.free 12
 have l9:=aj h9
 have l10:=aj h10
 have CX:=hx3.lt
 have D5:=hy3.lt
 obtain⟨⟨y0,y1,y2,y3,y4⟩,⟨y5,y6,y7,y8,y9,tQ,tT⟩,tV⟩:=hy3.cells
 have g0:=hy3.free 0
 have g1:=hy3.free 1
 have g2:=hy3.free 2
 have g3:=hy3.free 3
 have g4:=hy3.free 4
 have g5:=hy3.free 5
 have g6:=hy3.free 6
 have g7:=hy3.free 7
 have g8:=hy3.free 8
 have g9:=hy3.free 9
 have g10:=hy3.free 10
 have g11:=hy3.free 11
 have g12:=hy3.free 12
 clear hx3 h9 h10 hy3 hb3
 go_wp2_with fail
 obtain⟨WT,iE⟩: ∃WT:World,WT=((w3.setCell ⟨w.heap.size,9,none⟩ (Value.int .i64 0)).setCell ⟨w.heap.size,10,none⟩ (.int .i64 (tick+wt))):=⟨_,rfl⟩
 obtain⟨Wf,hWf⟩: ∃Wf:World,Wf=(((((((((((((WT.setCell ⟨(w.heap.size+1+1+1),0,none⟩ (.slice Ar nr cr)).setCell ⟨(w.heap.size+1+1+1),1,none⟩ (.int .i64 mc)).setCell ⟨(w.heap.size+1+1+1),2,none⟩ (.int .i64 mt)).setCell ⟨(w.heap.size+1+1+1),3,none⟩ (.int .i64 mf)).setCell ⟨(w.heap.size+1+1+1),4,none⟩ (.int .i64 wt)).setCell ⟨(w.heap.size+1+1+1),5,none⟩ (.int .i64 st)).setCell ⟨(w.heap.size+1+1+1),6,none⟩ (.int .i64 id)).setCell ⟨(w.heap.size+1+1+1),7,none⟩ (.int .i64 req)).setCell ⟨(w.heap.size+1+1+1),8,none⟩ (.slice Aa na ca)).setCell ⟨(w.heap.size+1+1+1),9,none⟩ (.int .i64 0)).setCell ⟨(w.heap.size+1+1+1),10,none⟩ (.int .i64 (tick+wt))).setCell ⟨(w.heap.size+1+1+1),11,none⟩ (.int .i64 au)).setCell ⟨(w.heap.size+1+1+1),12,none⟩ (.slice Ao pn fq)):=⟨_,rfl⟩
 have bO:Wf=((((((((((((((((w3.setCell ⟨w.heap.size,9,none⟩ (Value.int .i64 0)).setCell ⟨w.heap.size,10,none⟩ (.int .i64 (tick+wt)))).setCell ⟨(w.heap.size+1+1+1),0,none⟩ (.slice Ar nr cr)).setCell ⟨(w.heap.size+1+1+1),1,none⟩ (.int .i64 mc)).setCell ⟨(w.heap.size+1+1+1),2,none⟩ (.int .i64 mt)).setCell ⟨(w.heap.size+1+1+1),3,none⟩ (.int .i64 mf)).setCell ⟨(w.heap.size+1+1+1),4,none⟩ (.int .i64 wt)).setCell ⟨(w.heap.size+1+1+1),5,none⟩ (.int .i64 st)).setCell ⟨(w.heap.size+1+1+1),6,none⟩ (.int .i64 id)).setCell ⟨(w.heap.size+1+1+1),7,none⟩ (.int .i64 req)).setCell ⟨(w.heap.size+1+1+1),8,none⟩ (.slice Aa na ca)).setCell ⟨(w.heap.size+1+1+1),9,none⟩ (.int .i64 0)).setCell ⟨(w.heap.size+1+1+1),10,none⟩ (.int .i64 (tick+wt))).setCell ⟨(w.heap.size+1+1+1),11,none⟩ (.int .i64 au)).setCell ⟨(w.heap.size+1+1+1),12,none⟩ (.slice Ao pn fq)):=by rw[hWf,iE]
 rw[←bO]
 have jN:w3.grownBy WT (some w.heap.size):=by rw[iE];exact grn
 have lS:=gY.out.apart jN (by intro e;have:=Option.some.inj e;omega)
 have hrow:RB Wf (w.heap.size+1+1+1) (.slice Ar nr cr) mc mt mf wt st (id) (req) (.slice Aa na ca) (0) ((tick+wt)) (au) ((.slice Ao pn fq)):=by rw[hWf];exact jy lS rfl _ _ _ _ _ _ _ _ _ _ _ _ _
 have hgr:WT.grownBy Wf (some (w.heap.size+1+1+1)):=by rw[hWf];exact grn
 have hgf:w.grownBy Wf (Value.slice Ao pn fq).ownBlock:=by
  have h3:=cK.out
  rw[hWf,iE]
  exact grn
 have uT:=fD.out.other jN gX.out hb (by decide) (by decide) (aaF hb cK.out.size)
 have hpf:=uT.other hgr lS (by omega) (by decide) (by decide) (aaF hb (aaF cK.out.size jN.size))
 clear hWf bO iE b0 b1 b2 b3 b4 b5 b6 b7 b8 b9 b10 b11 b12 y0 y1 y2 y3 y4 y5 y6 y7 y8 y9 tQ tT tV g0 g1 g2 g3 g4 g5 g6 g7 g8 g9 g10 g11 g12
 obtain⟨⟨u0,u1,u2,u3,u4⟩,⟨u5,u6,u7,u8,u9,sK,sM⟩,sN⟩:=hrow.cells
 refine bodyPost_ret (v:=.agg #[.slice Ar nr cr,.int .i64 mc,.int .i64 mt,.int .i64 mf,.int .i64 wt,.int .i64 st,.int .i64 (id),.int .i64 (req),.slice Aa na ca,.int .i64 (0),.int .i64 ((tick+wt)),.int .i64 (au),(.slice Ao pn fq)]) (by simp[results,Tryz.results56,go_sem,u0,u1,u2,u3,u4,u5,u6,u7,u8,u9,sK,sM,sN]) rfl ?_
 exact⟨_,_,rfl,hgf,hpf,by rw[List.append_nil]⟩
set_option maxRecDepth 100000 in
theorem UM (Ar Aa Ai An Ad:Option Addr) (nr cr na ca ni ci nn cn nd cd:Nat) (mc mt mf wt st id req cnt ay au ic ii ac ai tick:Int) (E:List aH) (R:List Rl) (li ln:List UInt8) (acts:List Int) (vo:Value) (P:List Pe) (w:World) (base:Nat) (hb:base≤w.heap.size) (hP:bS w base vo P) (hlo:P.length≤999) (hE:aJ w w.heap.size Aa E) (hna:na=E.length) (hI:At w base Ai (li.map bv)) (hni:ni=li.length) (hci:ni≤ci) (iF:ni≤400000000) (hN:At w base An (ln.map bv)) (hnn:nn=ln.length) (hcn:nn≤cn) (hD:At w w.heap.size Ad (acts.map av)) (hnd:nd=acts.length) (kN:nd≤1000) (hk:gN ⟨R,mc,mt,mf,wt⟩ ⟨st,id,req,E.map aH.o,cnt,ay,au⟩ tick):Calls Tryz.prog 56 #[.agg #[.slice Ar nr cr,.int .i64 mc,.int .i64 mt,.int .i64 mf,.int .i64 wt,.int .i64 st,.int .i64 id,.int .i64 req,.slice Aa na ca,.int .i64 cnt,.int .i64 ay,.int .i64 au,vo],.int .i64 8,.slice Ad nd cd,.agg #[.int .i64 ic,.int .i64 ii,.slice Ai ni ci],.agg #[.int .i64 ac,.int .i64 ai,.slice An nn cn],.int .i64 tick] w (iR (.slice Ar nr cr) (.slice Aa na ca) ⟨R,mc,mt,mf,wt⟩ (fK ⟨R,mc,mt,mf,wt⟩ ⟨ic,ii,li⟩ ⟨ac,ai,ln⟩ tick acts ⟨st,id,req,E.map aH.o,cnt,ay,au⟩ 8) vo base P w):=by
 subst hnn
 subst hni
 obtain⟨Ao,fq,rfl,-,-⟩:=ownsRow_form hP.1
 have HP:=hid hP
 have HE:=hid hE
 have dz:=hid hna
 have HI:=hid hI
 have HN:=hid hN
 have HD:=hid (And.intro hD hnd)
 have HK:=hid hk
 obtain⟨pn,hpn⟩: ∃pn,P.length=pn:=⟨_,rfl⟩
 have qo:=hid hpn
 rw[hpn] at HP hlo
 rw[hpn]
 clear hP hE hna hI hN hD hnd hk hpn
 show Calls _ _ _ _ (iR _ _ _ (⟨st,id,req,E.map aH.o,cnt,ay,0⟩,[⟨ac,ai,ln⟩]) _ _ _ _)
 go_enter Tryz.func56,Tryz.ntmps56
 go_upto_region 1 with(fail)
 refine bY (fun W=>RB W w.heap.size (.slice Ar nr cr) mc mt mf wt st id req (.slice Aa na ca) cnt ay au (.slice Ao pn fq)∧W.heap[w.heap.size+1]? =some (.cells #[.int .i64 ic,.int .i64 ii,.slice Ai li.length ci] 32 (0,0))∧W.heap[w.heap.size+1+1]? =some (.cells #[.int .i64 ac,.int .i64 ai,.slice An ln.length cn] 32 (0,0))∧RB W (w.heap.size+1+1+1) (.slice none 0 0) 0 0 0 0 0 0 0 (.slice none 0 0) 0 0 0 (.slice none 0 0)∧Below w.heap.size w W) ⟨?_,?_,?_,?_,by exact aA⟩ ?_
 ·show(World.alloc _ _).heap[w.heap.size]? =_
  exact hpa
 ·show(World.alloc _ _).heap[w.heap.size+1]? =_
  exact hpa
 ·show(World.alloc _ _).heap[w.heap.size+1+1]? =_
  exact hpa
 ·show(World.alloc _ _).heap[w.heap.size+1+1+1]? =_
  exact hpa
 rintro W1 ⟨hx3,h9,h10,hy3,hb3⟩
 have gX:=hid hx3
 have H9:=hid h9
 have za:=hid h10
 have gY:=hid hy3
 have HB3:=hid hb3
 have fD:=hid (HP.out.below hb3 hb)
 have cK:=hid (cO (r:=(Value.slice Ao pn fq).ownBlock) hb3)
 have oK:=hb3.size
 obtain⟨⟨b0,b1,b2,b3,b4⟩,⟨b5,b6,b7,b8,b9,b10,b11⟩,b12⟩:=hx3.cells
 obtain⟨i0,i1,i2⟩:=cells3 h9
 obtain⟨n0,n1,n2⟩:=cells3 h10
 have k6:=hx3.free 6
 have k7:=hx3.free 7
 have k9:=hx3.free 9
 have k10:=hx3.free 10
 have k11:=hx3.free 11
 have k12:=hx3.free 12
 have l9:=aj h9
 have l10:=aj h10
 have CX:=hx3.lt
 have D5:=hy3.lt
 clear hx3 h9 h10 hy3 hb3
 go_wp2_with (at_builtin;go_loud (refine iy base rfl (.tmp 69) (.tmp 71) 43 rfl 32 Tryz.underlying43 (.agg #[.int .i64 0,.int .i64 0,.slice none 0 0]) 3 40 kV rfl (by decide) (by decide) (.slice Ao pn fq) pn (eX P) rfl (by have h:=fD.out.1;rw[qo.out] at h;exact own_below h (by exact aA)) ((W1).heap.size+1) (some ⟨(W1).heap.size,0,none⟩) 1 1 [.int .i64 (ac),.int .i64 (ai),.slice (An) (ln.length) (cn)] rfl rfl (by omega) (by exact At.gW _ _ _ _ _ (by simp) rfl) (by intro u hu;simp at hu;rcases hu with rfl|rfl|rfl<;>rfl) (by simp;omega) ?_);intro A4 c4 w3 ho3 hc3 hg3;have hx3:=RB.apart (RB.keep gX.out (by exact aA)) hg3 (bW fD.out.1 gX.out (by decide));have hy3:=RB.apart (RB.keep gY.out (by exact aA)) hg3 (bW fD.out.1 gY.out (by decide));have zQ:=hid (bS.pushed (co:=ac) (id:=ai) (fD.out.below (C:=(W1).alloc (.cells #[.int .i64 (ac),.int .i64 (ai),.slice (An) (ln.length) (cn)] 32)) (by exact aA) (by omega)) (.inl ⟨(HN.out.keep (HB3.out.mono hb)).keep (by have hbs:base≤W1.heap.size:=(by omega);exact aA),hcn⟩) (by rw[qo.out];exact ho3) hg3 (by simp;omega));have t_:=hid (World.grownBy.trans (show w.grownBy ((W1).alloc (.cells #[.int .i64 (ac),.int .i64 (ai),.slice (An) (ln.length) (cn)] 32)) (Value.slice Ao pn fq).ownBlock from by have:=cK.out;exact grn) hg3);clear gX gY fD cK b0 b1 b2 b3 b4 b5 b6 b7 b8 b9 b10 b11 b12 k6 k7 k9 k10 k11 k12;have gX:=hid hx3;have gY:=hid hy3;have fD:=zQ;have cK:=t_;obtain⟨⟨b0,b1,b2,b3,b4⟩,⟨b5,b6,b7,b8,b9,b10,b11⟩,b12⟩:=hx3.cells;obtain⟨⟨y0,y1,y2,y3,y4⟩,⟨y5,y6,y7,y8,y9,tQ,tT⟩,tV⟩:=hy3.cells;have g0:=hy3.free 0;have g1:=hy3.free 1;have g2:=hy3.free 2;have g3:=hy3.free 3;have g4:=hy3.free 4;have g5:=hy3.free 5;have g6:=hy3.free 6;have g7:=hy3.free 7;have g8:=hy3.free 8;have g9:=hy3.free 9;have g10:=hy3.free 10;have g11:=hy3.free 11;have g12:=hy3.free 12;have k6:=hx3.free 6;have k7:=hx3.free 7;have k9:=hx3.free 9;have k10:=hx3.free 10;have k11:=hx3.free 11;have k12:=hx3.free 12;have lz3:=hx3.lt;have IK:=hy3.lt;clear ho3 hc3 hg3 hx3 hy3)
 obtain⟨WT,iE⟩: ∃WT:World,WT=((w3.setCell ⟨w.heap.size,12,none⟩ (Value.slice A4 (pn+1) c4)).setCell ⟨w.heap.size,11,none⟩ (.int .i64 0)):=⟨_,rfl⟩
 obtain⟨Wf,hWf⟩: ∃Wf:World,Wf=(((((((((((((WT.setCell ⟨(w.heap.size+1+1+1),0,none⟩ (.slice Ar nr cr)).setCell ⟨(w.heap.size+1+1+1),1,none⟩ (.int .i64 mc)).setCell ⟨(w.heap.size+1+1+1),2,none⟩ (.int .i64 mt)).setCell ⟨(w.heap.size+1+1+1),3,none⟩ (.int .i64 mf)).setCell ⟨(w.heap.size+1+1+1),4,none⟩ (.int .i64 wt)).setCell ⟨(w.heap.size+1+1+1),5,none⟩ (.int .i64 st)).setCell ⟨(w.heap.size+1+1+1),6,none⟩ (.int .i64 id)).setCell ⟨(w.heap.size+1+1+1),7,none⟩ (.int .i64 req)).setCell ⟨(w.heap.size+1+1+1),8,none⟩ (.slice Aa na ca)).setCell ⟨(w.heap.size+1+1+1),9,none⟩ (.int .i64 cnt)).setCell ⟨(w.heap.size+1+1+1),10,none⟩ (.int .i64 ay)).setCell ⟨(w.heap.size+1+1+1),11,none⟩ (.int .i64 0)).setCell ⟨(w.heap.size+1+1+1),12,none⟩ (.slice A4 (pn+1) c4)):=⟨_,rfl⟩
 have bO:Wf=((((((((((((((((w3.setCell ⟨w.heap.size,12,none⟩ (Value.slice A4 (pn+1) c4)).setCell ⟨w.heap.size,11,none⟩ (.int .i64 0))).setCell ⟨(w.heap.size+1+1+1),0,none⟩ (.slice Ar nr cr)).setCell ⟨(w.heap.size+1+1+1),1,none⟩ (.int .i64 mc)).setCell ⟨(w.heap.size+1+1+1),2,none⟩ (.int .i64 mt)).setCell ⟨(w.heap.size+1+1+1),3,none⟩ (.int .i64 mf)).setCell ⟨(w.heap.size+1+1+1),4,none⟩ (.int .i64 wt)).setCell ⟨(w.heap.size+1+1+1),5,none⟩ (.int .i64 st)).setCell ⟨(w.heap.size+1+1+1),6,none⟩ (.int .i64 id)).setCell ⟨(w.heap.size+1+1+1),7,none⟩ (.int .i64 req)).setCell ⟨(w.heap.size+1+1+1),8,none⟩ (.slice Aa na ca)).setCell ⟨(w.heap.size+1+1+1),9,none⟩ (.int .i64 cnt)).setCell ⟨(w.heap.size+1+1+1),10,none⟩ (.int .i64 ay)).setCell ⟨(w.heap.size+1+1+1),11,none⟩ (.int .i64 0)).setCell ⟨(w.heap.size+1+1+1),12,none⟩ (.slice A4 (pn+1) c4)):=by rw[hWf,iE]
 rw[←bO]
 have jN:w3.grownBy WT (some w.heap.size):=by rw[iE];exact grn
 have lS:=gY.out.apart jN (by intro e;have:=Option.some.inj e;omega)
 have hrow:RB Wf (w.heap.size+1+1+1) (.slice Ar nr cr) mc mt mf wt st (id) (req) (.slice Aa na ca) (cnt) (ay) (0) ((.slice A4 (pn+1) c4)):=by rw[hWf];exact jy lS rfl _ _ _ _ _ _ _ _ _ _ _ _ _
 have hgr:WT.grownBy Wf (some (w.heap.size+1+1+1)):=by rw[hWf];exact grn
 have hgf:w.grownBy Wf (Value.slice Ao pn fq).ownBlock:=by
  have h3:=cK.out
  rw[hWf,iE]
  exact grn
 have uT:=fD.out.other jN gX.out hb (by decide) (by decide) (aaF hb cK.out.size)
 have hpf:=uT.other hgr lS (by omega) (by decide) (by decide) (aaF hb (aaF cK.out.size jN.size))
 clear hWf bO iE b0 b1 b2 b3 b4 b5 b6 b7 b8 b9 b10 b11 b12 y0 y1 y2 y3 y4 y5 y6 y7 y8 y9 tQ tT tV g0 g1 g2 g3 g4 g5 g6 g7 g8 g9 g10 g11 g12
 obtain⟨⟨u0,u1,u2,u3,u4⟩,⟨u5,u6,u7,u8,u9,sK,sM⟩,sN⟩:=hrow.cells
 refine bodyPost_ret (v:=.agg #[.slice Ar nr cr,.int .i64 mc,.int .i64 mt,.int .i64 mf,.int .i64 wt,.int .i64 st,.int .i64 (id),.int .i64 (req),.slice Aa na ca,.int .i64 (cnt),.int .i64 (ay),.int .i64 (0),(.slice A4 (pn+1) c4)]) (by simp[results,Tryz.results56,go_sem,u0,u1,u2,u3,u4,u5,u6,u7,u8,u9,sK,sM,sN]) rfl ?_
 exact⟨_,_,rfl,hgf,hpf,by rw[List.map_append];rfl⟩
end Go.Proofs.YtfkgmbknfnhjoaaGreat
