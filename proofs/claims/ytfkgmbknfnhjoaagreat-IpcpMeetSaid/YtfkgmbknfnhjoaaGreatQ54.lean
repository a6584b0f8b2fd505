/- Two automata that take what the other one asks: plain states, and the memory of both. -/
import Derived.Test.YtfkgmbknfnhjoaaGreatQ53
import Derived.Test.YtfkgmbknfnhjoaaGreatQ71a
import Derived.Test.YtfkgmbknfnhjoaaGreatPX
namespace Go.Proofs.YtfkgmbknfnhjoaaGreat
open Go.RowKit
set_option linter.unusedSimpArgs false
set_option linter.unusedVariables false
set_option linter.ambiguousOpen false
open Ne (Rl Opt RulesAt areB answerO)
open Fs (av hasB)
def mAu (c:Cf) (x:List Opt):Nat→Au
 |0=>⟨6,1,1,x,dec c.mc,c.wt,0⟩
 |1=>⟨8,1,1,x,dec c.mc,c.wt,0⟩
 |_=>⟨9,1,1,x,c.mc,0,0⟩
def mPk (x y:List Opt) (i j:Nat):List Pk:=(⟨1,1,(Op.encR y).1⟩::(if 1≤j then [⟨2,1,(Op.encR x).1⟩] else [])).drop i
def mOut (y:List Opt) (i:Nat):List Pk:=if i=0 then [⟨2,1,(Op.encR y).1⟩] else []
def mOk (i j:Nat):Prop:=i≤2∧j≤2∧(i=2→1≤j)∧(j=2→1≤i)
theorem mOk.swap {i j:Nat} (h:mOk i j):mOk j i:=⟨h.2.1,h.1,h.2.2.2,h.2.2.1⟩
theorem mPk_len (x y:List Opt) (i j:Nat):(mPk x y i j).length≤2:=by
 unfold mPk
 rw[List.length_drop]
 split<;>simp<;>omega
theorem mAu_ask (c:Cf) (x:List Opt) (i:Nat):(mAu c x i).ask=x:=by
 match i with
 |0|1=>rfl
 |n+2=>rfl
theorem mAu_is {c:Cf} {x:List Opt} (hc:confB c=true) (hx:(Op.encR x).2=0) (i:Nat):isB (mAu c x i)=true:=by
 match i with
 |0=>have h:=is_asked hc hx 6 (.inl rfl);rw[Int.zero_add] at h;exact h
 |1=>have h:=is_asked hc hx 8 (.inr rfl);rw[Int.zero_add] at h;exact h
 |n+2=>
  obtain⟨h1,h2,h3,h4⟩:=conf_wt hc
  exact isB_of ⟨by simp[mAu],by simp[mAu],by simp[mAu],by simp[mAu];omega,by simp[mAu],hx,by rfl⟩
theorem meet_step {c:Cf} {x y:List Opt} {i j:Nat} {p:Pk} {rest:List Pk} (hok:mOk i j) (hp:mPk x y i j=p::rest) (hc:confB c=true) (hx:(Op.encR x).2=0) (hy:(Op.encR y).2=0) (ht:(answerO c.rules y 0 c.mf).1=2):
  ∃acts,packO c (mAu c x i) p 1=((mAu c x (i+1),mOut y i,acts),true)∧rest=mPk x y (i+1) j∧mPk y x j i++mOut y i=mPk y x j (i+1)∧mOk (i+1) j∧(mOut y i).length≤1:=by
 obtain⟨h1,h2,h3,h4⟩:=hok
 match i,h1,h3,h4,hp with
 |0,h1,h3,h4,hp=>
  unfold mPk at hp
  simp only[List.drop_zero,List.cons.injEq] at hp
  obtain⟨rfl,rfl⟩:=hp
  have h:=req_now hc hx hy ht
  rw[Int.zero_add] at h
  refine⟨_,h,by simp[mPk],?_,⟨by omega,h2,by omega,by omega⟩,by simp[mOut]⟩
  match j,h2,h4 with
  |0,_,_=>simp[mPk,mOut]
  |1,_,_=>simp[mPk,mOut]
  |2,_,h4=>exact absurd (h4 rfl) (by omega)
 |1,h1,h3,h4,hp=>
  unfold mPk at hp
  simp only[List.drop_succ_cons,List.drop_zero] at hp
  split at hp
  ·rename_i hj
   simp only[List.cons.injEq] at hp
   obtain⟨rfl,rfl⟩:=hp
   have h:=ack_now hc hx
   rw[Int.zero_add] at h
   exact⟨_,h,by simp[mPk,hj],by simp[mPk,mOut],⟨by omega,h2,fun _=>hj,by omega⟩,by simp[mOut]⟩
  ·cases hp
 |2,h1,h3,h4,hp=>
  unfold mPk at hp
  have:1≤j:=h3 rfl
  rw[if_pos this] at hp
  cases hp
theorem meet_end {x y:List Opt} {i j:Nat} (hok:mOk i j) (h1:mPk x y i j=[]) (h2:mPk y x j i=[]):i=2∧j=2:=by
 obtain⟨g1,g2,g3,g4⟩:=hok
 have e1:=congrArg List.length h1
 have e2:=congrArg List.length h2
 unfold mPk at e1 e2
 rw[List.length_drop] at e1 e2
 split at e1<;>split at e2<;>simp at e1 e2<;>omega
theorem mPk_most {x y:List Opt} {i j:Nat} (hok:mOk i j):i+j≤4:=by
 obtain⟨g1,g2,g3,g4⟩:=hok
 omega
theorem mPk_data {x y:List Opt} {i j:Nat}: ∀p∈mPk x y i j,p.data.length≤400000000:=by
 intro p hp
 have h:=List.mem_of_mem_drop hp
 have h1:=encR_len x
 have h2:=encR_len y
 split at h<;>simp at h<;>(try rcases h with rfl|rfl)<;>(try subst h)<;>(simp only;omega)
theorem ne_cons {P:List Pe} (h:0<P.length): ∃e r,P=e::r:=by
 cases P with
 |nil=>simp at h
 |cons e r=>exact⟨e,r,rfl⟩
theorem typ_ne {W:World} {X Y:Nat} {a b:Array Value} {s t:TypeId} (h1:W.heap[X]? =some (.cells a s (0,0))) (h2:W.heap[Y]? =some (.cells b t (0,0))) (h:s≠t):X≠Y:=fun e=>by
 subst e
 rw[h1] at h2
 simp only[Option.some.injEq,Obj.cells.injEq] at h2
 exact h h2.2.1
theorem tl_own {A:Option Addr} {n c g:Nat} (h:tlB A=some g):(Value.slice A n c).ownBlock=some g:=by
 cases A with
 |none=>cases h
 |some a=>exact h
structure Meet (w W:World) (X Y T U:Nat) (cc dd:Array Value) (a:Au) (va:Value) (b:Au) (vb:Value) (A1:Option Addr) (n1 c1:Nat) (P1:List Pe) (A2:Option Addr) (n2 c2:Nat) (P2:List Pe):Prop where
 conf:W.heap[X]? =some (.cells cc 24 (0,0))
 conf2:W.heap[Y]? =some (.cells dd 24 (0,0))
 ra:W.heap[T]? =some (.cells (auC a va) 29 (0,0))
 rb:W.heap[U]? =some (.cells (auC b vb) 29 (0,0))
 oa: ∃q,OptsO W q va a.ask
 ob: ∃q,OptsO W q vb b.ask
 t1:Tl W w.heap.size A1 n1 c1 P1
 t2:Tl W w.heap.size A2 n2 c2 P2
 ne: ∀g,tlB A1=some g→tlB A2≠some g
 tu:T≠U
 ht:w.heap.size≤T
 hu:w.heap.size≤U
 bel:Below w.heap.size w W
section
variable {w W W':World} {X Y T U:Nat} {cc dd:Array Value} {a b a':Au} {va vb v':Value} {A1 A2:Option Addr} {n1 c1 n2 c2:Nat} {P1 P2:List Pe}
theorem Meet.swap (h:Meet w W X Y T U cc dd a va b vb A1 n1 c1 P1 A2 n2 c2 P2):Meet w W Y X U T dd cc b vb a va A2 n2 c2 P2 A1 n1 c1 P1:=
 ⟨h.conf2,h.conf,h.rb,h.ra,h.ob,h.oa,h.t2,h.t1,fun g h1 h2=>h.ne g h2 h1,fun e=>h.tu e.symm,h.hu,h.ht,h.bel⟩
theorem Meet.below (h:Meet w W X Y T U cc dd a va b vb A1 n1 c1 P1 A2 n2 c2 P2) (hb:Below W.heap.size W W'):Meet w W' X Y T U cc dd a va b vb A1 n1 c1 P1 A2 n2 c2 P2:=by
 obtain⟨q1,o1⟩:=h.oa
 obtain⟨q2,o2⟩:=h.ob
 exact⟨(hb.block _ (lt_blk h.conf)).trans h.conf,(hb.block _ (lt_blk h.conf2)).trans h.conf2,(hb.block _ (lt_blk h.ra)).trans h.ra,(hb.block _ (lt_blk h.rb)).trans h.rb,⟨q1,o1.below hb⟩,⟨q2,o2.below hb⟩,h.t1.below hb,h.t2.below hb,h.ne,h.tu,h.ht,h.hu,h.bel.trans (hb.mono h.bel.size)⟩
theorem tl_off {lo:Nat} {A:Option Addr} {n c r:Nat} {P:List Pe} {cur:Array Value} {e':TypeId} (h:Tl W lo A n c P) (hX:W.heap[r]? =some (.cells cur e' (0,0))) (h1:e'≠32):tlB A≠some r:=by
 rcases h.row with⟨rfl,-⟩|⟨g,o,cur',rfl,-,hg,-⟩
 ·intro e;cases e
 ·intro e
  cases e
  exact typ_ne hg hX (fun e=>h1 e.symm) rfl
theorem Meet.storeA (h:Meet w W X Y T U cc dd a va b vb A1 n1 c1 P1 A2 n2 c2 P2) (ho: ∃q,OptsO W q v' a'.ask):Meet w (set7 W T a' v') X Y T U cc dd a' v' b vb A1 n1 c1 P1 A2 n2 c2 P2:=by
 have hg:=grown7 W T a' v'
 obtain⟨q1,o1⟩:=ho
 obtain⟨q2,o2⟩:=h.ob
 exact⟨set7_off h.conf (typ_ne h.conf h.ra (by decide)),set7_off h.conf2 (typ_ne h.conf2 h.ra (by decide)),set7_row h.ra,set7_off h.rb (fun e=>h.tu e.symm),⟨q1,o1.other hg h.ra (by decide) (by decide)⟩,⟨q2,o2.other hg h.ra (by decide) (by decide)⟩,h.t1.stays hg (tl_off h.t1 h.ra (by decide)) h.ra (by decide),h.t2.stays hg (tl_off h.t2 h.ra (by decide)) h.ra (by decide),h.ne,h.tu,h.ht,h.hu,Below.grown h.bel hg h.bel.size (fun k hk=>by cases hk;exact h.ht)⟩
theorem Meet.pop {e:Pe} {g o:Nat} (h:Meet w W X Y T U cc dd a va b vb (some ⟨g,o,none⟩) n1 c1 (e::P1) A2 n2 c2 P2):Meet w W X Y T U cc dd a va b vb (some ⟨g,o+3,none⟩) (n1-1) (c1-1) P1 A2 n2 c2 P2:=
 ⟨h.conf,h.conf2,h.ra,h.rb,h.oa,h.ob,h.t1.pop,h.t2,h.ne,h.tu,h.ht,h.hu,h.bel⟩
theorem Meet.pop1 {e:Pe} {g o:Nat} (h:Meet w W X Y T U cc dd a va b vb (some ⟨g,o,none⟩) n1 c1 (e::P1) A2 n2 c2 P2) (hc:c1=1):Meet w W X Y T U cc dd a va b vb (some ⟨g,o,none⟩) (n1-1) 0 P1 A2 n2 c2 P2:=
 ⟨h.conf,h.conf2,h.ra,h.rb,h.oa,h.ob,h.t1.pop1 hc,h.t2,h.ne,h.tu,h.ht,h.hu,h.bel⟩
theorem Meet.app {A':Option Addr} {n' c':Nat} {P':List Pe} (h:Meet w W X Y T U cc dd a va b vb A1 n1 c1 P1 A2 n2 c2 P2) (ht:Tl W' w.heap.size A' n' c' P') (hg:W.grownBy W' (tlB A2)) (hb:tlB A'=tlB A2∨ ∃g,tlB A'=some g∧W.heap.size≤g):
  Meet w W' X Y T U cc dd a va b vb A1 n1 c1 P1 A' n' c' P':=by
 have hk: ∀(k:Nat) (cur:Array Value) (e':TypeId),e'≠32→W.heap[k]? =some (.cells cur e' (0,0))→W'.heap[k]? =some (.cells cur e' (0,0)):=fun k cur e' hn hc=>(hg.block k (lt_blk hc) (fun e=>tl_off h.t2 hc hn e.symm)).trans hc
 have hrow:tlB A2=none∨ ∃g cur,tlB A2=some g∧W.heap[g]? =some (.cells cur 32 (0,0))∧w.heap.size≤g:=by
  rcases h.t2.row with⟨rfl,-⟩|⟨g,o,cur,rfl,hl,hgg,-⟩
  ·exact .inl rfl
  ·exact .inr ⟨g,cur,rfl,hgg,hl⟩
 have ho: ∀(q:Nat) (v:Value) (L:List Opt),OptsO W q v L→OptsO W' q v L:=fun q v L h1=>by
  rcases hrow with h0|⟨g,cur,h0,hgg,-⟩
  ·rw[h0] at hg
   obtain⟨E,h1,he⟩:=h1
   exact⟨E,⟨own_stays h1.1 hg (fun r e=>by cases e),fun x hx=>own_stays (h1.2 x hx) hg (fun r e=>by cases e)⟩,he⟩
  ·rw[h0] at hg
   exact h1.other hg hgg (by decide) (by decide)
 obtain⟨q1,o1⟩:=h.oa
 obtain⟨q2,o2⟩:=h.ob
 refine⟨hk _ _ _ (by decide) h.conf,hk _ _ _ (by decide) h.conf2,hk _ _ _ (by decide) h.ra,hk _ _ _ (by decide) h.rb,⟨q1,ho _ _ _ o1⟩,⟨q2,ho _ _ _ o2⟩,?_,ht,?_,h.tu,h.ht,h.hu,?_⟩
 ·rcases hrow with h0|⟨g,cur,h0,hgg,-⟩
  ·rw[h0] at hg
   refine⟨h.t1.len,h.t1.le,fun e he=>?_,?_⟩
   ·obtain⟨q,hd⟩:=h.t1.data e he
    exact⟨q,own_stays hd hg fun r e2=>by cases e2⟩
   ·rcases h.t1.row with h1|⟨g,o,cur,rfl,hlo,hgg,hs,hc⟩
    ·exact .inl h1
    ·exact .inr ⟨g,o,cur,rfl,hlo,(hg.block g (lt_blk hgg) (fun e2=>by cases e2)).trans hgg,hs,hc⟩
  ·rw[h0] at hg
   exact h.t1.stays hg (fun e=>h.ne g e h0) hgg (by decide)
 ·intro g h1 h2
  rcases hb with hb|⟨g2,hb,hge⟩
  ·rw[hb] at h2;exact h.ne g h1 h2
  ·rw[hb] at h2
   cases h2
   have:=h.t1.lt g h1
   omega
 ·refine Below.grown h.bel hg h.bel.size (fun k hk2=>?_)
  rcases hrow with h0|⟨g,cur,h0,hgg,hl⟩
  ·rw[h0] at hk2;cases hk2
  ·rw[h0] at hk2;cases hk2;exact hl
end
theorem OptsO.stays {A C:World} {base X:Nat} {v:Value} {L:List Opt} (h:OptsO A base v L) (hg:A.grownBy C (some X)) (hX:X<base):OptsO C base v L:=by
 obtain⟨E,hE,he⟩:=h
 exact⟨E,hE.stays hg (fun r e=>by cases e;exact .inl hX),he⟩
theorem ext_heap {W W':World} {xs:List Obj} {d d':Nat} (h:W.heap=W'.heap):(ext W xs d).heap=(ext W' xs d').heap:=by
 unfold ext
 simp[h]
theorem OptsO.congr {A C:World} {b:Nat} {v:Value} {L:List Opt} (h:OptsO A b v L) (e:C.heap=A.heap):OptsO C b v L:=by
 obtain⟨E,hE,he⟩:=h
 exact⟨E,⟨own_keep hE.1 (fun k _=>by rw[e]),fun x hx=>own_keep (hE.2 x hx) (fun k _=>by rw[e])⟩,he⟩
theorem PksO.congr {A C:World} {b:Nat} {v:Value} {L:List Pk} (h:PksO A b v L) (e:C.heap=A.heap):PksO C b v L:=by
 obtain⟨E,hE,he⟩:=h
 exact⟨E,⟨own_keep hE.1 (fun k _=>by rw[e]),fun x hx=>own_keep (hE.2 x hx) (fun k _=>by rw[e])⟩,he⟩
theorem alloc_heap {W W':World} (h:W.heap=W'.heap) (Z:Obj):(W.alloc Z).heap=(W'.alloc Z).heap:=by
 unfold World.alloc
 simp[h]
section
variable {W W':World} {xs:List Obj} {d d' b:Nat} {v:Value} {L:List Opt} {l:List Pk} {Z F:Obj}
theorem o_ord1 (h:OptsO (ext W.drew xs d) b v L):OptsO ((ext W xs d').alloc F) b v L:=(h.congr (ext_heap (W:=W) (W':=W.drew) rfl)).below (Below.alloc (Below.refl _ _) (Nat.le_refl _) _)
theorem o_ord2 (h:OptsO (ext (W.alloc Z).drew xs d) b v L) (hb:W.heap.size<b):OptsO (ext (W.alloc F) xs d') b v L:=
 (h.congr (C:=ext (W.alloc Z) xs d') (ext_heap (W:=W.alloc Z) (W':=(W.alloc Z).drew) rfl)).stays (grown_exts (alloc_swap _ _ _) (by simp)) hb
theorem p_ord1 (h:PksO (ext W.drew xs d) b v l):PksO ((ext W xs d').alloc F) b v l:=(h.congr (ext_heap (W:=W) (W':=W.drew) rfl)).below (Below.alloc (Below.refl _ _) (Nat.le_refl _) _)
theorem p_ord2 (h:PksO (ext (W.alloc Z).drew xs d) b v l) (hb:W.heap.size<b):PksO (ext (W.alloc F) xs d') b v l:=
 (h.congr (C:=ext (W.alloc Z) xs d') (ext_heap (W:=W.alloc Z) (W':=(W.alloc Z).drew) rfl)).stays (grown_exts (alloc_swap _ _ _) (by simp)) hb
end
def MeetI (w:World) (X Y T U:Nat) (cc dd:Array Value) (k1 k2:Cf) (L M:List Opt) (s20 s23 i:Value) (W:World):Prop:=
 ∃(p q:Nat) (A1 A2 B1 B2:Option Addr) (n1 c1 n2 c2 m1 e1 m2 e2:Nat) (P1 P2:List Pe),s20=.slice A2 n2 c2∧s23=.slice A1 n1 c1∧i=.int .i64 ((p+q:Nat):Int)∧mOk p q∧P1.map Pe.o=mPk L M p q∧P2.map Pe.o=mPk M L q p∧
  Meet w W X Y T U cc dd (mAu k1 L p) (.slice B1 m1 e1) (mAu k2 M q) (.slice B2 m2 e2) A1 n1 c1 P1 A2 n2 c2 P2
end Go.Proofs.YtfkgmbknfnhjoaaGreat
