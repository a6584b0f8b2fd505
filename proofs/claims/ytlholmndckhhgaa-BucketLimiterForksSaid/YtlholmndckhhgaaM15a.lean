/- The reference's New; the loop of Allow. -/
import Derived.Test.YtlholmndckhhgaaM14b
import Derived.Outline
namespace Go.Proofs.Ytlholmndckhhgaa
open Go.RowKit Go.Maps
set_option linter.unusedSimpArgs false
set_option linter.unusedVariables false
def RefP (e1 m1 e2 m2 : Int) (s : LimS) (b : Bool) (W : World) (x : Ending) (W' : World) : Prop :=
  ∃ r : RefS, x = .returned (.tuple #[refV e1 m1 e2 m2 s r, .bool b]) ∧ Below W.heap.size W W' ∧ RefAt W' W'.heap.size s r ∧ ∀ a, r.A = some a → W.heap.size ≤ a.block
theorem own_basis {w : World} {base : Nat} {e : TypeId} {size n n' c : Nat} {A : Option Addr} {xs : List Value} (h : w.ownsRow base e size (.slice A n' c) n xs) : ∀ a, A = some a → base ≤ a.block := fun a ha => own_le h (by rw [ha]; rfl)
/-- What stands at each round's head. -/
structure RLoop (W : World) (e1 m1 e2 m2 bt bk n : Int) (A : Option Addr) (N c : Nat) (x : M6) (Rk : Rows6) (v : Value) (wr : World) : Prop where
  st : wr.heap[W.heap.size]? = some (.cells #[.int .i64 e1, .int .i64 m1, .int .i64 e2, .int .i64 m2, .int .i64 bt, .int .i64 bk, .slice A N c, .int .i64 n] 55 (0, 0))
  key : wr.heap[W.heap.size + 1]? = some (.cells #[.int .u8 x.a, .int .u8 x.b, .int .u8 x.c, .int .u8 x.d, .int .u8 x.e, .int .u8 x.f] 45 (0, 0))
  res : wr.heap[W.heap.size + 1 + 1]? = some (.cells #[.int .i64 0, .int .i64 0, .int .i64 0, .int .i64 0, .int .i64 0, .int .i64 0, .slice none 0 0, .int .i64 0] 55 (0, 0))
  mine : wr.heap[W.heap.size + 1 + 1 + 1]? = some (.cells #[.int .i64 ((getL (Rk.map entR) (keyL x)).getD (m2, n)).1, .int .i64 ((getL (Rk.map entR) (keyL x)).getD (m2, n)).2] 25 (0, 0))
  below : Below W.heap.size W wr
  own : wr.ownsRow W.heap.size 69 8 v Rk.length (cellsR Rk)
theorem own_type {w : World} {base : Nat} {e : TypeId} {size n : Nat} {v : Value} {xs : List Value} (h : w.ownsRow base e size v n xs) {k : Nat} (hk : v.ownBlock = some k) : ∃ cur, w.heap[k]? = some (.cells cur e (0, 0)) := by
  rcases h.2 with ⟨rfl, _⟩ | ⟨g, cap, cur, rfl, _, hh, _⟩
  · cases hk
  · simp only [Value.ownBlock, Option.some.injEq] at hk; subst hk; exact ⟨cur, hh⟩
theorem RLoop.grow {W : World} {e1 m1 e2 m2 bt bk n : Int} {A : Option Addr} {N c : Nat} {x : M6} {Rk : Rows6} {v : Value} {wr w' : World} (h : RLoop W e1 m1 e2 m2 bt bk n A N c x Rk v wr) (hb : Below wr.heap.size wr w') : RLoop W e1 m1 e2 m2 bt bk n A N c x Rk v w' :=
  ⟨(hb.block _ (lt_of_block h.st)).trans h.st, (hb.block _ (lt_of_block h.key)).trans h.key, (hb.block _ (lt_of_block h.res)).trans h.res, (hb.block _ (lt_of_block h.mine)).trans h.mine, h.below.trans (hb.mono h.below.size), own_below h.own hb⟩
theorem own_other {w : World} {base n : Nat} {v : Value} {xs : List Value} {k e : Nat} {cs : Array Value} (h : w.ownsRow base 69 8 v n xs) (hk : w.heap[k]? = some (.cells cs e (0, 0))) (he : e ≠ 69) : some k ≠ v.ownBlock := fun e1 => by
  obtain ⟨cur, hc⟩ := own_type h e1.symm
  rw [hk] at hc
  simp only [Option.some.injEq, Obj.cells.injEq] at hc
  exact he hc.2.1
theorem RLoop.app {W : World} {e1 m1 e2 m2 bt bk n : Int} {A A' : Option Addr} {N c n' c' : Nat} {x : M6} {Rk : Rows6} {wr wm w' : World} (h : RLoop W e1 m1 e2 m2 bt bk n A N c x Rk (.slice A' n' c') wr) (ho : wr.ownsRow W.heap.size 69 8 (.slice A' n' c') n' (cellsR Rk)) (hg : wm.grownBy w' (Value.slice A' n' c').ownBlock) (hm : Below wr.heap.size wr wm) :
    wr.heap.size ≤ w'.heap.size ∧ w'.heap[W.heap.size]? = some (.cells #[.int .i64 e1, .int .i64 m1, .int .i64 e2, .int .i64 m2, .int .i64 bt, .int .i64 bk, .slice A N c, .int .i64 n] 55 (0, 0)) ∧
      w'.heap[W.heap.size + 1]? = some (.cells #[.int .u8 x.a, .int .u8 x.b, .int .u8 x.c, .int .u8 x.d, .int .u8 x.e, .int .u8 x.f] 45 (0, 0)) ∧
      w'.heap[W.heap.size + 1 + 1]? = some (.cells #[.int .i64 0, .int .i64 0, .int .i64 0, .int .i64 0, .int .i64 0, .int .i64 0, .slice none 0 0, .int .i64 0] 55 (0, 0)) ∧
      w'.heap[W.heap.size + 1 + 1 + 1]? = some (.cells #[.int .i64 ((getL (Rk.map entR) (keyL x)).getD (m2, n)).1, .int .i64 ((getL (Rk.map entR) (keyL x)).getD (m2, n)).2] 25 (0, 0)) := by
  have old : ∀ (k e : Nat) (cs : Array Value), wr.heap[k]? = some (.cells cs e (0, 0)) → e ≠ 69 → w'.heap[k]? = some (.cells cs e (0, 0)) := fun k e cs hk he =>
    ((hg.block k (by have := lt_of_block hk; have := hm.size; omega) (own_other ho hk he)).trans (hm.block k (lt_of_block hk))).trans hk
  exact ⟨by have := hg.size; have := hm.size; omega, old _ _ _ h.st (by decide), old _ _ _ h.key (by decide), old _ _ _ h.res (by decide), old _ _ _ h.mine (by decide)⟩
/-- The four blocks of the round, after the append. -/
abbrev Four (W : World) (e1 m1 e2 m2 bt bk n : Int) (A : Option Addr) (N c : Nat) (x : M6) (Rk : Rows6) (lo : Nat) (w' : World) : Prop :=
  lo ≤ w'.heap.size ∧ w'.heap[W.heap.size]? = some (.cells #[.int .i64 e1, .int .i64 m1, .int .i64 e2, .int .i64 m2, .int .i64 bt, .int .i64 bk, .slice A N c, .int .i64 n] 55 (0, 0)) ∧
      w'.heap[W.heap.size + 1]? = some (.cells #[.int .u8 x.a, .int .u8 x.b, .int .u8 x.c, .int .u8 x.d, .int .u8 x.e, .int .u8 x.f] 45 (0, 0)) ∧
      w'.heap[W.heap.size + 1 + 1]? = some (.cells #[.int .i64 0, .int .i64 0, .int .i64 0, .int .i64 0, .int .i64 0, .int .i64 0, .slice none 0 0, .int .i64 0] 55 (0, 0)) ∧
      w'.heap[W.heap.size + 1 + 1 + 1]? = some (.cells #[.int .i64 ((getL (Rk.map entR) (keyL x)).getD (m2, n)).1, .int .i64 ((getL (Rk.map entR) (keyL x)).getD (m2, n)).2] 25 (0, 0))
theorem own_drewN {w : World} {base : Nat} {e : TypeId} {size n : Nat} {v : Value} {xs : List Value} (h : w.ownsRow base e size v n xs) (q : Nat) : (w.drewN q).ownsRow base e size v n xs := h
theorem RLoop.snoc_no {W : World} {e1 m1 e2 m2 bt bk n : Int} {A A3 : Option Addr} {N c n' c3 X lo q : Nat} {x : M6} {Rk : Rows6} {p : M6 × (Int × Int)} {w7 : World} (hX : W.heap.size = X) (h4 : Four W e1 m1 e2 m2 bt bk n A N c x Rk lo w7) (hb : Below W.heap.size W w7) (ho : w7.ownsRow W.heap.size 69 8 (.slice A3 (n' + 1) c3) (n' + 1) (cellsR Rk ++ cellR p)) (hn : n' = Rk.length) (hs : (keyL p.1).sameKey (keyL x) = false) :
    RLoop W e1 m1 e2 m2 bt bk n A N c x (Rk ++ [p]) (.slice A3 (n' + 1) c3) (w7.drewN q) := by
  refine ⟨h4.2.1, h4.2.2.1, h4.2.2.2.1, ?_, by (repeat (first | exact Below.refl _ _ | exact Nat.le_refl _ | (refine below_ext ?_ (by first | (simp [size_ext, grow]; done) | (simp [size_ext, grow]; omega) | omega) _ _) | (refine Below.setCell ?_ (by first | (simp [size_ext, grow]; done) | (simp [size_ext, grow]; omega) | omega) _) | (refine Below.alloc ?_ (by first | (simp [size_ext, grow]; done) | (simp [size_ext, grow]; omega) | omega) _) | refine Below.drew ?_ | refine below_drewN ?_ _ | (refine Below.trans ?_ (Below.mono (by assumption) (by first | (simp [size_ext, grow]; done) | (simp [size_ext, grow]; omega) | omega))))), ?_⟩
  · rw [get_snoc_other _ _ _ hs]; exact h4.2.2.2.2
  · rw [cellsR_snoc, List.length_append, ← hn]; exact own_drewN ho q
theorem RLoop.snoc_yes {W : World} {e1 m1 e2 m2 bt bk n : Int} {A A3 : Option Addr} {N c n' c3 X lo q : Nat} {x : M6} {Rk : Rows6} {p : M6 × (Int × Int)} {w7 : World} (hX : W.heap.size = X) (h4 : Four W e1 m1 e2 m2 bt bk n A N c x Rk lo w7) (hb : Below W.heap.size W w7) (ho : w7.ownsRow W.heap.size 69 8 (.slice A3 (n' + 1) c3) (n' + 1) (cellsR Rk ++ cellR p)) (hn : n' = Rk.length) (hs : (keyL p.1).sameKey (keyL x) = true) (hno : hasL (Rk.map entR) (keyL x) = false) :
    RLoop W e1 m1 e2 m2 bt bk n A N c x (Rk ++ [p]) (.slice A3 (n' + 1) c3) (((w7.drewN q).setCell ⟨X + 1 + 1 + 1, 0, none⟩ (.int .i64 p.2.1)).setCell ⟨X + 1 + 1 + 1, 1, none⟩ (.int .i64 p.2.2)) := by
  subst hX
  have h3 := h4.2.2.2.2
  have oth : ∀ (k e : Nat) (cs : Array Value), w7.heap[k]? = some (.cells cs e (0, 0)) → k ≠ W.heap.size + 1 + 1 + 1 → (((w7.drewN q).setCell ⟨W.heap.size + 1 + 1 + 1, 0, none⟩ (.int .i64 p.2.1)).setCell ⟨W.heap.size + 1 + 1 + 1, 1, none⟩ (.int .i64 p.2.2)).heap[k]? = some (.cells cs e (0, 0)) := fun k e cs hk hne =>
    ((Below.heap_setCell _ ⟨W.heap.size + 1 + 1 + 1, 1, none⟩ _ k hne).trans (Below.heap_setCell (w7.drewN q) ⟨W.heap.size + 1 + 1 + 1, 0, none⟩ _ k hne)).trans hk
  have ho1 : some (W.heap.size + 1 + 1 + 1) ≠ (Value.slice A3 (n' + 1) c3).ownBlock := own_other ho h3 (by decide)
  refine ⟨oth _ _ _ h4.2.1 (by omega), oth _ _ _ h4.2.2.1 (by omega), oth _ _ _ h4.2.2.2.1 (by omega), ?_, ?_, ?_⟩
  · rw [get_snoc_same _ _ _ hs hno]
    exact heap_setCell_same _ _ 1 _ 25 _ (heap_setCell_same (w7.drewN q) _ 0 _ 25 _ h3)
  · exact ((below_drewN hb q).setCell (p := ⟨W.heap.size + 1 + 1 + 1, 0, none⟩) (by simp; omega) _).setCell (p := ⟨W.heap.size + 1 + 1 + 1, 1, none⟩) (by simp; omega) _
  · rw [cellsR_snoc, List.length_append, ← hn]
    exact ownsRow_setCell_other (ownsRow_setCell_other (own_drewN ho q) (a := ⟨W.heap.size + 1 + 1 + 1, 0, none⟩) (fun e => ho1 e.symm) _) (a := ⟨W.heap.size + 1 + 1 + 1, 1, none⟩) (fun e => ho1 e.symm) _
theorem no_before {R : Rows6} (hd : (R.map entR).Pairwise (fun p q => p.1 ≠ q.1)) {j : Nat} (hj : j < R.length) (f : M6 × (Int × Int) → Bool) {x : M6} (hx : x.ok) (he : (keyL R[j].1).sameKey (keyL x) = true) : hasL (((R.take j).filter f).map entR) (keyL x) = false := by
  refine hasL_false (keyL_key hx) fun p hp => ?_
  obtain ⟨q, hq, rfl⟩ := List.mem_map.1 hp
  obtain ⟨i, hi, rfl⟩ := List.mem_iff_getElem.1 (List.mem_filter.1 hq).1
  rw [List.getElem_take] at *
  have e := (sameKey_iff (keyL_key hx)).1 he
  rw [← e]
  simp only [List.length_take] at hi
  have := List.pairwise_iff_getElem.1 hd i j (by simp; omega) (by simpa using hj) (by omega)
  simpa [entR] using this
theorem Two.store2 {l bm j : Nat} {A B : World} (h : Two l bm A B) (v : Value) : Two l bm A (B.setCell ⟨bm, j, none⟩ v) :=
  ⟨h.os, h.tape, h.output, by simpa using h.size, fun k hk h1 h2 => (Below.heap_setCell B ⟨bm, j, none⟩ v k h2).trans (h.block k hk h1 h2)⟩
theorem RLoop.kept_own {W : World} {e1 m1 e2 m2 bt bk n : Int} {A A' : Option Addr} {N c n' c' : Nat} {x : M6} {Rk : Rows6} {wr w' : World} (h : RLoop W e1 m1 e2 m2 bt bk n A N c x Rk (.slice A' n' c') wr) (hn : n' = Rk.length) (ht : Two W.heap.size (W.heap.size + 1 + 1) wr w') : w'.ownsRow W.heap.size 69 8 (.slice A' n' c') n' (cellsR Rk) := by
  have ho := h.own
  rw [← hn] at ho
  exact own_keep ho fun k hk => ht.block k (own_lt ho hk) (fun e => own_other ho h.st (by decide) (by rw [hk, e])) (fun e => own_other ho h.res (by decide) (by rw [hk, e]))
theorem own_le_cap {w : World} {base : Nat} {e : TypeId} {size n n' c : Nat} {A : Option Addr} {xs : List Value} (h : w.ownsRow base e size (.slice A n' c) n xs) : n' ≤ c := by
  rcases h.2 with ⟨h1, _⟩ | ⟨g, cap, cur, h1, _, _, h2, _⟩
  · simp only [Value.slice.injEq] at h1; omega
  · simp only [Value.slice.injEq] at h1; omega
theorem RLoop.done {W : World} {e1 m1 e2 m2 bt bk n : Int} {A A' : Option Addr} {N c n' c' : Nat} {x : M6} {Rk : Rows6} {wr w' : World} (h : RLoop W e1 m1 e2 m2 bt bk n A N c x Rk (.slice A' n' c') wr) (hn : n' = Rk.length) (ht : Two W.heap.size (W.heap.size + 1 + 1) wr w') (s : LimS) (hL : Rk.map entR = s.L) (hok : ∀ p ∈ Rk, p.1.ok) : RefAt w' w'.heap.size s ⟨A', n', c', Rk⟩ := by
  have ho := h.kept_own hn ht
  exact ⟨At.of_own ho, hn, own_le_cap ho, hL, hok⟩
theorem RLoop.store {W : World} {e1 m1 e2 m2 bt bk n : Int} {A A' : Option Addr} {N c n' c' X : Nat} {x : M6} {Rk : Rows6} {wr : World} (h : RLoop W e1 m1 e2 m2 bt bk n A N c x Rk (.slice A' n' c') wr) (hX : W.heap.size = X) : RLoop W e1 m1 e2 m2 bt bk n A' n' c' x Rk (.slice A' n' c') (wr.setCell ⟨X, 6, none⟩ (.slice A' n' c')) := by
  subst hX
  have o : ∀ k, k ≠ W.heap.size → (wr.setCell ⟨W.heap.size, 6, none⟩ (.slice A' n' c')).heap[k]? = wr.heap[k]? := fun k hk => Below.heap_setCell wr ⟨W.heap.size, 6, none⟩ _ k hk
  refine ⟨heap_setCell_same wr _ 6 _ 55 _ h.st, (o _ (by omega)).trans h.key, (o _ (by omega)).trans h.res, (o _ (by omega)).trans h.mine, h.below.setCell (p := ⟨W.heap.size, 6, none⟩) (Nat.le_refl _) _, ?_⟩
  exact ownsRow_setCell_other h.own (a := ⟨W.heap.size, 6, none⟩) (fun e => own_other h.own h.st (by decide) e.symm) _
theorem row8 {w : World} {b : Nat} {c0 c1 c2 c3 c4 c5 c6 c7 : Value} (h : w.heap[b]? = some (.cells #[c0, c1, c2, c3, c4, c5, c6, c7] 55 (0, 0))) (v0 v1 v2 v3 v4 v5 v6 v7 : Value) :
    ((((((((w.setCell ⟨b, 0, none⟩ v0).setCell ⟨b, 1, none⟩ v1).setCell ⟨b, 2, none⟩ v2).setCell ⟨b, 3, none⟩ v3).setCell ⟨b, 4, none⟩ v4).setCell ⟨b, 5, none⟩ v5).setCell ⟨b, 6, none⟩ v6).setCell ⟨b, 7, none⟩ v7).heap[b]? = some (.cells #[v0, v1, v2, v3, v4, v5, v6, v7] 55 (0, 0)) := by
  have h0 : (w.setCell ⟨b, 0, none⟩ v0).heap[b]? = some (.cells #[v0, c1, c2, c3, c4, c5, c6, c7] 55 (0, 0)) := heap_setCell_same w b 0 _ 55 _ h
  generalize w.setCell ⟨b, 0, none⟩ v0 = w0 at h0 ⊢
  have h1 : (w0.setCell ⟨b, 1, none⟩ v1).heap[b]? = some (.cells #[v0, v1, c2, c3, c4, c5, c6, c7] 55 (0, 0)) := heap_setCell_same w0 b 1 _ 55 _ h0
  generalize w0.setCell ⟨b, 1, none⟩ v1 = w1 at h1 ⊢
  have h2 : (w1.setCell ⟨b, 2, none⟩ v2).heap[b]? = some (.cells #[v0, v1, v2, c3, c4, c5, c6, c7] 55 (0, 0)) := heap_setCell_same w1 b 2 _ 55 _ h1
  generalize w1.setCell ⟨b, 2, none⟩ v2 = w2 at h2 ⊢
  have h3 : (w2.setCell ⟨b, 3, none⟩ v3).heap[b]? = some (.cells #[v0, v1, v2, v3, c4, c5, c6, c7] 55 (0, 0)) := heap_setCell_same w2 b 3 _ 55 _ h2
  generalize w2.setCell ⟨b, 3, none⟩ v3 = w3 at h3 ⊢
  have h4 : (w3.setCell ⟨b, 4, none⟩ v4).heap[b]? = some (.cells #[v0, v1, v2, v3, v4, c5, c6, c7] 55 (0, 0)) := heap_setCell_same w3 b 4 _ 55 _ h3
  generalize w3.setCell ⟨b, 4, none⟩ v4 = w4 at h4 ⊢
  have h5 : (w4.setCell ⟨b, 5, none⟩ v5).heap[b]? = some (.cells #[v0, v1, v2, v3, v4, v5, c6, c7] 55 (0, 0)) := heap_setCell_same w4 b 5 _ 55 _ h4
  generalize w4.setCell ⟨b, 5, none⟩ v5 = w5 at h5 ⊢
  have h6 : (w5.setCell ⟨b, 6, none⟩ v6).heap[b]? = some (.cells #[v0, v1, v2, v3, v4, v5, v6, c7] 55 (0, 0)) := heap_setCell_same w5 b 6 _ 55 _ h5
  generalize w5.setCell ⟨b, 6, none⟩ v6 = w6 at h6 ⊢
  have h7 : (w6.setCell ⟨b, 7, none⟩ v7).heap[b]? = some (.cells #[v0, v1, v2, v3, v4, v5, v6, v7] 55 (0, 0)) := heap_setCell_same w6 b 7 _ 55 _ h6
  generalize w6.setCell ⟨b, 7, none⟩ v7 = w7 at h7 ⊢
  exact h7
theorem two8 {a b : Nat} {w w' : World} (h : Two a b w w') (v0 v1 v2 v3 v4 v5 v6 v7 : Value) :
    Two a b w ((((((((w'.setCell ⟨b, 0, none⟩ v0).setCell ⟨b, 1, none⟩ v1).setCell ⟨b, 2, none⟩ v2).setCell ⟨b, 3, none⟩ v3).setCell ⟨b, 4, none⟩ v4).setCell ⟨b, 5, none⟩ v5).setCell ⟨b, 6, none⟩ v6).setCell ⟨b, 7, none⟩ v7) :=
  ((((((((h.store2 v0).store2 v1).store2 v2).store2 v3).store2 v4).store2 v5).store2 v6).store2 v7)
theorem RLoop.storeS {W : World} {e1 m1 e2 m2 bt bk n : Int} {A A' : Option Addr} {N c n' c' X : Nat} {x : M6} {Rk : Rows6} {v : Value} {wr : World} (h : RLoop W e1 m1 e2 m2 bt bk n A N c x Rk v wr) (hX : W.heap.size = X) : RLoop W e1 m1 e2 m2 bt bk n A' n' c' x Rk v (wr.setCell ⟨X, 6, none⟩ (.slice A' n' c')) := by
  subst hX
  have o : ∀ k, k ≠ W.heap.size → (wr.setCell ⟨W.heap.size, 6, none⟩ (.slice A' n' c')).heap[k]? = wr.heap[k]? := fun k hk => Below.heap_setCell wr ⟨W.heap.size, 6, none⟩ _ k hk
  refine ⟨heap_setCell_same wr _ 6 _ 55 _ h.st, (o _ (by omega)).trans h.key, (o _ (by omega)).trans h.res, (o _ (by omega)).trans h.mine, h.below.setCell (p := ⟨W.heap.size, 6, none⟩) (Nat.le_refl _) _, ?_⟩
  exact ownsRow_setCell_other h.own (a := ⟨W.heap.size, 6, none⟩) (fun e => own_other h.own h.st (by decide) e.symm) _
theorem RLoop.store45 {W : World} {e1 m1 e2 m2 bt bk bt' bk' n : Int} {A : Option Addr} {N c X : Nat} {x : M6} {Rk : Rows6} {v : Value} {wr : World} (h : RLoop W e1 m1 e2 m2 bt bk n A N c x Rk v wr) (hX : W.heap.size = X) : RLoop W e1 m1 e2 m2 bt' bk' n A N c x Rk v ((wr.setCell ⟨X, 4, none⟩ (.int .i64 bt')).setCell ⟨X, 5, none⟩ (.int .i64 bk')) := by
  subst hX
  have o : ∀ k, k ≠ W.heap.size → ((wr.setCell ⟨W.heap.size, 4, none⟩ (.int .i64 bt')).setCell ⟨W.heap.size, 5, none⟩ (.int .i64 bk')).heap[k]? = wr.heap[k]? := fun k hk => (Below.heap_setCell _ ⟨W.heap.size, 5, none⟩ _ k hk).trans (Below.heap_setCell wr ⟨W.heap.size, 4, none⟩ _ k hk)
  refine ⟨heap_setCell_same _ _ 5 _ 55 _ (heap_setCell_same wr _ 4 _ 55 _ h.st), (o _ (by omega)).trans h.key, (o _ (by omega)).trans h.res, (o _ (by omega)).trans h.mine, (h.below.setCell (p := ⟨W.heap.size, 4, none⟩) (Nat.le_refl _) _).setCell (p := ⟨W.heap.size, 5, none⟩) (Nat.le_refl _) _, ?_⟩
  exact ownsRow_setCell_other (ownsRow_setCell_other h.own (a := ⟨W.heap.size, 4, none⟩) (fun e => own_other h.own h.st (by decide) e.symm) _) (a := ⟨W.heap.size, 5, none⟩) (fun e => own_other h.own h.st (by decide) e.symm) _
theorem own_two {w w' : World} {base n l b : Nat} {v : Value} {xs : List Value} (ho : w.ownsRow base 69 8 v n xs) (ht : Two l b w w') (hl : l < base) (hb : b < base) : w'.ownsRow base 69 8 v n xs :=
  own_keep ho fun k hk => ht.block k (own_lt ho hk) (by have := own_le ho hk; omega) (by have := own_le ho hk; omega)
theorem filt_snoc_len (R : Rows6) (f : M6 × (Int × Int) → Bool) (j : Nat) : ((R.take j).filter f).length ≤ j := by
  have := List.length_filter_le f (R.take j); have := List.length_take_le j R; omega
end Go.Proofs.Ytlholmndckhhgaa
