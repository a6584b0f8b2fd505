/- Memory that is written into between two marks: bytes, options. -/
import Derived.Test.YtlkijhcgiilmhaaH0
import Derived.Laws.BitsAllLaws
import Derived.Laws.Rows
namespace Go.Proofs.Ytlkijhcgiilmhaa
open Go.RowKit
set_option linter.unusedSimpArgs false
set_option linter.unusedVariables false
/-- Only blocks from B1 on and ahead of B2 have turned. -/
structure Mid (B1 B2 : Nat) (W W' : World) : Prop where
  below : Below B1 W W'
  size : W'.heap.size = W.heap.size
  high : ∀ k, B2 ≤ k → W'.heap[k]? = W.heap[k]?
theorem Mid.refl (B1 B2 : Nat) (W : World) : Mid B1 B2 W W := ⟨Below.refl _ _, rfl, fun _ _ => rfl⟩
theorem Mid.store {B1 B2 : Nat} {W W' : World} (h : Mid B1 B2 W W') {g j : Nat} (h1 : B1 ≤ g) (h2 : g < B2) (u : Value) : Mid B1 B2 W (W'.setCell ⟨g, j, none⟩ u) :=
  ⟨h.below.setCell (p := ⟨g, j, none⟩) h1 _, by simpa using h.size, fun k hk => (Below.heap_setCell W' ⟨g, j, none⟩ u k (by simp; omega)).trans (h.high k hk)⟩
theorem Mid.drewN {B1 B2 : Nat} {W W' : World} (h : Mid B1 B2 W W') (n : Nat) : Mid B1 B2 W (W'.drewN n) := ⟨below_drewN h.below n, h.size, h.high⟩
theorem Mid.drew {B1 B2 : Nat} {W W' : World} (h : Mid B1 B2 W W') : Mid B1 B2 W W'.drew := ⟨h.below.drew, h.size, h.high⟩
theorem OwnOpts.high {B1 B2 base : Nat} {W W' : World} {v : Value} {E : List Ent} (h : OwnOpts W base v E) (hm : Mid B1 B2 W W') (hB : B2 ≤ base) : OwnOpts W' base v E :=
  ⟨own_keep h.1 fun k hk => hm.high k (by have := own_le h.1 hk; omega), fun e he => own_keep (h.2 e he) fun k hk => hm.high k (by have := own_le (h.2 e he) hk; omega)⟩
/-- A row of bytes of one's own, whatever they are. -/
def ByteRow (W : World) (base : Nat) (v : Value) (n : Nat) : Prop := ∃ l : List UInt8, W.ownsRow base 5 1 v n (l.map bv)
theorem ByteRow.drewN {W : World} {base n : Nat} {v : Value} (h : ByteRow W base v n) (k : Nat) : ByteRow (W.drewN k) base v n := h
theorem ByteRow.lt {W : World} {base n : Nat} {v : Value} (h : ByteRow W base v n) : ∀ g, v.ownBlock = some g → g < W.heap.size := by
  obtain ⟨xs, h⟩ := h
  exact fun g hg => own_lt h hg
theorem ByteRow.le {W : World} {base n : Nat} {v : Value} (h : ByteRow W base v n) : (n : Int) ≤ 9223372036854775807 := by
  obtain ⟨l, hl, h | ⟨g', cap, cur, rfl, hb, hg, hn, hm, hs, ht⟩⟩ := h
  · obtain ⟨_, rfl⟩ := h; omega
  · unfold maxLen at hm; omega
theorem set_map (l : List UInt8) (j : Nat) (y : UInt8) : (l.map bv).set j (bv y) = (l.set j y).map bv := by rw [List.map_set]
theorem ByteRow.store {W : World} {base n : Nat} {v : Value} (h : ByteRow W base v n) (g j : Nat) (y : UInt8) : ByteRow (W.setCell ⟨g, j, none⟩ (bv y)) base v n := by
  obtain ⟨l, hl, h | ⟨g', cap, cur, rfl, hb, hg, hn, hm, hs, ht⟩⟩ := h
  · exact ⟨l, hl, .inl h⟩
  · by_cases hk : g' = g
    · subst hk
      refine ⟨l.set j y, by simpa using hl, .inr ⟨g', cap, cur.setIfInBounds j (bv y), rfl, hb, heap_setCell_same W g' j cur _ _ hg, hn, hm, by simpa using hs, ?_⟩⟩
      rw [← set_map, ← ht, Array.toList_setIfInBounds, List.take_set]
    · exact ⟨l, hl, .inr ⟨g', cap, cur, rfl, hb, (Below.heap_setCell W ⟨g, j, none⟩ _ g' hk).trans hg, hn, hm, hs, ht⟩⟩
theorem ByteRow.other {W : World} {base n : Nat} {v : Value} (h : ByteRow W base v n) {g j : Nat} (hne : v.ownBlock ≠ some g) (u : Value) : ByteRow (W.setCell ⟨g, j, none⟩ u) base v n := by
  obtain ⟨l, h⟩ := h
  exact ⟨l, own_keep h fun k hk => Below.heap_setCell W ⟨g, j, none⟩ u k (fun e => hne (by rw [hk]; exact congrArg some e))⟩
theorem ByteRow.at {W : World} {base n c j : Nat} {A : Option Addr} (h : ByteRow W base (.slice A n c) n) (hj : j < n) :
    ∃ (g : Nat) (x : UInt8), A = some ⟨g, 0, none⟩ ∧ base ≤ g ∧ g < W.heap.size ∧ W.cell? ⟨g, j, none⟩ = some (.int .u8 (x.toNat : Int)) ∧ W.frozen? ⟨g, j, none⟩ = false ∧ ∃ cur, W.heap[g]? = some (.cells cur 5 (0, 0)) := by
  obtain ⟨l, h⟩ := h
  have hll : l.length = n := by have := h.1; simpa using this
  obtain ⟨hl, h' | ⟨g', cap, cur, hv, hb, hg, hn, hm, hs, ht⟩⟩ := h
  · obtain ⟨_, rfl⟩ := h'; omega
  · simp only [Value.slice.injEq] at hv
    obtain ⟨rfl, -, rfl⟩ := hv
    have hlt : g' < W.heap.size := (Array.getElem?_eq_some_iff.1 hg).1
    have hj' : j < cur.size := by omega
    refine ⟨g', l[j]'(by omega), rfl, hb, hlt, ?_, frozen_of_row W g' j cur _ hg, cur, hg⟩
    rw [cell_of_row W g' j cur _ (0, 0) hg]
    have h1 : (cur.toList.take (n * 1))[j]? = (l.map bv)[j]? := by rw [ht]
    rw [List.getElem?_take, if_pos (by omega), bv_get (by omega)] at h1
    simpa using h1
theorem xor_byte (x : UInt8) (c : Nat) (hc : c < 256) : ∃ y : UInt8, Value.int .u8 (bits .xor .u8 (x.toNat : Int) (c : Int)) = bv y := by
  have hx := x.toNat_lt
  have h := Go.u8_xor_nat x.toNat c (by omega) hc
  have hlt : x.toNat ^^^ c < 2 ^ 8 := Nat.xor_lt_two_pow (by omega) (by omega)
  refine ⟨UInt8.ofNat (x.toNat ^^^ c), ?_⟩
  rw [h, bv_ofNat]
  congr 1
  omega
/-- Options of one's own whose types and data may be anything. -/
structure SofT (W : World) (base : Nat) (A : Option Addr) (E : List Ent) : Prop where
  row : E = [] ∨ ∃ (g : Nat) (cur : Array Value), A = some ⟨g, 0, none⟩ ∧ base ≤ g ∧ W.heap[g]? = some (.cells cur 42 (0, 0)) ∧ 2 * E.length ≤ cur.size ∧ ∀ k (hk : k < E.length), cur[2 * k + 1]? = some E[k].v
  data : ∀ e ∈ E, ByteRow W base e.v e.d.length
theorem SofT.of {W : World} {base n c : Nat} {A : Option Addr} {E : List Ent} (h : OwnOpts W base (.slice A n c) E) : SofT W base A E := by
  refine ⟨?_, fun e he => ⟨_, h.2 e he⟩⟩
  obtain ⟨hl, h' | ⟨g', cap, cur, hv, hb, hg, hn, hm, hs, ht⟩⟩ := h.1
  · exact .inl (List.length_eq_zero_iff.1 h'.2)
  · simp only [Value.slice.injEq] at hv
    obtain ⟨rfl, -, rfl⟩ := hv
    refine .inr ⟨g', cur, rfl, hb, hg, by omega, fun k hk => ?_⟩
    have h1 := (cellsE_get E k hk).2
    rw [← ht, List.getElem?_take, if_pos (by omega)] at h1
    simpa using h1
theorem SofT.byte {W : World} {base : Nat} {A : Option Addr} {E : List Ent} (h : SofT W base A E) {g j : Nat} (hg : ∃ cur, W.heap[g]? = some (.cells cur 5 (0, 0))) (y : UInt8) : SofT (W.setCell ⟨g, j, none⟩ (bv y)) base A E := by
  refine ⟨?_, fun e he => (h.data e he).store g j y⟩
  rcases h.row with h | ⟨g', cur, hA, hb, hg', hs, hc⟩
  · exact .inl h
  · refine .inr ⟨g', cur, hA, hb, (Below.heap_setCell W ⟨g, j, none⟩ _ g' (fun e => ?_)).trans hg', hs, hc⟩
    obtain ⟨cur', hc'⟩ := hg
    simp only at e
    subst e
    rw [hg'] at hc'
    simp at hc'
theorem SofT.typ {W : World} {base : Nat} {A : Option Addr} {E : List Ent} (h : SofT W base A E) {g : Nat} (hg : ∃ cur, W.heap[g]? = some (.cells cur 42 (0, 0))) (k : Nat) (u : Value) : SofT (W.setCell ⟨g, k * 2, none⟩ u) base A E := by
  obtain ⟨cur0, hg0⟩ := hg
  refine ⟨?_, fun e he => (h.data e he).other (fun hb => ?_) u⟩
  · rcases h.row with h | ⟨g', cur, hA, hb, hg', hs, hc⟩
    · exact .inl h
    · by_cases e : g' = g
      · subst e
        refine .inr ⟨g', cur.setIfInBounds (k * 2) u, hA, hb, heap_setCell_same W g' _ cur _ _ hg', by simpa using hs, fun i hi => ?_⟩
        rw [Array.getElem?_setIfInBounds, if_neg (by omega)]
        exact hc i hi
      · exact .inr ⟨g', cur, hA, hb, (Below.heap_setCell W ⟨g, _, none⟩ _ g' e).trans hg', hs, hc⟩
  · obtain ⟨l, hl⟩ := h.data e he
    obtain ⟨cur, hc⟩ := own_type hl hb
    rw [hg0] at hc
    simp at hc
theorem SofT.get {W : World} {base : Nat} {A : Option Addr} {E : List Ent} (h : SofT W base A E) {k : Nat} (hk : k < E.length) :
    ∃ (g : Nat) (u : Value), A = some ⟨g, 0, none⟩ ∧ base ≤ g ∧ g < W.heap.size ∧ W.cell? ⟨g, k * 2, none⟩ = some u ∧ W.cell? ⟨g, k * 2 + 1, none⟩ = some E[k].v ∧ W.frozen? ⟨g, k * 2, none⟩ = false ∧ ∃ cur, W.heap[g]? = some (.cells cur 42 (0, 0)) := by
  rcases h.row with h | ⟨g, cur, hA, hb, hg, hs, hc⟩
  · subst h; simp at hk
  · have hj : k * 2 < cur.size := by omega
    refine ⟨g, cur[k * 2], hA, hb, (Array.getElem?_eq_some_iff.1 hg).1, ?_, ?_, frozen_of_row W g _ cur _ hg, cur, hg⟩
    · rw [cell_of_row W g _ cur _ (0, 0) hg]; exact Array.getElem?_eq_getElem hj
    · rw [cell_of_row W g _ cur _ (0, 0) hg, show k * 2 + 1 = 2 * k + 1 by omega]; exact hc k hk
theorem SofT.below {W W' : World} {base : Nat} {A : Option Addr} {E : List Ent} (h : SofT W base A E) (hb : Below W.heap.size W W') : SofT W' base A E := by
  refine ⟨?_, fun e he => by obtain ⟨l, hl⟩ := h.data e he; exact ⟨l, own_below hl hb⟩⟩
  rcases h.row with h | ⟨g, cur, hA, hbb, hg, hs, hc⟩
  · exact .inl h
  · exact .inr ⟨g, cur, hA, hbb, (hb.block g (Array.getElem?_eq_some_iff.1 hg).1).trans hg, hs, hc⟩
end Go.Proofs.Ytlkijhcgiilmhaa
