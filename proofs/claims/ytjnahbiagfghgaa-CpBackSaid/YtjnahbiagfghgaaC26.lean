/- A loop that turns the bytes of a row of the call's own, behind a pointer to a struct. -/
import Derived.Test.YtjnahbiagfghgaaS
import Derived.Laws.OwnMore
namespace Go.Proofs.Ytjnahbiagfghgaa
open Go.RowKit
set_option linter.unusedVariables false

/-- 'wr' is 'W0' grown; block 'Q' holds 'cs'; the row (A, n, cap) is the call's own and reads as some bytes. -/
def Turned (W0 : World) (Q : Nat) (cs : List Value) (T : TypeId) (A : Option Addr) (n cap : Nat) (wr : World) : Prop :=
  Below W0.heap.size W0 wr ∧ wr.heap[Q]? = some (.cells cs.toArray T (0, 0)) ∧ W0.heap.size ≤ Q ∧
  (∀ g, (Value.slice A n cap).ownBlock = some g → g < Q) ∧
  ∃ zs : List Int, zs.length = n ∧ wr.ownsRow W0.heap.size 5 1 (.slice A n cap) n (zs.map (.int .u8))

theorem Turned.start {W0 w7 wr : World} {Q : Nat} {cs : List Value} {T : TypeId} {A : Option Addr} {n cap : Nat} {l : List UInt8} {base : Nat} (ho : w7.ownsRow base 5 1 (.slice A n cap) n (l.map bv)) (hbase : W0.heap.size ≤ base) (hn : l.length = n)
    (hb7 : Below w7.heap.size w7 wr) (hb0 : Below W0.heap.size W0 wr) (hQ : w7.heap.size ≤ Q) (hQ0 : W0.heap.size ≤ Q) (hc : wr.heap[Q]? = some (.cells cs.toArray T (0, 0))) : Turned W0 Q cs T A n cap wr := by
  refine ⟨hb0, hc, hQ0, fun g hg => by have := own_lt ho hg; omega, l.map (fun x => (x.toNat : Int)), by simpa using hn, ?_⟩
  have := own_below (own_base ho hbase) hb7
  rw [List.map_map]
  exact this
section
variable {W0 wr : World} {Q : Nat} {cs : List Value} {T : TypeId} {A : Option Addr} {n cap : Nat}
theorem Turned.below (h : Turned W0 Q cs T A n cap wr) : Below W0.heap.size W0 wr := h.1
theorem Turned.at (h : Turned W0 Q cs T A n cap wr) (i : Nat) : wr.cell? ⟨Q, i, none⟩ = cs[i]? := by
  rw [cell_of_row wr Q i _ T (0, 0) h.2.1]; simp
theorem Turned.form (h : Turned W0 Q cs T A n cap wr) {k : Nat} (hk : k < n) : ∃ g, A = some ⟨g, 0, none⟩ := by
  obtain ⟨_, _, _, _, zs, hz, ho⟩ := h
  rcases ho.2 with ⟨e, h0⟩ | ⟨g, c', cur, e, _⟩
  · omega
  · simp only [Value.slice.injEq] at e
    exact ⟨g, e.1⟩
end
section
variable {W0 wr : World} {Q g : Nat} {cs : List Value} {T : TypeId} {n cap : Nat}
theorem Turned.byte (h : Turned W0 Q cs T (some ⟨g, 0, none⟩) n cap wr) {k : Nat} (hk : k < n) : ∃ z, wr.cell? ⟨g, k, none⟩ = some (.int .u8 z) := by
  obtain ⟨_, _, _, _, zs, hz, ho⟩ := h
  refine ⟨zs[k]'(by omega), ?_⟩
  rw [World.ownsRow.cellAt ho k (by omega), List.getElem?_map, List.getElem?_eq_getElem (by omega)]; rfl
theorem Turned.free (h : Turned W0 Q cs T (some ⟨g, 0, none⟩) n cap wr) (k : Nat) : wr.frozen? ⟨g, k, none⟩ = false := by
  obtain ⟨_, _, _, _, zs, hz, ho⟩ := h
  exact World.ownsRow.frozenAt ho k
theorem Turned.put (h : Turned W0 Q cs T (some ⟨g, 0, none⟩) n cap wr) (k : Nat) (z : Int) : Turned W0 Q cs T (some ⟨g, 0, none⟩) n cap (wr.setCell ⟨g, k, none⟩ (.int .u8 z)) := by
  obtain ⟨hb, hQ, hQ0, hlt, zs, hz, ho⟩ := h
  have hg : W0.heap.size ≤ g := own_le ho rfl
  have hgQ : g < Q := hlt g rfl
  refine ⟨hb.setCell hg _, ?_, hQ0, hlt, zs.set k z, by simpa using hz, ?_⟩
  · rw [heap_setCell_other wr ⟨g, k, none⟩ Q _ (by simp; omega)]; exact hQ
  · rw [List.map_set]
    exact (World.ownsRow.stored ho k _).1
end
end Go.Proofs.Ytjnahbiagfghgaa
