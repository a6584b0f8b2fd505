/- Memory that is written into between two marks. -/
import Derived.Test.YtbdkapmiioiikaaH21
namespace Go.Proofs.Ytbdkapmiioiikaa
open Go.RowKit
set_option linter.unusedSimpArgs false
set_option linter.unusedVariables false
/-- Only blocks from B1 on and ahead of B2 have turned. -/
structure Mid (B1 B2 : Nat) (W W' : World) : Prop where
  below : Below B1 W W'
  size : W'.heap.size = W.heap.size
  high : ∀ k, B2 ≤ k → W'.heap[k]? = W.heap[k]?
theorem Mid.refl (B1 B2 : Nat) (W : World) : Mid B1 B2 W W := ⟨Below.refl _ _, rfl, fun _ _ => rfl⟩
theorem Mid.store {B1 B2 : Nat} {W W' : World} (h : Mid B1 B2 W W') {g j : Nat} (h1 : B1 ≤ g) (h2 : g < B2) (u : Value) : Mid B1 B2 W (W'.setCell ⟨g, j, none⟩ u) :=
  ⟨h.below.setCell (p := ⟨g, j, none⟩) h1 _, by simpa using h.size, fun k hk => (Below.heap_setCell W' ⟨g, j, none⟩ u k (by simp; omega)).trans (h.high k hk)⟩
theorem OwnOpts.high {B1 B2 base : Nat} {W W' : World} {v : Value} {E : List Ent} (h : OwnOpts W base v E) (hm : Mid B1 B2 W W') (hB : B2 ≤ base) : OwnOpts W' base v E :=
  ⟨own_keep h.1 fun k hk => hm.high k (by have := own_le h.1 hk; omega), fun e he => own_keep (h.2 e he) fun k hk => hm.high k (by have := own_le (h.2 e he) hk; omega)⟩
theorem heap_same_or {w : World} {g j : Nat} {u : Value} {k : Nat} {cur : Array Value} {e : TypeId} (h : w.heap[k]? = some (.cells cur e (0, 0))) :
    ∃ cur', (w.setCell ⟨g, j, none⟩ u).heap[k]? = some (.cells cur' e (0, 0)) ∧ cur'.size = cur.size := by
  by_cases hk : k = g
  · subst hk
    exact ⟨_, heap_setCell_same w k j cur e u h, by simp⟩
  · exact ⟨cur, (Below.heap_setCell w ⟨g, j, none⟩ u k hk).trans h, rfl⟩
/-- A row of bytes of one's own, whatever they are. -/
def SoftRow (W : World) (base : Nat) (v : Value) (n : Nat) : Prop := ∃ xs, W.ownsRow base 5 1 v n xs
theorem SoftRow.store {W : World} {base : Nat} {v : Value} {n : Nat} (h : SoftRow W base v n) (g j : Nat) (u : Value) : SoftRow (W.setCell ⟨g, j, none⟩ u) base v n := by
  obtain ⟨xs, hl, h | ⟨g', cap, cur, rfl, hb, hg, hn, hm, hs, ht⟩⟩ := h
  · exact ⟨xs, hl, .inl h⟩
  · obtain ⟨cur', hg', hs'⟩ := heap_same_or (g := g) (j := j) (u := u) hg
    refine ⟨cur'.toList.take (n * 1), by rw [List.length_take, Array.length_toList]; omega, .inr ⟨g', cap, cur', rfl, hb, hg', hn, hm, by omega, rfl⟩⟩
theorem SoftRow.at {W : World} {base : Nat} {A : Option Addr} {n c j : Nat} (h : SoftRow W base (.slice A n c) n) (hj : j < n) :
    ∃ g u, A = some ⟨g, 0, none⟩ ∧ base ≤ g ∧ g < W.heap.size ∧ W.cell? ⟨g, j, none⟩ = some u ∧ W.frozen? ⟨g, j, none⟩ = false ∧ ∃ cur, W.heap[g]? = some (.cells cur 5 (0, 0)) := by
  obtain ⟨xs, hl, h | ⟨g', cap, cur, hv, hb, hg, hn, hm, hs, ht⟩⟩ := h
  · obtain ⟨_, rfl⟩ := h; omega
  · simp only [Value.slice.injEq] at hv
    obtain ⟨rfl, -, rfl⟩ := hv
    have hlt : g' < W.heap.size := (Array.getElem?_eq_some_iff.1 hg).1
    have hj' : j < cur.size := by omega
    exact ⟨g', cur[j], rfl, hb, hlt, by rw [cell_of_row W g' j cur _ (0, 0) hg]; exact Array.getElem?_eq_getElem hj', frozen_of_row W g' j cur _ hg, cur, hg⟩
/-- Options of one's own whose data may be anything. -/
def Sof (W : World) (base : Nat) (v : Value) (E : List Ent) : Prop :=
  W.ownsRow base 36 2 v E.length (cellsE E) ∧ ∀ e ∈ E, SoftRow W base e.v e.d.length
theorem Sof.of {W : World} {base : Nat} {v : Value} {E : List Ent} (h : OwnOpts W base v E) : Sof W base v E := ⟨h.1, fun e he => ⟨_, h.2 e he⟩⟩
theorem Sof.store {W : World} {base : Nat} {v : Value} {E : List Ent} (h : Sof W base v E) {g j : Nat} (hg : ∃ cur, W.heap[g]? = some (.cells cur 5 (0, 0))) (u : Value) : Sof (W.setCell ⟨g, j, none⟩ u) base v E := by
  refine ⟨own_keep h.1 fun k hk => Below.heap_setCell W ⟨g, j, none⟩ u k (fun e => ?_), fun e he => (h.2 e he).store g j u⟩
  obtain ⟨cur, hc⟩ := own_type h.1 hk
  obtain ⟨cur', hc'⟩ := hg
  simp only at e
  subst e
  rw [hc] at hc'
  simp at hc'
theorem row_get {W : World} {B : Nat} {A : Option Addr} {E : List Ent} (h : At W B A (cellsE E)) {k : Nat} (hk : k < E.length) :
    ∃ b o, A = some ⟨b, o, none⟩ ∧ b < B ∧ W.cell? ⟨b, o + k * 2, none⟩ = some (.int .i64 E[k].t) ∧ W.cell? ⟨b, o + k * 2 + 1, none⟩ = some E[k].v := by
  obtain ⟨b, o, hA, hB, hc⟩ := h.get (by rw [cellsE_len]; omega)
  obtain ⟨h0, h1⟩ := cellsE_get E k hk
  exact ⟨b, o, hA, hB, by have := hc _ _ h0; rwa [show o + 2 * k = o + k * 2 by omega] at this, by have := hc _ _ h1; rwa [show o + (2 * k + 1) = o + k * 2 + 1 by omega] at this⟩
theorem SoftRow.lt {W : World} {base : Nat} {v : Value} {n : Nat} (h : SoftRow W base v n) : ∀ g, v.ownBlock = some g → g < W.heap.size := by
  obtain ⟨xs, h⟩ := h
  exact fun g hg => own_lt h hg
theorem same_data {E F : List Ent} (h : E.map Ent.o = F.map Ent.o) (hF : ∀ e ∈ F, e.d.length ≤ 260) : ∀ e ∈ E, e.d.length ≤ 260 := by
  intro e he
  have : e.o ∈ F.map Ent.o := by rw [← h]; exact List.mem_map_of_mem he
  obtain ⟨f, hf, hfe⟩ := List.mem_map.1 this
  have hd : f.d = e.d := congrArg Prod.snd hfe
  rw [← hd]
  exact hF f hf
theorem findN_len {E : List Ent} {typ : Int} (h : ∀ e ∈ E, e.d.length ≤ 260) : (findN (E.map Ent.o) typ).2.length ≤ 260 := by
  unfold findN findO
  cases hf : (E.map Ent.o).find? (fun o => o.1 == typ) with
  | none => simp
  | some o =>
    obtain ⟨e, he, rfl⟩ := List.mem_map.1 (List.mem_of_find?_eq_some hf)
    exact h e he
theorem encR_err {L : List (Int × List UInt8)} {y : List UInt8} {e : Int} (h : encR L = (y, e)) (he : e ≠ 0) : y = [] := by
  unfold encR at h
  split at h
  · simp at h; exact h.1
  · split at h
    · split at h
      · simp at h; exact h.1
      · simp at h; omega
    · simp at h; exact h.1
end Go.Proofs.Ytbdkapmiioiikaa
