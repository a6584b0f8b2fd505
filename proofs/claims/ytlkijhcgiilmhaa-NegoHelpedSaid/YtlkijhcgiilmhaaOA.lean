/- Arguments of options opened. -/
import Derived.Test.YtlkijhcgiilmhaaH0
import Derived.Test.YtlkijhcgiilmhaaSF
import Derived.Deep.SlicePairs
namespace Go.Proofs.Ytlkijhcgiilmhaa
open Go.ChangeShapes Go.WideShapes Go.ChangeAt Go.RowKit Go.Joins Go.Deep
set_option linter.unusedSimpArgs false
set_option linter.unusedVariables false
theorem OptsAt.mk {W : World} {B b o : Nat} {E : List Ent} (hb : b < B)
    (h : ∀ (k : Nat) (hk : k < E.length), W.cell? ⟨b, o + k * 2, none⟩ = some (.int .i64 E[k].t) ∧ W.cell? ⟨b, o + k * 2 + 1, none⟩ = some E[k].v)
    (hd : ∀ e ∈ E, At W B e.a (e.d.map bv) ∧ e.d.length ≤ e.c) : OptsAt W B (some ⟨b, o, none⟩) E := by
  refine ⟨.inr ⟨b, o, rfl, hb, fun j u hu => ?_⟩, hd⟩
  have hj : j < 2 * E.length := by
    have := (List.getElem?_eq_some_iff.1 hu).1
    rwa [cellsE_len] at this
  obtain ⟨g0, g1⟩ := cellsE_get E (j / 2) (by omega)
  obtain ⟨h0, h1⟩ := h (j / 2) (by omega)
  rcases Nat.mod_two_eq_zero_or_one j with e | e
  · have e2 : 2 * (j / 2) = j := by omega
    rw [e2, hu] at g0
    rw [show o + j / 2 * 2 = o + j by omega] at h0
    rw [h0, g0]
  · have e2 : 2 * (j / 2) + 1 = j := by omega
    rw [e2, hu] at g1
    rw [show o + j / 2 * 2 + 1 = o + j by omega] at h1
    rw [h1, g1]
theorem open_opts_arg {H : Type} {enc : TypeId × Value → H} {W : World} {base : Nat} {v : Value} {d : DataW H} {p : List MemPlace} (o : Value.okWide Try.prog W .any base 23 v) (h : DataW.Trod enc Try.prog W 0 (fun _ => true) true 23 v d p) :
    ∃ (A : Option Addr) (n c : Nat) (E : List Ent), v = .slice A n c ∧ OptsAt W W.heap.size A E ∧ n = E.length ∧ n ≤ c ∧ (n : Int) ≤ 9223372036854775807 ∧ ∀ e ∈ E, (e.d.length : Int) ≤ 9223372036854775807 := by
  obtain ⟨a, len, cap, rfl⟩ := okWide_slice Try.underlying23 o
  obtain ⟨fuel, hf⟩ := h
  rcases open_slice_pairs Try.underlying23 Try.underlying42 (by kernel_rfl) rfl rfl (by kernel_rfl) (by kernel_rfl) hf with ⟨hcs, -⟩ | ⟨a', len', cap', m, n, V0, V1, D0, D1, P0, P1, hcs, -, hl, hm, hmm, -, hi⟩
  · simp only [Value.cells, List.cons.injEq, and_true, Value.slice.injEq] at hcs
    obtain ⟨rfl, rfl, rfl⟩ := hcs
    exact ⟨none, 0, 0, [], rfl, ⟨At.nil _ _ _, fun _ h => by cases h⟩, rfl, Nat.le_refl _, by omega, fun _ h => by cases h⟩
  · simp only [Value.cells, List.cons.injEq, and_true, Value.slice.injEq] at hcs
    obtain ⟨rfl, rfl, rfl⟩ := hcs
    simp only [if_true] at hmm
    subst hmm
    unfold maxLen at hm
    have each : ∀ i, i < m → ∃ e : Ent, V0 i = .int .i64 e.t ∧ V1 i = e.v ∧ At W W.heap.size e.a (e.d.map bv) ∧ e.d.length ≤ e.c ∧ (e.d.length : Int) ≤ 9223372036854775807 := by
      intro i him
      obtain ⟨-, -, g0, g1⟩ := hi i him
      obtain ⟨t, e0, -⟩ := DataW.trod_int Try.underlying3 g0
      obtain ⟨A, l1, c, l, hcs, hA, hl1, hc, hb⟩ := open_bytes g1
      simp at e0 hcs
      subst hl1
      exact ⟨⟨t, l, A, c⟩, e0, hcs, hA, hc, hb⟩
    have : Inhabited Ent := ⟨⟨0, [], none, 0⟩⟩
    obtain ⟨y, hy⟩ := choose_lt each
    rcases Nat.eq_zero_or_pos len with h0 | h0
    · subst h0
      exact ⟨_, 0, m, [], rfl, ⟨At.nil _ _ _, fun _ h => by cases h⟩, rfl, Nat.zero_le _, by omega, fun _ h => by cases h⟩
    · have hc0 := (hi 0 (by omega)).1
      obtain ⟨b, off, spot⟩ := a'
      have hspot : spot = none := by simpa [Addr.add] using World.cell?_spot hc0
      subst hspot
      have hlt : b < W.heap.size := by
        have := World.block_lt_of_cell? W _ hc0
        simpa [Addr.add] using this
      refine ⟨some ⟨b, off, none⟩, len, m, (List.range len).map y, rfl, OptsAt.mk hlt (fun k hk => ?_) (fun e he => ?_), by simp, hl, by omega, fun e he => ?_⟩
      · have hk' : k < m := by simp at hk; omega
        obtain ⟨c0, c1, -, -⟩ := hi k hk'
        obtain ⟨e0, e1, -⟩ := hy k hk'
        rw [add_none] at c0 c1
        simp only [List.getElem_map, List.getElem_range]
        rw [c0, ← Nat.add_assoc] at *
        exact ⟨by rw [e0], by rw [c1, e1]⟩
      · simp only [List.mem_map, List.mem_range] at he
        obtain ⟨k, hk, rfl⟩ := he
        exact ⟨(hy k (by omega)).2.2.1, (hy k (by omega)).2.2.2.1⟩
      · simp only [List.mem_map, List.mem_range] at he
        obtain ⟨k, hk, rfl⟩ := he
        exact (hy k (by omega)).2.2.2.2
end Go.Proofs.Ytlkijhcgiilmhaa
