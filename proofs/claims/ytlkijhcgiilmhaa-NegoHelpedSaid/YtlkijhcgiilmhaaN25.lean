/- Rules as arguments; rules that are cut. -/
import Derived.Test.YtlkijhcgiilmhaaN24
import Derived.Test.YtlkijhcgiilmhaaN23
import Derived.Test.YtlkijhcgiilmhaaSF
namespace Go.Proofs.Ytlkijhcgiilmhaa
open Go.ChangeShapes Go.WideShapes Go.ChangeAt Go.RowKit Go.Joins Go.Deep
set_option linter.unusedSimpArgs false
set_option linter.unusedVariables false
theorem RulesAt.take {W : World} {B : Nat} {A : Option Addr} {R : List Rl} (h : RulesAt W B A R) (k : Nat) : RulesAt W B A (R.take k) := by
  refine ⟨?_, fun r hr => h.2 r (List.mem_of_mem_take hr)⟩
  rcases h.1 with h | ⟨b, o, hA, hB, h⟩
  · exact .inl (by simp [h])
  · refine .inr ⟨b, o, hA, hB, fun j hj => ?_⟩
    have hj2 : j < R.length := by rw [List.length_take] at hj; omega
    have h1 := h j hj2
    have : (R.take k)[j]'hj = R[j] := by simp
    rw [this]; exact h1
theorem rules_any (A : Option Addr) (n c : Nat) (w : World) (hc : n ≤ c) (hl : (n : Int) ≤ 9223372036854775807) :
    Calls Try.prog 9 #[.slice A n c] w fun x w' => x = .returned (.slice A (min n 18) c) ∧ w = w' := by
  by_cases h : n ≤ 18
  · obtain ⟨m, hm⟩ : ∃ m, min n 18 = m := ⟨_, rfl⟩
    have HM := Lib.hid (show m = n by omega)
    rw [hm]
    clear hm
    have h2 : (n : Int) ≤ 18 := by omega
    go_enter Try.func9, Try.ntmps9
    go_wp2_with fail
    go_ret
    exact ⟨by rw [HM.out]; rfl, rfl⟩
  · obtain ⟨m, hm⟩ : ∃ m, min n 18 = m := ⟨_, rfl⟩
    have HM := Lib.hid (show m = 18 by omega)
    rw [hm]
    clear hm
    have h2 : (18 : Int) < (n : Int) := by omega
    have h3 : ¬ (n : Int) ≤ 18 := by omega
    go_enter Try.func9, Try.ntmps9
    go_wp2_with fail
    go_ret
    exact ⟨by rw [HM.out]; rfl, rfl⟩
theorem open_rules {H : Type} {enc : TypeId × Value → H} {W : World} {base : Nat} {v : Value} {d : DataW H} {p : List MemPlace} (o : Value.okWide Try.prog W .any base 22 v) (h : DataW.Trod enc Try.prog W 0 (fun _ => true) true 22 v d p) :
    ∃ (A : Option Addr) (n c : Nat) (R : List Rl), v = .slice A n c ∧ RulesAt W W.heap.size A R ∧ n = R.length ∧ n ≤ c ∧ (n : Int) ≤ 9223372036854775807 := by
  obtain ⟨a, len, cap, rfl⟩ := okWide_slice Try.underlying22 o
  obtain ⟨fuel, hf⟩ := h
  rcases open_slice_fields Try.underlying22 Try.underlying39 (by kernel_rfl) (by kernel_rfl) hf with ⟨hcs, -⟩ | ⟨a', len', cap', m, D, Pl, hcs, -, hl, hm, hmm, -, hi⟩
  · simp only [Value.cells, List.cons.injEq, and_true, Value.slice.injEq] at hcs
    obtain ⟨rfl, rfl, rfl⟩ := hcs
    exact ⟨none, 0, 0, [], rfl, ⟨.inl rfl, fun _ h => by cases h⟩, rfl, Nat.le_refl _, by omega⟩
  · simp only [Value.cells, List.cons.injEq, and_true, Value.slice.injEq] at hcs
    obtain ⟨rfl, rfl, rfl⟩ := hcs
    simp only [if_true] at hmm
    subst hmm
    unfold maxLen at hm
    rcases Nat.eq_zero_or_pos len with h0 | h0
    · subst h0
      exact ⟨_, 0, m, [], rfl, ⟨.inl rfl, fun _ h => by cases h⟩, rfl, Nat.zero_le _, by omega⟩
    · obtain ⟨b, off, spot⟩ := a'
      obtain ⟨ys, n, -, -, -, hf⟩ := hi 0 (by omega)
      obtain ⟨v0, y0, hc0, -, -⟩ := hf 0 _ rfl
      have hspot : spot = none := by simpa [Addr.add] using World.cell?_spot hc0
      subst hspot
      have hlt : b < W.heap.size := by
        have := World.block_lt_of_cell? W _ hc0
        simpa [Addr.add] using this
      have each : ∀ i, i < m → ∃ x : Rl, RuleAt W b off i x ∧ (wf64 x.t ∧ wf64 x.sz ∧ wf64 x.lo ∧ wf64 x.hi ∧ wf64 x.gd) := by
        intro i him
        obtain ⟨ys, n, -, -, -, hf⟩ := hi i him
        obtain ⟨v0, y0, g0, -, t0⟩ := hf 0 _ rfl
        obtain ⟨v1, y1, g1, -, t1⟩ := hf 1 _ rfl
        obtain ⟨v2, y2, g2, -, t2⟩ := hf 2 _ rfl
        obtain ⟨v3, y3, g3, -, t3⟩ := hf 3 _ rfl
        obtain ⟨v4, y4, g4, -, t4⟩ := hf 4 _ rfl
        obtain ⟨v5, y5, g5, -, t5⟩ := hf 5 _ rfl
        obtain ⟨v6, y6, g6, -, t6⟩ := hf 6 _ rfl
        obtain ⟨x0, e0, -, w0⟩ := DataW.trod_int Try.underlying3 t0
        obtain ⟨x1, e1, -, w1⟩ := DataW.trod_int Try.underlying3 t1
        obtain ⟨x2, e2, -, w2⟩ := DataW.trod_int Try.underlying37 t2
        obtain ⟨x3, e3, -, w3⟩ := DataW.trod_int Try.underlying3 t3
        obtain ⟨x4, e4, -, w4⟩ := DataW.trod_int Try.underlying3 t4
        obtain ⟨x5, e5, -, w5⟩ := DataW.trod_int Try.underlying3 t5
        obtain ⟨x6, e6, -⟩ := DataW.trod_bool Try.underlying4 t6
        simp only [List.cons.injEq, and_true] at e0 e1 e2 e3 e4 e5 e6
        have wfb : ∀ {x : Int}, (Lit.int .i64 x).wf = true → wf64 x := fun {x} h => by
          have : -9223372036854775808 ≤ x ∧ x ≤ 9223372036854775807 := by simpa [Lit.wf, IntKind.min, IntKind.max, IntKind.signed, IntKind.bits] using h
          exact this
        rw [add_none] at g0 g1 g2 g3 g4 g5 g6
        refine ⟨⟨x0, x1, x2, x3, x4, x5, x6⟩, ⟨?_, ?_, ?_, ?_, ?_, ?_, ?_⟩, wfb w0, wfb w1, wfb w3, wfb w4, wfb w5⟩
        · rw [← e0]; exact g0
        · rw [← e1]; exact g1
        · rw [← e2]; exact g2
        · rw [← e3]; exact g3
        · rw [← e4]; exact g4
        · rw [← e5]; exact g5
        · rw [← e6]; exact g6
      have : Inhabited Rl := ⟨⟨0, 0, 0, 0, 0, 0, false⟩⟩
      obtain ⟨y, hy⟩ := choose_lt each
      refine ⟨some ⟨b, off, none⟩, len, m, (List.range len).map y, rfl, ⟨.inr ⟨b, off, rfl, hlt, fun k hk => ?_⟩, fun r hr => ?_⟩, by simp, hl, by omega⟩
      · simp only [List.getElem_map, List.getElem_range]
        exact (hy k (by simp at hk; omega)).1
      · simp only [List.mem_map, List.mem_range] at hr
        obtain ⟨k, hk, rfl⟩ := hr
        exact (hy k (by omega)).2
end Go.Proofs.Ytlkijhcgiilmhaa
