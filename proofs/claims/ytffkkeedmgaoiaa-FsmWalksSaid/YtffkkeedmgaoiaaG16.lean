/- The laws at any arguments. -/
import Derived.Test.YtffkkeedmgaoiaaG12
import Derived.Test.YtffkkeedmgaoiaaG13
import Derived.Test.YtffkkeedmgaoiaaG15
import Derived.ProofKit
import Derived.OpenShut
import Derived.Lib.SmallJoins
import Derived.ChangeMaps5
namespace Go.Proofs.Ytffkkeedmgaoiaa
open Go.ChangeShapes Go.WideShapes Go.ChangeAt Go.RowKit Go.Joins
set_option linter.unusedSimpArgs false
set_option linter.unusedVariables false
theorem cellsEv : Try.prog.cellsOf 23 = 1 := by kernel_rfl
theorem open_evs {H : Type} {enc : TypeId × Value → H} {W : World} {base : Nat} {v : Value} {d : DataW H} {p : List MemPlace} (o : Value.okWide Try.prog W .any base 31 v) (h : DataW.Trod enc Try.prog W 0 (fun _ => true) true 31 v d p) :
    ∃ (A : Option Addr) (len c : Nat) (l : List Int), v = .slice A len c ∧ At W W.heap.size A (l.map av) ∧ len = l.length ∧ len ≤ c ∧ (len : Int) ≤ 9223372036854775807 := by
  obtain ⟨a, len, cap, rfl⟩ := okWide_slice Try.underlying31 o
  obtain ⟨fuel, hf⟩ := h
  rcases open_ints Try.underlying31 Try.underlying23 cellsEv hf with ⟨hcs, _⟩ | ⟨a', len', cap', zs, hcs, _, hl, hm, hz, _, hcell, hwz⟩
  · simp only [Value.cells, List.cons.injEq, and_true, Value.slice.injEq] at hcs
    obtain ⟨rfl, rfl, rfl⟩ := hcs
    exact ⟨none, 0, 0, [], rfl, At.nil _ _ _, rfl, Nat.le_refl _, by omega⟩
  · simp only [Value.cells, List.cons.injEq, and_true, Value.slice.injEq] at hcs
    obtain ⟨rfl, rfl, rfl⟩ := hcs
    have hz' : zs.length = cap := by simpa using hz
    refine ⟨some a', len, cap, zs.take len, rfl, ?_, by simp; omega, hl, by unfold maxLen at hm; omega⟩
    rcases Nat.eq_zero_or_pos len with h0 | h0
    · left; simp [h0]
    · right
      have hc0 := hcell 0 (by omega)
      obtain ⟨b, off, spot⟩ := a'
      have hspot : spot = none := by simpa [Addr.add] using World.cell?_spot hc0
      subst hspot
      have hlt : b < W.heap.size := by
        have := World.block_lt_of_cell? W _ hc0
        simpa [Addr.add] using this
      refine ⟨b, off, rfl, hlt, fun j u hu => ?_⟩
      rw [List.getElem?_map, List.getElem?_take] at hu
      have hj : j < len := by
        by_cases hj : j < len
        · exact hj
        · rw [if_neg hj] at hu; cases hu
      rw [if_pos hj, List.getElem?_eq_getElem (by omega)] at hu
      have hc := hcell j (by omega)
      rw [List.getD_eq_getElem?_getD, List.getElem?_eq_getElem (by omega)] at hc
      have e : (⟨b, off, none⟩ : Addr).add j = ⟨b, off + j, none⟩ := by
        simp only [Addr.add]
        by_cases h0 : j = 0 <;> simp [h0]
      rw [e] at hc
      rw [hc]
      simpa [av] using hu
theorem fsmSteps_calls {H : Type} (enc : TypeId × Value → H) (W : World) (base : Nat) (v0 v1 : Value) (d0 d1 : DataW H) (p0 p1 : List MemPlace)
    (o0 : Value.okWide Try.prog W .any base 22 v0) (o1 : Value.okWide Try.prog W .any base 23 v1)
    (h0 : DataW.Trod enc Try.prog W 0 (fun _ => true) true 22 v0 d0 p0) (h1 : DataW.Trod enc Try.prog W 0 (fun _ => true) true 23 v1 d1 p1) :
    Calls Try.prog 3 #[v0, v1] W fun e W' => e = .returned (.bool true) ∧ Below W.heap.size W W' := by
  obtain ⟨x0, rfl⟩ := okWide_int Try.underlying22 o0
  obtain ⟨x1, rfl⟩ := okWide_int Try.underlying23 o1
  exact fsmSteps_walk x0 x1 W
theorem fsmUps_calls {H : Type} (enc : TypeId × Value → H) (W : World) (base : Nat) (v0 v1 : Value) (d0 d1 : DataW H) (p0 p1 : List MemPlace)
    (o0 : Value.okWide Try.prog W .any base 22 v0) (o1 : Value.okWide Try.prog W .any base 23 v1)
    (h0 : DataW.Trod enc Try.prog W 0 (fun _ => true) true 22 v0 d0 p0) (h1 : DataW.Trod enc Try.prog W 0 (fun _ => true) true 23 v1 d1 p1) :
    Calls Try.prog 5 #[v0, v1] W fun e W' => e = .returned (.bool true) ∧ Below W.heap.size W W' := by
  obtain ⟨x0, rfl⟩ := okWide_int Try.underlying22 o0
  obtain ⟨x1, rfl⟩ := okWide_int Try.underlying23 o1
  exact fsmUps_walk x0 x1 W
theorem fsmFinishes_calls {H : Type} (enc : TypeId × Value → H) (W : World) (base : Nat) (v0 v1 : Value) (d0 d1 : DataW H) (p0 p1 : List MemPlace)
    (o0 : Value.okWide Try.prog W .any base 22 v0) (o1 : Value.okWide Try.prog W .any base 23 v1)
    (h0 : DataW.Trod enc Try.prog W 0 (fun _ => true) true 22 v0 d0 p0) (h1 : DataW.Trod enc Try.prog W 0 (fun _ => true) true 23 v1 d1 p1) :
    Calls Try.prog 6 #[v0, v1] W fun e W' => e = .returned (.bool true) ∧ Below W.heap.size W W' := by
  obtain ⟨x0, rfl⟩ := okWide_int Try.underlying22 o0
  obtain ⟨x1, rfl⟩ := okWide_int Try.underlying23 o1
  exact fsmFinishes_walk x0 x1 W
theorem fsmEnds_calls {H : Type} (enc : TypeId × Value → H) (W : World) (base : Nat) (v0 : Value) (d0 : DataW H) (p0 : List MemPlace)
    (o0 : Value.okWide Try.prog W .any base 22 v0)
    (h0 : DataW.Trod enc Try.prog W 0 (fun _ => true) true 22 v0 d0 p0) :
    Calls Try.prog 8 #[v0] W fun e W' => e = .returned (.bool true) ∧ Below W.heap.size W W' := by
  obtain ⟨x0, rfl⟩ := okWide_int Try.underlying22 o0
  exact fsmEnds_walk x0 W
theorem fsmParses_calls {H : Type} (enc : TypeId × Value → H) (W : World) (base : Nat) (v0 : Value) (d0 : DataW H) (p0 : List MemPlace)
    (o0 : Value.okWide Try.prog W .any base 22 v0)
    (h0 : DataW.Trod enc Try.prog W 0 (fun _ => true) true 22 v0 d0 p0) :
    Calls Try.prog 9 #[v0] W fun e W' => e = .returned (.bool true) ∧ Below W.heap.size W W' := by
  obtain ⟨x0, rfl⟩ := okWide_int Try.underlying22 o0
  exact fsmParses_walk x0 W
theorem fsmNames_calls {H : Type} (enc : TypeId × Value → H) (W : World) (base : Nat) (v0 v1 v2 v3 : Value) (d0 d1 d2 d3 : DataW H) (p0 p1 p2 p3 : List MemPlace)
    (o0 : Value.okWide Try.prog W .any base 22 v0) (o1 : Value.okWide Try.prog W .any base 23 v1) (o2 : Value.okWide Try.prog W .any base 37 v2) (o3 : Value.okWide Try.prog W .any base 9 v3)
    (h0 : DataW.Trod enc Try.prog W 0 (fun _ => true) true 22 v0 d0 p0) (h1 : DataW.Trod enc Try.prog W 0 (fun _ => true) true 23 v1 d1 p1) (h2 : DataW.Trod enc Try.prog W 0 (fun _ => true) true 37 v2 d2 p2) (h3 : DataW.Trod enc Try.prog W 0 (fun _ => true) true 9 v3 d3 p3) :
    Calls Try.prog 10 #[v0, v1, v2, v3] W fun e W' => e = .returned (.bool true) ∧ Below W.heap.size W W' := by
  obtain ⟨x0, rfl⟩ := okWide_int Try.underlying22 o0
  obtain ⟨x1, rfl⟩ := okWide_int Try.underlying23 o1
  obtain ⟨x2, rfl⟩ := okWide_int Try.underlying37 o2
  obtain ⟨s3, rfl, -, -, hs3⟩ := Go.ChangeMaps.open_string Try.underlying9 o3 h3
  obtain ⟨l3, rfl⟩ : ∃ l : List UInt8, s3 = ⟨l.toArray⟩ := ⟨s3.data.toList, by simp⟩
  exact fsmNames_walk x0 x1 x2 l3 W (by unfold maxLen at hs3; simp [ByteArray.size] at hs3; omega)
theorem fsmWalks_calls {H : Type} (enc : TypeId × Value → H) (W : World) (base : Nat) (v0 v1 : Value) (d0 d1 : DataW H) (p0 p1 : List MemPlace)
    (o0 : Value.okWide Try.prog W .any base 22 v0) (o1 : Value.okWide Try.prog W .any base 31 v1)
    (h0 : DataW.Trod enc Try.prog W 0 (fun _ => true) true 22 v0 d0 p0) (h1 : DataW.Trod enc Try.prog W 0 (fun _ => true) true 31 v1 d1 p1) :
    Calls Try.prog 4 #[v0, v1] W fun e W' => e = .returned (.bool true) ∧ Below W.heap.size W W' := by
  obtain ⟨x0, rfl⟩ := okWide_int Try.underlying22 o0
  obtain ⟨A1, n1, c1, l1, rfl, hA1, hn1, hc1, hm1⟩ := open_evs o1 h1
  exact fsmWalks_walk x0 A1 n1 c1 l1 W hA1 hn1 hc1 hm1
theorem fsmBalance_calls {H : Type} (enc : TypeId × Value → H) (W : World) (base : Nat) (v0 v1 : Value) (d0 d1 : DataW H) (p0 p1 : List MemPlace)
    (o0 : Value.okWide Try.prog W .any base 22 v0) (o1 : Value.okWide Try.prog W .any base 31 v1)
    (h0 : DataW.Trod enc Try.prog W 0 (fun _ => true) true 22 v0 d0 p0) (h1 : DataW.Trod enc Try.prog W 0 (fun _ => true) true 31 v1 d1 p1) :
    Calls Try.prog 7 #[v0, v1] W fun e W' => e = .returned (.bool true) ∧ Below W.heap.size W W' := by
  obtain ⟨x0, rfl⟩ := okWide_int Try.underlying22 o0
  obtain ⟨A1, n1, c1, l1, rfl, hA1, hn1, hc1, hm1⟩ := open_evs o1 h1
  exact fsmBalance_walk x0 A1 n1 c1 l1 W hA1 hn1 hc1 hm1
end Go.Proofs.Ytffkkeedmgaoiaa
