/- Bundle QH. -/
import Derived.Test.YthidhfkbfoejbaaQF
import Derived.Test.YthidhfkbfoejbaaQG
namespace Go.Proofs.Ythidhfkbfoejbaa
open Go.RowKit
set_option linter.unusedSimpArgs false
set_option linter.unusedVariables false
set_option linter.ambiguousOpen false
open Ne (Rl Opt RulesAt areB)
open Fs (av hasB)
theorem alloc_off {w : World} {X : Nat} {o obj : Obj} (h : w.heap[X]? = some o) : (w.alloc obj).heap[X]? = some o := (Below.heap_alloc w obj X (lt_blk h)).trans h
theorem rulesAt_take {W : World} {B : Nat} {A : Option Addr} {R : List Rl} (h : RulesAt W B A R) (k : Nat) : RulesAt W B A (R.take k) := by
  refine ⟨?_, fun r hr => h.2 r (List.mem_of_mem_take hr)⟩
  rcases h.1 with h | ⟨b, o, hA, hB, h⟩
  · exact .inl (by simp [h])
  · refine .inr ⟨b, o, hA, hB, fun j hj => ?_⟩
    have hj2 : j < R.length := by rw [List.length_take] at hj; omega
    have h1 := h j hj2
    have : (R.take k)[j]'hj = R[j] := by simp
    rw [this]; exact h1
theorem timO_ask (c : Cf) (a : Au) (tick : Int) : (timO c a tick).1.ask = a.ask := by
  unfold timO
  split
  · rfl
  · exact doO_ask ..
theorem sameAu_v (a : Au) (v1 v2 : Value) (w : World) (B : Nat) (hB : B ≤ w.heap.size) (h1 : OptsV w B v1 a.ask) (h2 : OptsV w B v2 a.ask) (hl : a.ask.length ≤ 1000000) :
    Calls Try.prog 15 #[auV a v1, auV a v2] w fun x w' => x = .returned (.bool true) ∧ Below w.heap.size w w' := by
  obtain ⟨A1, n1, c1, E1, rfl, p1, hn1, hc1, e1⟩ := h1
  obtain ⟨A2, n2, c2, E2, rfl, p2, hn2, hc2, e2⟩ := h2
  have : n1 = a.ask.length := by rw [hn1, ← e1, List.length_map]
  have h := same_ref a.st a.id a.req a.cnt a.tim a.nak a.st a.id a.req a.cnt a.tim a.nak A1 A2 n1 n2 c1 c2 E1 E2 a.ask a.ask e1 e2 w B hB p1 p2 hn1 hn2 (by omega)
  rw [sameA_self] at h
  exact h
theorem runO_len2 (c : Cf) (inn ans : Pk) (tick : Int) (acts : List Int) (l : List Int) (s : Au × List Pk) (h1 : s.2.length ≤ 10) (h2 : l.length ≤ 3) : (runO c inn ans tick acts s l).2.length ≤ 13 := by
  have := runO_len c inn ans tick acts l s
  omega
theorem doO_lens (c : Cf) (a : Au) (e : Int) (inn ans : Pk) (tick : Int) : (doO c a e inn ans tick).2.1.length ≤ 13 ∧ (doO c a e inn ans tick).2.2.length ≤ 3 := by
  unfold doO
  split
  · exact ⟨runO_len2 _ _ _ _ _ _ _ (by simp) (Fs.tabActs_le _ _), Fs.tabActs_le _ _⟩
  · simp
theorem timO_lens (c : Cf) (a : Au) (tick : Int) : (timO c a tick).2.1.length ≤ 13 ∧ (timO c a tick).2.2.length ≤ 3 := by
  unfold timO
  split
  · simp
  · exact doO_lens ..
end Go.Proofs.Ythidhfkbfoejbaa
