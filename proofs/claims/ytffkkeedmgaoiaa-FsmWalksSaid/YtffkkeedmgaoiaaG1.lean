/- The small functions of the automaton. -/
import Derived.Test.YtffkkeedmgaoiaaG0
namespace Go.Proofs.Ytffkkeedmgaoiaa
open Go.RowKit
set_option linter.unusedSimpArgs false
set_option linter.unusedVariables false
theorem only_any (s : Int) (w : World) : Calls Try.prog 53 #[.int .i64 s] w fun e w' => e = .returned (.agg #[.slice none 0 0, .int .i64 s]) ∧ w' = w.alloc (.cells #[.slice none 0 0, .int .i64 s] 48) := by
  go_enter Try.func53, Try.ntmps53
  go_wp2
  exact bodyPost_ret (v := .agg #[.slice none 0 0, .int .i64 s]) (by simp [results, Try.results53, go_sem]) rfl ⟨rfl, rfl⟩
theorem by_any (s : Int) (A : Option Addr) (n c : Nat) (w : World) : Calls Try.prog 54 #[.int .i64 s, .slice A n c] w fun e w' => e = .returned (.agg #[.slice A n c, .int .i64 s]) ∧ w' = w.alloc (.cells #[.slice A n c, .int .i64 s] 48) := by
  go_enter Try.func54, Try.ntmps54
  go_wp2
  exact bodyPost_ret (v := .agg #[.slice A n c, .int .i64 s]) (by simp [results, Try.results54, go_sem]) rfl ⟨rfl, rfl⟩
theorem stays_any (s : Int) (A : Option Addr) (n c : Nat) (w : World) : Calls Try.prog 55 #[.int .i64 s, .slice A n c] w fun e w' => e = .returned (.agg #[.slice A n c, .int .i64 s]) ∧ Below w.heap.size w w' := by
  go_enter Try.func55, Try.ntmps55
  go_wp2_with (go_at_call 54; refine (by_any _ _ _ _ _).mono ?_; rintro e w1 ⟨rfl, rfl⟩)
  exact bodyPost_ret (v := .agg #[.slice A n c, .int .i64 s]) (by simp [results, Try.results55, go_sem]) rfl ⟨rfl, by (repeat (first | exact Below.refl _ _ | exact Nat.le_refl _ | (refine below_ext ?_ (by first | (simp [size_ext, grow]; done) | (simp [size_ext, grow]; omega)) _ _) | (refine Below.setCell ?_ (by first | (simp [size_ext, grow]; done) | (simp [size_ext, grow]; omega)) _) | (refine Below.alloc ?_ (by first | (simp [size_ext, grow]; done) | (simp [size_ext, grow]; omega)) _) | refine Below.drew ?_ | refine below_drewN ?_ _ | (refine Below.trans ?_ (Below.mono (by assumption) (by first | (simp [size_ext, grow]; done) | (simp [size_ext, grow]; omega))))))⟩
theorem ends_any (s : Int) (w : World) : Calls Try.prog 58 #[.int .i64 s] w fun e w' => e = .returned (.bool (decide (2 ≤ s) && decide (s ≤ 5))) ∧ w = w' := by
  by_cases h1 : 2 ≤ s <;> by_cases h2 : s ≤ 5
  all_goals
    go_enter Try.func58, Try.ntmps58
    go_wp2
    go_ret
    simp [h1, h2]
theorem asks_any (s : Int) (w : World) : Calls Try.prog 33 #[.int .i64 s] w fun e w' => e = .returned (.bool (decide (6 ≤ s) && decide (s ≤ 8))) ∧ w = w' := by
  by_cases h1 : 6 ≤ s <;> by_cases h2 : s ≤ 8
  all_goals
    go_enter Try.func33, Try.ntmps33
    go_wp2
    go_ret
    simp [h1, h2]
def lowerS (s : Int) : Int := if s = 2 ∨ s = 4 then 2 else 3
theorem lower_any (s : Int) (w : World) : Calls Try.prog 59 #[.int .i64 s] w fun e w' => e = .returned (.int .i64 (lowerS s)) ∧ w = w' := by
  by_cases h1 : s = 2
  · subst h1
    go_enter Try.func59, Try.ntmps59
    go_wp2
    go_ret
    exact ⟨rfl, rfl⟩
  · by_cases h2 : s = 4
    · subst h2
      go_enter Try.func59, Try.ntmps59
      go_wp2
      go_ret
      exact ⟨rfl, rfl⟩
    · have e1 : (s == 2) = false := by simpa using h1
      have e2 : (s == 4) = false := by simpa using h2
      have E := Lib.hid (And.intro h1 h2)
      clear h1 h2
      go_enter Try.func59, Try.ntmps59
      go_wp2
      go_ret
      exact ⟨ret_int (by simp [lowerS, E.out]), rfl⟩
theorem known_any (s : Int) (w : World) : Calls Try.prog 29 #[.int .i64 s] w fun e w' => e = .returned (.bool (decide (0 ≤ s) && decide (s ≤ 9))) ∧ w = w' := by
  by_cases h1 : 0 ≤ s <;> by_cases h2 : s ≤ 9
  all_goals
    go_enter Try.func29, Try.ntmps29
    go_wp2
    go_ret
    simp [h1, h2]
theorem timed_ref (s : Int) (w : World) : Calls Try.prog 22 #[.int .i64 s] w fun e w' => e = .returned (.bool (decide (4 ≤ s) && decide (s ≤ 8))) ∧ w = w' := by
  by_cases h1 : 4 ≤ s <;> by_cases h2 : s ≤ 8
  all_goals
    go_enter Try.func22, Try.ntmps22
    go_wp2
    go_ret
    simp [h1, h2]
end Go.Proofs.Ytffkkeedmgaoiaa
