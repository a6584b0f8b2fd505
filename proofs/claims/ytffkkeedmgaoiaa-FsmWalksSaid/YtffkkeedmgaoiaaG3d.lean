/- Step. -/
import Derived.Test.YtffkkeedmgaoiaaG3b
import Derived.Test.YtffkkeedmgaoiaaG3c
namespace Go.Proofs.Ytffkkeedmgaoiaa
open Go.RowKit
set_option linter.unusedSimpArgs false
set_option linter.unusedVariables false
theorem row_out (e : Int) (w : World) (h : e < 1 ∨ 16 < e) : Calls Try.prog 28 #[.int .i64 e] w fun x w' => x = .returned .nilFunc ∧ w = w' := by
  have k1 : (e == 1) = false := by simp; omega
  have k2 : (e == 2) = false := by simp; omega
  have k3 : (e == 3) = false := by simp; omega
  have k4 : (e == 4) = false := by simp; omega
  have k5 : (e == 5) = false := by simp; omega
  have k6 : (e == 6) = false := by simp; omega
  have k7 : (e == 7) = false := by simp; omega
  have k8 : (e == 8) = false := by simp; omega
  have k9 : (e == 9) = false := by simp; omega
  have k10 : (e == 10) = false := by simp; omega
  have k11 : (e == 11) = false := by simp; omega
  have k12 : (e == 12) = false := by simp; omega
  have k13 : (e == 13) = false := by simp; omega
  have k14 : (e == 14) = false := by simp; omega
  have k15 : (e == 15) = false := by simp; omega
  have k16 : (e == 16) = false := by simp; omega
  clear h
  go_enter Try.func28, Try.ntmps28
  go_wp2
  go_ret
  exact ⟨rfl, rfl⟩
set_option maxHeartbeats 1000000 in
theorem step_out (s e : Int) (w : World) (h : e < 1 ∨ 16 < e) : Calls Try.prog 11 #[.int .i64 s, .int .i64 e] w (StepP s e w) := by
  have HS := Lib.hid (show stepErr s e = 140 ∧ tabOk e s = false from ⟨by simp [stepErr, inTab]; intros; omega, tabOk_out (by simp [inTab]; omega)⟩)
  have HE := Lib.hid h
  clear h
  have kf := nil_nil
  cases hk : (decide (0 ≤ s) && decide (s ≤ 9))
  all_goals
    go_enter Try.func11, Try.ntmps11
    go_wp2_with (first | (go_at_call 28; refine (row_out e _ HE.out).mono ?_; rintro e w1 ⟨rfl, rfl⟩) | (go_at_call 29; refine (known_any _ _).mono ?_; rintro e w1 ⟨rfl, rfl⟩))
    go_ret3
    exact ⟨.slice none 0 0, by rw [HS.out.1, (tab_out HS.out.2).1]; rfl, by (repeat (first | exact Below.refl _ _ | exact Nat.le_refl _ | (refine below_ext ?_ (by first | (simp [size_ext, grow]; done) | (simp [size_ext, grow]; omega)) _ _) | (refine Below.setCell ?_ (by first | (simp [size_ext, grow]; done) | (simp [size_ext, grow]; omega)) _) | (refine Below.alloc ?_ (by first | (simp [size_ext, grow]; done) | (simp [size_ext, grow]; omega)) _) | refine Below.drew ?_ | refine below_drewN ?_ _ | (refine Below.trans ?_ (Below.mono (by assumption) (by first | (simp [size_ext, grow]; done) | (simp [size_ext, grow]; omega)))))), by rw [(tab_out HS.out.2).2]; exact own_nil _ _ _ _⟩
theorem step_any (s e : Int) (w : World) : Calls Try.prog 11 #[.int .i64 s, .int .i64 e] w (StepP s e w) := by
  by_cases h : 1 ≤ e ∧ e ≤ 16
  · rcases sixteen h.1 h.2 with rfl | rfl | rfl | rfl | rfl | rfl | rfl | rfl | rfl | rfl | rfl | rfl | rfl | rfl | rfl | rfl
    · exact step_1 s w
    · exact step_2 s w
    · exact step_3 s w
    · exact step_4 s w
    · exact step_5 s w
    · exact step_6 s w
    · exact step_7 s w
    · exact step_8 s w
    · exact step_9 s w
    · exact step_10 s w
    · exact step_11 s w
    · exact step_12 s w
    · exact step_13 s w
    · exact step_14 s w
    · exact step_15 s w
    · exact step_16 s w
  · exact step_out s e w (by omega)

end Go.Proofs.Ytffkkeedmgaoiaa
