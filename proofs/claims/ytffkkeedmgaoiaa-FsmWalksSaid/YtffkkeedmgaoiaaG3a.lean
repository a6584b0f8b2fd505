/- The rows of methods, and Step. -/
import Derived.Test.YtffkkeedmgaoiaaG2a
import Derived.Test.YtffkkeedmgaoiaaG2b
import Derived.Test.YtffkkeedmgaoiaaG2c
import Derived.Test.YtffkkeedmgaoiaaG2d
import Derived.Test.YtffkkeedmgaoiaaG2e
import Derived.Test.YtffkkeedmgaoiaaG2f
import Derived.Test.YtffkkeedmgaoiaaG2g
import Derived.Test.YtffkkeedmgaoiaaG2h
import Derived.Test.YtffkkeedmgaoiaaG2i
namespace Go.Proofs.Ytffkkeedmgaoiaa
open Go.RowKit
set_option linter.unusedSimpArgs false
set_option linter.unusedVariables false
theorem fn_nil (f : Fn) (w : World) : (binOp .eql 45 (.func f #[] #[]) .nilFunc).run Try.prog w = .ok (.bool false) w := by kernel_rfl
theorem nil_nil (w : World) : (binOp .eql 45 .nilFunc .nilFunc).run Try.prog w = .ok (.bool true) w := by kernel_rfl
theorem row_1 (w : World) : Calls Try.prog 28 #[.int .i64 1] w fun e w' => e = .returned (.func (.func 37) #[] #[]) ∧ w = w' := by
  go_enter Try.func28, Try.ntmps28
  go_wp2
  go_ret
  exact ⟨rfl, rfl⟩
theorem row_2 (w : World) : Calls Try.prog 28 #[.int .i64 2] w fun e w' => e = .returned (.func (.func 38) #[] #[]) ∧ w = w' := by
  go_enter Try.func28, Try.ntmps28
  go_wp2
  go_ret
  exact ⟨rfl, rfl⟩
theorem row_3 (w : World) : Calls Try.prog 28 #[.int .i64 3] w fun e w' => e = .returned (.func (.func 39) #[] #[]) ∧ w = w' := by
  go_enter Try.func28, Try.ntmps28
  go_wp2
  go_ret
  exact ⟨rfl, rfl⟩
theorem row_4 (w : World) : Calls Try.prog 28 #[.int .i64 4] w fun e w' => e = .returned (.func (.func 40) #[] #[]) ∧ w = w' := by
  go_enter Try.func28, Try.ntmps28
  go_wp2
  go_ret
  exact ⟨rfl, rfl⟩
theorem row_5 (w : World) : Calls Try.prog 28 #[.int .i64 5] w fun e w' => e = .returned (.func (.func 41) #[] #[]) ∧ w = w' := by
  go_enter Try.func28, Try.ntmps28
  go_wp2
  go_ret
  exact ⟨rfl, rfl⟩
theorem row_6 (w : World) : Calls Try.prog 28 #[.int .i64 6] w fun e w' => e = .returned (.func (.func 42) #[] #[]) ∧ w = w' := by
  go_enter Try.func28, Try.ntmps28
  go_wp2
  go_ret
  exact ⟨rfl, rfl⟩
theorem row_7 (w : World) : Calls Try.prog 28 #[.int .i64 7] w fun e w' => e = .returned (.func (.func 43) #[] #[]) ∧ w = w' := by
  go_enter Try.func28, Try.ntmps28
  go_wp2
  go_ret
  exact ⟨rfl, rfl⟩
theorem row_8 (w : World) : Calls Try.prog 28 #[.int .i64 8] w fun e w' => e = .returned (.func (.func 44) #[] #[]) ∧ w = w' := by
  go_enter Try.func28, Try.ntmps28
  go_wp2
  go_ret
  exact ⟨rfl, rfl⟩
theorem row_9 (w : World) : Calls Try.prog 28 #[.int .i64 9] w fun e w' => e = .returned (.func (.func 45) #[] #[]) ∧ w = w' := by
  go_enter Try.func28, Try.ntmps28
  go_wp2
  go_ret
  exact ⟨rfl, rfl⟩
theorem row_10 (w : World) : Calls Try.prog 28 #[.int .i64 10] w fun e w' => e = .returned (.func (.func 46) #[] #[]) ∧ w = w' := by
  go_enter Try.func28, Try.ntmps28
  go_wp2
  go_ret
  exact ⟨rfl, rfl⟩
theorem row_11 (w : World) : Calls Try.prog 28 #[.int .i64 11] w fun e w' => e = .returned (.func (.func 47) #[] #[]) ∧ w = w' := by
  go_enter Try.func28, Try.ntmps28
  go_wp2
  go_ret
  exact ⟨rfl, rfl⟩
theorem row_12 (w : World) : Calls Try.prog 28 #[.int .i64 12] w fun e w' => e = .returned (.func (.func 48) #[] #[]) ∧ w = w' := by
  go_enter Try.func28, Try.ntmps28
  go_wp2
  go_ret
  exact ⟨rfl, rfl⟩
theorem row_13 (w : World) : Calls Try.prog 28 #[.int .i64 13] w fun e w' => e = .returned (.func (.func 49) #[] #[]) ∧ w = w' := by
  go_enter Try.func28, Try.ntmps28
  go_wp2
  go_ret
  exact ⟨rfl, rfl⟩
theorem row_14 (w : World) : Calls Try.prog 28 #[.int .i64 14] w fun e w' => e = .returned (.func (.func 50) #[] #[]) ∧ w = w' := by
  go_enter Try.func28, Try.ntmps28
  go_wp2
  go_ret
  exact ⟨rfl, rfl⟩
theorem row_15 (w : World) : Calls Try.prog 28 #[.int .i64 15] w fun e w' => e = .returned (.func (.func 51) #[] #[]) ∧ w = w' := by
  go_enter Try.func28, Try.ntmps28
  go_wp2
  go_ret
  exact ⟨rfl, rfl⟩
theorem row_16 (w : World) : Calls Try.prog 28 #[.int .i64 16] w fun e w' => e = .returned (.func (.func 52) #[] #[]) ∧ w = w' := by
  go_enter Try.func28, Try.ntmps28
  go_wp2
  go_ret
  exact ⟨rfl, rfl⟩
set_option maxHeartbeats 1000000 in
theorem step_1 (s : Int) (w : World) : Calls Try.prog 11 #[.int .i64 s, .int .i64 1] w (StepP s 1 w) := by
  by_cases h0 : 0 ≤ s
  · by_cases h9 : s ≤ 9
    · cases hok : tabOk 1 s
      · have H := Lib.hid hok
        have hs : stepErr s 1 = 5 := by simp [stepErr, inTab, h0, h9, hok]
        have HS := Lib.hid hs
        have HH := Lib.hid (And.intro h0 h9)
        clear hok hs
        have kf := fn_nil
        go_enter Try.func11, Try.ntmps11
        go_wp2_with (first | (go_at_call 28; refine (row_1 _).mono ?_; rintro e w1 ⟨rfl, rfl⟩) | (go_at_call 29; refine (known_any _ _).mono ?_; rintro e w1 ⟨rfl, rfl⟩) | (go_at_call 37; refine (up_no s _ HH.out.1 HH.out.2 H.out).mono ?_; rintro e w1 ⟨A, n, c, y, rfl, hb⟩; obtain ⟨xs, d, rfl⟩ := ext_of hb; clear hb))
        go_ret3
        exact ⟨.slice none 0 0, by rw [HS.out, (tab_out H.out).1]; rfl, by (repeat (first | exact Below.refl _ _ | exact Nat.le_refl _ | (refine below_ext ?_ (by first | (simp [size_ext, grow]; done) | (simp [size_ext, grow]; omega)) _ _) | (refine Below.setCell ?_ (by first | (simp [size_ext, grow]; done) | (simp [size_ext, grow]; omega)) _) | (refine Below.alloc ?_ (by first | (simp [size_ext, grow]; done) | (simp [size_ext, grow]; omega)) _) | refine Below.drew ?_ | refine below_drewN ?_ _ | (refine Below.trans ?_ (Below.mono (by assumption) (by first | (simp [size_ext, grow]; done) | (simp [size_ext, grow]; omega)))))), by rw [(tab_out H.out).2]; exact own_nil _ _ _ _⟩
      · have H := Lib.hid hok
        have hs : stepErr s 1 = 0 := by simp [stepErr, inTab, h0, h9, hok]
        have HS := Lib.hid hs
        have HH := Lib.hid (And.intro h0 h9)
        clear hok hs
        have kf := fn_nil
        go_enter Try.func11, Try.ntmps11
        go_wp2_with (first | (go_at_call 28; refine (row_1 _).mono ?_; rintro e w1 ⟨rfl, rfl⟩) | (go_at_call 29; refine (known_any _ _).mono ?_; rintro e w1 ⟨rfl, rfl⟩) | (go_at_call 37; refine (up_yes s _ H.out).mono ?_; rintro e w1 ⟨v, rfl, hb, ho⟩; obtain ⟨xs, d, rfl⟩ := ext_of hb; clear hb; obtain ⟨A, c, rfl, -, -⟩ := ownsRow_form ho; have HA := Lib.hid ho; clear ho))
        go_quiet (fail)
        go_wp2
        go_ret3
        exact ⟨_, by rw [HS.out]; rfl, by (repeat (first | exact Below.refl _ _ | exact Nat.le_refl _ | (refine below_ext ?_ (by first | (simp [size_ext, grow]; done) | (simp [size_ext, grow]; omega)) _ _) | (refine Below.setCell ?_ (by first | (simp [size_ext, grow]; done) | (simp [size_ext, grow]; omega)) _) | (refine Below.alloc ?_ (by first | (simp [size_ext, grow]; done) | (simp [size_ext, grow]; omega)) _) | refine Below.drew ?_ | refine below_drewN ?_ _ | (refine Below.trans ?_ (Below.mono (by assumption) (by first | (simp [size_ext, grow]; done) | (simp [size_ext, grow]; omega)))))), own_below HA.out (by (repeat (first | exact Below.refl _ _ | exact Nat.le_refl _ | (refine below_ext ?_ (by first | (simp [size_ext, grow]; done) | (simp [size_ext, grow]; omega)) _ _) | (refine Below.setCell ?_ (by first | (simp [size_ext, grow]; done) | (simp [size_ext, grow]; omega)) _) | (refine Below.alloc ?_ (by first | (simp [size_ext, grow]; done) | (simp [size_ext, grow]; omega)) _) | refine Below.drew ?_ | refine below_drewN ?_ _ | (refine Below.trans ?_ (Below.mono (by assumption) (by first | (simp [size_ext, grow]; done) | (simp [size_ext, grow]; omega)))))))⟩
    · have hn : decide (s ≤ 9) = false := by simpa using h9
      have HS := Lib.hid (show stepErr s 1 = 140 ∧ tabOk 1 s = false from ⟨by simp [stepErr, inTab, h9], tabOk_out (by simp [inTab, h9])⟩)
      clear h9
      go_enter Try.func11, Try.ntmps11
      go_wp2_with (first | (go_at_call 28; refine (row_1 _).mono ?_; rintro e w1 ⟨rfl, rfl⟩) | (go_at_call 29; refine (known_any _ _).mono ?_; rintro e w1 ⟨rfl, rfl⟩))
      go_ret3
      exact ⟨.slice none 0 0, by rw [HS.out.1, (tab_out HS.out.2).1]; rfl, by (repeat (first | exact Below.refl _ _ | exact Nat.le_refl _ | (refine below_ext ?_ (by first | (simp [size_ext, grow]; done) | (simp [size_ext, grow]; omega)) _ _) | (refine Below.setCell ?_ (by first | (simp [size_ext, grow]; done) | (simp [size_ext, grow]; omega)) _) | (refine Below.alloc ?_ (by first | (simp [size_ext, grow]; done) | (simp [size_ext, grow]; omega)) _) | refine Below.drew ?_ | refine below_drewN ?_ _ | (refine Below.trans ?_ (Below.mono (by assumption) (by first | (simp [size_ext, grow]; done) | (simp [size_ext, grow]; omega)))))), by rw [(tab_out HS.out.2).2]; exact own_nil _ _ _ _⟩
  · have hn : decide (0 ≤ s) = false := by simpa using h0
    have HS := Lib.hid (show stepErr s 1 = 140 ∧ tabOk 1 s = false from ⟨by simp [stepErr, inTab, h0], tabOk_out (by simp [inTab, h0])⟩)
    clear h0
    go_enter Try.func11, Try.ntmps11
    go_wp2_with (first | (go_at_call 28; refine (row_1 _).mono ?_; rintro e w1 ⟨rfl, rfl⟩) | (go_at_call 29; refine (known_any _ _).mono ?_; rintro e w1 ⟨rfl, rfl⟩))
    go_ret3
    exact ⟨.slice none 0 0, by rw [HS.out.1, (tab_out HS.out.2).1]; rfl, by (repeat (first | exact Below.refl _ _ | exact Nat.le_refl _ | (refine below_ext ?_ (by first | (simp [size_ext, grow]; done) | (simp [size_ext, grow]; omega)) _ _) | (refine Below.setCell ?_ (by first | (simp [size_ext, grow]; done) | (simp [size_ext, grow]; omega)) _) | (refine Below.alloc ?_ (by first | (simp [size_ext, grow]; done) | (simp [size_ext, grow]; omega)) _) | refine Below.drew ?_ | refine below_drewN ?_ _ | (refine Below.trans ?_ (Below.mono (by assumption) (by first | (simp [size_ext, grow]; done) | (simp [size_ext, grow]; omega)))))), by rw [(tab_out HS.out.2).2]; exact own_nil _ _ _ _⟩
end Go.Proofs.Ytffkkeedmgaoiaa
