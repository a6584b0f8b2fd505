/- Bundle G2. -/
import Derived.Test.YthidhfkbfoejbaaA
import Derived.Test.YthidhfkbfoejbaaG1
import Derived.Deep.QuietTactic
import Derived.WalkSpells
namespace Go.Proofs.Ythidhfkbfoejbaa.Fs
open Go.RowKit
set_option linter.unusedSimpArgs false
set_option linter.unusedVariables false
theorem fn_nil (f : Fn) (w : World) : (binOp .eql 83 (.func f #[] #[]) .nilFunc).run Try.prog w = .ok (.bool false) w := by kernel_rfl
theorem nil_nil (w : World) : (binOp .eql 83 .nilFunc .nilFunc).run Try.prog w = .ok (.bool true) w := by kernel_rfl
theorem row_1 (w : World) : Calls Try.prog 44 #[.int .i64 1] w fun e w' => e = .returned (.func (.func 49) #[] #[]) ∧ w = w' := by
  go_enter Try.func44, Try.ntmps44
  go_wp2
  go_ret
  exact ⟨rfl, rfl⟩
theorem row_2 (w : World) : Calls Try.prog 44 #[.int .i64 2] w fun e w' => e = .returned (.func (.func 50) #[] #[]) ∧ w = w' := by
  go_enter Try.func44, Try.ntmps44
  go_wp2
  go_ret
  exact ⟨rfl, rfl⟩
theorem row_3 (w : World) : Calls Try.prog 44 #[.int .i64 3] w fun e w' => e = .returned (.func (.func 51) #[] #[]) ∧ w = w' := by
  go_enter Try.func44, Try.ntmps44
  go_wp2
  go_ret
  exact ⟨rfl, rfl⟩
theorem row_4 (w : World) : Calls Try.prog 44 #[.int .i64 4] w fun e w' => e = .returned (.func (.func 52) #[] #[]) ∧ w = w' := by
  go_enter Try.func44, Try.ntmps44
  go_wp2
  go_ret
  exact ⟨rfl, rfl⟩
theorem row_5 (w : World) : Calls Try.prog 44 #[.int .i64 5] w fun e w' => e = .returned (.func (.func 53) #[] #[]) ∧ w = w' := by
  go_enter Try.func44, Try.ntmps44
  go_wp2
  go_ret
  exact ⟨rfl, rfl⟩
theorem row_6 (w : World) : Calls Try.prog 44 #[.int .i64 6] w fun e w' => e = .returned (.func (.func 54) #[] #[]) ∧ w = w' := by
  go_enter Try.func44, Try.ntmps44
  go_wp2
  go_ret
  exact ⟨rfl, rfl⟩
theorem row_7 (w : World) : Calls Try.prog 44 #[.int .i64 7] w fun e w' => e = .returned (.func (.func 55) #[] #[]) ∧ w = w' := by
  go_enter Try.func44, Try.ntmps44
  go_wp2
  go_ret
  exact ⟨rfl, rfl⟩
theorem row_8 (w : World) : Calls Try.prog 44 #[.int .i64 8] w fun e w' => e = .returned (.func (.func 56) #[] #[]) ∧ w = w' := by
  go_enter Try.func44, Try.ntmps44
  go_wp2
  go_ret
  exact ⟨rfl, rfl⟩
theorem row_9 (w : World) : Calls Try.prog 44 #[.int .i64 9] w fun e w' => e = .returned (.func (.func 57) #[] #[]) ∧ w = w' := by
  go_enter Try.func44, Try.ntmps44
  go_wp2
  go_ret
  exact ⟨rfl, rfl⟩
theorem row_10 (w : World) : Calls Try.prog 44 #[.int .i64 10] w fun e w' => e = .returned (.func (.func 58) #[] #[]) ∧ w = w' := by
  go_enter Try.func44, Try.ntmps44
  go_wp2
  go_ret
  exact ⟨rfl, rfl⟩
theorem row_11 (w : World) : Calls Try.prog 44 #[.int .i64 11] w fun e w' => e = .returned (.func (.func 59) #[] #[]) ∧ w = w' := by
  go_enter Try.func44, Try.ntmps44
  go_wp2
  go_ret
  exact ⟨rfl, rfl⟩
theorem row_12 (w : World) : Calls Try.prog 44 #[.int .i64 12] w fun e w' => e = .returned (.func (.func 60) #[] #[]) ∧ w = w' := by
  go_enter Try.func44, Try.ntmps44
  go_wp2
  go_ret
  exact ⟨rfl, rfl⟩
theorem row_13 (w : World) : Calls Try.prog 44 #[.int .i64 13] w fun e w' => e = .returned (.func (.func 61) #[] #[]) ∧ w = w' := by
  go_enter Try.func44, Try.ntmps44
  go_wp2
  go_ret
  exact ⟨rfl, rfl⟩
theorem row_14 (w : World) : Calls Try.prog 44 #[.int .i64 14] w fun e w' => e = .returned (.func (.func 62) #[] #[]) ∧ w = w' := by
  go_enter Try.func44, Try.ntmps44
  go_wp2
  go_ret
  exact ⟨rfl, rfl⟩
theorem row_15 (w : World) : Calls Try.prog 44 #[.int .i64 15] w fun e w' => e = .returned (.func (.func 63) #[] #[]) ∧ w = w' := by
  go_enter Try.func44, Try.ntmps44
  go_wp2
  go_ret
  exact ⟨rfl, rfl⟩
theorem row_16 (w : World) : Calls Try.prog 44 #[.int .i64 16] w fun e w' => e = .returned (.func (.func 64) #[] #[]) ∧ w = w' := by
  go_enter Try.func44, Try.ntmps44
  go_wp2
  go_ret
  exact ⟨rfl, rfl⟩
set_option maxHeartbeats 1000000 in
theorem step_1 (s : Int) (w : World) : Calls Try.prog 31 #[.int .i64 s, .int .i64 1] w (StepP s 1 w) := by
  by_cases h0 : 0 ≤ s
  · by_cases h9 : s ≤ 9
    · cases hok : tabOk 1 s
      · have H := Lib.hid hok
        have hs : stepErr s 1 = 5 := by simp [stepErr, inTab, h0, h9, hok]
        have HS := Lib.hid hs
        have HH := Lib.hid (And.intro h0 h9)
        clear hok hs
        have kf := fn_nil
        go_enter Try.func31, Try.ntmps31
        go_wp2_with (first | (go_at_call 44; refine (row_1 _).mono ?_; rintro e w1 ⟨rfl, rfl⟩) | (go_at_call 45; refine (known_any _ _).mono ?_; rintro e w1 ⟨rfl, rfl⟩) | (go_at_call 49; refine (up_no s _ HH.out.1 HH.out.2 H.out).mono ?_; rintro e w1 ⟨A, n, c, y, rfl, hb⟩; obtain ⟨xs, d, rfl⟩ := ext_of hb; clear hb))
        go_ret3
        exact ⟨.slice none 0 0, by rw [HS.out, (tab_out H.out).1]; rfl, by exact bel, by rw [(tab_out H.out).2]; exact own_nil _ _ _ _⟩
      · have H := Lib.hid hok
        have hs : stepErr s 1 = 0 := by simp [stepErr, inTab, h0, h9, hok]
        have HS := Lib.hid hs
        have HH := Lib.hid (And.intro h0 h9)
        clear hok hs
        have kf := fn_nil
        go_enter Try.func31, Try.ntmps31
        go_wp2_with (first | (go_at_call 44; refine (row_1 _).mono ?_; rintro e w1 ⟨rfl, rfl⟩) | (go_at_call 45; refine (known_any _ _).mono ?_; rintro e w1 ⟨rfl, rfl⟩) | (go_at_call 49; refine (up_yes s _ H.out).mono ?_; rintro e w1 ⟨v, rfl, hb, ho⟩; obtain ⟨xs, d, rfl⟩ := ext_of hb; clear hb; obtain ⟨A, c, rfl, -, -⟩ := ownsRow_form ho; have HA := Lib.hid ho; clear ho))
        go_quiet (fail)
        go_wp2
        go_ret3
        exact ⟨_, by rw [HS.out]; rfl, by exact bel, own_below HA.out (by exact bel)⟩
    · have hn : decide (s ≤ 9) = false := by simpa using h9
      have HS := Lib.hid (show stepErr s 1 = 140 ∧ tabOk 1 s = false from ⟨by simp [stepErr, inTab, h9], tabOk_out (by simp [inTab, h9])⟩)
      clear h9
      go_enter Try.func31, Try.ntmps31
      go_wp2_with (first | (go_at_call 44; refine (row_1 _).mono ?_; rintro e w1 ⟨rfl, rfl⟩) | (go_at_call 45; refine (known_any _ _).mono ?_; rintro e w1 ⟨rfl, rfl⟩))
      go_ret3
      exact ⟨.slice none 0 0, by rw [HS.out.1, (tab_out HS.out.2).1]; rfl, by exact bel, by rw [(tab_out HS.out.2).2]; exact own_nil _ _ _ _⟩
  · have hn : decide (0 ≤ s) = false := by simpa using h0
    have HS := Lib.hid (show stepErr s 1 = 140 ∧ tabOk 1 s = false from ⟨by simp [stepErr, inTab, h0], tabOk_out (by simp [inTab, h0])⟩)
    clear h0
    go_enter Try.func31, Try.ntmps31
    go_wp2_with (first | (go_at_call 44; refine (row_1 _).mono ?_; rintro e w1 ⟨rfl, rfl⟩) | (go_at_call 45; refine (known_any _ _).mono ?_; rintro e w1 ⟨rfl, rfl⟩))
    go_ret3
    exact ⟨.slice none 0 0, by rw [HS.out.1, (tab_out HS.out.2).1]; rfl, by exact bel, by rw [(tab_out HS.out.2).2]; exact own_nil _ _ _ _⟩
end Go.Proofs.Ythidhfkbfoejbaa.Fs
namespace Go.Proofs.Ythidhfkbfoejbaa.Fs
open Go.RowKit
set_option linter.unusedSimpArgs false
set_option linter.unusedVariables false
set_option maxHeartbeats 1000000 in
theorem step_2 (s : Int) (w : World) : Calls Try.prog 31 #[.int .i64 s, .int .i64 2] w (StepP s 2 w) := by
  by_cases h0 : 0 ≤ s
  · by_cases h9 : s ≤ 9
    · cases hok : tabOk 2 s
      · have H := Lib.hid hok
        have hs : stepErr s 2 = 5 := by simp [stepErr, inTab, h0, h9, hok]
        have HS := Lib.hid hs
        have HH := Lib.hid (And.intro h0 h9)
        clear hok hs
        have kf := fn_nil
        go_enter Try.func31, Try.ntmps31
        go_wp2_with (first | (go_at_call 44; refine (row_2 _).mono ?_; rintro e w1 ⟨rfl, rfl⟩) | (go_at_call 45; refine (known_any _ _).mono ?_; rintro e w1 ⟨rfl, rfl⟩) | (go_at_call 50; refine (down_no s _ HH.out.1 HH.out.2 H.out).mono ?_; rintro e w1 ⟨A, n, c, y, rfl, hb⟩; obtain ⟨xs, d, rfl⟩ := ext_of hb; clear hb))
        go_ret3
        exact ⟨.slice none 0 0, by rw [HS.out, (tab_out H.out).1]; rfl, by exact bel, by rw [(tab_out H.out).2]; exact own_nil _ _ _ _⟩
      · have H := Lib.hid hok
        have hs : stepErr s 2 = 0 := by simp [stepErr, inTab, h0, h9, hok]
        have HS := Lib.hid hs
        have HH := Lib.hid (And.intro h0 h9)
        clear hok hs
        have kf := fn_nil
        go_enter Try.func31, Try.ntmps31
        go_wp2_with (first | (go_at_call 44; refine (row_2 _).mono ?_; rintro e w1 ⟨rfl, rfl⟩) | (go_at_call 45; refine (known_any _ _).mono ?_; rintro e w1 ⟨rfl, rfl⟩) | (go_at_call 50; refine (down_yes s _ H.out).mono ?_; rintro e w1 ⟨v, rfl, hb, ho⟩; obtain ⟨xs, d, rfl⟩ := ext_of hb; clear hb; obtain ⟨A, c, rfl, -, -⟩ := ownsRow_form ho; have HA := Lib.hid ho; clear ho))
        go_quiet (fail)
        go_wp2
        go_ret3
        exact ⟨_, by rw [HS.out]; rfl, by exact bel, own_below HA.out (by exact bel)⟩
    · have hn : decide (s ≤ 9) = false := by simpa using h9
      have HS := Lib.hid (show stepErr s 2 = 140 ∧ tabOk 2 s = false from ⟨by simp [stepErr, inTab, h9], tabOk_out (by simp [inTab, h9])⟩)
      clear h9
      go_enter Try.func31, Try.ntmps31
      go_wp2_with (first | (go_at_call 44; refine (row_2 _).mono ?_; rintro e w1 ⟨rfl, rfl⟩) | (go_at_call 45; refine (known_any _ _).mono ?_; rintro e w1 ⟨rfl, rfl⟩))
      go_ret3
      exact ⟨.slice none 0 0, by rw [HS.out.1, (tab_out HS.out.2).1]; rfl, by exact bel, by rw [(tab_out HS.out.2).2]; exact own_nil _ _ _ _⟩
  · have hn : decide (0 ≤ s) = false := by simpa using h0
    have HS := Lib.hid (show stepErr s 2 = 140 ∧ tabOk 2 s = false from ⟨by simp [stepErr, inTab, h0], tabOk_out (by simp [inTab, h0])⟩)
    clear h0
    go_enter Try.func31, Try.ntmps31
    go_wp2_with (first | (go_at_call 44; refine (row_2 _).mono ?_; rintro e w1 ⟨rfl, rfl⟩) | (go_at_call 45; refine (known_any _ _).mono ?_; rintro e w1 ⟨rfl, rfl⟩))
    go_ret3
    exact ⟨.slice none 0 0, by rw [HS.out.1, (tab_out HS.out.2).1]; rfl, by exact bel, by rw [(tab_out HS.out.2).2]; exact own_nil _ _ _ _⟩
set_option maxHeartbeats 1000000 in
theorem step_3 (s : Int) (w : World) : Calls Try.prog 31 #[.int .i64 s, .int .i64 3] w (StepP s 3 w) := by
  by_cases h0 : 0 ≤ s
  · by_cases h9 : s ≤ 9
    · cases hok : tabOk 3 s
      · have H := Lib.hid hok
        have hs : stepErr s 3 = 5 := by simp [stepErr, inTab, h0, h9, hok]
        have HS := Lib.hid hs
        have HH := Lib.hid (And.intro h0 h9)
        clear hok hs
        have kf := fn_nil
        go_enter Try.func31, Try.ntmps31
        go_wp2_with (first | (go_at_call 44; refine (row_3 _).mono ?_; rintro e w1 ⟨rfl, rfl⟩) | (go_at_call 45; refine (known_any _ _).mono ?_; rintro e w1 ⟨rfl, rfl⟩) | (go_at_call 51; refine (open_no s _ HH.out.1 HH.out.2 H.out).mono ?_; rintro e w1 ⟨A, n, c, y, rfl, hb⟩; obtain ⟨xs, d, rfl⟩ := ext_of hb; clear hb))
        go_ret3
        exact ⟨.slice none 0 0, by rw [HS.out, (tab_out H.out).1]; rfl, by exact bel, by rw [(tab_out H.out).2]; exact own_nil _ _ _ _⟩
      · have H := Lib.hid hok
        have hs : stepErr s 3 = 0 := by simp [stepErr, inTab, h0, h9, hok]
        have HS := Lib.hid hs
        have HH := Lib.hid (And.intro h0 h9)
        clear hok hs
        have kf := fn_nil
        go_enter Try.func31, Try.ntmps31
        go_wp2_with (first | (go_at_call 44; refine (row_3 _).mono ?_; rintro e w1 ⟨rfl, rfl⟩) | (go_at_call 45; refine (known_any _ _).mono ?_; rintro e w1 ⟨rfl, rfl⟩) | (go_at_call 51; refine (open_yes s _ H.out).mono ?_; rintro e w1 ⟨v, rfl, hb, ho⟩; obtain ⟨xs, d, rfl⟩ := ext_of hb; clear hb; obtain ⟨A, c, rfl, -, -⟩ := ownsRow_form ho; have HA := Lib.hid ho; clear ho))
        go_quiet (fail)
        go_wp2
        go_ret3
        exact ⟨_, by rw [HS.out]; rfl, by exact bel, own_below HA.out (by exact bel)⟩
    · have hn : decide (s ≤ 9) = false := by simpa using h9
      have HS := Lib.hid (show stepErr s 3 = 140 ∧ tabOk 3 s = false from ⟨by simp [stepErr, inTab, h9], tabOk_out (by simp [inTab, h9])⟩)
      clear h9
      go_enter Try.func31, Try.ntmps31
      go_wp2_with (first | (go_at_call 44; refine (row_3 _).mono ?_; rintro e w1 ⟨rfl, rfl⟩) | (go_at_call 45; refine (known_any _ _).mono ?_; rintro e w1 ⟨rfl, rfl⟩))
      go_ret3
      exact ⟨.slice none 0 0, by rw [HS.out.1, (tab_out HS.out.2).1]; rfl, by exact bel, by rw [(tab_out HS.out.2).2]; exact own_nil _ _ _ _⟩
  · have hn : decide (0 ≤ s) = false := by simpa using h0
    have HS := Lib.hid (show stepErr s 3 = 140 ∧ tabOk 3 s = false from ⟨by simp [stepErr, inTab, h0], tabOk_out (by simp [inTab, h0])⟩)
    clear h0
    go_enter Try.func31, Try.ntmps31
    go_wp2_with (first | (go_at_call 44; refine (row_3 _).mono ?_; rintro e w1 ⟨rfl, rfl⟩) | (go_at_call 45; refine (known_any _ _).mono ?_; rintro e w1 ⟨rfl, rfl⟩))
    go_ret3
    exact ⟨.slice none 0 0, by rw [HS.out.1, (tab_out HS.out.2).1]; rfl, by exact bel, by rw [(tab_out HS.out.2).2]; exact own_nil _ _ _ _⟩
set_option maxHeartbeats 1000000 in
theorem step_4 (s : Int) (w : World) : Calls Try.prog 31 #[.int .i64 s, .int .i64 4] w (StepP s 4 w) := by
  by_cases h0 : 0 ≤ s
  · by_cases h9 : s ≤ 9
    · cases hok : tabOk 4 s
      · have H := Lib.hid hok
        have hs : stepErr s 4 = 5 := by simp [stepErr, inTab, h0, h9, hok]
        have HS := Lib.hid hs
        have HH := Lib.hid (And.intro h0 h9)
        clear hok hs
        have kf := fn_nil
        go_enter Try.func31, Try.ntmps31
        go_wp2_with (first | (go_at_call 44; refine (row_4 _).mono ?_; rintro e w1 ⟨rfl, rfl⟩) | (go_at_call 45; refine (known_any _ _).mono ?_; rintro e w1 ⟨rfl, rfl⟩) | (go_at_call 52; refine (shut_no s _ HH.out.1 HH.out.2 H.out).mono ?_; rintro e w1 ⟨A, n, c, y, rfl, hb⟩; obtain ⟨xs, d, rfl⟩ := ext_of hb; clear hb))
        go_ret3
        exact ⟨.slice none 0 0, by rw [HS.out, (tab_out H.out).1]; rfl, by exact bel, by rw [(tab_out H.out).2]; exact own_nil _ _ _ _⟩
      · have H := Lib.hid hok
        have hs : stepErr s 4 = 0 := by simp [stepErr, inTab, h0, h9, hok]
        have HS := Lib.hid hs
        have HH := Lib.hid (And.intro h0 h9)
        clear hok hs
        have kf := fn_nil
        go_enter Try.func31, Try.ntmps31
        go_wp2_with (first | (go_at_call 44; refine (row_4 _).mono ?_; rintro e w1 ⟨rfl, rfl⟩) | (go_at_call 45; refine (known_any _ _).mono ?_; rintro e w1 ⟨rfl, rfl⟩) | (go_at_call 52; refine (shut_yes s _ H.out).mono ?_; rintro e w1 ⟨v, rfl, hb, ho⟩; obtain ⟨xs, d, rfl⟩ := ext_of hb; clear hb; obtain ⟨A, c, rfl, -, -⟩ := ownsRow_form ho; have HA := Lib.hid ho; clear ho))
        go_quiet (fail)
        go_wp2
        go_ret3
        exact ⟨_, by rw [HS.out]; rfl, by exact bel, own_below HA.out (by exact bel)⟩
    · have hn : decide (s ≤ 9) = false := by simpa using h9
      have HS := Lib.hid (show stepErr s 4 = 140 ∧ tabOk 4 s = false from ⟨by simp [stepErr, inTab, h9], tabOk_out (by simp [inTab, h9])⟩)
      clear h9
      go_enter Try.func31, Try.ntmps31
      go_wp2_with (first | (go_at_call 44; refine (row_4 _).mono ?_; rintro e w1 ⟨rfl, rfl⟩) | (go_at_call 45; refine (known_any _ _).mono ?_; rintro e w1 ⟨rfl, rfl⟩))
      go_ret3
      exact ⟨.slice none 0 0, by rw [HS.out.1, (tab_out HS.out.2).1]; rfl, by exact bel, by rw [(tab_out HS.out.2).2]; exact own_nil _ _ _ _⟩
  · have hn : decide (0 ≤ s) = false := by simpa using h0
    have HS := Lib.hid (show stepErr s 4 = 140 ∧ tabOk 4 s = false from ⟨by simp [stepErr, inTab, h0], tabOk_out (by simp [inTab, h0])⟩)
    clear h0
    go_enter Try.func31, Try.ntmps31
    go_wp2_with (first | (go_at_call 44; refine (row_4 _).mono ?_; rintro e w1 ⟨rfl, rfl⟩) | (go_at_call 45; refine (known_any _ _).mono ?_; rintro e w1 ⟨rfl, rfl⟩))
    go_ret3
    exact ⟨.slice none 0 0, by rw [HS.out.1, (tab_out HS.out.2).1]; rfl, by exact bel, by rw [(tab_out HS.out.2).2]; exact own_nil _ _ _ _⟩
set_option maxHeartbeats 1000000 in
theorem step_5 (s : Int) (w : World) : Calls Try.prog 31 #[.int .i64 s, .int .i64 5] w (StepP s 5 w) := by
  by_cases h0 : 0 ≤ s
  · by_cases h9 : s ≤ 9
    · cases hok : tabOk 5 s
      · have H := Lib.hid hok
        have hs : stepErr s 5 = 5 := by simp [stepErr, inTab, h0, h9, hok]
        have HS := Lib.hid hs
        have HH := Lib.hid (And.intro h0 h9)
        clear hok hs
        have kf := fn_nil
        go_enter Try.func31, Try.ntmps31
        go_wp2_with (first | (go_at_call 44; refine (row_5 _).mono ?_; rintro e w1 ⟨rfl, rfl⟩) | (go_at_call 45; refine (known_any _ _).mono ?_; rintro e w1 ⟨rfl, rfl⟩) | (go_at_call 53; refine (again_no s _ HH.out.1 HH.out.2 H.out).mono ?_; rintro e w1 ⟨A, n, c, y, rfl, hb⟩; obtain ⟨xs, d, rfl⟩ := ext_of hb; clear hb))
        go_ret3
        exact ⟨.slice none 0 0, by rw [HS.out, (tab_out H.out).1]; rfl, by exact bel, by rw [(tab_out H.out).2]; exact own_nil _ _ _ _⟩
      · have H := Lib.hid hok
        have hs : stepErr s 5 = 0 := by simp [stepErr, inTab, h0, h9, hok]
        have HS := Lib.hid hs
        have HH := Lib.hid (And.intro h0 h9)
        clear hok hs
        have kf := fn_nil
        go_enter Try.func31, Try.ntmps31
        go_wp2_with (first | (go_at_call 44; refine (row_5 _).mono ?_; rintro e w1 ⟨rfl, rfl⟩) | (go_at_call 45; refine (known_any _ _).mono ?_; rintro e w1 ⟨rfl, rfl⟩) | (go_at_call 53; refine (again_yes s _ H.out).mono ?_; rintro e w1 ⟨v, rfl, hb, ho⟩; obtain ⟨xs, d, rfl⟩ := ext_of hb; clear hb; obtain ⟨A, c, rfl, -, -⟩ := ownsRow_form ho; have HA := Lib.hid ho; clear ho))
        go_quiet (fail)
        go_wp2
        go_ret3
        exact ⟨_, by rw [HS.out]; rfl, by exact bel, own_below HA.out (by exact bel)⟩
    · have hn : decide (s ≤ 9) = false := by simpa using h9
      have HS := Lib.hid (show stepErr s 5 = 140 ∧ tabOk 5 s = false from ⟨by simp [stepErr, inTab, h9], tabOk_out (by simp [inTab, h9])⟩)
      clear h9
      go_enter Try.func31, Try.ntmps31
      go_wp2_with (first | (go_at_call 44; refine (row_5 _).mono ?_; rintro e w1 ⟨rfl, rfl⟩) | (go_at_call 45; refine (known_any _ _).mono ?_; rintro e w1 ⟨rfl, rfl⟩))
      go_ret3
      exact ⟨.slice none 0 0, by rw [HS.out.1, (tab_out HS.out.2).1]; rfl, by exact bel, by rw [(tab_out HS.out.2).2]; exact own_nil _ _ _ _⟩
  · have hn : decide (0 ≤ s) = false := by simpa using h0
    have HS := Lib.hid (show stepErr s 5 = 140 ∧ tabOk 5 s = false from ⟨by simp [stepErr, inTab, h0], tabOk_out (by simp [inTab, h0])⟩)
    clear h0
    go_enter Try.func31, Try.ntmps31
    go_wp2_with (first | (go_at_call 44; refine (row_5 _).mono ?_; rintro e w1 ⟨rfl, rfl⟩) | (go_at_call 45; refine (known_any _ _).mono ?_; rintro e w1 ⟨rfl, rfl⟩))
    go_ret3
    exact ⟨.slice none 0 0, by rw [HS.out.1, (tab_out HS.out.2).1]; rfl, by exact bel, by rw [(tab_out HS.out.2).2]; exact own_nil _ _ _ _⟩
set_option maxHeartbeats 1000000 in
theorem step_6 (s : Int) (w : World) : Calls Try.prog 31 #[.int .i64 s, .int .i64 6] w (StepP s 6 w) := by
  by_cases h0 : 0 ≤ s
  · by_cases h9 : s ≤ 9
    · cases hok : tabOk 6 s
      · have H := Lib.hid hok
        have hs : stepErr s 6 = 5 := by simp [stepErr, inTab, h0, h9, hok]
        have HS := Lib.hid hs
        have HH := Lib.hid (And.intro h0 h9)
        clear hok hs
        have kf := fn_nil
        go_enter Try.func31, Try.ntmps31
        go_wp2_with (first | (go_at_call 44; refine (row_6 _).mono ?_; rintro e w1 ⟨rfl, rfl⟩) | (go_at_call 45; refine (known_any _ _).mono ?_; rintro e w1 ⟨rfl, rfl⟩) | (go_at_call 54; refine (tired_no s _ HH.out.1 HH.out.2 H.out).mono ?_; rintro e w1 ⟨A, n, c, y, rfl, hb⟩; obtain ⟨xs, d, rfl⟩ := ext_of hb; clear hb))
        go_ret3
        exact ⟨.slice none 0 0, by rw [HS.out, (tab_out H.out).1]; rfl, by exact bel, by rw [(tab_out H.out).2]; exact own_nil _ _ _ _⟩
      · have H := Lib.hid hok
        have hs : stepErr s 6 = 0 := by simp [stepErr, inTab, h0, h9, hok]
        have HS := Lib.hid hs
        have HH := Lib.hid (And.intro h0 h9)
        clear hok hs
        have kf := fn_nil
        go_enter Try.func31, Try.ntmps31
        go_wp2_with (first | (go_at_call 44; refine (row_6 _).mono ?_; rintro e w1 ⟨rfl, rfl⟩) | (go_at_call 45; refine (known_any _ _).mono ?_; rintro e w1 ⟨rfl, rfl⟩) | (go_at_call 54; refine (tired_yes s _ H.out).mono ?_; rintro e w1 ⟨v, rfl, hb, ho⟩; obtain ⟨xs, d, rfl⟩ := ext_of hb; clear hb; obtain ⟨A, c, rfl, -, -⟩ := ownsRow_form ho; have HA := Lib.hid ho; clear ho))
        go_quiet (fail)
        go_wp2
        go_ret3
        exact ⟨_, by rw [HS.out]; rfl, by exact bel, own_below HA.out (by exact bel)⟩
    · have hn : decide (s ≤ 9) = false := by simpa using h9
      have HS := Lib.hid (show stepErr s 6 = 140 ∧ tabOk 6 s = false from ⟨by simp [stepErr, inTab, h9], tabOk_out (by simp [inTab, h9])⟩)
      clear h9
      go_enter Try.func31, Try.ntmps31
      go_wp2_with (first | (go_at_call 44; refine (row_6 _).mono ?_; rintro e w1 ⟨rfl, rfl⟩) | (go_at_call 45; refine (known_any _ _).mono ?_; rintro e w1 ⟨rfl, rfl⟩))
      go_ret3
      exact ⟨.slice none 0 0, by rw [HS.out.1, (tab_out HS.out.2).1]; rfl, by exact bel, by rw [(tab_out HS.out.2).2]; exact own_nil _ _ _ _⟩
  · have hn : decide (0 ≤ s) = false := by simpa using h0
    have HS := Lib.hid (show stepErr s 6 = 140 ∧ tabOk 6 s = false from ⟨by simp [stepErr, inTab, h0], tabOk_out (by simp [inTab, h0])⟩)
    clear h0
    go_enter Try.func31, Try.ntmps31
    go_wp2_with (first | (go_at_call 44; refine (row_6 _).mono ?_; rintro e w1 ⟨rfl, rfl⟩) | (go_at_call 45; refine (known_any _ _).mono ?_; rintro e w1 ⟨rfl, rfl⟩))
    go_ret3
    exact ⟨.slice none 0 0, by rw [HS.out.1, (tab_out HS.out.2).1]; rfl, by exact bel, by rw [(tab_out HS.out.2).2]; exact own_nil _ _ _ _⟩
set_option maxHeartbeats 1000000 in
theorem step_7 (s : Int) (w : World) : Calls Try.prog 31 #[.int .i64 s, .int .i64 7] w (StepP s 7 w) := by
  by_cases h0 : 0 ≤ s
  · by_cases h9 : s ≤ 9
    · cases hok : tabOk 7 s
      · have H := Lib.hid hok
        have hs : stepErr s 7 = 5 := by simp [stepErr, inTab, h0, h9, hok]
        have HS := Lib.hid hs
        have HH := Lib.hid (And.intro h0 h9)
        clear hok hs
        have kf := fn_nil
        go_enter Try.func31, Try.ntmps31
        go_wp2_with (first | (go_at_call 44; refine (row_7 _).mono ?_; rintro e w1 ⟨rfl, rfl⟩) | (go_at_call 45; refine (known_any _ _).mono ?_; rintro e w1 ⟨rfl, rfl⟩) | (go_at_call 55; refine (good_no s _ HH.out.1 HH.out.2 H.out).mono ?_; rintro e w1 ⟨A, n, c, y, rfl, hb⟩; obtain ⟨xs, d, rfl⟩ := ext_of hb; clear hb))
        go_ret3
        exact ⟨.slice none 0 0, by rw [HS.out, (tab_out H.out).1]; rfl, by exact bel, by rw [(tab_out H.out).2]; exact own_nil _ _ _ _⟩
      · have H := Lib.hid hok
        have hs : stepErr s 7 = 0 := by simp [stepErr, inTab, h0, h9, hok]
        have HS := Lib.hid hs
        have HH := Lib.hid (And.intro h0 h9)
        clear hok hs
        have kf := fn_nil
        go_enter Try.func31, Try.ntmps31
        go_wp2_with (first | (go_at_call 44; refine (row_7 _).mono ?_; rintro e w1 ⟨rfl, rfl⟩) | (go_at_call 45; refine (known_any _ _).mono ?_; rintro e w1 ⟨rfl, rfl⟩) | (go_at_call 55; refine (good_yes s _ H.out).mono ?_; rintro e w1 ⟨v, rfl, hb, ho⟩; obtain ⟨xs, d, rfl⟩ := ext_of hb; clear hb; obtain ⟨A, c, rfl, -, -⟩ := ownsRow_form ho; have HA := Lib.hid ho; clear ho))
        go_quiet (fail)
        go_wp2
        go_ret3
        exact ⟨_, by rw [HS.out]; rfl, by exact bel, own_below HA.out (by exact bel)⟩
    · have hn : decide (s ≤ 9) = false := by simpa using h9
      have HS := Lib.hid (show stepErr s 7 = 140 ∧ tabOk 7 s = false from ⟨by simp [stepErr, inTab, h9], tabOk_out (by simp [inTab, h9])⟩)
      clear h9
      go_enter Try.func31, Try.ntmps31
      go_wp2_with (first | (go_at_call 44; refine (row_7 _).mono ?_; rintro e w1 ⟨rfl, rfl⟩) | (go_at_call 45; refine (known_any _ _).mono ?_; rintro e w1 ⟨rfl, rfl⟩))
      go_ret3
      exact ⟨.slice none 0 0, by rw [HS.out.1, (tab_out HS.out.2).1]; rfl, by exact bel, by rw [(tab_out HS.out.2).2]; exact own_nil _ _ _ _⟩
  · have hn : decide (0 ≤ s) = false := by simpa using h0
    have HS := Lib.hid (show stepErr s 7 = 140 ∧ tabOk 7 s = false from ⟨by simp [stepErr, inTab, h0], tabOk_out (by simp [inTab, h0])⟩)
    clear h0
    go_enter Try.func31, Try.ntmps31
    go_wp2_with (first | (go_at_call 44; refine (row_7 _).mono ?_; rintro e w1 ⟨rfl, rfl⟩) | (go_at_call 45; refine (known_any _ _).mono ?_; rintro e w1 ⟨rfl, rfl⟩))
    go_ret3
    exact ⟨.slice none 0 0, by rw [HS.out.1, (tab_out HS.out.2).1]; rfl, by exact bel, by rw [(tab_out HS.out.2).2]; exact own_nil _ _ _ _⟩
set_option maxHeartbeats 1000000 in
theorem step_8 (s : Int) (w : World) : Calls Try.prog 31 #[.int .i64 s, .int .i64 8] w (StepP s 8 w) := by
  by_cases h0 : 0 ≤ s
  · by_cases h9 : s ≤ 9
    · cases hok : tabOk 8 s
      · have H := Lib.hid hok
        have hs : stepErr s 8 = 5 := by simp [stepErr, inTab, h0, h9, hok]
        have HS := Lib.hid hs
        have HH := Lib.hid (And.intro h0 h9)
        clear hok hs
        have kf := fn_nil
        go_enter Try.func31, Try.ntmps31
        go_wp2_with (first | (go_at_call 44; refine (row_8 _).mono ?_; rintro e w1 ⟨rfl, rfl⟩) | (go_at_call 45; refine (known_any _ _).mono ?_; rintro e w1 ⟨rfl, rfl⟩) | (go_at_call 56; refine (bad_no s _ HH.out.1 HH.out.2 H.out).mono ?_; rintro e w1 ⟨A, n, c, y, rfl, hb⟩; obtain ⟨xs, d, rfl⟩ := ext_of hb; clear hb))
        go_ret3
        exact ⟨.slice none 0 0, by rw [HS.out, (tab_out H.out).1]; rfl, by exact bel, by rw [(tab_out H.out).2]; exact own_nil _ _ _ _⟩
      · have H := Lib.hid hok
        have hs : stepErr s 8 = 0 := by simp [stepErr, inTab, h0, h9, hok]
        have HS := Lib.hid hs
        have HH := Lib.hid (And.intro h0 h9)
        clear hok hs
        have kf := fn_nil
        go_enter Try.func31, Try.ntmps31
        go_wp2_with (first | (go_at_call 44; refine (row_8 _).mono ?_; rintro e w1 ⟨rfl, rfl⟩) | (go_at_call 45; refine (known_any _ _).mono ?_; rintro e w1 ⟨rfl, rfl⟩) | (go_at_call 56; refine (bad_yes s _ H.out).mono ?_; rintro e w1 ⟨v, rfl, hb, ho⟩; obtain ⟨xs, d, rfl⟩ := ext_of hb; clear hb; obtain ⟨A, c, rfl, -, -⟩ := ownsRow_form ho; have HA := Lib.hid ho; clear ho))
        go_quiet (fail)
        go_wp2
        go_ret3
        exact ⟨_, by rw [HS.out]; rfl, by exact bel, own_below HA.out (by exact bel)⟩
    · have hn : decide (s ≤ 9) = false := by simpa using h9
      have HS := Lib.hid (show stepErr s 8 = 140 ∧ tabOk 8 s = false from ⟨by simp [stepErr, inTab, h9], tabOk_out (by simp [inTab, h9])⟩)
      clear h9
      go_enter Try.func31, Try.ntmps31
      go_wp2_with (first | (go_at_call 44; refine (row_8 _).mono ?_; rintro e w1 ⟨rfl, rfl⟩) | (go_at_call 45; refine (known_any _ _).mono ?_; rintro e w1 ⟨rfl, rfl⟩))
      go_ret3
      exact ⟨.slice none 0 0, by rw [HS.out.1, (tab_out HS.out.2).1]; rfl, by exact bel, by rw [(tab_out HS.out.2).2]; exact own_nil _ _ _ _⟩
  · have hn : decide (0 ≤ s) = false := by simpa using h0
    have HS := Lib.hid (show stepErr s 8 = 140 ∧ tabOk 8 s = false from ⟨by simp [stepErr, inTab, h0], tabOk_out (by simp [inTab, h0])⟩)
    clear h0
    go_enter Try.func31, Try.ntmps31
    go_wp2_with (first | (go_at_call 44; refine (row_8 _).mono ?_; rintro e w1 ⟨rfl, rfl⟩) | (go_at_call 45; refine (known_any _ _).mono ?_; rintro e w1 ⟨rfl, rfl⟩))
    go_ret3
    exact ⟨.slice none 0 0, by rw [HS.out.1, (tab_out HS.out.2).1]; rfl, by exact bel, by rw [(tab_out HS.out.2).2]; exact own_nil _ _ _ _⟩
end Go.Proofs.Ythidhfkbfoejbaa.Fs
namespace Go.Proofs.Ythidhfkbfoejbaa.Fs
open Go.RowKit
set_option linter.unusedSimpArgs false
set_option linter.unusedVariables false
set_option maxHeartbeats 1000000 in
theorem step_9 (s : Int) (w : World) : Calls Try.prog 31 #[.int .i64 s, .int .i64 9] w (StepP s 9 w) := by
  by_cases h0 : 0 ≤ s
  · by_cases h9 : s ≤ 9
    · cases hok : tabOk 9 s
      · have H := Lib.hid hok
        have hs : stepErr s 9 = 5 := by simp [stepErr, inTab, h0, h9, hok]
        have HS := Lib.hid hs
        have HH := Lib.hid (And.intro h0 h9)
        clear hok hs
        have kf := fn_nil
        go_enter Try.func31, Try.ntmps31
        go_wp2_with (first | (go_at_call 44; refine (row_9 _).mono ?_; rintro e w1 ⟨rfl, rfl⟩) | (go_at_call 45; refine (known_any _ _).mono ?_; rintro e w1 ⟨rfl, rfl⟩) | (go_at_call 57; refine (acked_no s _ HH.out.1 HH.out.2 H.out).mono ?_; rintro e w1 ⟨A, n, c, y, rfl, hb⟩; obtain ⟨xs, d, rfl⟩ := ext_of hb; clear hb))
        go_ret3
        exact ⟨.slice none 0 0, by rw [HS.out, (tab_out H.out).1]; rfl, by exact bel, by rw [(tab_out H.out).2]; exact own_nil _ _ _ _⟩
      · have H := Lib.hid hok
        have hs : stepErr s 9 = 0 := by simp [stepErr, inTab, h0, h9, hok]
        have HS := Lib.hid hs
        have HH := Lib.hid (And.intro h0 h9)
        clear hok hs
        have kf := fn_nil
        go_enter Try.func31, Try.ntmps31
        go_wp2_with (first | (go_at_call 44; refine (row_9 _).mono ?_; rintro e w1 ⟨rfl, rfl⟩) | (go_at_call 45; refine (known_any _ _).mono ?_; rintro e w1 ⟨rfl, rfl⟩) | (go_at_call 57; refine (acked_yes s _ H.out).mono ?_; rintro e w1 ⟨v, rfl, hb, ho⟩; obtain ⟨xs, d, rfl⟩ := ext_of hb; clear hb; obtain ⟨A, c, rfl, -, -⟩ := ownsRow_form ho; have HA := Lib.hid ho; clear ho))
        go_quiet (fail)
        go_wp2
        go_ret3
        exact ⟨_, by rw [HS.out]; rfl, by exact bel, own_below HA.out (by exact bel)⟩
    · have hn : decide (s ≤ 9) = false := by simpa using h9
      have HS := Lib.hid (show stepErr s 9 = 140 ∧ tabOk 9 s = false from ⟨by simp [stepErr, inTab, h9], tabOk_out (by simp [inTab, h9])⟩)
      clear h9
      go_enter Try.func31, Try.ntmps31
      go_wp2_with (first | (go_at_call 44; refine (row_9 _).mono ?_; rintro e w1 ⟨rfl, rfl⟩) | (go_at_call 45; refine (known_any _ _).mono ?_; rintro e w1 ⟨rfl, rfl⟩))
      go_ret3
      exact ⟨.slice none 0 0, by rw [HS.out.1, (tab_out HS.out.2).1]; rfl, by exact bel, by rw [(tab_out HS.out.2).2]; exact own_nil _ _ _ _⟩
  · have hn : decide (0 ≤ s) = false := by simpa using h0
    have HS := Lib.hid (show stepErr s 9 = 140 ∧ tabOk 9 s = false from ⟨by simp [stepErr, inTab, h0], tabOk_out (by simp [inTab, h0])⟩)
    clear h0
    go_enter Try.func31, Try.ntmps31
    go_wp2_with (first | (go_at_call 44; refine (row_9 _).mono ?_; rintro e w1 ⟨rfl, rfl⟩) | (go_at_call 45; refine (known_any _ _).mono ?_; rintro e w1 ⟨rfl, rfl⟩))
    go_ret3
    exact ⟨.slice none 0 0, by rw [HS.out.1, (tab_out HS.out.2).1]; rfl, by exact bel, by rw [(tab_out HS.out.2).2]; exact own_nil _ _ _ _⟩
set_option maxHeartbeats 1000000 in
theorem step_10 (s : Int) (w : World) : Calls Try.prog 31 #[.int .i64 s, .int .i64 10] w (StepP s 10 w) := by
  by_cases h0 : 0 ≤ s
  · by_cases h9 : s ≤ 9
    · cases hok : tabOk 10 s
      · have H := Lib.hid hok
        have hs : stepErr s 10 = 5 := by simp [stepErr, inTab, h0, h9, hok]
        have HS := Lib.hid hs
        have HH := Lib.hid (And.intro h0 h9)
        clear hok hs
        have kf := fn_nil
        go_enter Try.func31, Try.ntmps31
        go_wp2_with (first | (go_at_call 44; refine (row_10 _).mono ?_; rintro e w1 ⟨rfl, rfl⟩) | (go_at_call 45; refine (known_any _ _).mono ?_; rintro e w1 ⟨rfl, rfl⟩) | (go_at_call 58; refine (refused_no s _ HH.out.1 HH.out.2 H.out).mono ?_; rintro e w1 ⟨A, n, c, y, rfl, hb⟩; obtain ⟨xs, d, rfl⟩ := ext_of hb; clear hb))
        go_ret3
        exact ⟨.slice none 0 0, by rw [HS.out, (tab_out H.out).1]; rfl, by exact bel, by rw [(tab_out H.out).2]; exact own_nil _ _ _ _⟩
      · have H := Lib.hid hok
        have hs : stepErr s 10 = 0 := by simp [stepErr, inTab, h0, h9, hok]
        have HS := Lib.hid hs
        have HH := Lib.hid (And.intro h0 h9)
        clear hok hs
        have kf := fn_nil
        go_enter Try.func31, Try.ntmps31
        go_wp2_with (first | (go_at_call 44; refine (row_10 _).mono ?_; rintro e w1 ⟨rfl, rfl⟩) | (go_at_call 45; refine (known_any _ _).mono ?_; rintro e w1 ⟨rfl, rfl⟩) | (go_at_call 58; refine (refused_yes s _ H.out).mono ?_; rintro e w1 ⟨v, rfl, hb, ho⟩; obtain ⟨xs, d, rfl⟩ := ext_of hb; clear hb; obtain ⟨A, c, rfl, -, -⟩ := ownsRow_form ho; have HA := Lib.hid ho; clear ho))
        go_quiet (fail)
        go_wp2
        go_ret3
        exact ⟨_, by rw [HS.out]; rfl, by exact bel, own_below HA.out (by exact bel)⟩
    · have hn : decide (s ≤ 9) = false := by simpa using h9
      have HS := Lib.hid (show stepErr s 10 = 140 ∧ tabOk 10 s = false from ⟨by simp [stepErr, inTab, h9], tabOk_out (by simp [inTab, h9])⟩)
      clear h9
      go_enter Try.func31, Try.ntmps31
      go_wp2_with (first | (go_at_call 44; refine (row_10 _).mono ?_; rintro e w1 ⟨rfl, rfl⟩) | (go_at_call 45; refine (known_any _ _).mono ?_; rintro e w1 ⟨rfl, rfl⟩))
      go_ret3
      exact ⟨.slice none 0 0, by rw [HS.out.1, (tab_out HS.out.2).1]; rfl, by exact bel, by rw [(tab_out HS.out.2).2]; exact own_nil _ _ _ _⟩
  · have hn : decide (0 ≤ s) = false := by simpa using h0
    have HS := Lib.hid (show stepErr s 10 = 140 ∧ tabOk 10 s = false from ⟨by simp [stepErr, inTab, h0], tabOk_out (by simp [inTab, h0])⟩)
    clear h0
    go_enter Try.func31, Try.ntmps31
    go_wp2_with (first | (go_at_call 44; refine (row_10 _).mono ?_; rintro e w1 ⟨rfl, rfl⟩) | (go_at_call 45; refine (known_any _ _).mono ?_; rintro e w1 ⟨rfl, rfl⟩))
    go_ret3
    exact ⟨.slice none 0 0, by rw [HS.out.1, (tab_out HS.out.2).1]; rfl, by exact bel, by rw [(tab_out HS.out.2).2]; exact own_nil _ _ _ _⟩
set_option maxHeartbeats 1000000 in
theorem step_11 (s : Int) (w : World) : Calls Try.prog 31 #[.int .i64 s, .int .i64 11] w (StepP s 11 w) := by
  by_cases h0 : 0 ≤ s
  · by_cases h9 : s ≤ 9
    · cases hok : tabOk 11 s
      · have H := Lib.hid hok
        have hs : stepErr s 11 = 5 := by simp [stepErr, inTab, h0, h9, hok]
        have HS := Lib.hid hs
        have HH := Lib.hid (And.intro h0 h9)
        clear hok hs
        have kf := fn_nil
        go_enter Try.func31, Try.ntmps31
        go_wp2_with (first | (go_at_call 44; refine (row_11 _).mono ?_; rintro e w1 ⟨rfl, rfl⟩) | (go_at_call 45; refine (known_any _ _).mono ?_; rintro e w1 ⟨rfl, rfl⟩) | (go_at_call 59; refine (ended_no s _ HH.out.1 HH.out.2 H.out).mono ?_; rintro e w1 ⟨A, n, c, y, rfl, hb⟩; obtain ⟨xs, d, rfl⟩ := ext_of hb; clear hb))
        go_ret3
        exact ⟨.slice none 0 0, by rw [HS.out, (tab_out H.out).1]; rfl, by exact bel, by rw [(tab_out H.out).2]; exact own_nil _ _ _ _⟩
      · have H := Lib.hid hok
        have hs : stepErr s 11 = 0 := by simp [stepErr, inTab, h0, h9, hok]
        have HS := Lib.hid hs
        have HH := Lib.hid (And.intro h0 h9)
        clear hok hs
        have kf := fn_nil
        go_enter Try.func31, Try.ntmps31
        go_wp2_with (first | (go_at_call 44; refine (row_11 _).mono ?_; rintro e w1 ⟨rfl, rfl⟩) | (go_at_call 45; refine (known_any _ _).mono ?_; rintro e w1 ⟨rfl, rfl⟩) | (go_at_call 59; refine (ended_yes s _ H.out).mono ?_; rintro e w1 ⟨v, rfl, hb, ho⟩; obtain ⟨xs, d, rfl⟩ := ext_of hb; clear hb; obtain ⟨A, c, rfl, -, -⟩ := ownsRow_form ho; have HA := Lib.hid ho; clear ho))
        go_quiet (fail)
        go_wp2
        go_ret3
        exact ⟨_, by rw [HS.out]; rfl, by exact bel, own_below HA.out (by exact bel)⟩
    · have hn : decide (s ≤ 9) = false := by simpa using h9
      have HS := Lib.hid (show stepErr s 11 = 140 ∧ tabOk 11 s = false from ⟨by simp [stepErr, inTab, h9], tabOk_out (by simp [inTab, h9])⟩)
      clear h9
      go_enter Try.func31, Try.ntmps31
      go_wp2_with (first | (go_at_call 44; refine (row_11 _).mono ?_; rintro e w1 ⟨rfl, rfl⟩) | (go_at_call 45; refine (known_any _ _).mono ?_; rintro e w1 ⟨rfl, rfl⟩))
      go_ret3
      exact ⟨.slice none 0 0, by rw [HS.out.1, (tab_out HS.out.2).1]; rfl, by exact bel, by rw [(tab_out HS.out.2).2]; exact own_nil _ _ _ _⟩
  · have hn : decide (0 ≤ s) = false := by simpa using h0
    have HS := Lib.hid (show stepErr s 11 = 140 ∧ tabOk 11 s = false from ⟨by simp [stepErr, inTab, h0], tabOk_out (by simp [inTab, h0])⟩)
    clear h0
    go_enter Try.func31, Try.ntmps31
    go_wp2_with (first | (go_at_call 44; refine (row_11 _).mono ?_; rintro e w1 ⟨rfl, rfl⟩) | (go_at_call 45; refine (known_any _ _).mono ?_; rintro e w1 ⟨rfl, rfl⟩))
    go_ret3
    exact ⟨.slice none 0 0, by rw [HS.out.1, (tab_out HS.out.2).1]; rfl, by exact bel, by rw [(tab_out HS.out.2).2]; exact own_nil _ _ _ _⟩
set_option maxHeartbeats 1000000 in
theorem step_12 (s : Int) (w : World) : Calls Try.prog 31 #[.int .i64 s, .int .i64 12] w (StepP s 12 w) := by
  by_cases h0 : 0 ≤ s
  · by_cases h9 : s ≤ 9
    · cases hok : tabOk 12 s
      · have H := Lib.hid hok
        have hs : stepErr s 12 = 5 := by simp [stepErr, inTab, h0, h9, hok]
        have HS := Lib.hid hs
        have HH := Lib.hid (And.intro h0 h9)
        clear hok hs
        have kf := fn_nil
        go_enter Try.func31, Try.ntmps31
        go_wp2_with (first | (go_at_call 44; refine (row_12 _).mono ?_; rintro e w1 ⟨rfl, rfl⟩) | (go_at_call 45; refine (known_any _ _).mono ?_; rintro e w1 ⟨rfl, rfl⟩) | (go_at_call 60; refine (over_no s _ HH.out.1 HH.out.2 H.out).mono ?_; rintro e w1 ⟨A, n, c, y, rfl, hb⟩; obtain ⟨xs, d, rfl⟩ := ext_of hb; clear hb))
        go_ret3
        exact ⟨.slice none 0 0, by rw [HS.out, (tab_out H.out).1]; rfl, by exact bel, by rw [(tab_out H.out).2]; exact own_nil _ _ _ _⟩
      · have H := Lib.hid hok
        have hs : stepErr s 12 = 0 := by simp [stepErr, inTab, h0, h9, hok]
        have HS := Lib.hid hs
        have HH := Lib.hid (And.intro h0 h9)
        clear hok hs
        have kf := fn_nil
        go_enter Try.func31, Try.ntmps31
        go_wp2_with (first | (go_at_call 44; refine (row_12 _).mono ?_; rintro e w1 ⟨rfl, rfl⟩) | (go_at_call 45; refine (known_any _ _).mono ?_; rintro e w1 ⟨rfl, rfl⟩) | (go_at_call 60; refine (over_yes s _ H.out).mono ?_; rintro e w1 ⟨v, rfl, hb, ho⟩; obtain ⟨xs, d, rfl⟩ := ext_of hb; clear hb; obtain ⟨A, c, rfl, -, -⟩ := ownsRow_form ho; have HA := Lib.hid ho; clear ho))
        go_quiet (fail)
        go_wp2
        go_ret3
        exact ⟨_, by rw [HS.out]; rfl, by exact bel, own_below HA.out (by exact bel)⟩
    · have hn : decide (s ≤ 9) = false := by simpa using h9
      have HS := Lib.hid (show stepErr s 12 = 140 ∧ tabOk 12 s = false from ⟨by simp [stepErr, inTab, h9], tabOk_out (by simp [inTab, h9])⟩)
      clear h9
      go_enter Try.func31, Try.ntmps31
      go_wp2_with (first | (go_at_call 44; refine (row_12 _).mono ?_; rintro e w1 ⟨rfl, rfl⟩) | (go_at_call 45; refine (known_any _ _).mono ?_; rintro e w1 ⟨rfl, rfl⟩))
      go_ret3
      exact ⟨.slice none 0 0, by rw [HS.out.1, (tab_out HS.out.2).1]; rfl, by exact bel, by rw [(tab_out HS.out.2).2]; exact own_nil _ _ _ _⟩
  · have hn : decide (0 ≤ s) = false := by simpa using h0
    have HS := Lib.hid (show stepErr s 12 = 140 ∧ tabOk 12 s = false from ⟨by simp [stepErr, inTab, h0], tabOk_out (by simp [inTab, h0])⟩)
    clear h0
    go_enter Try.func31, Try.ntmps31
    go_wp2_with (first | (go_at_call 44; refine (row_12 _).mono ?_; rintro e w1 ⟨rfl, rfl⟩) | (go_at_call 45; refine (known_any _ _).mono ?_; rintro e w1 ⟨rfl, rfl⟩))
    go_ret3
    exact ⟨.slice none 0 0, by rw [HS.out.1, (tab_out HS.out.2).1]; rfl, by exact bel, by rw [(tab_out HS.out.2).2]; exact own_nil _ _ _ _⟩
set_option maxHeartbeats 1000000 in
theorem step_13 (s : Int) (w : World) : Calls Try.prog 31 #[.int .i64 s, .int .i64 13] w (StepP s 13 w) := by
  by_cases h0 : 0 ≤ s
  · by_cases h9 : s ≤ 9
    · cases hok : tabOk 13 s
      · have H := Lib.hid hok
        have hs : stepErr s 13 = 5 := by simp [stepErr, inTab, h0, h9, hok]
        have HS := Lib.hid hs
        have HH := Lib.hid (And.intro h0 h9)
        clear hok hs
        have kf := fn_nil
        go_enter Try.func31, Try.ntmps31
        go_wp2_with (first | (go_at_call 44; refine (row_13 _).mono ?_; rintro e w1 ⟨rfl, rfl⟩) | (go_at_call 45; refine (known_any _ _).mono ?_; rintro e w1 ⟨rfl, rfl⟩) | (go_at_call 61; refine (strange_no s _ HH.out.1 HH.out.2 H.out).mono ?_; rintro e w1 ⟨A, n, c, y, rfl, hb⟩; obtain ⟨xs, d, rfl⟩ := ext_of hb; clear hb))
        go_ret3
        exact ⟨.slice none 0 0, by rw [HS.out, (tab_out H.out).1]; rfl, by exact bel, by rw [(tab_out H.out).2]; exact own_nil _ _ _ _⟩
      · have H := Lib.hid hok
        have hs : stepErr s 13 = 0 := by simp [stepErr, inTab, h0, h9, hok]
        have HS := Lib.hid hs
        have HH := Lib.hid (And.intro h0 h9)
        clear hok hs
        have kf := fn_nil
        go_enter Try.func31, Try.ntmps31
        go_wp2_with (first | (go_at_call 44; refine (row_13 _).mono ?_; rintro e w1 ⟨rfl, rfl⟩) | (go_at_call 45; refine (known_any _ _).mono ?_; rintro e w1 ⟨rfl, rfl⟩) | (go_at_call 61; refine (strange_yes s _ H.out).mono ?_; rintro e w1 ⟨v, rfl, hb, ho⟩; obtain ⟨xs, d, rfl⟩ := ext_of hb; clear hb; obtain ⟨A, c, rfl, -, -⟩ := ownsRow_form ho; have HA := Lib.hid ho; clear ho))
        go_quiet (fail)
        go_wp2
        go_ret3
        exact ⟨_, by rw [HS.out]; rfl, by exact bel, own_below HA.out (by exact bel)⟩
    · have hn : decide (s ≤ 9) = false := by simpa using h9
      have HS := Lib.hid (show stepErr s 13 = 140 ∧ tabOk 13 s = false from ⟨by simp [stepErr, inTab, h9], tabOk_out (by simp [inTab, h9])⟩)
      clear h9
      go_enter Try.func31, Try.ntmps31
      go_wp2_with (first | (go_at_call 44; refine (row_13 _).mono ?_; rintro e w1 ⟨rfl, rfl⟩) | (go_at_call 45; refine (known_any _ _).mono ?_; rintro e w1 ⟨rfl, rfl⟩))
      go_ret3
      exact ⟨.slice none 0 0, by rw [HS.out.1, (tab_out HS.out.2).1]; rfl, by exact bel, by rw [(tab_out HS.out.2).2]; exact own_nil _ _ _ _⟩
  · have hn : decide (0 ≤ s) = false := by simpa using h0
    have HS := Lib.hid (show stepErr s 13 = 140 ∧ tabOk 13 s = false from ⟨by simp [stepErr, inTab, h0], tabOk_out (by simp [inTab, h0])⟩)
    clear h0
    go_enter Try.func31, Try.ntmps31
    go_wp2_with (first | (go_at_call 44; refine (row_13 _).mono ?_; rintro e w1 ⟨rfl, rfl⟩) | (go_at_call 45; refine (known_any _ _).mono ?_; rintro e w1 ⟨rfl, rfl⟩))
    go_ret3
    exact ⟨.slice none 0 0, by rw [HS.out.1, (tab_out HS.out.2).1]; rfl, by exact bel, by rw [(tab_out HS.out.2).2]; exact own_nil _ _ _ _⟩
set_option maxHeartbeats 1000000 in
theorem step_14 (s : Int) (w : World) : Calls Try.prog 31 #[.int .i64 s, .int .i64 14] w (StepP s 14 w) := by
  by_cases h0 : 0 ≤ s
  · by_cases h9 : s ≤ 9
    · cases hok : tabOk 14 s
      · have H := Lib.hid hok
        have hs : stepErr s 14 = 5 := by simp [stepErr, inTab, h0, h9, hok]
        have HS := Lib.hid hs
        have HH := Lib.hid (And.intro h0 h9)
        clear hok hs
        have kf := fn_nil
        go_enter Try.func31, Try.ntmps31
        go_wp2_with (first | (go_at_call 44; refine (row_14 _).mono ?_; rintro e w1 ⟨rfl, rfl⟩) | (go_at_call 45; refine (known_any _ _).mono ?_; rintro e w1 ⟨rfl, rfl⟩) | (go_at_call 62; refine (minor_no s _ HH.out.1 HH.out.2 H.out).mono ?_; rintro e w1 ⟨A, n, c, y, rfl, hb⟩; obtain ⟨xs, d, rfl⟩ := ext_of hb; clear hb))
        go_ret3
        exact ⟨.slice none 0 0, by rw [HS.out, (tab_out H.out).1]; rfl, by exact bel, by rw [(tab_out H.out).2]; exact own_nil _ _ _ _⟩
      · have H := Lib.hid hok
        have hs : stepErr s 14 = 0 := by simp [stepErr, inTab, h0, h9, hok]
        have HS := Lib.hid hs
        have HH := Lib.hid (And.intro h0 h9)
        clear hok hs
        have kf := fn_nil
        go_enter Try.func31, Try.ntmps31
        go_wp2_with (first | (go_at_call 44; refine (row_14 _).mono ?_; rintro e w1 ⟨rfl, rfl⟩) | (go_at_call 45; refine (known_any _ _).mono ?_; rintro e w1 ⟨rfl, rfl⟩) | (go_at_call 62; refine (minor_yes s _ H.out).mono ?_; rintro e w1 ⟨v, rfl, hb, ho⟩; obtain ⟨xs, d, rfl⟩ := ext_of hb; clear hb; obtain ⟨A, c, rfl, -, -⟩ := ownsRow_form ho; have HA := Lib.hid ho; clear ho))
        go_quiet (fail)
        go_wp2
        go_ret3
        exact ⟨_, by rw [HS.out]; rfl, by exact bel, own_below HA.out (by exact bel)⟩
    · have hn : decide (s ≤ 9) = false := by simpa using h9
      have HS := Lib.hid (show stepErr s 14 = 140 ∧ tabOk 14 s = false from ⟨by simp [stepErr, inTab, h9], tabOk_out (by simp [inTab, h9])⟩)
      clear h9
      go_enter Try.func31, Try.ntmps31
      go_wp2_with (first | (go_at_call 44; refine (row_14 _).mono ?_; rintro e w1 ⟨rfl, rfl⟩) | (go_at_call 45; refine (known_any _ _).mono ?_; rintro e w1 ⟨rfl, rfl⟩))
      go_ret3
      exact ⟨.slice none 0 0, by rw [HS.out.1, (tab_out HS.out.2).1]; rfl, by exact bel, by rw [(tab_out HS.out.2).2]; exact own_nil _ _ _ _⟩
  · have hn : decide (0 ≤ s) = false := by simpa using h0
    have HS := Lib.hid (show stepErr s 14 = 140 ∧ tabOk 14 s = false from ⟨by simp [stepErr, inTab, h0], tabOk_out (by simp [inTab, h0])⟩)
    clear h0
    go_enter Try.func31, Try.ntmps31
    go_wp2_with (first | (go_at_call 44; refine (row_14 _).mono ?_; rintro e w1 ⟨rfl, rfl⟩) | (go_at_call 45; refine (known_any _ _).mono ?_; rintro e w1 ⟨rfl, rfl⟩))
    go_ret3
    exact ⟨.slice none 0 0, by rw [HS.out.1, (tab_out HS.out.2).1]; rfl, by exact bel, by rw [(tab_out HS.out.2).2]; exact own_nil _ _ _ _⟩
set_option maxHeartbeats 1000000 in
theorem step_15 (s : Int) (w : World) : Calls Try.prog 31 #[.int .i64 s, .int .i64 15] w (StepP s 15 w) := by
  by_cases h0 : 0 ≤ s
  · by_cases h9 : s ≤ 9
    · cases hok : tabOk 15 s
      · have H := Lib.hid hok
        have hs : stepErr s 15 = 5 := by simp [stepErr, inTab, h0, h9, hok]
        have HS := Lib.hid hs
        have HH := Lib.hid (And.intro h0 h9)
        clear hok hs
        have kf := fn_nil
        go_enter Try.func31, Try.ntmps31
        go_wp2_with (first | (go_at_call 44; refine (row_15 _).mono ?_; rintro e w1 ⟨rfl, rfl⟩) | (go_at_call 45; refine (known_any _ _).mono ?_; rintro e w1 ⟨rfl, rfl⟩) | (go_at_call 63; refine (major_no s _ HH.out.1 HH.out.2 H.out).mono ?_; rintro e w1 ⟨A, n, c, y, rfl, hb⟩; obtain ⟨xs, d, rfl⟩ := ext_of hb; clear hb))
        go_ret3
        exact ⟨.slice none 0 0, by rw [HS.out, (tab_out H.out).1]; rfl, by exact bel, by rw [(tab_out H.out).2]; exact own_nil _ _ _ _⟩
      · have H := Lib.hid hok
        have hs : stepErr s 15 = 0 := by simp [stepErr, inTab, h0, h9, hok]
        have HS := Lib.hid hs
        have HH := Lib.hid (And.intro h0 h9)
        clear hok hs
        have kf := fn_nil
        go_enter Try.func31, Try.ntmps31
        go_wp2_with (first | (go_at_call 44; refine (row_15 _).mono ?_; rintro e w1 ⟨rfl, rfl⟩) | (go_at_call 45; refine (known_any _ _).mono ?_; rintro e w1 ⟨rfl, rfl⟩) | (go_at_call 63; refine (major_yes s _ H.out).mono ?_; rintro e w1 ⟨v, rfl, hb, ho⟩; obtain ⟨xs, d, rfl⟩ := ext_of hb; clear hb; obtain ⟨A, c, rfl, -, -⟩ := ownsRow_form ho; have HA := Lib.hid ho; clear ho))
        go_quiet (fail)
        go_wp2
        go_ret3
        exact ⟨_, by rw [HS.out]; rfl, by exact bel, own_below HA.out (by exact bel)⟩
    · have hn : decide (s ≤ 9) = false := by simpa using h9
      have HS := Lib.hid (show stepErr s 15 = 140 ∧ tabOk 15 s = false from ⟨by simp [stepErr, inTab, h9], tabOk_out (by simp [inTab, h9])⟩)
      clear h9
      go_enter Try.func31, Try.ntmps31
      go_wp2_with (first | (go_at_call 44; refine (row_15 _).mono ?_; rintro e w1 ⟨rfl, rfl⟩) | (go_at_call 45; refine (known_any _ _).mono ?_; rintro e w1 ⟨rfl, rfl⟩))
      go_ret3
      exact ⟨.slice none 0 0, by rw [HS.out.1, (tab_out HS.out.2).1]; rfl, by exact bel, by rw [(tab_out HS.out.2).2]; exact own_nil _ _ _ _⟩
  · have hn : decide (0 ≤ s) = false := by simpa using h0
    have HS := Lib.hid (show stepErr s 15 = 140 ∧ tabOk 15 s = false from ⟨by simp [stepErr, inTab, h0], tabOk_out (by simp [inTab, h0])⟩)
    clear h0
    go_enter Try.func31, Try.ntmps31
    go_wp2_with (first | (go_at_call 44; refine (row_15 _).mono ?_; rintro e w1 ⟨rfl, rfl⟩) | (go_at_call 45; refine (known_any _ _).mono ?_; rintro e w1 ⟨rfl, rfl⟩))
    go_ret3
    exact ⟨.slice none 0 0, by rw [HS.out.1, (tab_out HS.out.2).1]; rfl, by exact bel, by rw [(tab_out HS.out.2).2]; exact own_nil _ _ _ _⟩
set_option maxHeartbeats 1000000 in
theorem step_16 (s : Int) (w : World) : Calls Try.prog 31 #[.int .i64 s, .int .i64 16] w (StepP s 16 w) := by
  by_cases h0 : 0 ≤ s
  · by_cases h9 : s ≤ 9
    · cases hok : tabOk 16 s
      · have H := Lib.hid hok
        have hs : stepErr s 16 = 5 := by simp [stepErr, inTab, h0, h9, hok]
        have HS := Lib.hid hs
        have HH := Lib.hid (And.intro h0 h9)
        clear hok hs
        have kf := fn_nil
        go_enter Try.func31, Try.ntmps31
        go_wp2_with (first | (go_at_call 44; refine (row_16 _).mono ?_; rintro e w1 ⟨rfl, rfl⟩) | (go_at_call 45; refine (known_any _ _).mono ?_; rintro e w1 ⟨rfl, rfl⟩) | (go_at_call 64; refine (echo_no s _ HH.out.1 HH.out.2 H.out).mono ?_; rintro e w1 ⟨A, n, c, y, rfl, hb⟩; obtain ⟨xs, d, rfl⟩ := ext_of hb; clear hb))
        go_ret3
        exact ⟨.slice none 0 0, by rw [HS.out, (tab_out H.out).1]; rfl, by exact bel, by rw [(tab_out H.out).2]; exact own_nil _ _ _ _⟩
      · have H := Lib.hid hok
        have hs : stepErr s 16 = 0 := by simp [stepErr, inTab, h0, h9, hok]
        have HS := Lib.hid hs
        have HH := Lib.hid (And.intro h0 h9)
        clear hok hs
        have kf := fn_nil
        go_enter Try.func31, Try.ntmps31
        go_wp2_with (first | (go_at_call 44; refine (row_16 _).mono ?_; rintro e w1 ⟨rfl, rfl⟩) | (go_at_call 45; refine (known_any _ _).mono ?_; rintro e w1 ⟨rfl, rfl⟩) | (go_at_call 64; refine (echo_yes s _ H.out).mono ?_; rintro e w1 ⟨v, rfl, hb, ho⟩; obtain ⟨xs, d, rfl⟩ := ext_of hb; clear hb; obtain ⟨A, c, rfl, -, -⟩ := ownsRow_form ho; have HA := Lib.hid ho; clear ho))
        go_quiet (fail)
        go_wp2
        go_ret3
        exact ⟨_, by rw [HS.out]; rfl, by exact bel, own_below HA.out (by exact bel)⟩
    · have hn : decide (s ≤ 9) = false := by simpa using h9
      have HS := Lib.hid (show stepErr s 16 = 140 ∧ tabOk 16 s = false from ⟨by simp [stepErr, inTab, h9], tabOk_out (by simp [inTab, h9])⟩)
      clear h9
      go_enter Try.func31, Try.ntmps31
      go_wp2_with (first | (go_at_call 44; refine (row_16 _).mono ?_; rintro e w1 ⟨rfl, rfl⟩) | (go_at_call 45; refine (known_any _ _).mono ?_; rintro e w1 ⟨rfl, rfl⟩))
      go_ret3
      exact ⟨.slice none 0 0, by rw [HS.out.1, (tab_out HS.out.2).1]; rfl, by exact bel, by rw [(tab_out HS.out.2).2]; exact own_nil _ _ _ _⟩
  · have hn : decide (0 ≤ s) = false := by simpa using h0
    have HS := Lib.hid (show stepErr s 16 = 140 ∧ tabOk 16 s = false from ⟨by simp [stepErr, inTab, h0], tabOk_out (by simp [inTab, h0])⟩)
    clear h0
    go_enter Try.func31, Try.ntmps31
    go_wp2_with (first | (go_at_call 44; refine (row_16 _).mono ?_; rintro e w1 ⟨rfl, rfl⟩) | (go_at_call 45; refine (known_any _ _).mono ?_; rintro e w1 ⟨rfl, rfl⟩))
    go_ret3
    exact ⟨.slice none 0 0, by rw [HS.out.1, (tab_out HS.out.2).1]; rfl, by exact bel, by rw [(tab_out HS.out.2).2]; exact own_nil _ _ _ _⟩
end Go.Proofs.Ythidhfkbfoejbaa.Fs
namespace Go.Proofs.Ythidhfkbfoejbaa.Fs
open Go.RowKit
set_option linter.unusedSimpArgs false
set_option linter.unusedVariables false
theorem row_out (e : Int) (w : World) (h : e < 1 ∨ 16 < e) : Calls Try.prog 44 #[.int .i64 e] w fun x w' => x = .returned .nilFunc ∧ w = w' := by
  have k1 : (e == 1) = false := by simp; omega
  have k2 : (e == 2) = false := by simp; omega
  have k3 : (e == 3) = false := by simp; omega
  have k4 : (e == 4) = false := by simp; omega
  have k5 : (e == 5) = false := by simp; omega
  have k6 : (e == 6) = false := by simp; omega
  have k7 : (e == 7) = false := by simp; omega
  have k8 : (e == 8) = false := by simp; omega
  have k9 : (e == 9) = false := by simp; omega
  have k10 : (e == 10) = false := by simp; omega
  have k11 : (e == 11) = false := by simp; omega
  have k12 : (e == 12) = false := by simp; omega
  have k13 : (e == 13) = false := by simp; omega
  have k14 : (e == 14) = false := by simp; omega
  have k15 : (e == 15) = false := by simp; omega
  have k16 : (e == 16) = false := by simp; omega
  clear h
  go_enter Try.func44, Try.ntmps44
  go_wp2
  go_ret
  exact ⟨rfl, rfl⟩
set_option maxHeartbeats 1000000 in
theorem step_out (s e : Int) (w : World) (h : e < 1 ∨ 16 < e) : Calls Try.prog 31 #[.int .i64 s, .int .i64 e] w (StepP s e w) := by
  have HS := Lib.hid (show stepErr s e = 140 ∧ tabOk e s = false from ⟨by simp [stepErr, inTab]; intros; omega, tabOk_out (by simp [inTab]; omega)⟩)
  have HE := Lib.hid h
  clear h
  have kf := nil_nil
  cases hk : (decide (0 ≤ s) && decide (s ≤ 9))
  all_goals
    go_enter Try.func31, Try.ntmps31
    go_wp2_with (first | (go_at_call 44; refine (row_out e _ HE.out).mono ?_; rintro e w1 ⟨rfl, rfl⟩) | (go_at_call 45; refine (known_any _ _).mono ?_; rintro e w1 ⟨rfl, rfl⟩))
    go_ret3
    exact ⟨.slice none 0 0, by rw [HS.out.1, (tab_out HS.out.2).1]; rfl, by exact bel, by rw [(tab_out HS.out.2).2]; exact own_nil _ _ _ _⟩
theorem step_any (s e : Int) (w : World) : Calls Try.prog 31 #[.int .i64 s, .int .i64 e] w (StepP s e w) := by
  by_cases h : 1 ≤ e ∧ e ≤ 16
  · rcases sixteen h.1 h.2 with rfl | rfl | rfl | rfl | rfl | rfl | rfl | rfl | rfl | rfl | rfl | rfl | rfl | rfl | rfl | rfl
    · exact step_1 s w
    · exact step_2 s w
    · exact step_3 s w
    · exact step_4 s w
    · exact step_5 s w
    · exact step_6 s w
    · exact step_7 s w
    · exact step_8 s w
    · exact step_9 s w
    · exact step_10 s w
    · exact step_11 s w
    · exact step_12 s w
    · exact step_13 s w
    · exact step_14 s w
    · exact step_15 s w
    · exact step_16 s w
  · exact step_out s e w (by omega)

end Go.Proofs.Ythidhfkbfoejbaa.Fs
namespace Go.Proofs.Ythidhfkbfoejbaa.Fs
open Go.RowKit
set_option linter.unusedSimpArgs false
set_option linter.unusedVariables false
/-- A cell of what stands at an address. -/
theorem _root_.Go.Proofs.Ythidhfkbfoejbaa.At.cellAt {w : World} {B : Nat} {A : Option Addr} {l : List Int} (h : At w B A (l.map av)) {k : Nat} (hk : k < l.length) : ∃ b o, A = some ⟨b, o, none⟩ ∧ b < B := by
  obtain ⟨b, o, e, hb, _⟩ := h.get (by simp; omega)
  exact ⟨b, o, e, hb⟩
theorem _root_.Go.Proofs.Ythidhfkbfoejbaa.At.readAt {w : World} {B : Nat} {b o : Nat} {l : List Int} (h : At w B (some ⟨b, o, none⟩) (l.map av)) {k : Nat} (hk : k < l.length) : ∃ x, l.getD k 0 = x ∧ w.cell? ⟨b, o + k, none⟩ = some (.int .i64 x) := by
  refine ⟨_, rfl, ?_⟩
  obtain ⟨b', o', e, hb, hc⟩ := h.get (by simp; omega)
  cases e
  exact hc k _ (by rw [List.getElem?_map, List.getElem?_eq_getElem hk]; simp [List.getD_eq_getElem?_getD, List.getElem?_eq_getElem hk]; rfl)
def hasB (l : List Int) (a : Int) : Bool := l.contains a
theorem hasB_take {l : List Int} {k : Nat} {a : Int} (hk : k < l.length) (h : hasB (l.take k) a = false) (hne : (l.getD k 0 == a) = false) : hasB (l.take (k + 1)) a = false := by
  unfold hasB at *
  rw [List.take_succ_eq_append_getElem hk]
  have e : l.getD k 0 = l[k] := by simp [List.getD_eq_getElem?_getD, List.getElem?_eq_getElem hk]
  rw [e] at hne
  simp only [List.contains_eq_mem, List.mem_append, decide_eq_false_iff_not, not_or] at *
  refine ⟨h, ?_⟩
  simp only [List.mem_singleton]
  intro c
  rw [c] at hne; simp at hne
theorem hasB_at {l : List Int} {k : Nat} {a : Int} (hk : k < l.length) (he : (l.getD k 0 == a) = true) : hasB l a = true := by
  have e : l.getD k 0 = l[k] := by simp [List.getD_eq_getElem?_getD, List.getElem?_eq_getElem hk]
  rw [e] at he
  have : l[k] = a := by simpa using he
  unfold hasB
  rw [← this]; simp
end Go.Proofs.Ythidhfkbfoejbaa.Fs
namespace Go.Proofs.Ythidhfkbfoejbaa.Fs
open Go.RowKit
set_option linter.unusedSimpArgs false
set_option linter.unusedVariables false
theorem tabActs_le (e s : Int) : (tabActs e s).length ≤ 3 := by
  by_cases h : 1 ≤ e ∧ e ≤ 16 ∧ 0 ≤ s ∧ s ≤ 9
  · obtain ⟨h1, h2, h3, h4⟩ := h
    rcases sixteen h1 h2 with rfl | rfl | rfl | rfl | rfl | rfl | rfl | rfl | rfl | rfl | rfl | rfl | rfl | rfl | rfl | rfl <;> rcases ten h3 h4 with rfl | rfl | rfl | rfl | rfl | rfl | rfl | rfl | rfl | rfl <;> decide
  · have : tabC e s = none := by unfold tabC; rw [if_neg h]
    simp [tabActs, this]
theorem av_all (l : List Int) : ∀ u ∈ l.map av, u.oneCell' = true := by
  intro u hu
  obtain ⟨x, _, rfl⟩ := List.mem_map.1 hu
  rfl
end Go.Proofs.Ythidhfkbfoejbaa.Fs
namespace Go.Proofs.Ythidhfkbfoejbaa.Fs
open Go.RowKit
set_option linter.unusedSimpArgs false
set_option linter.unusedVariables false
def timedB (s : Int) : Bool := decide (4 ≤ s) && decide (s ≤ 8)
set_option maxHeartbeats 4000000 in
theorem timed_any (s : Int) (w : World) : Calls Try.prog 33 #[.int .i64 s] w fun e w' => e = .returned (.bool (timedB s)) ∧ w = w' := by
  by_cases h : 6 ≤ s ∧ s ≤ 8
  · have HT := Lib.hid (show timedB s = true by simp [timedB]; omega)
    have hk : (decide (6 ≤ s) && decide (s ≤ 8)) = true := by simp; omega
    clear h
    go_enter Try.func33, Try.ntmps33
    go_wp2_with (go_at_call 47; refine (asks_any _ _).mono ?_; rw [hk]; rintro e w1 ⟨rfl, rfl⟩)
    go_ret
    exact ⟨by rw [HT.out]; rfl, rfl⟩
  · have hk : (decide (6 ≤ s) && decide (s ≤ 8)) = false := by simp; omega
    by_cases h4 : s = 4
    · subst h4
      go_enter Try.func33, Try.ntmps33
      go_wp2_with (go_at_call 47; refine (asks_any _ _).mono ?_; rw [hk]; rintro e w1 ⟨rfl, rfl⟩)
      go_ret
      exact ⟨rfl, rfl⟩
    · by_cases h5 : s = 5
      · subst h5
        go_enter Try.func33, Try.ntmps33
        go_wp2_with (go_at_call 47; refine (asks_any _ _).mono ?_; rw [hk]; rintro e w1 ⟨rfl, rfl⟩)
        go_ret
        exact ⟨rfl, rfl⟩
      · have HT := Lib.hid (show timedB s = false by simp [timedB]; omega)
        have k4 : (s == 4) = false := by simpa using h4
        have k5 : (s == 5) = false := by simpa using h5
        clear h h4 h5
        go_enter Try.func33, Try.ntmps33
        go_wp2_with (go_at_call 47; refine (asks_any _ _).mono ?_; rw [hk]; rintro e w1 ⟨rfl, rfl⟩)
        go_ret
        exact ⟨by rw [HT.out]; rfl, rfl⟩
theorem timed_r (s : Int) (w : World) : Calls Try.prog 10 #[.int .i64 s] w fun e w' => e = .returned (.bool (timedB s)) ∧ w = w' := timed_ref s w
end Go.Proofs.Ythidhfkbfoejbaa.Fs
namespace Go.Proofs.Ythidhfkbfoejbaa.Fs
open Go.RowKit
set_option linter.unusedSimpArgs false
set_option linter.unusedVariables false
theorem err_none (s e : Int) (h : stepErr s e ≠ 0) : tabActs e s = [] := by
  apply (tab_out _).2
  unfold stepErr at h
  split at h
  · split at h
    · omega
    · rename_i h2; simpa using h2
  · rename_i h2; exact tabOk_out (by simpa using h2)
/-- What the table says of where it rests, and of what is asked. -/
theorem fins (s e : Int) (h : stepErr s e = 0) : (0 ≤ tabNext e s ∧ tabNext e s ≤ 9) ∧ (hasB (tabActs e s) 4 = true → tabNext e s = 0 ∨ tabNext e s = 2 ∨ tabNext e s = 3) ∧ (hasB (tabActs e s) 7 = true → tabNext e s = 6 ∨ tabNext e s = 7 ∨ tabNext e s = 8) ∧ (hasB (tabActs e s) 10 = true → tabNext e s = 4 ∨ tabNext e s = 5) := by
  unfold stepErr at h
  split at h
  · rename_i hi
    simp only [inTab, decide_eq_true_eq] at hi
    obtain ⟨h1, h2, h3, h4⟩ := hi
    revert h
    rcases sixteen h1 h2 with rfl | rfl | rfl | rfl | rfl | rfl | rfl | rfl | rfl | rfl | rfl | rfl | rfl | rfl | rfl | rfl <;> rcases ten h3 h4 with rfl | rfl | rfl | rfl | rfl | rfl | rfl | rfl | rfl | rfl <;> decide
  · omega
end Go.Proofs.Ythidhfkbfoejbaa.Fs
