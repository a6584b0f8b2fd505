/- Step, at some events. -/
import Derived.Test.YtffkkeedmgaoiaaG3a
namespace Go.Proofs.Ytffkkeedmgaoiaa
open Go.RowKit
set_option linter.unusedSimpArgs false
set_option linter.unusedVariables false
set_option maxHeartbeats 1000000 in
theorem step_2 (s : Int) (w : World) : Calls Try.prog 11 #[.int .i64 s, .int .i64 2] w (StepP s 2 w) := by
  by_cases h0 : 0 ≤ s
  · by_cases h9 : s ≤ 9
    · cases hok : tabOk 2 s
      · have H := Lib.hid hok
        have hs : stepErr s 2 = 5 := by simp [stepErr, inTab, h0, h9, hok]
        have HS := Lib.hid hs
        have HH := Lib.hid (And.intro h0 h9)
        clear hok hs
        have kf := fn_nil
        go_enter Try.func11, Try.ntmps11
        go_wp2_with (first | (go_at_call 28; refine (row_2 _).mono ?_; rintro e w1 ⟨rfl, rfl⟩) | (go_at_call 29; refine (known_any _ _).mono ?_; rintro e w1 ⟨rfl, rfl⟩) | (go_at_call 38; refine (down_no s _ HH.out.1 HH.out.2 H.out).mono ?_; rintro e w1 ⟨A, n, c, y, rfl, hb⟩; obtain ⟨xs, d, rfl⟩ := ext_of hb; clear hb))
        go_ret3
        exact ⟨.slice none 0 0, by rw [HS.out, (tab_out H.out).1]; rfl, by (repeat (first | exact Below.refl _ _ | exact Nat.le_refl _ | (refine below_ext ?_ (by first | (simp [size_ext, grow]; done) | (simp [size_ext, grow]; omega)) _ _) | (refine Below.setCell ?_ (by first | (simp [size_ext, grow]; done) | (simp [size_ext, grow]; omega)) _) | (refine Below.alloc ?_ (by first | (simp [size_ext, grow]; done) | (simp [size_ext, grow]; omega)) _) | refine Below.drew ?_ | refine below_drewN ?_ _ | (refine Below.trans ?_ (Below.mono (by assumption) (by first | (simp [size_ext, grow]; done) | (simp [size_ext, grow]; omega)))))), by rw [(tab_out H.out).2]; exact own_nil _ _ _ _⟩
      · have H := Lib.hid hok
        have hs : stepErr s 2 = 0 := by simp [stepErr, inTab, h0, h9, hok]
        have HS := Lib.hid hs
        have HH := Lib.hid (And.intro h0 h9)
        clear hok hs
        have kf := fn_nil
        go_enter Try.func11, Try.ntmps11
        go_wp2_with (first | (go_at_call 28; refine (row_2 _).mono ?_; rintro e w1 ⟨rfl, rfl⟩) | (go_at_call 29; refine (known_any _ _).mono ?_; rintro e w1 ⟨rfl, rfl⟩) | (go_at_call 38; refine (down_yes s _ H.out).mono ?_; rintro e w1 ⟨v, rfl, hb, ho⟩; obtain ⟨xs, d, rfl⟩ := ext_of hb; clear hb; obtain ⟨A, c, rfl, -, -⟩ := ownsRow_form ho; have HA := Lib.hid ho; clear ho))
        go_quiet (fail)
        go_wp2
        go_ret3
        exact ⟨_, by rw [HS.out]; rfl, by (repeat (first | exact Below.refl _ _ | exact Nat.le_refl _ | (refine below_ext ?_ (by first | (simp [size_ext, grow]; done) | (simp [size_ext, grow]; omega)) _ _) | (refine Below.setCell ?_ (by first | (simp [size_ext, grow]; done) | (simp [size_ext, grow]; omega)) _) | (refine Below.alloc ?_ (by first | (simp [size_ext, grow]; done) | (simp [size_ext, grow]; omega)) _) | refine Below.drew ?_ | refine below_drewN ?_ _ | (refine Below.trans ?_ (Below.mono (by assumption) (by first | (simp [size_ext, grow]; done) | (simp [size_ext, grow]; omega)))))), own_below HA.out (by (repeat (first | exact Below.refl _ _ | exact Nat.le_refl _ | (refine below_ext ?_ (by first | (simp [size_ext, grow]; done) | (simp [size_ext, grow]; omega)) _ _) | (refine Below.setCell ?_ (by first | (simp [size_ext, grow]; done) | (simp [size_ext, grow]; omega)) _) | (refine Below.alloc ?_ (by first | (simp [size_ext, grow]; done) | (simp [size_ext, grow]; omega)) _) | refine Below.drew ?_ | refine below_drewN ?_ _ | (refine Below.trans ?_ (Below.mono (by assumption) (by first | (simp [size_ext, grow]; done) | (simp [size_ext, grow]; omega)))))))⟩
    · have hn : decide (s ≤ 9) = false := by simpa using h9
      have HS := Lib.hid (show stepErr s 2 = 140 ∧ tabOk 2 s = false from ⟨by simp [stepErr, inTab, h9], tabOk_out (by simp [inTab, h9])⟩)
      clear h9
      go_enter Try.func11, Try.ntmps11
      go_wp2_with (first | (go_at_call 28; refine (row_2 _).mono ?_; rintro e w1 ⟨rfl, rfl⟩) | (go_at_call 29; refine (known_any _ _).mono ?_; rintro e w1 ⟨rfl, rfl⟩))
      go_ret3
      exact ⟨.slice none 0 0, by rw [HS.out.1, (tab_out HS.out.2).1]; rfl, by (repeat (first | exact Below.refl _ _ | exact Nat.le_refl _ | (refine below_ext ?_ (by first | (simp [size_ext, grow]; done) | (simp [size_ext, grow]; omega)) _ _) | (refine Below.setCell ?_ (by first | (simp [size_ext, grow]; done) | (simp [size_ext, grow]; omega)) _) | (refine Below.alloc ?_ (by first | (simp [size_ext, grow]; done) | (simp [size_ext, grow]; omega)) _) | refine Below.drew ?_ | refine below_drewN ?_ _ | (refine Below.trans ?_ (Below.mono (by assumption) (by first | (simp [size_ext, grow]; done) | (simp [size_ext, grow]; omega)))))), by rw [(tab_out HS.out.2).2]; exact own_nil _ _ _ _⟩
  · have hn : decide (0 ≤ s) = false := by simpa using h0
    have HS := Lib.hid (show stepErr s 2 = 140 ∧ tabOk 2 s = false from ⟨by simp [stepErr, inTab, h0], tabOk_out (by simp [inTab, h0])⟩)
    clear h0
    go_enter Try.func11, Try.ntmps11
    go_wp2_with (first | (go_at_call 28; refine (row_2 _).mono ?_; rintro e w1 ⟨rfl, rfl⟩) | (go_at_call 29; refine (known_any _ _).mono ?_; rintro e w1 ⟨rfl, rfl⟩))
    go_ret3
    exact ⟨.slice none 0 0, by rw [HS.out.1, (tab_out HS.out.2).1]; rfl, by (repeat (first | exact Below.refl _ _ | exact Nat.le_refl _ | (refine below_ext ?_ (by first | (simp [size_ext, grow]; done) | (simp [size_ext, grow]; omega)) _ _) | (refine Below.setCell ?_ (by first | (simp [size_ext, grow]; done) | (simp [size_ext, grow]; omega)) _) | (refine Below.alloc ?_ (by first | (simp [size_ext, grow]; done) | (simp [size_ext, grow]; omega)) _) | refine Below.drew ?_ | refine below_drewN ?_ _ | (refine Below.trans ?_ (Below.mono (by assumption) (by first | (simp [size_ext, grow]; done) | (simp [size_ext, grow]; omega)))))), by rw [(tab_out HS.out.2).2]; exact own_nil _ _ _ _⟩
set_option maxHeartbeats 1000000 in
theorem step_3 (s : Int) (w : World) : Calls Try.prog 11 #[.int .i64 s, .int .i64 3] w (StepP s 3 w) := by
  by_cases h0 : 0 ≤ s
  · by_cases h9 : s ≤ 9
    · cases hok : tabOk 3 s
      · have H := Lib.hid hok
        have hs : stepErr s 3 = 5 := by simp [stepErr, inTab, h0, h9, hok]
        have HS := Lib.hid hs
        have HH := Lib.hid (And.intro h0 h9)
        clear hok hs
        have kf := fn_nil
        go_enter Try.func11, Try.ntmps11
        go_wp2_with (first | (go_at_call 28; refine (row_3 _).mono ?_; rintro e w1 ⟨rfl, rfl⟩) | (go_at_call 29; refine (known_any _ _).mono ?_; rintro e w1 ⟨rfl, rfl⟩) | (go_at_call 39; refine (open_no s _ HH.out.1 HH.out.2 H.out).mono ?_; rintro e w1 ⟨A, n, c, y, rfl, hb⟩; obtain ⟨xs, d, rfl⟩ := ext_of hb; clear hb))
        go_ret3
        exact ⟨.slice none 0 0, by rw [HS.out, (tab_out H.out).1]; rfl, by (repeat (first | exact Below.refl _ _ | exact Nat.le_refl _ | (refine below_ext ?_ (by first | (simp [size_ext, grow]; done) | (simp [size_ext, grow]; omega)) _ _) | (refine Below.setCell ?_ (by first | (simp [size_ext, grow]; done) | (simp [size_ext, grow]; omega)) _) | (refine Below.alloc ?_ (by first | (simp [size_ext, grow]; done) | (simp [size_ext, grow]; omega)) _) | refine Below.drew ?_ | refine below_drewN ?_ _ | (refine Below.trans ?_ (Below.mono (by assumption) (by first | (simp [size_ext, grow]; done) | (simp [size_ext, grow]; omega)))))), by rw [(tab_out H.out).2]; exact own_nil _ _ _ _⟩
      · have H := Lib.hid hok
        have hs : stepErr s 3 = 0 := by simp [stepErr, inTab, h0, h9, hok]
        have HS := Lib.hid hs
        have HH := Lib.hid (And.intro h0 h9)
        clear hok hs
        have kf := fn_nil
        go_enter Try.func11, Try.ntmps11
        go_wp2_with (first | (go_at_call 28; refine (row_3 _).mono ?_; rintro e w1 ⟨rfl, rfl⟩) | (go_at_call 29; refine (known_any _ _).mono ?_; rintro e w1 ⟨rfl, rfl⟩) | (go_at_call 39; refine (open_yes s _ H.out).mono ?_; rintro e w1 ⟨v, rfl, hb, ho⟩; obtain ⟨xs, d, rfl⟩ := ext_of hb; clear hb; obtain ⟨A, c, rfl, -, -⟩ := ownsRow_form ho; have HA := Lib.hid ho; clear ho))
        go_quiet (fail)
        go_wp2
        go_ret3
        exact ⟨_, by rw [HS.out]; rfl, by (repeat (first | exact Below.refl _ _ | exact Nat.le_refl _ | (refine below_ext ?_ (by first | (simp [size_ext, grow]; done) | (simp [size_ext, grow]; omega)) _ _) | (refine Below.setCell ?_ (by first | (simp [size_ext, grow]; done) | (simp [size_ext, grow]; omega)) _) | (refine Below.alloc ?_ (by first | (simp [size_ext, grow]; done) | (simp [size_ext, grow]; omega)) _) | refine Below.drew ?_ | refine below_drewN ?_ _ | (refine Below.trans ?_ (Below.mono (by assumption) (by first | (simp [size_ext, grow]; done) | (simp [size_ext, grow]; omega)))))), own_below HA.out (by (repeat (first | exact Below.refl _ _ | exact Nat.le_refl _ | (refine below_ext ?_ (by first | (simp [size_ext, grow]; done) | (simp [size_ext, grow]; omega)) _ _) | (refine Below.setCell ?_ (by first | (simp [size_ext, grow]; done) | (simp [size_ext, grow]; omega)) _) | (refine Below.alloc ?_ (by first | (simp [size_ext, grow]; done) | (simp [size_ext, grow]; omega)) _) | refine Below.drew ?_ | refine below_drewN ?_ _ | (refine Below.trans ?_ (Below.mono (by assumption) (by first | (simp [size_ext, grow]; done) | (simp [size_ext, grow]; omega)))))))⟩
    · have hn : decide (s ≤ 9) = false := by simpa using h9
      have HS := Lib.hid (show stepErr s 3 = 140 ∧ tabOk 3 s = false from ⟨by simp [stepErr, inTab, h9], tabOk_out (by simp [inTab, h9])⟩)
      clear h9
      go_enter Try.func11, Try.ntmps11
      go_wp2_with (first | (go_at_call 28; refine (row_3 _).mono ?_; rintro e w1 ⟨rfl, rfl⟩) | (go_at_call 29; refine (known_any _ _).mono ?_; rintro e w1 ⟨rfl, rfl⟩))
      go_ret3
      exact ⟨.slice none 0 0, by rw [HS.out.1, (tab_out HS.out.2).1]; rfl, by (repeat (first | exact Below.refl _ _ | exact Nat.le_refl _ | (refine below_ext ?_ (by first | (simp [size_ext, grow]; done) | (simp [size_ext, grow]; omega)) _ _) | (refine Below.setCell ?_ (by first | (simp [size_ext, grow]; done) | (simp [size_ext, grow]; omega)) _) | (refine Below.alloc ?_ (by first | (simp [size_ext, grow]; done) | (simp [size_ext, grow]; omega)) _) | refine Below.drew ?_ | refine below_drewN ?_ _ | (refine Below.trans ?_ (Below.mono (by assumption) (by first | (simp [size_ext, grow]; done) | (simp [size_ext, grow]; omega)))))), by rw [(tab_out HS.out.2).2]; exact own_nil _ _ _ _⟩
  · have hn : decide (0 ≤ s) = false := by simpa using h0
    have HS := Lib.hid (show stepErr s 3 = 140 ∧ tabOk 3 s = false from ⟨by simp [stepErr, inTab, h0], tabOk_out (by simp [inTab, h0])⟩)
    clear h0
    go_enter Try.func11, Try.ntmps11
    go_wp2_with (first | (go_at_call 28; refine (row_3 _).mono ?_; rintro e w1 ⟨rfl, rfl⟩) | (go_at_call 29; refine (known_any _ _).mono ?_; rintro e w1 ⟨rfl, rfl⟩))
    go_ret3
    exact ⟨.slice none 0 0, by rw [HS.out.1, (tab_out HS.out.2).1]; rfl, by (repeat (first | exact Below.refl _ _ | exact Nat.le_refl _ | (refine below_ext ?_ (by first | (simp [size_ext, grow]; done) | (simp [size_ext, grow]; omega)) _ _) | (refine Below.setCell ?_ (by first | (simp [size_ext, grow]; done) | (simp [size_ext, grow]; omega)) _) | (refine Below.alloc ?_ (by first | (simp [size_ext, grow]; done) | (simp [size_ext, grow]; omega)) _) | refine Below.drew ?_ | refine below_drewN ?_ _ | (refine Below.trans ?_ (Below.mono (by assumption) (by first | (simp [size_ext, grow]; done) | (simp [size_ext, grow]; omega)))))), by rw [(tab_out HS.out.2).2]; exact own_nil _ _ _ _⟩
set_option maxHeartbeats 1000000 in
theorem step_4 (s : Int) (w : World) : Calls Try.prog 11 #[.int .i64 s, .int .i64 4] w (StepP s 4 w) := by
  by_cases h0 : 0 ≤ s
  · by_cases h9 : s ≤ 9
    · cases hok : tabOk 4 s
      · have H := Lib.hid hok
        have hs : stepErr s 4 = 5 := by simp [stepErr, inTab, h0, h9, hok]
        have HS := Lib.hid hs
        have HH := Lib.hid (And.intro h0 h9)
        clear hok hs
        have kf := fn_nil
        go_enter Try.func11, Try.ntmps11
        go_wp2_with (first | (go_at_call 28; refine (row_4 _).mono ?_; rintro e w1 ⟨rfl, rfl⟩) | (go_at_call 29; refine (known_any _ _).mono ?_; rintro e w1 ⟨rfl, rfl⟩) | (go_at_call 40; refine (shut_no s _ HH.out.1 HH.out.2 H.out).mono ?_; rintro e w1 ⟨A, n, c, y, rfl, hb⟩; obtain ⟨xs, d, rfl⟩ := ext_of hb; clear hb))
        go_ret3
        exact ⟨.slice none 0 0, by rw [HS.out, (tab_out H.out).1]; rfl, by (repeat (first | exact Below.refl _ _ | exact Nat.le_refl _ | (refine below_ext ?_ (by first | (simp [size_ext, grow]; done) | (simp [size_ext, grow]; omega)) _ _) | (refine Below.setCell ?_ (by first | (simp [size_ext, grow]; done) | (simp [size_ext, grow]; omega)) _) | (refine Below.alloc ?_ (by first | (simp [size_ext, grow]; done) | (simp [size_ext, grow]; omega)) _) | refine Below.drew ?_ | refine below_drewN ?_ _ | (refine Below.trans ?_ (Below.mono (by assumption) (by first | (simp [size_ext, grow]; done) | (simp [size_ext, grow]; omega)))))), by rw [(tab_out H.out).2]; exact own_nil _ _ _ _⟩
      · have H := Lib.hid hok
        have hs : stepErr s 4 = 0 := by simp [stepErr, inTab, h0, h9, hok]
        have HS := Lib.hid hs
        have HH := Lib.hid (And.intro h0 h9)
        clear hok hs
        have kf := fn_nil
        go_enter Try.func11, Try.ntmps11
        go_wp2_with (first | (go_at_call 28; refine (row_4 _).mono ?_; rintro e w1 ⟨rfl, rfl⟩) | (go_at_call 29; refine (known_any _ _).mono ?_; rintro e w1 ⟨rfl, rfl⟩) | (go_at_call 40; refine (shut_yes s _ H.out).mono ?_; rintro e w1 ⟨v, rfl, hb, ho⟩; obtain ⟨xs, d, rfl⟩ := ext_of hb; clear hb; obtain ⟨A, c, rfl, -, -⟩ := ownsRow_form ho; have HA := Lib.hid ho; clear ho))
        go_quiet (fail)
        go_wp2
        go_ret3
        exact ⟨_, by rw [HS.out]; rfl, by (repeat (first | exact Below.refl _ _ | exact Nat.le_refl _ | (refine below_ext ?_ (by first | (simp [size_ext, grow]; done) | (simp [size_ext, grow]; omega)) _ _) | (refine Below.setCell ?_ (by first | (simp [size_ext, grow]; done) | (simp [size_ext, grow]; omega)) _) | (refine Below.alloc ?_ (by first | (simp [size_ext, grow]; done) | (simp [size_ext, grow]; omega)) _) | refine Below.drew ?_ | refine below_drewN ?_ _ | (refine Below.trans ?_ (Below.mono (by assumption) (by first | (simp [size_ext, grow]; done) | (simp [size_ext, grow]; omega)))))), own_below HA.out (by (repeat (first | exact Below.refl _ _ | exact Nat.le_refl _ | (refine below_ext ?_ (by first | (simp [size_ext, grow]; done) | (simp [size_ext, grow]; omega)) _ _) | (refine Below.setCell ?_ (by first | (simp [size_ext, grow]; done) | (simp [size_ext, grow]; omega)) _) | (refine Below.alloc ?_ (by first | (simp [size_ext, grow]; done) | (simp [size_ext, grow]; omega)) _) | refine Below.drew ?_ | refine below_drewN ?_ _ | (refine Below.trans ?_ (Below.mono (by assumption) (by first | (simp [size_ext, grow]; done) | (simp [size_ext, grow]; omega)))))))⟩
    · have hn : decide (s ≤ 9) = false := by simpa using h9
      have HS := Lib.hid (show stepErr s 4 = 140 ∧ tabOk 4 s = false from ⟨by simp [stepErr, inTab, h9], tabOk_out (by simp [inTab, h9])⟩)
      clear h9
      go_enter Try.func11, Try.ntmps11
      go_wp2_with (first | (go_at_call 28; refine (row_4 _).mono ?_; rintro e w1 ⟨rfl, rfl⟩) | (go_at_call 29; refine (known_any _ _).mono ?_; rintro e w1 ⟨rfl, rfl⟩))
      go_ret3
      exact ⟨.slice none 0 0, by rw [HS.out.1, (tab_out HS.out.2).1]; rfl, by (repeat (first | exact Below.refl _ _ | exact Nat.le_refl _ | (refine below_ext ?_ (by first | (simp [size_ext, grow]; done) | (simp [size_ext, grow]; omega)) _ _) | (refine Below.setCell ?_ (by first | (simp [size_ext, grow]; done) | (simp [size_ext, grow]; omega)) _) | (refine Below.alloc ?_ (by first | (simp [size_ext, grow]; done) | (simp [size_ext, grow]; omega)) _) | refine Below.drew ?_ | refine below_drewN ?_ _ | (refine Below.trans ?_ (Below.mono (by assumption) (by first | (simp [size_ext, grow]; done) | (simp [size_ext, grow]; omega)))))), by rw [(tab_out HS.out.2).2]; exact own_nil _ _ _ _⟩
  · have hn : decide (0 ≤ s) = false := by simpa using h0
    have HS := Lib.hid (show stepErr s 4 = 140 ∧ tabOk 4 s = false from ⟨by simp [stepErr, inTab, h0], tabOk_out (by simp [inTab, h0])⟩)
    clear h0
    go_enter Try.func11, Try.ntmps11
    go_wp2_with (first | (go_at_call 28; refine (row_4 _).mono ?_; rintro e w1 ⟨rfl, rfl⟩) | (go_at_call 29; refine (known_any _ _).mono ?_; rintro e w1 ⟨rfl, rfl⟩))
    go_ret3
    exact ⟨.slice none 0 0, by rw [HS.out.1, (tab_out HS.out.2).1]; rfl, by (repeat (first | exact Below.refl _ _ | exact Nat.le_refl _ | (refine below_ext ?_ (by first | (simp [size_ext, grow]; done) | (simp [size_ext, grow]; omega)) _ _) | (refine Below.setCell ?_ (by first | (simp [size_ext, grow]; done) | (simp [size_ext, grow]; omega)) _) | (refine Below.alloc ?_ (by first | (simp [size_ext, grow]; done) | (simp [size_ext, grow]; omega)) _) | refine Below.drew ?_ | refine below_drewN ?_ _ | (refine Below.trans ?_ (Below.mono (by assumption) (by first | (simp [size_ext, grow]; done) | (simp [size_ext, grow]; omega)))))), by rw [(tab_out HS.out.2).2]; exact own_nil _ _ _ _⟩
set_option maxHeartbeats 1000000 in
theorem step_5 (s : Int) (w : World) : Calls Try.prog 11 #[.int .i64 s, .int .i64 5] w (StepP s 5 w) := by
  by_cases h0 : 0 ≤ s
  · by_cases h9 : s ≤ 9
    · cases hok : tabOk 5 s
      · have H := Lib.hid hok
        have hs : stepErr s 5 = 5 := by simp [stepErr, inTab, h0, h9, hok]
        have HS := Lib.hid hs
        have HH := Lib.hid (And.intro h0 h9)
        clear hok hs
        have kf := fn_nil
        go_enter Try.func11, Try.ntmps11
        go_wp2_with (first | (go_at_call 28; refine (row_5 _).mono ?_; rintro e w1 ⟨rfl, rfl⟩) | (go_at_call 29; refine (known_any _ _).mono ?_; rintro e w1 ⟨rfl, rfl⟩) | (go_at_call 41; refine (again_no s _ HH.out.1 HH.out.2 H.out).mono ?_; rintro e w1 ⟨A, n, c, y, rfl, hb⟩; obtain ⟨xs, d, rfl⟩ := ext_of hb; clear hb))
        go_ret3
        exact ⟨.slice none 0 0, by rw [HS.out, (tab_out H.out).1]; rfl, by (repeat (first | exact Below.refl _ _ | exact Nat.le_refl _ | (refine below_ext ?_ (by first | (simp [size_ext, grow]; done) | (simp [size_ext, grow]; omega)) _ _) | (refine Below.setCell ?_ (by first | (simp [size_ext, grow]; done) | (simp [size_ext, grow]; omega)) _) | (refine Below.alloc ?_ (by first | (simp [size_ext, grow]; done) | (simp [size_ext, grow]; omega)) _) | refine Below.drew ?_ | refine below_drewN ?_ _ | (refine Below.trans ?_ (Below.mono (by assumption) (by first | (simp [size_ext, grow]; done) | (simp [size_ext, grow]; omega)))))), by rw [(tab_out H.out).2]; exact own_nil _ _ _ _⟩
      · have H := Lib.hid hok
        have hs : stepErr s 5 = 0 := by simp [stepErr, inTab, h0, h9, hok]
        have HS := Lib.hid hs
        have HH := Lib.hid (And.intro h0 h9)
        clear hok hs
        have kf := fn_nil
        go_enter Try.func11, Try.ntmps11
        go_wp2_with (first | (go_at_call 28; refine (row_5 _).mono ?_; rintro e w1 ⟨rfl, rfl⟩) | (go_at_call 29; refine (known_any _ _).mono ?_; rintro e w1 ⟨rfl, rfl⟩) | (go_at_call 41; refine (again_yes s _ H.out).mono ?_; rintro e w1 ⟨v, rfl, hb, ho⟩; obtain ⟨xs, d, rfl⟩ := ext_of hb; clear hb; obtain ⟨A, c, rfl, -, -⟩ := ownsRow_form ho; have HA := Lib.hid ho; clear ho))
        go_quiet (fail)
        go_wp2
        go_ret3
        exact ⟨_, by rw [HS.out]; rfl, by (repeat (first | exact Below.refl _ _ | exact Nat.le_refl _ | (refine below_ext ?_ (by first | (simp [size_ext, grow]; done) | (simp [size_ext, grow]; omega)) _ _) | (refine Below.setCell ?_ (by first | (simp [size_ext, grow]; done) | (simp [size_ext, grow]; omega)) _) | (refine Below.alloc ?_ (by first | (simp [size_ext, grow]; done) | (simp [size_ext, grow]; omega)) _) | refine Below.drew ?_ | refine below_drewN ?_ _ | (refine Below.trans ?_ (Below.mono (by assumption) (by first | (simp [size_ext, grow]; done) | (simp [size_ext, grow]; omega)))))), own_below HA.out (by (repeat (first | exact Below.refl _ _ | exact Nat.le_refl _ | (refine below_ext ?_ (by first | (simp [size_ext, grow]; done) | (simp [size_ext, grow]; omega)) _ _) | (refine Below.setCell ?_ (by first | (simp [size_ext, grow]; done) | (simp [size_ext, grow]; omega)) _) | (refine Below.alloc ?_ (by first | (simp [size_ext, grow]; done) | (simp [size_ext, grow]; omega)) _) | refine Below.drew ?_ | refine below_drewN ?_ _ | (refine Below.trans ?_ (Below.mono (by assumption) (by first | (simp [size_ext, grow]; done) | (simp [size_ext, grow]; omega)))))))⟩
    · have hn : decide (s ≤ 9) = false := by simpa using h9
      have HS := Lib.hid (show stepErr s 5 = 140 ∧ tabOk 5 s = false from ⟨by simp [stepErr, inTab, h9], tabOk_out (by simp [inTab, h9])⟩)
      clear h9
      go_enter Try.func11, Try.ntmps11
      go_wp2_with (first | (go_at_call 28; refine (row_5 _).mono ?_; rintro e w1 ⟨rfl, rfl⟩) | (go_at_call 29; refine (known_any _ _).mono ?_; rintro e w1 ⟨rfl, rfl⟩))
      go_ret3
      exact ⟨.slice none 0 0, by rw [HS.out.1, (tab_out HS.out.2).1]; rfl, by (repeat (first | exact Below.refl _ _ | exact Nat.le_refl _ | (refine below_ext ?_ (by first | (simp [size_ext, grow]; done) | (simp [size_ext, grow]; omega)) _ _) | (refine Below.setCell ?_ (by first | (simp [size_ext, grow]; done) | (simp [size_ext, grow]; omega)) _) | (refine Below.alloc ?_ (by first | (simp [size_ext, grow]; done) | (simp [size_ext, grow]; omega)) _) | refine Below.drew ?_ | refine below_drewN ?_ _ | (refine Below.trans ?_ (Below.mono (by assumption) (by first | (simp [size_ext, grow]; done) | (simp [size_ext, grow]; omega)))))), by rw [(tab_out HS.out.2).2]; exact own_nil _ _ _ _⟩
  · have hn : decide (0 ≤ s) = false := by simpa using h0
    have HS := Lib.hid (show stepErr s 5 = 140 ∧ tabOk 5 s = false from ⟨by simp [stepErr, inTab, h0], tabOk_out (by simp [inTab, h0])⟩)
    clear h0
    go_enter Try.func11, Try.ntmps11
    go_wp2_with (first | (go_at_call 28; refine (row_5 _).mono ?_; rintro e w1 ⟨rfl, rfl⟩) | (go_at_call 29; refine (known_any _ _).mono ?_; rintro e w1 ⟨rfl, rfl⟩))
    go_ret3
    exact ⟨.slice none 0 0, by rw [HS.out.1, (tab_out HS.out.2).1]; rfl, by (repeat (first | exact Below.refl _ _ | exact Nat.le_refl _ | (refine below_ext ?_ (by first | (simp [size_ext, grow]; done) | (simp [size_ext, grow]; omega)) _ _) | (refine Below.setCell ?_ (by first | (simp [size_ext, grow]; done) | (simp [size_ext, grow]; omega)) _) | (refine Below.alloc ?_ (by first | (simp [size_ext, grow]; done) | (simp [size_ext, grow]; omega)) _) | refine Below.drew ?_ | refine below_drewN ?_ _ | (refine Below.trans ?_ (Below.mono (by assumption) (by first | (simp [size_ext, grow]; done) | (simp [size_ext, grow]; omega)))))), by rw [(tab_out HS.out.2).2]; exact own_nil _ _ _ _⟩
set_option maxHeartbeats 1000000 in
theorem step_6 (s : Int) (w : World) : Calls Try.prog 11 #[.int .i64 s, .int .i64 6] w (StepP s 6 w) := by
  by_cases h0 : 0 ≤ s
  · by_cases h9 : s ≤ 9
    · cases hok : tabOk 6 s
      · have H := Lib.hid hok
        have hs : stepErr s 6 = 5 := by simp [stepErr, inTab, h0, h9, hok]
        have HS := Lib.hid hs
        have HH := Lib.hid (And.intro h0 h9)
        clear hok hs
        have kf := fn_nil
        go_enter Try.func11, Try.ntmps11
        go_wp2_with (first | (go_at_call 28; refine (row_6 _).mono ?_; rintro e w1 ⟨rfl, rfl⟩) | (go_at_call 29; refine (known_any _ _).mono ?_; rintro e w1 ⟨rfl, rfl⟩) | (go_at_call 42; refine (tired_no s _ HH.out.1 HH.out.2 H.out).mono ?_; rintro e w1 ⟨A, n, c, y, rfl, hb⟩; obtain ⟨xs, d, rfl⟩ := ext_of hb; clear hb))
        go_ret3
        exact ⟨.slice none 0 0, by rw [HS.out, (tab_out H.out).1]; rfl, by (repeat (first | exact Below.refl _ _ | exact Nat.le_refl _ | (refine below_ext ?_ (by first | (simp [size_ext, grow]; done) | (simp [size_ext, grow]; omega)) _ _) | (refine Below.setCell ?_ (by first | (simp [size_ext, grow]; done) | (simp [size_ext, grow]; omega)) _) | (refine Below.alloc ?_ (by first | (simp [size_ext, grow]; done) | (simp [size_ext, grow]; omega)) _) | refine Below.drew ?_ | refine below_drewN ?_ _ | (refine Below.trans ?_ (Below.mono (by assumption) (by first | (simp [size_ext, grow]; done) | (simp [size_ext, grow]; omega)))))), by rw [(tab_out H.out).2]; exact own_nil _ _ _ _⟩
      · have H := Lib.hid hok
        have hs : stepErr s 6 = 0 := by simp [stepErr, inTab, h0, h9, hok]
        have HS := Lib.hid hs
        have HH := Lib.hid (And.intro h0 h9)
        clear hok hs
        have kf := fn_nil
        go_enter Try.func11, Try.ntmps11
        go_wp2_with (first | (go_at_call 28; refine (row_6 _).mono ?_; rintro e w1 ⟨rfl, rfl⟩) | (go_at_call 29; refine (known_any _ _).mono ?_; rintro e w1 ⟨rfl, rfl⟩) | (go_at_call 42; refine (tired_yes s _ H.out).mono ?_; rintro e w1 ⟨v, rfl, hb, ho⟩; obtain ⟨xs, d, rfl⟩ := ext_of hb; clear hb; obtain ⟨A, c, rfl, -, -⟩ := ownsRow_form ho; have HA := Lib.hid ho; clear ho))
        go_quiet (fail)
        go_wp2
        go_ret3
        exact ⟨_, by rw [HS.out]; rfl, by (repeat (first | exact Below.refl _ _ | exact Nat.le_refl _ | (refine below_ext ?_ (by first | (simp [size_ext, grow]; done) | (simp [size_ext, grow]; omega)) _ _) | (refine Below.setCell ?_ (by first | (simp [size_ext, grow]; done) | (simp [size_ext, grow]; omega)) _) | (refine Below.alloc ?_ (by first | (simp [size_ext, grow]; done) | (simp [size_ext, grow]; omega)) _) | refine Below.drew ?_ | refine below_drewN ?_ _ | (refine Below.trans ?_ (Below.mono (by assumption) (by first | (simp [size_ext, grow]; done) | (simp [size_ext, grow]; omega)))))), own_below HA.out (by (repeat (first | exact Below.refl _ _ | exact Nat.le_refl _ | (refine below_ext ?_ (by first | (simp [size_ext, grow]; done) | (simp [size_ext, grow]; omega)) _ _) | (refine Below.setCell ?_ (by first | (simp [size_ext, grow]; done) | (simp [size_ext, grow]; omega)) _) | (refine Below.alloc ?_ (by first | (simp [size_ext, grow]; done) | (simp [size_ext, grow]; omega)) _) | refine Below.drew ?_ | refine below_drewN ?_ _ | (refine Below.trans ?_ (Below.mono (by assumption) (by first | (simp [size_ext, grow]; done) | (simp [size_ext, grow]; omega)))))))⟩
    · have hn : decide (s ≤ 9) = false := by simpa using h9
      have HS := Lib.hid (show stepErr s 6 = 140 ∧ tabOk 6 s = false from ⟨by simp [stepErr, inTab, h9], tabOk_out (by simp [inTab, h9])⟩)
      clear h9
      go_enter Try.func11, Try.ntmps11
      go_wp2_with (first | (go_at_call 28; refine (row_6 _).mono ?_; rintro e w1 ⟨rfl, rfl⟩) | (go_at_call 29; refine (known_any _ _).mono ?_; rintro e w1 ⟨rfl, rfl⟩))
      go_ret3
      exact ⟨.slice none 0 0, by rw [HS.out.1, (tab_out HS.out.2).1]; rfl, by (repeat (first | exact Below.refl _ _ | exact Nat.le_refl _ | (refine below_ext ?_ (by first | (simp [size_ext, grow]; done) | (simp [size_ext, grow]; omega)) _ _) | (refine Below.setCell ?_ (by first | (simp [size_ext, grow]; done) | (simp [size_ext, grow]; omega)) _) | (refine Below.alloc ?_ (by first | (simp [size_ext, grow]; done) | (simp [size_ext, grow]; omega)) _) | refine Below.drew ?_ | refine below_drewN ?_ _ | (refine Below.trans ?_ (Below.mono (by assumption) (by first | (simp [size_ext, grow]; done) | (simp [size_ext, grow]; omega)))))), by rw [(tab_out HS.out.2).2]; exact own_nil _ _ _ _⟩
  · have hn : decide (0 ≤ s) = false := by simpa using h0
    have HS := Lib.hid (show stepErr s 6 = 140 ∧ tabOk 6 s = false from ⟨by simp [stepErr, inTab, h0], tabOk_out (by simp [inTab, h0])⟩)
    clear h0
    go_enter Try.func11, Try.ntmps11
    go_wp2_with (first | (go_at_call 28; refine (row_6 _).mono ?_; rintro e w1 ⟨rfl, rfl⟩) | (go_at_call 29; refine (known_any _ _).mono ?_; rintro e w1 ⟨rfl, rfl⟩))
    go_ret3
    exact ⟨.slice none 0 0, by rw [HS.out.1, (tab_out HS.out.2).1]; rfl, by (repeat (first | exact Below.refl _ _ | exact Nat.le_refl _ | (refine below_ext ?_ (by first | (simp [size_ext, grow]; done) | (simp [size_ext, grow]; omega)) _ _) | (refine Below.setCell ?_ (by first | (simp [size_ext, grow]; done) | (simp [size_ext, grow]; omega)) _) | (refine Below.alloc ?_ (by first | (simp [size_ext, grow]; done) | (simp [size_ext, grow]; omega)) _) | refine Below.drew ?_ | refine below_drewN ?_ _ | (refine Below.trans ?_ (Below.mono (by assumption) (by first | (simp [size_ext, grow]; done) | (simp [size_ext, grow]; omega)))))), by rw [(tab_out HS.out.2).2]; exact own_nil _ _ _ _⟩
set_option maxHeartbeats 1000000 in
theorem step_7 (s : Int) (w : World) : Calls Try.prog 11 #[.int .i64 s, .int .i64 7] w (StepP s 7 w) := by
  by_cases h0 : 0 ≤ s
  · by_cases h9 : s ≤ 9
    · cases hok : tabOk 7 s
      · have H := Lib.hid hok
        have hs : stepErr s 7 = 5 := by simp [stepErr, inTab, h0, h9, hok]
        have HS := Lib.hid hs
        have HH := Lib.hid (And.intro h0 h9)
        clear hok hs
        have kf := fn_nil
        go_enter Try.func11, Try.ntmps11
        go_wp2_with (first | (go_at_call 28; refine (row_7 _).mono ?_; rintro e w1 ⟨rfl, rfl⟩) | (go_at_call 29; refine (known_any _ _).mono ?_; rintro e w1 ⟨rfl, rfl⟩) | (go_at_call 43; refine (good_no s _ HH.out.1 HH.out.2 H.out).mono ?_; rintro e w1 ⟨A, n, c, y, rfl, hb⟩; obtain ⟨xs, d, rfl⟩ := ext_of hb; clear hb))
        go_ret3
        exact ⟨.slice none 0 0, by rw [HS.out, (tab_out H.out).1]; rfl, by (repeat (first | exact Below.refl _ _ | exact Nat.le_refl _ | (refine below_ext ?_ (by first | (simp [size_ext, grow]; done) | (simp [size_ext, grow]; omega)) _ _) | (refine Below.setCell ?_ (by first | (simp [size_ext, grow]; done) | (simp [size_ext, grow]; omega)) _) | (refine Below.alloc ?_ (by first | (simp [size_ext, grow]; done) | (simp [size_ext, grow]; omega)) _) | refine Below.drew ?_ | refine below_drewN ?_ _ | (refine Below.trans ?_ (Below.mono (by assumption) (by first | (simp [size_ext, grow]; done) | (simp [size_ext, grow]; omega)))))), by rw [(tab_out H.out).2]; exact own_nil _ _ _ _⟩
      · have H := Lib.hid hok
        have hs : stepErr s 7 = 0 := by simp [stepErr, inTab, h0, h9, hok]
        have HS := Lib.hid hs
        have HH := Lib.hid (And.intro h0 h9)
        clear hok hs
        have kf := fn_nil
        go_enter Try.func11, Try.ntmps11
        go_wp2_with (first | (go_at_call 28; refine (row_7 _).mono ?_; rintro e w1 ⟨rfl, rfl⟩) | (go_at_call 29; refine (known_any _ _).mono ?_; rintro e w1 ⟨rfl, rfl⟩) | (go_at_call 43; refine (good_yes s _ H.out).mono ?_; rintro e w1 ⟨v, rfl, hb, ho⟩; obtain ⟨xs, d, rfl⟩ := ext_of hb; clear hb; obtain ⟨A, c, rfl, -, -⟩ := ownsRow_form ho; have HA := Lib.hid ho; clear ho))
        go_quiet (fail)
        go_wp2
        go_ret3
        exact ⟨_, by rw [HS.out]; rfl, by (repeat (first | exact Below.refl _ _ | exact Nat.le_refl _ | (refine below_ext ?_ (by first | (simp [size_ext, grow]; done) | (simp [size_ext, grow]; omega)) _ _) | (refine Below.setCell ?_ (by first | (simp [size_ext, grow]; done) | (simp [size_ext, grow]; omega)) _) | (refine Below.alloc ?_ (by first | (simp [size_ext, grow]; done) | (simp [size_ext, grow]; omega)) _) | refine Below.drew ?_ | refine below_drewN ?_ _ | (refine Below.trans ?_ (Below.mono (by assumption) (by first | (simp [size_ext, grow]; done) | (simp [size_ext, grow]; omega)))))), own_below HA.out (by (repeat (first | exact Below.refl _ _ | exact Nat.le_refl _ | (refine below_ext ?_ (by first | (simp [size_ext, grow]; done) | (simp [size_ext, grow]; omega)) _ _) | (refine Below.setCell ?_ (by first | (simp [size_ext, grow]; done) | (simp [size_ext, grow]; omega)) _) | (refine Below.alloc ?_ (by first | (simp [size_ext, grow]; done) | (simp [size_ext, grow]; omega)) _) | refine Below.drew ?_ | refine below_drewN ?_ _ | (refine Below.trans ?_ (Below.mono (by assumption) (by first | (simp [size_ext, grow]; done) | (simp [size_ext, grow]; omega)))))))⟩
    · have hn : decide (s ≤ 9) = false := by simpa using h9
      have HS := Lib.hid (show stepErr s 7 = 140 ∧ tabOk 7 s = false from ⟨by simp [stepErr, inTab, h9], tabOk_out (by simp [inTab, h9])⟩)
      clear h9
      go_enter Try.func11, Try.ntmps11
      go_wp2_with (first | (go_at_call 28; refine (row_7 _).mono ?_; rintro e w1 ⟨rfl, rfl⟩) | (go_at_call 29; refine (known_any _ _).mono ?_; rintro e w1 ⟨rfl, rfl⟩))
      go_ret3
      exact ⟨.slice none 0 0, by rw [HS.out.1, (tab_out HS.out.2).1]; rfl, by (repeat (first | exact Below.refl _ _ | exact Nat.le_refl _ | (refine below_ext ?_ (by first | (simp [size_ext, grow]; done) | (simp [size_ext, grow]; omega)) _ _) | (refine Below.setCell ?_ (by first | (simp [size_ext, grow]; done) | (simp [size_ext, grow]; omega)) _) | (refine Below.alloc ?_ (by first | (simp [size_ext, grow]; done) | (simp [size_ext, grow]; omega)) _) | refine Below.drew ?_ | refine below_drewN ?_ _ | (refine Below.trans ?_ (Below.mono (by assumption) (by first | (simp [size_ext, grow]; done) | (simp [size_ext, grow]; omega)))))), by rw [(tab_out HS.out.2).2]; exact own_nil _ _ _ _⟩
  · have hn : decide (0 ≤ s) = false := by simpa using h0
    have HS := Lib.hid (show stepErr s 7 = 140 ∧ tabOk 7 s = false from ⟨by simp [stepErr, inTab, h0], tabOk_out (by simp [inTab, h0])⟩)
    clear h0
    go_enter Try.func11, Try.ntmps11
    go_wp2_with (first | (go_at_call 28; refine (row_7 _).mono ?_; rintro e w1 ⟨rfl, rfl⟩) | (go_at_call 29; refine (known_any _ _).mono ?_; rintro e w1 ⟨rfl, rfl⟩))
    go_ret3
    exact ⟨.slice none 0 0, by rw [HS.out.1, (tab_out HS.out.2).1]; rfl, by (repeat (first | exact Below.refl _ _ | exact Nat.le_refl _ | (refine below_ext ?_ (by first | (simp [size_ext, grow]; done) | (simp [size_ext, grow]; omega)) _ _) | (refine Below.setCell ?_ (by first | (simp [size_ext, grow]; done) | (simp [size_ext, grow]; omega)) _) | (refine Below.alloc ?_ (by first | (simp [size_ext, grow]; done) | (simp [size_ext, grow]; omega)) _) | refine Below.drew ?_ | refine below_drewN ?_ _ | (refine Below.trans ?_ (Below.mono (by assumption) (by first | (simp [size_ext, grow]; done) | (simp [size_ext, grow]; omega)))))), by rw [(tab_out HS.out.2).2]; exact own_nil _ _ _ _⟩
set_option maxHeartbeats 1000000 in
theorem step_8 (s : Int) (w : World) : Calls Try.prog 11 #[.int .i64 s, .int .i64 8] w (StepP s 8 w) := by
  by_cases h0 : 0 ≤ s
  · by_cases h9 : s ≤ 9
    · cases hok : tabOk 8 s
      · have H := Lib.hid hok
        have hs : stepErr s 8 = 5 := by simp [stepErr, inTab, h0, h9, hok]
        have HS := Lib.hid hs
        have HH := Lib.hid (And.intro h0 h9)
        clear hok hs
        have kf := fn_nil
        go_enter Try.func11, Try.ntmps11
        go_wp2_with (first | (go_at_call 28; refine (row_8 _).mono ?_; rintro e w1 ⟨rfl, rfl⟩) | (go_at_call 29; refine (known_any _ _).mono ?_; rintro e w1 ⟨rfl, rfl⟩) | (go_at_call 44; refine (bad_no s _ HH.out.1 HH.out.2 H.out).mono ?_; rintro e w1 ⟨A, n, c, y, rfl, hb⟩; obtain ⟨xs, d, rfl⟩ := ext_of hb; clear hb))
        go_ret3
        exact ⟨.slice none 0 0, by rw [HS.out, (tab_out H.out).1]; rfl, by (repeat (first | exact Below.refl _ _ | exact Nat.le_refl _ | (refine below_ext ?_ (by first | (simp [size_ext, grow]; done) | (simp [size_ext, grow]; omega)) _ _) | (refine Below.setCell ?_ (by first | (simp [size_ext, grow]; done) | (simp [size_ext, grow]; omega)) _) | (refine Below.alloc ?_ (by first | (simp [size_ext, grow]; done) | (simp [size_ext, grow]; omega)) _) | refine Below.drew ?_ | refine below_drewN ?_ _ | (refine Below.trans ?_ (Below.mono (by assumption) (by first | (simp [size_ext, grow]; done) | (simp [size_ext, grow]; omega)))))), by rw [(tab_out H.out).2]; exact own_nil _ _ _ _⟩
      · have H := Lib.hid hok
        have hs : stepErr s 8 = 0 := by simp [stepErr, inTab, h0, h9, hok]
        have HS := Lib.hid hs
        have HH := Lib.hid (And.intro h0 h9)
        clear hok hs
        have kf := fn_nil
        go_enter Try.func11, Try.ntmps11
        go_wp2_with (first | (go_at_call 28; refine (row_8 _).mono ?_; rintro e w1 ⟨rfl, rfl⟩) | (go_at_call 29; refine (known_any _ _).mono ?_; rintro e w1 ⟨rfl, rfl⟩) | (go_at_call 44; refine (bad_yes s _ H.out).mono ?_; rintro e w1 ⟨v, rfl, hb, ho⟩; obtain ⟨xs, d, rfl⟩ := ext_of hb; clear hb; obtain ⟨A, c, rfl, -, -⟩ := ownsRow_form ho; have HA := Lib.hid ho; clear ho))
        go_quiet (fail)
        go_wp2
        go_ret3
        exact ⟨_, by rw [HS.out]; rfl, by (repeat (first | exact Below.refl _ _ | exact Nat.le_refl _ | (refine below_ext ?_ (by first | (simp [size_ext, grow]; done) | (simp [size_ext, grow]; omega)) _ _) | (refine Below.setCell ?_ (by first | (simp [size_ext, grow]; done) | (simp [size_ext, grow]; omega)) _) | (refine Below.alloc ?_ (by first | (simp [size_ext, grow]; done) | (simp [size_ext, grow]; omega)) _) | refine Below.drew ?_ | refine below_drewN ?_ _ | (refine Below.trans ?_ (Below.mono (by assumption) (by first | (simp [size_ext, grow]; done) | (simp [size_ext, grow]; omega)))))), own_below HA.out (by (repeat (first | exact Below.refl _ _ | exact Nat.le_refl _ | (refine below_ext ?_ (by first | (simp [size_ext, grow]; done) | (simp [size_ext, grow]; omega)) _ _) | (refine Below.setCell ?_ (by first | (simp [size_ext, grow]; done) | (simp [size_ext, grow]; omega)) _) | (refine Below.alloc ?_ (by first | (simp [size_ext, grow]; done) | (simp [size_ext, grow]; omega)) _) | refine Below.drew ?_ | refine below_drewN ?_ _ | (refine Below.trans ?_ (Below.mono (by assumption) (by first | (simp [size_ext, grow]; done) | (simp [size_ext, grow]; omega)))))))⟩
    · have hn : decide (s ≤ 9) = false := by simpa using h9
      have HS := Lib.hid (show stepErr s 8 = 140 ∧ tabOk 8 s = false from ⟨by simp [stepErr, inTab, h9], tabOk_out (by simp [inTab, h9])⟩)
      clear h9
      go_enter Try.func11, Try.ntmps11
      go_wp2_with (first | (go_at_call 28; refine (row_8 _).mono ?_; rintro e w1 ⟨rfl, rfl⟩) | (go_at_call 29; refine (known_any _ _).mono ?_; rintro e w1 ⟨rfl, rfl⟩))
      go_ret3
      exact ⟨.slice none 0 0, by rw [HS.out.1, (tab_out HS.out.2).1]; rfl, by (repeat (first | exact Below.refl _ _ | exact Nat.le_refl _ | (refine below_ext ?_ (by first | (simp [size_ext, grow]; done) | (simp [size_ext, grow]; omega)) _ _) | (refine Below.setCell ?_ (by first | (simp [size_ext, grow]; done) | (simp [size_ext, grow]; omega)) _) | (refine Below.alloc ?_ (by first | (simp [size_ext, grow]; done) | (simp [size_ext, grow]; omega)) _) | refine Below.drew ?_ | refine below_drewN ?_ _ | (refine Below.trans ?_ (Below.mono (by assumption) (by first | (simp [size_ext, grow]; done) | (simp [size_ext, grow]; omega)))))), by rw [(tab_out HS.out.2).2]; exact own_nil _ _ _ _⟩
  · have hn : decide (0 ≤ s) = false := by simpa using h0
    have HS := Lib.hid (show stepErr s 8 = 140 ∧ tabOk 8 s = false from ⟨by simp [stepErr, inTab, h0], tabOk_out (by simp [inTab, h0])⟩)
    clear h0
    go_enter Try.func11, Try.ntmps11
    go_wp2_with (first | (go_at_call 28; refine (row_8 _).mono ?_; rintro e w1 ⟨rfl, rfl⟩) | (go_at_call 29; refine (known_any _ _).mono ?_; rintro e w1 ⟨rfl, rfl⟩))
    go_ret3
    exact ⟨.slice none 0 0, by rw [HS.out.1, (tab_out HS.out.2).1]; rfl, by (repeat (first | exact Below.refl _ _ | exact Nat.le_refl _ | (refine below_ext ?_ (by first | (simp [size_ext, grow]; done) | (simp [size_ext, grow]; omega)) _ _) | (refine Below.setCell ?_ (by first | (simp [size_ext, grow]; done) | (simp [size_ext, grow]; omega)) _) | (refine Below.alloc ?_ (by first | (simp [size_ext, grow]; done) | (simp [size_ext, grow]; omega)) _) | refine Below.drew ?_ | refine below_drewN ?_ _ | (refine Below.trans ?_ (Below.mono (by assumption) (by first | (simp [size_ext, grow]; done) | (simp [size_ext, grow]; omega)))))), by rw [(tab_out HS.out.2).2]; exact own_nil _ _ _ _⟩
end Go.Proofs.Ytffkkeedmgaoiaa
