/- Step, at some events. -/
import Derived.Test.YtffkkeedmgaoiaaG3a
namespace Go.Proofs.Ytffkkeedmgaoiaa
open Go.RowKit
set_option linter.unusedSimpArgs false
set_option linter.unusedVariables false
set_option maxHeartbeats 1000000 in
theorem step_9 (s : Int) (w : World) : Calls Try.prog 11 #[.int .i64 s, .int .i64 9] w (StepP s 9 w) := by
  by_cases h0 : 0 ≤ s
  · by_cases h9 : s ≤ 9
    · cases hok : tabOk 9 s
      · have H := Lib.hid hok
        have hs : stepErr s 9 = 5 := by simp [stepErr, inTab, h0, h9, hok]
        have HS := Lib.hid hs
        have HH := Lib.hid (And.intro h0 h9)
        clear hok hs
        have kf := fn_nil
        go_enter Try.func11, Try.ntmps11
        go_wp2_with (first | (go_at_call 28; refine (row_9 _).mono ?_; rintro e w1 ⟨rfl, rfl⟩) | (go_at_call 29; refine (known_any _ _).mono ?_; rintro e w1 ⟨rfl, rfl⟩) | (go_at_call 45; refine (acked_no s _ HH.out.1 HH.out.2 H.out).mono ?_; rintro e w1 ⟨A, n, c, y, rfl, hb⟩; obtain ⟨xs, d, rfl⟩ := ext_of hb; clear hb))
        go_ret3
        exact ⟨.slice none 0 0, by rw [HS.out, (tab_out H.out).1]; rfl, by (repeat (first | exact Below.refl _ _ | exact Nat.le_refl _ | (refine below_ext ?_ (by first | (simp [size_ext, grow]; done) | (simp [size_ext, grow]; omega)) _ _) | (refine Below.setCell ?_ (by first | (simp [size_ext, grow]; done) | (simp [size_ext, grow]; omega)) _) | (refine Below.alloc ?_ (by first | (simp [size_ext, grow]; done) | (simp [size_ext, grow]; omega)) _) | refine Below.drew ?_ | refine below_drewN ?_ _ | (refine Below.trans ?_ (Below.mono (by assumption) (by first | (simp [size_ext, grow]; done) | (simp [size_ext, grow]; omega)))))), by rw [(tab_out H.out).2]; exact own_nil _ _ _ _⟩
      · have H := Lib.hid hok
        have hs : stepErr s 9 = 0 := by simp [stepErr, inTab, h0, h9, hok]
        have HS := Lib.hid hs
        have HH := Lib.hid (And.intro h0 h9)
        clear hok hs
        have kf := fn_nil
        go_enter Try.func11, Try.ntmps11
        go_wp2_with (first | (go_at_call 28; refine (row_9 _).mono ?_; rintro e w1 ⟨rfl, rfl⟩) | (go_at_call 29; refine (known_any _ _).mono ?_; rintro e w1 ⟨rfl, rfl⟩) | (go_at_call 45; refine (acked_yes s _ H.out).mono ?_; rintro e w1 ⟨v, rfl, hb, ho⟩; obtain ⟨xs, d, rfl⟩ := ext_of hb; clear hb; obtain ⟨A, c, rfl, -, -⟩ := ownsRow_form ho; have HA := Lib.hid ho; clear ho))
        go_quiet (fail)
        go_wp2
        go_ret3
        exact ⟨_, by rw [HS.out]; rfl, by (repeat (first | exact Below.refl _ _ | exact Nat.le_refl _ | (refine below_ext ?_ (by first | (simp [size_ext, grow]; done) | (simp [size_ext, grow]; omega)) _ _) | (refine Below.setCell ?_ (by first | (simp [size_ext, grow]; done) | (simp [size_ext, grow]; omega)) _) | (refine Below.alloc ?_ (by first | (simp [size_ext, grow]; done) | (simp [size_ext, grow]; omega)) _) | refine Below.drew ?_ | refine below_drewN ?_ _ | (refine Below.trans ?_ (Below.mono (by assumption) (by first | (simp [size_ext, grow]; done) | (simp [size_ext, grow]; omega)))))), own_below HA.out (by (repeat (first | exact Below.refl _ _ | exact Nat.le_refl _ | (refine below_ext ?_ (by first | (simp [size_ext, grow]; done) | (simp [size_ext, grow]; omega)) _ _) | (refine Below.setCell ?_ (by first | (simp [size_ext, grow]; done) | (simp [size_ext, grow]; omega)) _) | (refine Below.alloc ?_ (by first | (simp [size_ext, grow]; done) | (simp [size_ext, grow]; omega)) _) | refine Below.drew ?_ | refine below_drewN ?_ _ | (refine Below.trans ?_ (Below.mono (by assumption) (by first | (simp [size_ext, grow]; done) | (simp [size_ext, grow]; omega)))))))⟩
    · have hn : decide (s ≤ 9) = false := by simpa using h9
      have HS := Lib.hid (show stepErr s 9 = 140 ∧ tabOk 9 s = false from ⟨by simp [stepErr, inTab, h9], tabOk_out (by simp [inTab, h9])⟩)
      clear h9
      go_enter Try.func11, Try.ntmps11
      go_wp2_with (first | (go_at_call 28; refine (row_9 _).mono ?_; rintro e w1 ⟨rfl, rfl⟩) | (go_at_call 29; refine (known_any _ _).mono ?_; rintro e w1 ⟨rfl, rfl⟩))
      go_ret3
      exact ⟨.slice none 0 0, by rw [HS.out.1, (tab_out HS.out.2).1]; rfl, by (repeat (first | exact Below.refl _ _ | exact Nat.le_refl _ | (refine below_ext ?_ (by first | (simp [size_ext, grow]; done) | (simp [size_ext, grow]; omega)) _ _) | (refine Below.setCell ?_ (by first | (simp [size_ext, grow]; done) | (simp [size_ext, grow]; omega)) _) | (refine Below.alloc ?_ (by first | (simp [size_ext, grow]; done) | (simp [size_ext, grow]; omega)) _) | refine Below.drew ?_ | refine below_drewN ?_ _ | (refine Below.trans ?_ (Below.mono (by assumption) (by first | (simp [size_ext, grow]; done) | (simp [size_ext, grow]; omega)))))), by rw [(tab_out HS.out.2).2]; exact own_nil _ _ _ _⟩
  · have hn : decide (0 ≤ s) = false := by simpa using h0
    have HS := Lib.hid (show stepErr s 9 = 140 ∧ tabOk 9 s = false from ⟨by simp [stepErr, inTab, h0], tabOk_out (by simp [inTab, h0])⟩)
    clear h0
    go_enter Try.func11, Try.ntmps11
    go_wp2_with (first | (go_at_call 28; refine (row_9 _).mono ?_; rintro e w1 ⟨rfl, rfl⟩) | (go_at_call 29; refine (known_any _ _).mono ?_; rintro e w1 ⟨rfl, rfl⟩))
    go_ret3
    exact ⟨.slice none 0 0, by rw [HS.out.1, (tab_out HS.out.2).1]; rfl, by (repeat (first | exact Below.refl _ _ | exact Nat.le_refl _ | (refine below_ext ?_ (by first | (simp [size_ext, grow]; done) | (simp [size_ext, grow]; omega)) _ _) | (refine Below.setCell ?_ (by first | (simp [size_ext, grow]; done) | (simp [size_ext, grow]; omega)) _) | (refine Below.alloc ?_ (by first | (simp [size_ext, grow]; done) | (simp [size_ext, grow]; omega)) _) | refine Below.drew ?_ | refine below_drewN ?_ _ | (refine Below.trans ?_ (Below.mono (by assumption) (by first | (simp [size_ext, grow]; done) | (simp [size_ext, grow]; omega)))))), by rw [(tab_out HS.out.2).2]; exact own_nil _ _ _ _⟩
set_option maxHeartbeats 1000000 in
theorem step_10 (s : Int) (w : World) : Calls Try.prog 11 #[.int .i64 s, .int .i64 10] w (StepP s 10 w) := by
  by_cases h0 : 0 ≤ s
  · by_cases h9 : s ≤ 9
    · cases hok : tabOk 10 s
      · have H := Lib.hid hok
        have hs : stepErr s 10 = 5 := by simp [stepErr, inTab, h0, h9, hok]
        have HS := Lib.hid hs
        have HH := Lib.hid (And.intro h0 h9)
        clear hok hs
        have kf := fn_nil
        go_enter Try.func11, Try.ntmps11
        go_wp2_with (first | (go_at_call 28; refine (row_10 _).mono ?_; rintro e w1 ⟨rfl, rfl⟩) | (go_at_call 29; refine (known_any _ _).mono ?_; rintro e w1 ⟨rfl, rfl⟩) | (go_at_call 46; refine (refused_no s _ HH.out.1 HH.out.2 H.out).mono ?_; rintro e w1 ⟨A, n, c, y, rfl, hb⟩; obtain ⟨xs, d, rfl⟩ := ext_of hb; clear hb))
        go_ret3
        exact ⟨.slice none 0 0, by rw [HS.out, (tab_out H.out).1]; rfl, by (repeat (first | exact Below.refl _ _ | exact Nat.le_refl _ | (refine below_ext ?_ (by first | (simp [size_ext, grow]; done) | (simp [size_ext, grow]; omega)) _ _) | (refine Below.setCell ?_ (by first | (simp [size_ext, grow]; done) | (simp [size_ext, grow]; omega)) _) | (refine Below.alloc ?_ (by first | (simp [size_ext, grow]; done) | (simp [size_ext, grow]; omega)) _) | refine Below.drew ?_ | refine below_drewN ?_ _ | (refine Below.trans ?_ (Below.mono (by assumption) (by first | (simp [size_ext, grow]; done) | (simp [size_ext, grow]; omega)))))), by rw [(tab_out H.out).2]; exact own_nil _ _ _ _⟩
      · have H := Lib.hid hok
        have hs : stepErr s 10 = 0 := by simp [stepErr, inTab, h0, h9, hok]
        have HS := Lib.hid hs
        have HH := Lib.hid (And.intro h0 h9)
        clear hok hs
        have kf := fn_nil
        go_enter Try.func11, Try.ntmps11
        go_wp2_with (first | (go_at_call 28; refine (row_10 _).mono ?_; rintro e w1 ⟨rfl, rfl⟩) | (go_at_call 29; refine (known_any _ _).mono ?_; rintro e w1 ⟨rfl, rfl⟩) | (go_at_call 46; refine (refused_yes s _ H.out).mono ?_; rintro e w1 ⟨v, rfl, hb, ho⟩; obtain ⟨xs, d, rfl⟩ := ext_of hb; clear hb; obtain ⟨A, c, rfl, -, -⟩ := ownsRow_form ho; have HA := Lib.hid ho; clear ho))
        go_quiet (fail)
        go_wp2
        go_ret3
        exact ⟨_, by rw [HS.out]; rfl, by (repeat (first | exact Below.refl _ _ | exact Nat.le_refl _ | (refine below_ext ?_ (by first | (simp [size_ext, grow]; done) | (simp [size_ext, grow]; omega)) _ _) | (refine Below.setCell ?_ (by first | (simp [size_ext, grow]; done) | (simp [size_ext, grow]; omega)) _) | (refine Below.alloc ?_ (by first | (simp [size_ext, grow]; done) | (simp [size_ext, grow]; omega)) _) | refine Below.drew ?_ | refine below_drewN ?_ _ | (refine Below.trans ?_ (Below.mono (by assumption) (by first | (simp [size_ext, grow]; done) | (simp [size_ext, grow]; omega)))))), own_below HA.out (by (repeat (first | exact Below.refl _ _ | exact Nat.le_refl _ | (refine below_ext ?_ (by first | (simp [size_ext, grow]; done) | (simp [size_ext, grow]; omega)) _ _) | (refine Below.setCell ?_ (by first | (simp [size_ext, grow]; done) | (simp [size_ext, grow]; omega)) _) | (refine Below.alloc ?_ (by first | (simp [size_ext, grow]; done) | (simp [size_ext, grow]; omega)) _) | refine Below.drew ?_ | refine below_drewN ?_ _ | (refine Below.trans ?_ (Below.mono (by assumption) (by first | (simp [size_ext, grow]; done) | (simp [size_ext, grow]; omega)))))))⟩
    · have hn : decide (s ≤ 9) = false := by simpa using h9
      have HS := Lib.hid (show stepErr s 10 = 140 ∧ tabOk 10 s = false from ⟨by simp [stepErr, inTab, h9], tabOk_out (by simp [inTab, h9])⟩)
      clear h9
      go_enter Try.func11, Try.ntmps11
      go_wp2_with (first | (go_at_call 28; refine (row_10 _).mono ?_; rintro e w1 ⟨rfl, rfl⟩) | (go_at_call 29; refine (known_any _ _).mono ?_; rintro e w1 ⟨rfl, rfl⟩))
      go_ret3
      exact ⟨.slice none 0 0, by rw [HS.out.1, (tab_out HS.out.2).1]; rfl, by (repeat (first | exact Below.refl _ _ | exact Nat.le_refl _ | (refine below_ext ?_ (by first | (simp [size_ext, grow]; done) | (simp [size_ext, grow]; omega)) _ _) | (refine Below.setCell ?_ (by first | (simp [size_ext, grow]; done) | (simp [size_ext, grow]; omega)) _) | (refine Below.alloc ?_ (by first | (simp [size_ext, grow]; done) | (simp [size_ext, grow]; omega)) _) | refine Below.drew ?_ | refine below_drewN ?_ _ | (refine Below.trans ?_ (Below.mono (by assumption) (by first | (simp [size_ext, grow]; done) | (simp [size_ext, grow]; omega)))))), by rw [(tab_out HS.out.2).2]; exact own_nil _ _ _ _⟩
  · have hn : decide (0 ≤ s) = false := by simpa using h0
    have HS := Lib.hid (show stepErr s 10 = 140 ∧ tabOk 10 s = false from ⟨by simp [stepErr, inTab, h0], tabOk_out (by simp [inTab, h0])⟩)
    clear h0
    go_enter Try.func11, Try.ntmps11
    go_wp2_with (first | (go_at_call 28; refine (row_10 _).mono ?_; rintro e w1 ⟨rfl, rfl⟩) | (go_at_call 29; refine (known_any _ _).mono ?_; rintro e w1 ⟨rfl, rfl⟩))
    go_ret3
    exact ⟨.slice none 0 0, by rw [HS.out.1, (tab_out HS.out.2).1]; rfl, by (repeat (first | exact Below.refl _ _ | exact Nat.le_refl _ | (refine below_ext ?_ (by first | (simp [size_ext, grow]; done) | (simp [size_ext, grow]; omega)) _ _) | (refine Below.setCell ?_ (by first | (simp [size_ext, grow]; done) | (simp [size_ext, grow]; omega)) _) | (refine Below.alloc ?_ (by first | (simp [size_ext, grow]; done) | (simp [size_ext, grow]; omega)) _) | refine Below.drew ?_ | refine below_drewN ?_ _ | (refine Below.trans ?_ (Below.mono (by assumption) (by first | (simp [size_ext, grow]; done) | (simp [size_ext, grow]; omega)))))), by rw [(tab_out HS.out.2).2]; exact own_nil _ _ _ _⟩
set_option maxHeartbeats 1000000 in
theorem step_11 (s : Int) (w : World) : Calls Try.prog 11 #[.int .i64 s, .int .i64 11] w (StepP s 11 w) := by
  by_cases h0 : 0 ≤ s
  · by_cases h9 : s ≤ 9
    · cases hok : tabOk 11 s
      · have H := Lib.hid hok
        have hs : stepErr s 11 = 5 := by simp [stepErr, inTab, h0, h9, hok]
        have HS := Lib.hid hs
        have HH := Lib.hid (And.intro h0 h9)
        clear hok hs
        have kf := fn_nil
        go_enter Try.func11, Try.ntmps11
        go_wp2_with (first | (go_at_call 28; refine (row_11 _).mono ?_; rintro e w1 ⟨rfl, rfl⟩) | (go_at_call 29; refine (known_any _ _).mono ?_; rintro e w1 ⟨rfl, rfl⟩) | (go_at_call 47; refine (ended_no s _ HH.out.1 HH.out.2 H.out).mono ?_; rintro e w1 ⟨A, n, c, y, rfl, hb⟩; obtain ⟨xs, d, rfl⟩ := ext_of hb; clear hb))
        go_ret3
        exact ⟨.slice none 0 0, by rw [HS.out, (tab_out H.out).1]; rfl, by (repeat (first | exact Below.refl _ _ | exact Nat.le_refl _ | (refine below_ext ?_ (by first | (simp [size_ext, grow]; done) | (simp [size_ext, grow]; omega)) _ _) | (refine Below.setCell ?_ (by first | (simp [size_ext, grow]; done) | (simp [size_ext, grow]; omega)) _) | (refine Below.alloc ?_ (by first | (simp [size_ext, grow]; done) | (simp [size_ext, grow]; omega)) _) | refine Below.drew ?_ | refine below_drewN ?_ _ | (refine Below.trans ?_ (Below.mono (by assumption) (by first | (simp [size_ext, grow]; done) | (simp [size_ext, grow]; omega)))))), by rw [(tab_out H.out).2]; exact own_nil _ _ _ _⟩
      · have H := Lib.hid hok
        have hs : stepErr s 11 = 0 := by simp [stepErr, inTab, h0, h9, hok]
        have HS := Lib.hid hs
        have HH := Lib.hid (And.intro h0 h9)
        clear hok hs
        have kf := fn_nil
        go_enter Try.func11, Try.ntmps11
        go_wp2_with (first | (go_at_call 28; refine (row_11 _).mono ?_; rintro e w1 ⟨rfl, rfl⟩) | (go_at_call 29; refine (known_any _ _).mono ?_; rintro e w1 ⟨rfl, rfl⟩) | (go_at_call 47; refine (ended_yes s _ H.out).mono ?_; rintro e w1 ⟨v, rfl, hb, ho⟩; obtain ⟨xs, d, rfl⟩ := ext_of hb; clear hb; obtain ⟨A, c, rfl, -, -⟩ := ownsRow_form ho; have HA := Lib.hid ho; clear ho))
        go_quiet (fail)
        go_wp2
        go_ret3
        exact ⟨_, by rw [HS.out]; rfl, by (repeat (first | exact Below.refl _ _ | exact Nat.le_refl _ | (refine below_ext ?_ (by first | (simp [size_ext, grow]; done) | (simp [size_ext, grow]; omega)) _ _) | (refine Below.setCell ?_ (by first | (simp [size_ext, grow]; done) | (simp [size_ext, grow]; omega)) _) | (refine Below.alloc ?_ (by first | (simp [size_ext, grow]; done) | (simp [size_ext, grow]; omega)) _) | refine Below.drew ?_ | refine below_drewN ?_ _ | (refine Below.trans ?_ (Below.mono (by assumption) (by first | (simp [size_ext, grow]; done) | (simp [size_ext, grow]; omega)))))), own_below HA.out (by (repeat (first | exact Below.refl _ _ | exact Nat.le_refl _ | (refine below_ext ?_ (by first | (simp [size_ext, grow]; done) | (simp [size_ext, grow]; omega)) _ _) | (refine Below.setCell ?_ (by first | (simp [size_ext, grow]; done) | (simp [size_ext, grow]; omega)) _) | (refine Below.alloc ?_ (by first | (simp [size_ext, grow]; done) | (simp [size_ext, grow]; omega)) _) | refine Below.drew ?_ | refine below_drewN ?_ _ | (refine Below.trans ?_ (Below.mono (by assumption) (by first | (simp [size_ext, grow]; done) | (simp [size_ext, grow]; omega)))))))⟩
    · have hn : decide (s ≤ 9) = false := by simpa using h9
      have HS := Lib.hid (show stepErr s 11 = 140 ∧ tabOk 11 s = false from ⟨by simp [stepErr, inTab, h9], tabOk_out (by simp [inTab, h9])⟩)
      clear h9
      go_enter Try.func11, Try.ntmps11
      go_wp2_with (first | (go_at_call 28; refine (row_11 _).mono ?_; rintro e w1 ⟨rfl, rfl⟩) | (go_at_call 29; refine (known_any _ _).mono ?_; rintro e w1 ⟨rfl, rfl⟩))
      go_ret3
      exact ⟨.slice none 0 0, by rw [HS.out.1, (tab_out HS.out.2).1]; rfl, by (repeat (first | exact Below.refl _ _ | exact Nat.le_refl _ | (refine below_ext ?_ (by first | (simp [size_ext, grow]; done) | (simp [size_ext, grow]; omega)) _ _) | (refine Below.setCell ?_ (by first | (simp [size_ext, grow]; done) | (simp [size_ext, grow]; omega)) _) | (refine Below.alloc ?_ (by first | (simp [size_ext, grow]; done) | (simp [size_ext, grow]; omega)) _) | refine Below.drew ?_ | refine below_drewN ?_ _ | (refine Below.trans ?_ (Below.mono (by assumption) (by first | (simp [size_ext, grow]; done) | (simp [size_ext, grow]; omega)))))), by rw [(tab_out HS.out.2).2]; exact own_nil _ _ _ _⟩
  · have hn : decide (0 ≤ s) = false := by simpa using h0
    have HS := Lib.hid (show stepErr s 11 = 140 ∧ tabOk 11 s = false from ⟨by simp [stepErr, inTab, h0], tabOk_out (by simp [inTab, h0])⟩)
    clear h0
    go_enter Try.func11, Try.ntmps11
    go_wp2_with (first | (go_at_call 28; refine (row_11 _).mono ?_; rintro e w1 ⟨rfl, rfl⟩) | (go_at_call 29; refine (known_any _ _).mono ?_; rintro e w1 ⟨rfl, rfl⟩))
    go_ret3
    exact ⟨.slice none 0 0, by rw [HS.out.1, (tab_out HS.out.2).1]; rfl, by (repeat (first | exact Below.refl _ _ | exact Nat.le_refl _ | (refine below_ext ?_ (by first | (simp [size_ext, grow]; done) | (simp [size_ext, grow]; omega)) _ _) | (refine Below.setCell ?_ (by first | (simp [size_ext, grow]; done) | (simp [size_ext, grow]; omega)) _) | (refine Below.alloc ?_ (by first | (simp [size_ext, grow]; done) | (simp [size_ext, grow]; omega)) _) | refine Below.drew ?_ | refine below_drewN ?_ _ | (refine Below.trans ?_ (Below.mono (by assumption) (by first | (simp [size_ext, grow]; done) | (simp [size_ext, grow]; omega)))))), by rw [(tab_out HS.out.2).2]; exact own_nil _ _ _ _⟩
set_option maxHeartbeats 1000000 in
theorem step_12 (s : Int) (w : World) : Calls Try.prog 11 #[.int .i64 s, .int .i64 12] w (StepP s 12 w) := by
  by_cases h0 : 0 ≤ s
  · by_cases h9 : s ≤ 9
    · cases hok : tabOk 12 s
      · have H := Lib.hid hok
        have hs : stepErr s 12 = 5 := by simp [stepErr, inTab, h0, h9, hok]
        have HS := Lib.hid hs
        have HH := Lib.hid (And.intro h0 h9)
        clear hok hs
        have kf := fn_nil
        go_enter Try.func11, Try.ntmps11
        go_wp2_with (first | (go_at_call 28; refine (row_12 _).mono ?_; rintro e w1 ⟨rfl, rfl⟩) | (go_at_call 29; refine (known_any _ _).mono ?_; rintro e w1 ⟨rfl, rfl⟩) | (go_at_call 48; refine (over_no s _ HH.out.1 HH.out.2 H.out).mono ?_; rintro e w1 ⟨A, n, c, y, rfl, hb⟩; obtain ⟨xs, d, rfl⟩ := ext_of hb; clear hb))
        go_ret3
        exact ⟨.slice none 0 0, by rw [HS.out, (tab_out H.out).1]; rfl, by (repeat (first | exact Below.refl _ _ | exact Nat.le_refl _ | (refine below_ext ?_ (by first | (simp [size_ext, grow]; done) | (simp [size_ext, grow]; omega)) _ _) | (refine Below.setCell ?_ (by first | (simp [size_ext, grow]; done) | (simp [size_ext, grow]; omega)) _) | (refine Below.alloc ?_ (by first | (simp [size_ext, grow]; done) | (simp [size_ext, grow]; omega)) _) | refine Below.drew ?_ | refine below_drewN ?_ _ | (refine Below.trans ?_ (Below.mono (by assumption) (by first | (simp [size_ext, grow]; done) | (simp [size_ext, grow]; omega)))))), by rw [(tab_out H.out).2]; exact own_nil _ _ _ _⟩
      · have H := Lib.hid hok
        have hs : stepErr s 12 = 0 := by simp [stepErr, inTab, h0, h9, hok]
        have HS := Lib.hid hs
        have HH := Lib.hid (And.intro h0 h9)
        clear hok hs
        have kf := fn_nil
        go_enter Try.func11, Try.ntmps11
        go_wp2_with (first | (go_at_call 28; refine (row_12 _).mono ?_; rintro e w1 ⟨rfl, rfl⟩) | (go_at_call 29; refine (known_any _ _).mono ?_; rintro e w1 ⟨rfl, rfl⟩) | (go_at_call 48; refine (over_yes s _ H.out).mono ?_; rintro e w1 ⟨v, rfl, hb, ho⟩; obtain ⟨xs, d, rfl⟩ := ext_of hb; clear hb; obtain ⟨A, c, rfl, -, -⟩ := ownsRow_form ho; have HA := Lib.hid ho; clear ho))
        go_quiet (fail)
        go_wp2
        go_ret3
        exact ⟨_, by rw [HS.out]; rfl, by (repeat (first | exact Below.refl _ _ | exact Nat.le_refl _ | (refine below_ext ?_ (by first | (simp [size_ext, grow]; done) | (simp [size_ext, grow]; omega)) _ _) | (refine Below.setCell ?_ (by first | (simp [size_ext, grow]; done) | (simp [size_ext, grow]; omega)) _) | (refine Below.alloc ?_ (by first | (simp [size_ext, grow]; done) | (simp [size_ext, grow]; omega)) _) | refine Below.drew ?_ | refine below_drewN ?_ _ | (refine Below.trans ?_ (Below.mono (by assumption) (by first | (simp [size_ext, grow]; done) | (simp [size_ext, grow]; omega)))))), own_below HA.out (by (repeat (first | exact Below.refl _ _ | exact Nat.le_refl _ | (refine below_ext ?_ (by first | (simp [size_ext, grow]; done) | (simp [size_ext, grow]; omega)) _ _) | (refine Below.setCell ?_ (by first | (simp [size_ext, grow]; done) | (simp [size_ext, grow]; omega)) _) | (refine Below.alloc ?_ (by first | (simp [size_ext, grow]; done) | (simp [size_ext, grow]; omega)) _) | refine Below.drew ?_ | refine below_drewN ?_ _ | (refine Below.trans ?_ (Below.mono (by assumption) (by first | (simp [size_ext, grow]; done) | (simp [size_ext, grow]; omega)))))))⟩
    · have hn : decide (s ≤ 9) = false := by simpa using h9
      have HS := Lib.hid (show stepErr s 12 = 140 ∧ tabOk 12 s = false from ⟨by simp [stepErr, inTab, h9], tabOk_out (by simp [inTab, h9])⟩)
      clear h9
      go_enter Try.func11, Try.ntmps11
      go_wp2_with (first | (go_at_call 28; refine (row_12 _).mono ?_; rintro e w1 ⟨rfl, rfl⟩) | (go_at_call 29; refine (known_any _ _).mono ?_; rintro e w1 ⟨rfl, rfl⟩))
      go_ret3
      exact ⟨.slice none 0 0, by rw [HS.out.1, (tab_out HS.out.2).1]; rfl, by (repeat (first | exact Below.refl _ _ | exact Nat.le_refl _ | (refine below_ext ?_ (by first | (simp [size_ext, grow]; done) | (simp [size_ext, grow]; omega)) _ _) | (refine Below.setCell ?_ (by first | (simp [size_ext, grow]; done) | (simp [size_ext, grow]; omega)) _) | (refine Below.alloc ?_ (by first | (simp [size_ext, grow]; done) | (simp [size_ext, grow]; omega)) _) | refine Below.drew ?_ | refine below_drewN ?_ _ | (refine Below.trans ?_ (Below.mono (by assumption) (by first | (simp [size_ext, grow]; done) | (simp [size_ext, grow]; omega)))))), by rw [(tab_out HS.out.2).2]; exact own_nil _ _ _ _⟩
  · have hn : decide (0 ≤ s) = false := by simpa using h0
    have HS := Lib.hid (show stepErr s 12 = 140 ∧ tabOk 12 s = false from ⟨by simp [stepErr, inTab, h0], tabOk_out (by simp [inTab, h0])⟩)
    clear h0
    go_enter Try.func11, Try.ntmps11
    go_wp2_with (first | (go_at_call 28; refine (row_12 _).mono ?_; rintro e w1 ⟨rfl, rfl⟩) | (go_at_call 29; refine (known_any _ _).mono ?_; rintro e w1 ⟨rfl, rfl⟩))
    go_ret3
    exact ⟨.slice none 0 0, by rw [HS.out.1, (tab_out HS.out.2).1]; rfl, by (repeat (first | exact Below.refl _ _ | exact Nat.le_refl _ | (refine below_ext ?_ (by first | (simp [size_ext, grow]; done) | (simp [size_ext, grow]; omega)) _ _) | (refine Below.setCell ?_ (by first | (simp [size_ext, grow]; done) | (simp [size_ext, grow]; omega)) _) | (refine Below.alloc ?_ (by first | (simp [size_ext, grow]; done) | (simp [size_ext, grow]; omega)) _) | refine Below.drew ?_ | refine below_drewN ?_ _ | (refine Below.trans ?_ (Below.mono (by assumption) (by first | (simp [size_ext, grow]; done) | (simp [size_ext, grow]; omega)))))), by rw [(tab_out HS.out.2).2]; exact own_nil _ _ _ _⟩
set_option maxHeartbeats 1000000 in
theorem step_13 (s : Int) (w : World) : Calls Try.prog 11 #[.int .i64 s, .int .i64 13] w (StepP s 13 w) := by
  by_cases h0 : 0 ≤ s
  · by_cases h9 : s ≤ 9
    · cases hok : tabOk 13 s
      · have H := Lib.hid hok
        have hs : stepErr s 13 = 5 := by simp [stepErr, inTab, h0, h9, hok]
        have HS := Lib.hid hs
        have HH := Lib.hid (And.intro h0 h9)
        clear hok hs
        have kf := fn_nil
        go_enter Try.func11, Try.ntmps11
        go_wp2_with (first | (go_at_call 28; refine (row_13 _).mono ?_; rintro e w1 ⟨rfl, rfl⟩) | (go_at_call 29; refine (known_any _ _).mono ?_; rintro e w1 ⟨rfl, rfl⟩) | (go_at_call 49; refine (strange_no s _ HH.out.1 HH.out.2 H.out).mono ?_; rintro e w1 ⟨A, n, c, y, rfl, hb⟩; obtain ⟨xs, d, rfl⟩ := ext_of hb; clear hb))
        go_ret3
        exact ⟨.slice none 0 0, by rw [HS.out, (tab_out H.out).1]; rfl, by (repeat (first | exact Below.refl _ _ | exact Nat.le_refl _ | (refine below_ext ?_ (by first | (simp [size_ext, grow]; done) | (simp [size_ext, grow]; omega)) _ _) | (refine Below.setCell ?_ (by first | (simp [size_ext, grow]; done) | (simp [size_ext, grow]; omega)) _) | (refine Below.alloc ?_ (by first | (simp [size_ext, grow]; done) | (simp [size_ext, grow]; omega)) _) | refine Below.drew ?_ | refine below_drewN ?_ _ | (refine Below.trans ?_ (Below.mono (by assumption) (by first | (simp [size_ext, grow]; done) | (simp [size_ext, grow]; omega)))))), by rw [(tab_out H.out).2]; exact own_nil _ _ _ _⟩
      · have H := Lib.hid hok
        have hs : stepErr s 13 = 0 := by simp [stepErr, inTab, h0, h9, hok]
        have HS := Lib.hid hs
        have HH := Lib.hid (And.intro h0 h9)
        clear hok hs
        have kf := fn_nil
        go_enter Try.func11, Try.ntmps11
        go_wp2_with (first | (go_at_call 28; refine (row_13 _).mono ?_; rintro e w1 ⟨rfl, rfl⟩) | (go_at_call 29; refine (known_any _ _).mono ?_; rintro e w1 ⟨rfl, rfl⟩) | (go_at_call 49; refine (strange_yes s _ H.out).mono ?_; rintro e w1 ⟨v, rfl, hb, ho⟩; obtain ⟨xs, d, rfl⟩ := ext_of hb; clear hb; obtain ⟨A, c, rfl, -, -⟩ := ownsRow_form ho; have HA := Lib.hid ho; clear ho))
        go_quiet (fail)
        go_wp2
        go_ret3
        exact ⟨_, by rw [HS.out]; rfl, by (repeat (first | exact Below.refl _ _ | exact Nat.le_refl _ | (refine below_ext ?_ (by first | (simp [size_ext, grow]; done) | (simp [size_ext, grow]; omega)) _ _) | (refine Below.setCell ?_ (by first | (simp [size_ext, grow]; done) | (simp [size_ext, grow]; omega)) _) | (refine Below.alloc ?_ (by first | (simp [size_ext, grow]; done) | (simp [size_ext, grow]; omega)) _) | refine Below.drew ?_ | refine below_drewN ?_ _ | (refine Below.trans ?_ (Below.mono (by assumption) (by first | (simp [size_ext, grow]; done) | (simp [size_ext, grow]; omega)))))), own_below HA.out (by (repeat (first | exact Below.refl _ _ | exact Nat.le_refl _ | (refine below_ext ?_ (by first | (simp [size_ext, grow]; done) | (simp [size_ext, grow]; omega)) _ _) | (refine Below.setCell ?_ (by first | (simp [size_ext, grow]; done) | (simp [size_ext, grow]; omega)) _) | (refine Below.alloc ?_ (by first | (simp [size_ext, grow]; done) | (simp [size_ext, grow]; omega)) _) | refine Below.drew ?_ | refine below_drewN ?_ _ | (refine Below.trans ?_ (Below.mono (by assumption) (by first | (simp [size_ext, grow]; done) | (simp [size_ext, grow]; omega)))))))⟩
    · have hn : decide (s ≤ 9) = false := by simpa using h9
      have HS := Lib.hid (show stepErr s 13 = 140 ∧ tabOk 13 s = false from ⟨by simp [stepErr, inTab, h9], tabOk_out (by simp [inTab, h9])⟩)
      clear h9
      go_enter Try.func11, Try.ntmps11
      go_wp2_with (first | (go_at_call 28; refine (row_13 _).mono ?_; rintro e w1 ⟨rfl, rfl⟩) | (go_at_call 29; refine (known_any _ _).mono ?_; rintro e w1 ⟨rfl, rfl⟩))
      go_ret3
      exact ⟨.slice none 0 0, by rw [HS.out.1, (tab_out HS.out.2).1]; rfl, by (repeat (first | exact Below.refl _ _ | exact Nat.le_refl _ | (refine below_ext ?_ (by first | (simp [size_ext, grow]; done) | (simp [size_ext, grow]; omega)) _ _) | (refine Below.setCell ?_ (by first | (simp [size_ext, grow]; done) | (simp [size_ext, grow]; omega)) _) | (refine Below.alloc ?_ (by first | (simp [size_ext, grow]; done) | (simp [size_ext, grow]; omega)) _) | refine Below.drew ?_ | refine below_drewN ?_ _ | (refine Below.trans ?_ (Below.mono (by assumption) (by first | (simp [size_ext, grow]; done) | (simp [size_ext, grow]; omega)))))), by rw [(tab_out HS.out.2).2]; exact own_nil _ _ _ _⟩
  · have hn : decide (0 ≤ s) = false := by simpa using h0
    have HS := Lib.hid (show stepErr s 13 = 140 ∧ tabOk 13 s = false from ⟨by simp [stepErr, inTab, h0], tabOk_out (by simp [inTab, h0])⟩)
    clear h0
    go_enter Try.func11, Try.ntmps11
    go_wp2_with (first | (go_at_call 28; refine (row_13 _).mono ?_; rintro e w1 ⟨rfl, rfl⟩) | (go_at_call 29; refine (known_any _ _).mono ?_; rintro e w1 ⟨rfl, rfl⟩))
    go_ret3
    exact ⟨.slice none 0 0, by rw [HS.out.1, (tab_out HS.out.2).1]; rfl, by (repeat (first | exact Below.refl _ _ | exact Nat.le_refl _ | (refine below_ext ?_ (by first | (simp [size_ext, grow]; done) | (simp [size_ext, grow]; omega)) _ _) | (refine Below.setCell ?_ (by first | (simp [size_ext, grow]; done) | (simp [size_ext, grow]; omega)) _) | (refine Below.alloc ?_ (by first | (simp [size_ext, grow]; done) | (simp [size_ext, grow]; omega)) _) | refine Below.drew ?_ | refine below_drewN ?_ _ | (refine Below.trans ?_ (Below.mono (by assumption) (by first | (simp [size_ext, grow]; done) | (simp [size_ext, grow]; omega)))))), by rw [(tab_out HS.out.2).2]; exact own_nil _ _ _ _⟩
set_option maxHeartbeats 1000000 in
theorem step_14 (s : Int) (w : World) : Calls Try.prog 11 #[.int .i64 s, .int .i64 14] w (StepP s 14 w) := by
  by_cases h0 : 0 ≤ s
  · by_cases h9 : s ≤ 9
    · cases hok : tabOk 14 s
      · have H := Lib.hid hok
        have hs : stepErr s 14 = 5 := by simp [stepErr, inTab, h0, h9, hok]
        have HS := Lib.hid hs
        have HH := Lib.hid (And.intro h0 h9)
        clear hok hs
        have kf := fn_nil
        go_enter Try.func11, Try.ntmps11
        go_wp2_with (first | (go_at_call 28; refine (row_14 _).mono ?_; rintro e w1 ⟨rfl, rfl⟩) | (go_at_call 29; refine (known_any _ _).mono ?_; rintro e w1 ⟨rfl, rfl⟩) | (go_at_call 50; refine (minor_no s _ HH.out.1 HH.out.2 H.out).mono ?_; rintro e w1 ⟨A, n, c, y, rfl, hb⟩; obtain ⟨xs, d, rfl⟩ := ext_of hb; clear hb))
        go_ret3
        exact ⟨.slice none 0 0, by rw [HS.out, (tab_out H.out).1]; rfl, by (repeat (first | exact Below.refl _ _ | exact Nat.le_refl _ | (refine below_ext ?_ (by first | (simp [size_ext, grow]; done) | (simp [size_ext, grow]; omega)) _ _) | (refine Below.setCell ?_ (by first | (simp [size_ext, grow]; done) | (simp [size_ext, grow]; omega)) _) | (refine Below.alloc ?_ (by first | (simp [size_ext, grow]; done) | (simp [size_ext, grow]; omega)) _) | refine Below.drew ?_ | refine below_drewN ?_ _ | (refine Below.trans ?_ (Below.mono (by assumption) (by first | (simp [size_ext, grow]; done) | (simp [size_ext, grow]; omega)))))), by rw [(tab_out H.out).2]; exact own_nil _ _ _ _⟩
      · have H := Lib.hid hok
        have hs : stepErr s 14 = 0 := by simp [stepErr, inTab, h0, h9, hok]
        have HS := Lib.hid hs
        have HH := Lib.hid (And.intro h0 h9)
        clear hok hs
        have kf := fn_nil
        go_enter Try.func11, Try.ntmps11
        go_wp2_with (first | (go_at_call 28; refine (row_14 _).mono ?_; rintro e w1 ⟨rfl, rfl⟩) | (go_at_call 29; refine (known_any _ _).mono ?_; rintro e w1 ⟨rfl, rfl⟩) | (go_at_call 50; refine (minor_yes s _ H.out).mono ?_; rintro e w1 ⟨v, rfl, hb, ho⟩; obtain ⟨xs, d, rfl⟩ := ext_of hb; clear hb; obtain ⟨A, c, rfl, -, -⟩ := ownsRow_form ho; have HA := Lib.hid ho; clear ho))
        go_quiet (fail)
        go_wp2
        go_ret3
        exact ⟨_, by rw [HS.out]; rfl, by (repeat (first | exact Below.refl _ _ | exact Nat.le_refl _ | (refine below_ext ?_ (by first | (simp [size_ext, grow]; done) | (simp [size_ext, grow]; omega)) _ _) | (refine Below.setCell ?_ (by first | (simp [size_ext, grow]; done) | (simp [size_ext, grow]; omega)) _) | (refine Below.alloc ?_ (by first | (simp [size_ext, grow]; done) | (simp [size_ext, grow]; omega)) _) | refine Below.drew ?_ | refine below_drewN ?_ _ | (refine Below.trans ?_ (Below.mono (by assumption) (by first | (simp [size_ext, grow]; done) | (simp [size_ext, grow]; omega)))))), own_below HA.out (by (repeat (first | exact Below.refl _ _ | exact Nat.le_refl _ | (refine below_ext ?_ (by first | (simp [size_ext, grow]; done) | (simp [size_ext, grow]; omega)) _ _) | (refine Below.setCell ?_ (by first | (simp [size_ext, grow]; done) | (simp [size_ext, grow]; omega)) _) | (refine Below.alloc ?_ (by first | (simp [size_ext, grow]; done) | (simp [size_ext, grow]; omega)) _) | refine Below.drew ?_ | refine below_drewN ?_ _ | (refine Below.trans ?_ (Below.mono (by assumption) (by first | (simp [size_ext, grow]; done) | (simp [size_ext, grow]; omega)))))))⟩
    · have hn : decide (s ≤ 9) = false := by simpa using h9
      have HS := Lib.hid (show stepErr s 14 = 140 ∧ tabOk 14 s = false from ⟨by simp [stepErr, inTab, h9], tabOk_out (by simp [inTab, h9])⟩)
      clear h9
      go_enter Try.func11, Try.ntmps11
      go_wp2_with (first | (go_at_call 28; refine (row_14 _).mono ?_; rintro e w1 ⟨rfl, rfl⟩) | (go_at_call 29; refine (known_any _ _).mono ?_; rintro e w1 ⟨rfl, rfl⟩))
      go_ret3
      exact ⟨.slice none 0 0, by rw [HS.out.1, (tab_out HS.out.2).1]; rfl, by (repeat (first | exact Below.refl _ _ | exact Nat.le_refl _ | (refine below_ext ?_ (by first | (simp [size_ext, grow]; done) | (simp [size_ext, grow]; omega)) _ _) | (refine Below.setCell ?_ (by first | (simp [size_ext, grow]; done) | (simp [size_ext, grow]; omega)) _) | (refine Below.alloc ?_ (by first | (simp [size_ext, grow]; done) | (simp [size_ext, grow]; omega)) _) | refine Below.drew ?_ | refine below_drewN ?_ _ | (refine Below.trans ?_ (Below.mono (by assumption) (by first | (simp [size_ext, grow]; done) | (simp [size_ext, grow]; omega)))))), by rw [(tab_out HS.out.2).2]; exact own_nil _ _ _ _⟩
  · have hn : decide (0 ≤ s) = false := by simpa using h0
    have HS := Lib.hid (show stepErr s 14 = 140 ∧ tabOk 14 s = false from ⟨by simp [stepErr, inTab, h0], tabOk_out (by simp [inTab, h0])⟩)
    clear h0
    go_enter Try.func11, Try.ntmps11
    go_wp2_with (first | (go_at_call 28; refine (row_14 _).mono ?_; rintro e w1 ⟨rfl, rfl⟩) | (go_at_call 29; refine (known_any _ _).mono ?_; rintro e w1 ⟨rfl, rfl⟩))
    go_ret3
    exact ⟨.slice none 0 0, by rw [HS.out.1, (tab_out HS.out.2).1]; rfl, by (repeat (first | exact Below.refl _ _ | exact Nat.le_refl _ | (refine below_ext ?_ (by first | (simp [size_ext, grow]; done) | (simp [size_ext, grow]; omega)) _ _) | (refine Below.setCell ?_ (by first | (simp [size_ext, grow]; done) | (simp [size_ext, grow]; omega)) _) | (refine Below.alloc ?_ (by first | (simp [size_ext, grow]; done) | (simp [size_ext, grow]; omega)) _) | refine Below.drew ?_ | refine below_drewN ?_ _ | (refine Below.trans ?_ (Below.mono (by assumption) (by first | (simp [size_ext, grow]; done) | (simp [size_ext, grow]; omega)))))), by rw [(tab_out HS.out.2).2]; exact own_nil _ _ _ _⟩
set_option maxHeartbeats 1000000 in
theorem step_15 (s : Int) (w : World) : Calls Try.prog 11 #[.int .i64 s, .int .i64 15] w (StepP s 15 w) := by
  by_cases h0 : 0 ≤ s
  · by_cases h9 : s ≤ 9
    · cases hok : tabOk 15 s
      · have H := Lib.hid hok
        have hs : stepErr s 15 = 5 := by simp [stepErr, inTab, h0, h9, hok]
        have HS := Lib.hid hs
        have HH := Lib.hid (And.intro h0 h9)
        clear hok hs
        have kf := fn_nil
        go_enter Try.func11, Try.ntmps11
        go_wp2_with (first | (go_at_call 28; refine (row_15 _).mono ?_; rintro e w1 ⟨rfl, rfl⟩) | (go_at_call 29; refine (known_any _ _).mono ?_; rintro e w1 ⟨rfl, rfl⟩) | (go_at_call 51; refine (major_no s _ HH.out.1 HH.out.2 H.out).mono ?_; rintro e w1 ⟨A, n, c, y, rfl, hb⟩; obtain ⟨xs, d, rfl⟩ := ext_of hb; clear hb))
        go_ret3
        exact ⟨.slice none 0 0, by rw [HS.out, (tab_out H.out).1]; rfl, by (repeat (first | exact Below.refl _ _ | exact Nat.le_refl _ | (refine below_ext ?_ (by first | (simp [size_ext, grow]; done) | (simp [size_ext, grow]; omega)) _ _) | (refine Below.setCell ?_ (by first | (simp [size_ext, grow]; done) | (simp [size_ext, grow]; omega)) _) | (refine Below.alloc ?_ (by first | (simp [size_ext, grow]; done) | (simp [size_ext, grow]; omega)) _) | refine Below.drew ?_ | refine below_drewN ?_ _ | (refine Below.trans ?_ (Below.mono (by assumption) (by first | (simp [size_ext, grow]; done) | (simp [size_ext, grow]; omega)))))), by rw [(tab_out H.out).2]; exact own_nil _ _ _ _⟩
      · have H := Lib.hid hok
        have hs : stepErr s 15 = 0 := by simp [stepErr, inTab, h0, h9, hok]
        have HS := Lib.hid hs
        have HH := Lib.hid (And.intro h0 h9)
        clear hok hs
        have kf := fn_nil
        go_enter Try.func11, Try.ntmps11
        go_wp2_with (first | (go_at_call 28; refine (row_15 _).mono ?_; rintro e w1 ⟨rfl, rfl⟩) | (go_at_call 29; refine (known_any _ _).mono ?_; rintro e w1 ⟨rfl, rfl⟩) | (go_at_call 51; refine (major_yes s _ H.out).mono ?_; rintro e w1 ⟨v, rfl, hb, ho⟩; obtain ⟨xs, d, rfl⟩ := ext_of hb; clear hb; obtain ⟨A, c, rfl, -, -⟩ := ownsRow_form ho; have HA := Lib.hid ho; clear ho))
        go_quiet (fail)
        go_wp2
        go_ret3
        exact ⟨_, by rw [HS.out]; rfl, by (repeat (first | exact Below.refl _ _ | exact Nat.le_refl _ | (refine below_ext ?_ (by first | (simp [size_ext, grow]; done) | (simp [size_ext, grow]; omega)) _ _) | (refine Below.setCell ?_ (by first | (simp [size_ext, grow]; done) | (simp [size_ext, grow]; omega)) _) | (refine Below.alloc ?_ (by first | (simp [size_ext, grow]; done) | (simp [size_ext, grow]; omega)) _) | refine Below.drew ?_ | refine below_drewN ?_ _ | (refine Below.trans ?_ (Below.mono (by assumption) (by first | (simp [size_ext, grow]; done) | (simp [size_ext, grow]; omega)))))), own_below HA.out (by (repeat (first | exact Below.refl _ _ | exact Nat.le_refl _ | (refine below_ext ?_ (by first | (simp [size_ext, grow]; done) | (simp [size_ext, grow]; omega)) _ _) | (refine Below.setCell ?_ (by first | (simp [size_ext, grow]; done) | (simp [size_ext, grow]; omega)) _) | (refine Below.alloc ?_ (by first | (simp [size_ext, grow]; done) | (simp [size_ext, grow]; omega)) _) | refine Below.drew ?_ | refine below_drewN ?_ _ | (refine Below.trans ?_ (Below.mono (by assumption) (by first | (simp [size_ext, grow]; done) | (simp [size_ext, grow]; omega)))))))⟩
    · have hn : decide (s ≤ 9) = false := by simpa using h9
      have HS := Lib.hid (show stepErr s 15 = 140 ∧ tabOk 15 s = false from ⟨by simp [stepErr, inTab, h9], tabOk_out (by simp [inTab, h9])⟩)
      clear h9
      go_enter Try.func11, Try.ntmps11
      go_wp2_with (first | (go_at_call 28; refine (row_15 _).mono ?_; rintro e w1 ⟨rfl, rfl⟩) | (go_at_call 29; refine (known_any _ _).mono ?_; rintro e w1 ⟨rfl, rfl⟩))
      go_ret3
      exact ⟨.slice none 0 0, by rw [HS.out.1, (tab_out HS.out.2).1]; rfl, by (repeat (first | exact Below.refl _ _ | exact Nat.le_refl _ | (refine below_ext ?_ (by first | (simp [size_ext, grow]; done) | (simp [size_ext, grow]; omega)) _ _) | (refine Below.setCell ?_ (by first | (simp [size_ext, grow]; done) | (simp [size_ext, grow]; omega)) _) | (refine Below.alloc ?_ (by first | (simp [size_ext, grow]; done) | (simp [size_ext, grow]; omega)) _) | refine Below.drew ?_ | refine below_drewN ?_ _ | (refine Below.trans ?_ (Below.mono (by assumption) (by first | (simp [size_ext, grow]; done) | (simp [size_ext, grow]; omega)))))), by rw [(tab_out HS.out.2).2]; exact own_nil _ _ _ _⟩
  · have hn : decide (0 ≤ s) = false := by simpa using h0
    have HS := Lib.hid (show stepErr s 15 = 140 ∧ tabOk 15 s = false from ⟨by simp [stepErr, inTab, h0], tabOk_out (by simp [inTab, h0])⟩)
    clear h0
    go_enter Try.func11, Try.ntmps11
    go_wp2_with (first | (go_at_call 28; refine (row_15 _).mono ?_; rintro e w1 ⟨rfl, rfl⟩) | (go_at_call 29; refine (known_any _ _).mono ?_; rintro e w1 ⟨rfl, rfl⟩))
    go_ret3
    exact ⟨.slice none 0 0, by rw [HS.out.1, (tab_out HS.out.2).1]; rfl, by (repeat (first | exact Below.refl _ _ | exact Nat.le_refl _ | (refine below_ext ?_ (by first | (simp [size_ext, grow]; done) | (simp [size_ext, grow]; omega)) _ _) | (refine Below.setCell ?_ (by first | (simp [size_ext, grow]; done) | (simp [size_ext, grow]; omega)) _) | (refine Below.alloc ?_ (by first | (simp [size_ext, grow]; done) | (simp [size_ext, grow]; omega)) _) | refine Below.drew ?_ | refine below_drewN ?_ _ | (refine Below.trans ?_ (Below.mono (by assumption) (by first | (simp [size_ext, grow]; done) | (simp [size_ext, grow]; omega)))))), by rw [(tab_out HS.out.2).2]; exact own_nil _ _ _ _⟩
set_option maxHeartbeats 1000000 in
theorem step_16 (s : Int) (w : World) : Calls Try.prog 11 #[.int .i64 s, .int .i64 16] w (StepP s 16 w) := by
  by_cases h0 : 0 ≤ s
  · by_cases h9 : s ≤ 9
    · cases hok : tabOk 16 s
      · have H := Lib.hid hok
        have hs : stepErr s 16 = 5 := by simp [stepErr, inTab, h0, h9, hok]
        have HS := Lib.hid hs
        have HH := Lib.hid (And.intro h0 h9)
        clear hok hs
        have kf := fn_nil
        go_enter Try.func11, Try.ntmps11
        go_wp2_with (first | (go_at_call 28; refine (row_16 _).mono ?_; rintro e w1 ⟨rfl, rfl⟩) | (go_at_call 29; refine (known_any _ _).mono ?_; rintro e w1 ⟨rfl, rfl⟩) | (go_at_call 52; refine (echo_no s _ HH.out.1 HH.out.2 H.out).mono ?_; rintro e w1 ⟨A, n, c, y, rfl, hb⟩; obtain ⟨xs, d, rfl⟩ := ext_of hb; clear hb))
        go_ret3
        exact ⟨.slice none 0 0, by rw [HS.out, (tab_out H.out).1]; rfl, by (repeat (first | exact Below.refl _ _ | exact Nat.le_refl _ | (refine below_ext ?_ (by first | (simp [size_ext, grow]; done) | (simp [size_ext, grow]; omega)) _ _) | (refine Below.setCell ?_ (by first | (simp [size_ext, grow]; done) | (simp [size_ext, grow]; omega)) _) | (refine Below.alloc ?_ (by first | (simp [size_ext, grow]; done) | (simp [size_ext, grow]; omega)) _) | refine Below.drew ?_ | refine below_drewN ?_ _ | (refine Below.trans ?_ (Below.mono (by assumption) (by first | (simp [size_ext, grow]; done) | (simp [size_ext, grow]; omega)))))), by rw [(tab_out H.out).2]; exact own_nil _ _ _ _⟩
      · have H := Lib.hid hok
        have hs : stepErr s 16 = 0 := by simp [stepErr, inTab, h0, h9, hok]
        have HS := Lib.hid hs
        have HH := Lib.hid (And.intro h0 h9)
        clear hok hs
        have kf := fn_nil
        go_enter Try.func11, Try.ntmps11
        go_wp2_with (first | (go_at_call 28; refine (row_16 _).mono ?_; rintro e w1 ⟨rfl, rfl⟩) | (go_at_call 29; refine (known_any _ _).mono ?_; rintro e w1 ⟨rfl, rfl⟩) | (go_at_call 52; refine (echo_yes s _ H.out).mono ?_; rintro e w1 ⟨v, rfl, hb, ho⟩; obtain ⟨xs, d, rfl⟩ := ext_of hb; clear hb; obtain ⟨A, c, rfl, -, -⟩ := ownsRow_form ho; have HA := Lib.hid ho; clear ho))
        go_quiet (fail)
        go_wp2
        go_ret3
        exact ⟨_, by rw [HS.out]; rfl, by (repeat (first | exact Below.refl _ _ | exact Nat.le_refl _ | (refine below_ext ?_ (by first | (simp [size_ext, grow]; done) | (simp [size_ext, grow]; omega)) _ _) | (refine Below.setCell ?_ (by first | (simp [size_ext, grow]; done) | (simp [size_ext, grow]; omega)) _) | (refine Below.alloc ?_ (by first | (simp [size_ext, grow]; done) | (simp [size_ext, grow]; omega)) _) | refine Below.drew ?_ | refine below_drewN ?_ _ | (refine Below.trans ?_ (Below.mono (by assumption) (by first | (simp [size_ext, grow]; done) | (simp [size_ext, grow]; omega)))))), own_below HA.out (by (repeat (first | exact Below.refl _ _ | exact Nat.le_refl _ | (refine below_ext ?_ (by first | (simp [size_ext, grow]; done) | (simp [size_ext, grow]; omega)) _ _) | (refine Below.setCell ?_ (by first | (simp [size_ext, grow]; done) | (simp [size_ext, grow]; omega)) _) | (refine Below.alloc ?_ (by first | (simp [size_ext, grow]; done) | (simp [size_ext, grow]; omega)) _) | refine Below.drew ?_ | refine below_drewN ?_ _ | (refine Below.trans ?_ (Below.mono (by assumption) (by first | (simp [size_ext, grow]; done) | (simp [size_ext, grow]; omega)))))))⟩
    · have hn : decide (s ≤ 9) = false := by simpa using h9
      have HS := Lib.hid (show stepErr s 16 = 140 ∧ tabOk 16 s = false from ⟨by simp [stepErr, inTab, h9], tabOk_out (by simp [inTab, h9])⟩)
      clear h9
      go_enter Try.func11, Try.ntmps11
      go_wp2_with (first | (go_at_call 28; refine (row_16 _).mono ?_; rintro e w1 ⟨rfl, rfl⟩) | (go_at_call 29; refine (known_any _ _).mono ?_; rintro e w1 ⟨rfl, rfl⟩))
      go_ret3
      exact ⟨.slice none 0 0, by rw [HS.out.1, (tab_out HS.out.2).1]; rfl, by (repeat (first | exact Below.refl _ _ | exact Nat.le_refl _ | (refine below_ext ?_ (by first | (simp [size_ext, grow]; done) | (simp [size_ext, grow]; omega)) _ _) | (refine Below.setCell ?_ (by first | (simp [size_ext, grow]; done) | (simp [size_ext, grow]; omega)) _) | (refine Below.alloc ?_ (by first | (simp [size_ext, grow]; done) | (simp [size_ext, grow]; omega)) _) | refine Below.drew ?_ | refine below_drewN ?_ _ | (refine Below.trans ?_ (Below.mono (by assumption) (by first | (simp [size_ext, grow]; done) | (simp [size_ext, grow]; omega)))))), by rw [(tab_out HS.out.2).2]; exact own_nil _ _ _ _⟩
  · have hn : decide (0 ≤ s) = false := by simpa using h0
    have HS := Lib.hid (show stepErr s 16 = 140 ∧ tabOk 16 s = false from ⟨by simp [stepErr, inTab, h0], tabOk_out (by simp [inTab, h0])⟩)
    clear h0
    go_enter Try.func11, Try.ntmps11
    go_wp2_with (first | (go_at_call 28; refine (row_16 _).mono ?_; rintro e w1 ⟨rfl, rfl⟩) | (go_at_call 29; refine (known_any _ _).mono ?_; rintro e w1 ⟨rfl, rfl⟩))
    go_ret3
    exact ⟨.slice none 0 0, by rw [HS.out.1, (tab_out HS.out.2).1]; rfl, by (repeat (first | exact Below.refl _ _ | exact Nat.le_refl _ | (refine below_ext ?_ (by first | (simp [size_ext, grow]; done) | (simp [size_ext, grow]; omega)) _ _) | (refine Below.setCell ?_ (by first | (simp [size_ext, grow]; done) | (simp [size_ext, grow]; omega)) _) | (refine Below.alloc ?_ (by first | (simp [size_ext, grow]; done) | (simp [size_ext, grow]; omega)) _) | refine Below.drew ?_ | refine below_drewN ?_ _ | (refine Below.trans ?_ (Below.mono (by assumption) (by first | (simp [size_ext, grow]; done) | (simp [size_ext, grow]; omega)))))), by rw [(tab_out HS.out.2).2]; exact own_nil _ _ _ _⟩
end Go.Proofs.Ytffkkeedmgaoiaa
