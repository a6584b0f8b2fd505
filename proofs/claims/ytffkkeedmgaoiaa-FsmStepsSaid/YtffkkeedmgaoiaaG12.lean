/- The laws of one step. -/
import Derived.Test.YtffkkeedmgaoiaaG11
namespace Go.Proofs.Ytffkkeedmgaoiaa
open Go.RowKit
set_option linter.unusedSimpArgs false
set_option linter.unusedVariables false
set_option maxHeartbeats 4000000 in
theorem fsmSteps_walk (s e : Int) (w : World) : Calls Try.prog 3 #[.int .i64 s, .int .i64 e] w fun x w' => x = .returned (.bool true) ∧ Below w.heap.size w w' := by
  have hl := tabActs_le e s
  go_enter Try.func3, Try.ntmps3
  go_wp2_with fail
  refine (step_any _ _ _).mono ?_; rintro e' w1 ⟨v, rfl, hb, ho⟩; obtain ⟨xs1, d1, rfl⟩ := ext_of hb; clear hb; obtain ⟨A1, c1, rfl, -, -⟩ := ownsRow_form ho; have HO1 := Lib.hid ho; clear ho
  go_wp2_with fail
  refine (stepref_any _ _ _).mono ?_; rintro e' w1 ⟨v, rfl, hb, ho⟩; obtain ⟨xs2, d2, rfl⟩ := ext_of hb; clear hb; obtain ⟨A2, c2, rfl, -, -⟩ := ownsRow_form ho; have HO2 := Lib.hid ho; clear ho
  go_wp2_with fail
  refine (same_any A1 A2 _ _ c1 c2 (tabActs e s) _ _ (Nat.le_refl _) ((At.of_own HO1.out).move (by (repeat (first | exact Below.refl _ _ | exact Nat.le_refl _ | (refine below_ext ?_ (by first | (simp [size_ext, grow]; done) | (simp [size_ext, grow]; omega) | omega) _ _) | (refine Below.setCell ?_ (by first | (simp [size_ext, grow]; done) | (simp [size_ext, grow]; omega) | omega) _) | (refine Below.alloc ?_ (by first | (simp [size_ext, grow]; done) | (simp [size_ext, grow]; omega) | omega) _) | refine Below.drew ?_ | refine below_drewN ?_ _ | (refine Below.trans ?_ (Below.mono (by assumption) (by first | (simp [size_ext, grow]; done) | (simp [size_ext, grow]; omega) | omega)))))) (by first | (simp [size_ext, grow]; done) | (simp [size_ext, grow]; omega))) ((At.of_own HO2.out).move (by (repeat (first | exact Below.refl _ _ | exact Nat.le_refl _ | (refine below_ext ?_ (by first | (simp [size_ext, grow]; done) | (simp [size_ext, grow]; omega) | omega) _ _) | (refine Below.setCell ?_ (by first | (simp [size_ext, grow]; done) | (simp [size_ext, grow]; omega) | omega) _) | (refine Below.alloc ?_ (by first | (simp [size_ext, grow]; done) | (simp [size_ext, grow]; omega) | omega) _) | refine Below.drew ?_ | refine below_drewN ?_ _ | (refine Below.trans ?_ (Below.mono (by assumption) (by first | (simp [size_ext, grow]; done) | (simp [size_ext, grow]; omega) | omega)))))) (by first | (simp [size_ext, grow]; done) | (simp [size_ext, grow]; omega))) rfl rfl (by omega)).mono ?_; rintro e w1 ⟨rfl, hb⟩; obtain ⟨xs, d, rfl⟩ := ext_of hb; clear hb
  go_wp2_with (go_at_call 14; refine (awake_any _).mono ?_; rintro e w1 ⟨rfl, hb⟩; obtain ⟨xs, d, rfl⟩ := ext_of hb; clear hb)
  go_ret
  exact ⟨rfl, by (repeat (first | exact Below.refl _ _ | exact Nat.le_refl _ | (refine below_ext ?_ (by first | (simp [size_ext, grow]; done) | (simp [size_ext, grow]; omega) | omega) _ _) | (refine Below.setCell ?_ (by first | (simp [size_ext, grow]; done) | (simp [size_ext, grow]; omega) | omega) _) | (refine Below.alloc ?_ (by first | (simp [size_ext, grow]; done) | (simp [size_ext, grow]; omega) | omega) _) | refine Below.drew ?_ | refine below_drewN ?_ _ | (refine Below.trans ?_ (Below.mono (by assumption) (by first | (simp [size_ext, grow]; done) | (simp [size_ext, grow]; omega) | omega)))))⟩
theorem bool_cases (b : Bool) : b = true ∨ b = false := by cases b <;> simp
/-- What the table says of up and down. -/
theorem ups (s e : Int) (h : stepErr s e = 0) : hasB (tabActs e s) 1 = (!(s == 9) && tabNext e s == 9) ∧ hasB (tabActs e s) 2 = (s == 9 && !(tabNext e s == 9)) := by
  unfold stepErr at h
  split at h
  · rename_i hi
    simp only [inTab, decide_eq_true_eq] at hi
    obtain ⟨h1, h2, h3, h4⟩ := hi
    revert h
    rcases sixteen h1 h2 with rfl | rfl | rfl | rfl | rfl | rfl | rfl | rfl | rfl | rfl | rfl | rfl | rfl | rfl | rfl | rfl <;> rcases ten h3 h4 with rfl | rfl | rfl | rfl | rfl | rfl | rfl | rfl | rfl | rfl <;> decide
  · omega
theorem err_none (s e : Int) (h : stepErr s e ≠ 0) : tabActs e s = [] := by
  apply (tab_out _).2
  unfold stepErr at h
  split at h
  · split at h
    · omega
    · rename_i h2; simpa using h2
  · rename_i h2; exact tabOk_out (by simpa using h2)
set_option maxHeartbeats 4000000 in
theorem fsmUps_walk (s e : Int) (w : World) : Calls Try.prog 5 #[.int .i64 s, .int .i64 e] w fun x w' => x = .returned (.bool true) ∧ Below w.heap.size w w' := by
  by_cases h : stepErr s e = 0
  · obtain ⟨u1, u2⟩ := ups s e h
    have hle := tabActs_le e s
    obtain ⟨l, hl⟩ : ∃ l, tabActs e s = l := ⟨_, rfl⟩
    obtain ⟨nx, hn⟩ : ∃ nx, tabNext e s = nx := ⟨_, rfl⟩
    rw [hl, hn] at u1 u2
    rw [hl] at hle
    have H := Lib.hid (And.intro hn (And.intro hl h))
    clear hl hn h
    cases h9 : (s == 9) <;> cases hn9 : (nx == 9) <;> simp only [h9, hn9, Bool.not_true, Bool.not_false, Bool.true_and, Bool.false_and, Bool.and_true, Bool.and_false] at u1 u2
    all_goals
      have g9 : (s != 9) = !(s == 9) := rfl
      have gn9 : (nx != 9) = !(nx == 9) := rfl
      simp only [h9, hn9, Bool.not_true, Bool.not_false] at g9 gn9
      go_enter Try.func5, Try.ntmps5
      go_wp2_with fail
      refine (step_gen s e nx 0 l _ H.out.1 H.out.2.1 H.out.2.2).mono ?_; rintro e' w1 ⟨v, rfl, hb, ho⟩; obtain ⟨xs1, d1, rfl⟩ := ext_of hb; clear hb; obtain ⟨A1, c1, rfl, -, -⟩ := ownsRow_form ho; have HO1 := Lib.hid ho; clear ho
      go_wp2_with fail
      refine (has_any A1 _ c1 l 1 _ _ ((At.of_own HO1.out).keep (Below.refl _ _)) rfl (by omega)).mono ?_; rw [u1]; rintro e' w1 ⟨rfl, rfl⟩
      go_wp2_with fail
      refine (has_any A1 _ c1 l 2 _ _ ((At.of_own HO1.out).keep (Below.refl _ _)) rfl (by omega)).mono ?_; rw [u2]; rintro e' w1 ⟨rfl, rfl⟩
      go_wp2_with (go_at_call 14; refine (awake_any _).mono ?_; rintro e w1 ⟨rfl, hb⟩; obtain ⟨xs, d, rfl⟩ := ext_of hb; clear hb)
      go_ret
      exact ⟨rfl, by (repeat (first | exact Below.refl _ _ | exact Nat.le_refl _ | (refine below_ext ?_ (by first | (simp [size_ext, grow]; done) | (simp [size_ext, grow]; omega) | omega) _ _) | (refine Below.setCell ?_ (by first | (simp [size_ext, grow]; done) | (simp [size_ext, grow]; omega) | omega) _) | (refine Below.alloc ?_ (by first | (simp [size_ext, grow]; done) | (simp [size_ext, grow]; omega) | omega) _) | refine Below.drew ?_ | refine below_drewN ?_ _ | (refine Below.trans ?_ (Below.mono (by assumption) (by first | (simp [size_ext, grow]; done) | (simp [size_ext, grow]; omega) | omega)))))⟩
  · have hl := err_none s e h
    have he : (stepErr s e != 0) = true := by simp [h]
    obtain ⟨er, her⟩ : ∃ er, stepErr s e = er := ⟨_, rfl⟩
    rw [her] at he
    have H := Lib.hid (And.intro hl her)
    clear hl her h
    go_enter Try.func5, Try.ntmps5
    go_wp2_with fail
    refine (step_gen s e _ er [] _ rfl H.out.1 H.out.2).mono ?_; rintro e' w1 ⟨v, rfl, hb, ho⟩; obtain ⟨xs1, d1, rfl⟩ := ext_of hb; clear hb; obtain ⟨A1, c1, rfl, -, -⟩ := ownsRow_form ho; have HO1 := Lib.hid ho; clear ho
    go_wp2_with (go_at_call 14; refine (awake_any _).mono ?_; rintro e w1 ⟨rfl, hb⟩; obtain ⟨xs, d, rfl⟩ := ext_of hb; clear hb)
    go_ret
    exact ⟨rfl, by (repeat (first | exact Below.refl _ _ | exact Nat.le_refl _ | (refine below_ext ?_ (by first | (simp [size_ext, grow]; done) | (simp [size_ext, grow]; omega) | omega) _ _) | (refine Below.setCell ?_ (by first | (simp [size_ext, grow]; done) | (simp [size_ext, grow]; omega) | omega) _) | (refine Below.alloc ?_ (by first | (simp [size_ext, grow]; done) | (simp [size_ext, grow]; omega) | omega) _) | refine Below.drew ?_ | refine below_drewN ?_ _ | (refine Below.trans ?_ (Below.mono (by assumption) (by first | (simp [size_ext, grow]; done) | (simp [size_ext, grow]; omega) | omega)))))⟩
/-- What the table says of where it rests, and of what is asked. -/
theorem fins (s e : Int) (h : stepErr s e = 0) : (0 ≤ tabNext e s ∧ tabNext e s ≤ 9) ∧ (hasB (tabActs e s) 4 = true → tabNext e s = 0 ∨ tabNext e s = 2 ∨ tabNext e s = 3) ∧ (hasB (tabActs e s) 7 = true → tabNext e s = 6 ∨ tabNext e s = 7 ∨ tabNext e s = 8) ∧ (hasB (tabActs e s) 10 = true → tabNext e s = 4 ∨ tabNext e s = 5) := by
  unfold stepErr at h
  split at h
  · rename_i hi
    simp only [inTab, decide_eq_true_eq] at hi
    obtain ⟨h1, h2, h3, h4⟩ := hi
    revert h
    rcases sixteen h1 h2 with rfl | rfl | rfl | rfl | rfl | rfl | rfl | rfl | rfl | rfl | rfl | rfl | rfl | rfl | rfl | rfl <;> rcases ten h3 h4 with rfl | rfl | rfl | rfl | rfl | rfl | rfl | rfl | rfl | rfl <;> decide
  · omega
set_option maxHeartbeats 8000000 in
theorem fsmFinishes_walk (s e : Int) (w : World) : Calls Try.prog 6 #[.int .i64 s, .int .i64 e] w fun x w' => x = .returned (.bool true) ∧ Below w.heap.size w w' := by
  by_cases h : stepErr s e = 0
  · obtain ⟨⟨r0, r9⟩, u1, u2, u3⟩ := fins s e h
    have hle := tabActs_le e s
    obtain ⟨l, hl⟩ : ∃ l, tabActs e s = l := ⟨_, rfl⟩
    obtain ⟨nx, hn⟩ : ∃ nx, tabNext e s = nx := ⟨_, rfl⟩
    rw [hl] at hle
    rw [hl, hn] at u1 u2 u3
    rw [hn] at r0 r9
    have H := Lib.hid (And.intro hn (And.intro hl h))
    clear hl hn h
    cases b1 : hasB l 4 <;> cases b2 : hasB l 7 <;> cases b3 : hasB l 10
    all_goals rcases ten r0 r9 with rfl | rfl | rfl | rfl | rfl | rfl | rfl | rfl | rfl | rfl
    all_goals first | (exfalso; revert u1 u2 u3; rw [b1, b2, b3]; decide) | skip
    all_goals
      clear u1 u2 u3 r0 r9
      go_enter Try.func6, Try.ntmps6
      go_wp2_with fail
      refine (step_gen s e _ 0 l _ H.out.1 H.out.2.1 H.out.2.2).mono ?_; rintro e' w1 ⟨v, rfl, hb, ho⟩; obtain ⟨xs1, d1, rfl⟩ := ext_of hb; clear hb; obtain ⟨A1, c1, rfl, -, -⟩ := ownsRow_form ho; have HO1 := Lib.hid ho; clear ho
      go_wp2_with fail
      refine (has_any A1 _ c1 l 4 _ _ ((At.of_own HO1.out).keep (Below.refl _ _)) rfl (by omega)).mono ?_; rw [b1]; rintro e' w1 ⟨rfl, rfl⟩
      go_wp2_with fail
      refine (has_any A1 _ c1 l 7 _ _ ((At.of_own HO1.out).keep (Below.refl _ _)) rfl (by omega)).mono ?_; rw [b2]; rintro e' w1 ⟨rfl, rfl⟩
      go_wp2_with fail
      refine (has_any A1 _ c1 l 10 _ _ ((At.of_own HO1.out).keep (Below.refl _ _)) rfl (by omega)).mono ?_; rw [b3]; rintro e' w1 ⟨rfl, rfl⟩
      go_wp2_with (go_at_call 14; refine (awake_any _).mono ?_; rintro e w1 ⟨rfl, hb⟩; obtain ⟨xs, d, rfl⟩ := ext_of hb; clear hb)
      go_ret
      exact ⟨rfl, by (repeat (first | exact Below.refl _ _ | exact Nat.le_refl _ | (refine below_ext ?_ (by first | (simp [size_ext, grow]; done) | (simp [size_ext, grow]; omega) | omega) _ _) | (refine Below.setCell ?_ (by first | (simp [size_ext, grow]; done) | (simp [size_ext, grow]; omega) | omega) _) | (refine Below.alloc ?_ (by first | (simp [size_ext, grow]; done) | (simp [size_ext, grow]; omega) | omega) _) | refine Below.drew ?_ | refine below_drewN ?_ _ | (refine Below.trans ?_ (Below.mono (by assumption) (by first | (simp [size_ext, grow]; done) | (simp [size_ext, grow]; omega) | omega)))))⟩
  · have hl := err_none s e h
    have he : (stepErr s e != 0) = true := by simp [h]
    obtain ⟨er, her⟩ : ∃ er, stepErr s e = er := ⟨_, rfl⟩
    rw [her] at he
    have H := Lib.hid (And.intro hl her)
    clear hl her h
    go_enter Try.func6, Try.ntmps6
    go_wp2_with fail
    refine (step_gen s e _ er [] _ rfl H.out.1 H.out.2).mono ?_; rintro e' w1 ⟨v, rfl, hb, ho⟩; obtain ⟨xs1, d1, rfl⟩ := ext_of hb; clear hb; obtain ⟨A1, c1, rfl, -, -⟩ := ownsRow_form ho; have HO1 := Lib.hid ho; clear ho
    go_wp2_with (go_at_call 14; refine (awake_any _).mono ?_; rintro e w1 ⟨rfl, hb⟩; obtain ⟨xs, d, rfl⟩ := ext_of hb; clear hb)
    go_ret
    exact ⟨rfl, by (repeat (first | exact Below.refl _ _ | exact Nat.le_refl _ | (refine below_ext ?_ (by first | (simp [size_ext, grow]; done) | (simp [size_ext, grow]; omega) | omega) _ _) | (refine Below.setCell ?_ (by first | (simp [size_ext, grow]; done) | (simp [size_ext, grow]; omega) | omega) _) | (refine Below.alloc ?_ (by first | (simp [size_ext, grow]; done) | (simp [size_ext, grow]; omega) | omega) _) | refine Below.drew ?_ | refine below_drewN ?_ _ | (refine Below.trans ?_ (Below.mono (by assumption) (by first | (simp [size_ext, grow]; done) | (simp [size_ext, grow]; omega) | omega)))))⟩
end Go.Proofs.Ytffkkeedmgaoiaa
