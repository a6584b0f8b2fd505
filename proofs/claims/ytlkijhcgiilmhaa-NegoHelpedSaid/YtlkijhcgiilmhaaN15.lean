/- The reference: which rules may be, what they take. -/
import Derived.Test.YtlkijhcgiilmhaaN14
namespace Go.Proofs.Ytlkijhcgiilmhaa
open Go.RowKit
set_option linter.unusedSimpArgs false
set_option linter.unusedVariables false
theorem limit_ref (s : Nat) (hs : s ≤ 4) (w : World) : Calls Try.prog 45 #[.int .i64 (s : Int)] w fun x w' => x = .returned (.int .i64 (lim (s : Int))) ∧ w = w' := by
  go_enter Try.func45, Try.ntmps45
  go_wp2
  go_loop [3, 4] (fun v i => ∃ (k : Nat) (p : Int), k ≤ s ∧ i = .int .i64 k ∧ v = .int .i64 p ∧ Hid (p = 256 ^ k) ∧ 0 ≤ p ∧ p ≤ 256 ^ k) (fun _ i => s - (intOf i).toNat)
  case atStart => exact ⟨0, 1, by omega, rfl, rfl, Lib.hid rfl, by omega, by simp⟩
  case round =>
    obtain ⟨k, p, hk, rfl, rfl, hp, hp0, hp1⟩ := hrel
    by_cases hlt : k < s
    · have h3 : (256 : Int) ^ k ≤ 16777216 := by
        have : k = 0 ∨ k = 1 ∨ k = 2 ∨ k = 3 := by omega
        rcases this with rfl | rfl | rfl | rfl <;> decide
      have hp2 : p ≤ 16777216 := by omega
      have HS := Lib.hid (show p * 256 = 256 ^ (k + 1) by rw [hp.out, Int.pow_succ])
      clear h3 hp1
      go_wp2
      go_round
      case rel => exact ⟨k + 1, p * 256, by omega, by go_num, rfl, Lib.hid HS.out, by omega, by rw [HS.out]; exact Int.le_refl _⟩
      case measure => simp [intOf]; omega
    · obtain rfl : k = s := by omega
      have HS := Lib.hid (show lim (k : Int) = p by rw [hp.out]; rfl)
      clear hp1
      go_wp2
      go_ret
      exact ⟨by rw [HS.out]; rfl, rfl⟩
theorem below_ref (n m : Int) (w : World) : Calls Try.prog 46 #[.int .i64 n, .int .i64 m] w fun x w' => x = .returned (.bool (inL n m)) ∧ w = w' := by
  cases h1 : decide (0 ≤ n)
  · have HR := Lib.hid (show inL n m = false by unfold inL; rw [h1]; rfl)
    go_enter Try.func46, Try.ntmps46
    go_wp2
    go_ret
    exact ⟨by rw [HR.out]; rfl, rfl⟩
  · cases h2 : decide (n < m)
    all_goals
      have HR := Lib.hid (show inL n m = decide (n < m) by unfold inL; rw [h1]; rfl)
      go_enter Try.func46, Try.ntmps46
      go_wp2
      go_ret
      exact ⟨by rw [HR.out, h2]; rfl, rfl⟩
set_option maxHeartbeats 1000000 in
theorem takes_ref (t sz kd lo hi gd n : Int) (m : Bool) (w : World) : Calls Try.prog 19 #[.agg #[.int .i64 t, .int .i64 sz, .int .i64 kd, .int .i64 lo, .int .i64 hi, .int .i64 gd, .bool m], .int .i64 n] w fun x w' => x = .returned (.bool (takesB kd lo hi gd n)) ∧ Below w.heap.size w w' := by
  rcases kinds kd with rfl | rfl | rfl | rfl | ⟨h1, h2, h3, h4⟩
  · go_enter Try.func19, Try.ntmps19
    go_wp2
    go_ret
    exact ⟨rfl, by exact bel⟩
  · have HR := Lib.hid (show takesB 2 lo hi gd n = (decide (lo ≤ n) && decide (n ≤ hi)) from rfl)
    rw [HR.out]
    cases h1 : decide (lo ≤ n) <;> cases h2 : decide (n ≤ hi)
    all_goals
      go_enter Try.func19, Try.ntmps19
      go_wp2
      go_ret
      exact ⟨rfl, by exact bel⟩
  · go_enter Try.func19, Try.ntmps19
    go_wp2
    go_ret
    exact ⟨rfl, by exact bel⟩
  · go_enter Try.func19, Try.ntmps19
    go_wp2
    go_ret
    exact ⟨rfl, by exact bel⟩
  · have HR := Lib.hid (show takesB kd lo hi gd n = false by unfold takesB; rw [if_neg h1, if_neg h2, if_neg h3, if_neg h4])
    have e1 : (kd == 1) = false := by simpa using h1
    have e2 : (kd == 2) = false := by simpa using h2
    have e3 : (kd == 3) = false := by simpa using h3
    have e4 : (kd == 4) = false := by simpa using h4
    clear h1 h2 h3 h4
    go_enter Try.func19, Try.ntmps19
    go_wp2
    go_ret
    exact ⟨by rw [HR.out]; rfl, by exact bel⟩
set_option maxHeartbeats 2000000 in
theorem is_pre (t sz kd lo hi gd : Int) (m : Bool) (w : World) (h : preB t sz kd = false) : Calls Try.prog 31 #[.agg #[.int .i64 t, .int .i64 sz, .int .i64 kd, .int .i64 lo, .int .i64 hi, .int .i64 gd, .bool m]] w fun x w' => x = .returned (.bool (okB t sz kd lo hi gd)) ∧ Below w.heap.size w w' := by
  have HR := Lib.hid (show okB t sz kd lo hi gd = false by unfold okB; rw [h]; rfl)
  have HP := Lib.hid h
  clear h
  by_cases c1 : t < 1
  · go_enter Try.func31, Try.ntmps31
    go_wp2
    go_ret
    exact ⟨by rw [HR.out]; rfl, by exact bel⟩
  · have f1 : decide (t < 1) = false := by simpa using c1
    by_cases c2 : 255 < t
    · go_enter Try.func31, Try.ntmps31
      go_wp2
      go_ret
      exact ⟨by rw [HR.out]; rfl, by exact bel⟩
    · have f2 : decide (255 < t) = false := by simpa using c2
      by_cases c3 : sz < 0
      · go_enter Try.func31, Try.ntmps31
        go_wp2
        go_ret
        exact ⟨by rw [HR.out]; rfl, by exact bel⟩
      · have f3 : decide (sz < 0) = false := by simpa using c3
        by_cases c4 : 4 < sz
        · go_enter Try.func31, Try.ntmps31
          go_wp2
          go_ret
          exact ⟨by rw [HR.out]; rfl, by exact bel⟩
        · have f4 : decide (4 < sz) = false := by simpa using c4
          have h5 : sz = 0 ∧ kd ≠ 1 := by
            have := HP.out
            unfold preB at this
            simp at this
            by_cases h0 : sz = 0
            · exact ⟨h0, by intro e; exact absurd e (by have := this (by omega) (by omega) (by omega) (by omega); exact this.2)⟩
            · exact absurd (this (by omega) (by omega) (by omega) (by omega)).1 h0
          obtain ⟨rfl, c5⟩ := h5
          have f5 : (kd != 1) = true := by simpa using c5
          clear c5
          go_enter Try.func31, Try.ntmps31
          go_wp2
          go_ret
          exact ⟨by rw [HR.out]; rfl, by exact bel⟩
set_option maxHeartbeats 4000000 in
theorem is_post (t kd lo hi gd : Int) (s : Nat) (hs4 : s ≤ 4) (m : Bool) (w : World) (h : preB t (s : Int) kd = true) : Calls Try.prog 31 #[.agg #[.int .i64 t, .int .i64 (s : Int), .int .i64 kd, .int .i64 lo, .int .i64 hi, .int .i64 gd, .bool m]] w fun x w' => x = .returned (.bool (okB t (s : Int) kd lo hi gd)) ∧ Below w.heap.size w w' := by
  have HP := Lib.hid h
  unfold preB at h
  simp at h
  obtain ⟨⟨⟨g1, g2⟩, g4⟩, g5⟩ := h
  have f1 : decide (t < 1) = false := by simp; omega
  have f2 : decide (255 < t) = false := by simp; omega
  have f3 : decide ((s : Int) < 0) = false := by simp
  have f4 : decide (4 < s) = false := by simp; omega
  have f4' : decide (4 < (s : Int)) = false := by simp; omega
  obtain ⟨M, hM⟩ : ∃ M, lim (s : Int) = M := ⟨_, rfl⟩
  have HL := Lib.hid hM
  clear hM
  have g6 : (((s : Int) == 0) = false) ∨ (((s : Int) == 0) = true ∧ (kd != 1) = false) := by
    by_cases h0 : s = 0
    · exact .inr ⟨by simp [h0], g5.elim (fun h => absurd h0 (by simpa using h)) (fun h => by simp [h])⟩
    · exact .inl (by simp; omega)
  clear g5
  rcases g6 with e0 | ⟨e0, e1⟩
  all_goals
    cases b1 : inL lo M
    · have HR := Lib.hid (show okB t (s : Int) kd lo hi gd = false by unfold okB; rw [HL.out, b1]; simp)
      go_enter Try.func31, Try.ntmps31
      go_wp2_with fail
      refine (limit_ref s hs4 _).mono ?_
      rw [HL.out]
      rintro e w1 ⟨rfl, rfl⟩
      go_wp2_with (go_at_call 46; refine (below_ref _ _ _).mono ?_; rintro e w1 ⟨rfl, rfl⟩)
      go_ret
      exact ⟨by rw [HR.out]; rfl, by exact bel⟩
    · cases b2 : inL hi M
      · have HR := Lib.hid (show okB t (s : Int) kd lo hi gd = false by unfold okB; rw [HL.out, b2]; simp)
        go_enter Try.func31, Try.ntmps31
        go_wp2_with fail
        refine (limit_ref s hs4 _).mono ?_
        rw [HL.out]
        rintro e w1 ⟨rfl, rfl⟩
        go_wp2_with (go_at_call 46; refine (below_ref _ _ _).mono ?_; rintro e w1 ⟨rfl, rfl⟩)
        go_ret
        exact ⟨by rw [HR.out]; rfl, by exact bel⟩
      · cases b3 : inL gd M
        · have HR := Lib.hid (show okB t (s : Int) kd lo hi gd = false by unfold okB; rw [HL.out, b3]; simp)
          go_enter Try.func31, Try.ntmps31
          go_wp2_with fail
          refine (limit_ref s hs4 _).mono ?_
          rw [HL.out]
          rintro e w1 ⟨rfl, rfl⟩
          go_wp2_with (go_at_call 46; refine (below_ref _ _ _).mono ?_; rintro e w1 ⟨rfl, rfl⟩)
          go_ret
          exact ⟨by rw [HR.out]; rfl, by exact bel⟩
        · have HB3 := Lib.hid (show okB t (s : Int) kd lo hi gd = ((kd != 2 || decide (lo ≤ hi)) && takesB kd lo hi gd gd) by unfold okB; rw [HP.out, HL.out, b1, b2, b3]; simp)
          cases hq : (kd != 2)
          · cases hq2 : decide (lo ≤ hi)
            · have HR := Lib.hid (show okB t (s : Int) kd lo hi gd = false by rw [HB3.out, hq, hq2]; rfl)
              go_enter Try.func31, Try.ntmps31
              go_wp2_with fail
              refine (limit_ref s hs4 _).mono ?_
              rw [HL.out]
              rintro e w1 ⟨rfl, rfl⟩
              go_wp2_with (go_at_call 46; refine (below_ref _ _ _).mono ?_; rintro e w1 ⟨rfl, rfl⟩)
              go_ret
              exact ⟨by rw [HR.out]; rfl, by exact bel⟩
            · have HR := Lib.hid (show okB t (s : Int) kd lo hi gd = takesB kd lo hi gd gd by rw [HB3.out, hq, hq2]; rfl)
              go_enter Try.func31, Try.ntmps31
              go_wp2_with fail
              refine (limit_ref s hs4 _).mono ?_
              rw [HL.out]
              rintro e w1 ⟨rfl, rfl⟩
              go_wp2_with (go_at_call 46; refine (below_ref _ _ _).mono ?_; rintro e w1 ⟨rfl, rfl⟩)
              refine (takes_ref t _ kd lo hi gd gd m _).mono ?_
              rintro e w1 ⟨rfl, hb⟩; obtain ⟨xs, d, rfl⟩ := ext_of hb; clear hb
              go_wp2_with fail
              go_ret
              exact ⟨by rw [HR.out]; rfl, by exact bel⟩
          · have HR := Lib.hid (show okB t (s : Int) kd lo hi gd = takesB kd lo hi gd gd by rw [HB3.out, hq]; rfl)
            go_enter Try.func31, Try.ntmps31
            go_wp2_with fail
            refine (limit_ref s hs4 _).mono ?_
            rw [HL.out]
            rintro e w1 ⟨rfl, rfl⟩
            go_wp2_with (go_at_call 46; refine (below_ref _ _ _).mono ?_; rintro e w1 ⟨rfl, rfl⟩)
            refine (takes_ref t _ kd lo hi gd gd m _).mono ?_
            rintro e w1 ⟨rfl, hb⟩; obtain ⟨xs, d, rfl⟩ := ext_of hb; clear hb
            go_wp2_with fail
            go_ret
            exact ⟨by rw [HR.out]; rfl, by exact bel⟩
theorem is_ref (t sz kd lo hi gd : Int) (m : Bool) (w : World) : Calls Try.prog 31 #[.agg #[.int .i64 t, .int .i64 sz, .int .i64 kd, .int .i64 lo, .int .i64 hi, .int .i64 gd, .bool m]] w fun x w' => x = .returned (.bool (okB t sz kd lo hi gd)) ∧ Below w.heap.size w w' := by
  cases h : preB t sz kd
  · exact is_pre t sz kd lo hi gd m w h
  · have h' := h
    unfold preB at h'
    simp at h'
    obtain ⟨⟨⟨⟨g1, g2⟩, g3⟩, g4⟩, g5⟩ := h'
    obtain ⟨s, rfl⟩ := Int.eq_ofNat_of_zero_le g3
    exact is_post t kd lo hi gd s (by omega) m w h
end Go.Proofs.Ytlkijhcgiilmhaa
