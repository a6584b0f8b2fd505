/- Contracts of Take and of the reference of bucket. -/
import Derived.Test.YtlholmndckhhgaaA
import Derived.Test.YtlholmndckhhgaaL
namespace Go.Proofs.Ytlholmndckhhgaa
open Go.RowKit
set_option linter.unusedSimpArgs false
set_option linter.unusedVariables false

def tkOk (e m t k n : Int) : Bool := atOk e m t k n && !(atTok e m t k n == 0)
def tkTok (e m t k n : Int) : Int := if tkOk e m t k n then atTok e m t k n - 1 else atTok e m t k n
def tkTick (e m t k n : Int) : Int := atTick e m t k n

theorem atTok_bd (e m t k n : Int) : 0 ≤ atTok e m t k n ∧ (atTok e m t k n ≤ 1048576) := by
  unfold atTok
  by_cases h : atOk e m t k n = true
  · rw [if_pos h]
    simp only [atOk, Bool.and_eq_true, rated_iff] at h
    simp only [inB, Bool.and_eq_true, decide_eq_true_eq] at h
    have p0 : 0 ≤ e * (n - k) := Int.mul_nonneg (by omega) (by omega)
    omega
  · rw [if_neg h]; omega

theorem take_any (e m t k n : Int) (w : World) :
    Calls Try.prog 18 #[.agg #[.int .i64 e, .int .i64 m], .agg #[.int .i64 t, .int .i64 k], .int .i64 n] w fun x w' => x = .returned (.tuple #[.agg #[.int .i64 (tkTok e m t k n), .int .i64 (tkTick e m t k n)], .bool (tkOk e m t k n)]) ∧ Below w.heap.size w w' := by
  cases h0 : atOk e m t k n
  · have H := Lib.hid (show tkTok e m t k n = 0 ∧ tkTick e m t k n = 0 ∧ tkOk e m t k n = false by simp [tkTok, tkTick, tkOk, atTok, atTick, h0])
    have H1 := Lib.hid (show atTok e m t k n = 0 ∧ atTick e m t k n = 0 ∧ atErr e m t k n = 100 by simp [atTok, atTick, atErr, h0])
    rw [H.out.1, H.out.2.1, H.out.2.2]
    clear h0
    go_enter Try.func18, Try.ntmps18
    go_wp2_with (go_at_call 11; refine (at_any _ _ _ _ _ _).mono ?_; rw [H1.out.1, H1.out.2.1, H1.out.2.2]; rintro e w1 ⟨rfl, hb⟩; obtain ⟨xs, d, rfl⟩ := ext_of hb; clear hb)
    refine bodyPost_ret (v := .tuple #[.agg #[.int .i64 0, .int .i64 0], .bool false]) (by simp [results, Try.results18, go_sem]) rfl ⟨rfl, ?_⟩
    (repeat (first | exact Below.refl _ _ | exact Nat.le_refl _ | (refine below_ext ?_ (by first | (simp [size_ext, grow]; done) | (simp [size_ext, grow]; omega) | omega) _ _) | (refine Below.setCell ?_ (by first | (simp [size_ext, grow]; done) | (simp [size_ext, grow]; omega) | omega) _) | (refine Below.alloc ?_ (by first | (simp [size_ext, grow]; done) | (simp [size_ext, grow]; omega) | omega) _) | refine Below.drew ?_ | refine below_drewN ?_ _ | (refine Below.trans ?_ (Below.mono (by assumption) (by first | (simp [size_ext, grow]; done) | (simp [size_ext, grow]; omega) | omega)))))
  · have H0 := Lib.hid (show atErr e m t k n = 0 by simp [atErr, h0])
    have H1 := Lib.hid (show tkTick e m t k n = atTick e m t k n from rfl)
    have hbd := atTok_bd e m t k n
    by_cases h1 : atTok e m t k n = 0
    · have H := Lib.hid (show tkTok e m t k n = 0 ∧ tkOk e m t k n = false by simp [tkTok, tkOk, h1])
      have H2 := Lib.hid h1
      rw [H.out.1, H.out.2, H1.out]
      clear h0 h1 hbd
      go_enter Try.func18, Try.ntmps18
      go_wp2_with (go_at_call 11; refine (at_any _ _ _ _ _ _).mono ?_; rw [H0.out, H2.out]; rintro e w1 ⟨rfl, hb⟩; obtain ⟨xs, d, rfl⟩ := ext_of hb; clear hb)
      refine bodyPost_ret (v := .tuple #[.agg #[.int .i64 0, .int .i64 (atTick e m t k n)], .bool false]) (by simp [results, Try.results18, go_sem]) rfl ⟨rfl, ?_⟩
      (repeat (first | exact Below.refl _ _ | exact Nat.le_refl _ | (refine below_ext ?_ (by first | (simp [size_ext, grow]; done) | (simp [size_ext, grow]; omega) | omega) _ _) | (refine Below.setCell ?_ (by first | (simp [size_ext, grow]; done) | (simp [size_ext, grow]; omega) | omega) _) | (refine Below.alloc ?_ (by first | (simp [size_ext, grow]; done) | (simp [size_ext, grow]; omega) | omega) _) | refine Below.drew ?_ | refine below_drewN ?_ _ | (refine Below.trans ?_ (Below.mono (by assumption) (by first | (simp [size_ext, grow]; done) | (simp [size_ext, grow]; omega) | omega)))))
    · have H := Lib.hid (show tkTok e m t k n = atTok e m t k n - 1 ∧ tkOk e m t k n = true by simp [tkTok, tkOk, h0, h1])
      rw [H.out.1, H.out.2, H1.out]
      obtain ⟨q1, q2⟩ := hbd
      have h2 : 1 ≤ atTok e m t k n := by omega
      clear h0 h1 q1
      go_enter Try.func18, Try.ntmps18
      go_wp2_with (go_at_call 11; refine (at_any _ _ _ _ _ _).mono ?_; rw [H0.out]; rintro e w1 ⟨rfl, hb⟩; obtain ⟨xs, d, rfl⟩ := ext_of hb; clear hb)
      refine bodyPost_ret (v := .tuple #[.agg #[.int .i64 (atTok e m t k n - 1), .int .i64 (atTick e m t k n)], .bool true]) (by simp [results, Try.results18, go_sem]) rfl ⟨rfl, ?_⟩
      (repeat (first | exact Below.refl _ _ | exact Nat.le_refl _ | (refine below_ext ?_ (by first | (simp [size_ext, grow]; done) | (simp [size_ext, grow]; omega) | omega) _ _) | (refine Below.setCell ?_ (by first | (simp [size_ext, grow]; done) | (simp [size_ext, grow]; omega) | omega) _) | (refine Below.alloc ?_ (by first | (simp [size_ext, grow]; done) | (simp [size_ext, grow]; omega) | omega) _) | refine Below.drew ?_ | refine below_drewN ?_ _ | (refine Below.trans ?_ (Below.mono (by assumption) (by first | (simp [size_ext, grow]; done) | (simp [size_ext, grow]; omega) | omega)))))

-- the reference
theorem rated_ref (e m : Int) (w : World) :
    Calls Try.prog 29 #[.agg #[.int .i64 e, .int .i64 m]] w fun x w' => x = .returned (.bool (rated e m)) ∧ Below w.heap.size w w' := by
  by_cases h1 : 0 ≤ e
  · by_cases h2 : e ≤ 1048576
    · by_cases h3 : 1 ≤ m
      · by_cases h4 : m ≤ 1048576
        · have H := Lib.hid (show rated e m = true by simp [rated, inB, *])
          go_enter Try.func29, Try.ntmps29
          go_wp2
          go_ret
          exact ⟨by rw [H.out]; rfl, by (repeat (first | exact Below.refl _ _ | exact Nat.le_refl _ | (refine below_ext ?_ (by first | (simp [size_ext, grow]; done) | (simp [size_ext, grow]; omega) | omega) _ _) | (refine Below.setCell ?_ (by first | (simp [size_ext, grow]; done) | (simp [size_ext, grow]; omega) | omega) _) | (refine Below.alloc ?_ (by first | (simp [size_ext, grow]; done) | (simp [size_ext, grow]; omega) | omega) _) | refine Below.drew ?_ | refine below_drewN ?_ _ | (refine Below.trans ?_ (Below.mono (by assumption) (by first | (simp [size_ext, grow]; done) | (simp [size_ext, grow]; omega) | omega)))))⟩
        · have H := Lib.hid (show rated e m = false by simp [rated, inB, *])
          go_enter Try.func29, Try.ntmps29
          go_wp2
          go_ret
          exact ⟨by rw [H.out]; rfl, by (repeat (first | exact Below.refl _ _ | exact Nat.le_refl _ | (refine below_ext ?_ (by first | (simp [size_ext, grow]; done) | (simp [size_ext, grow]; omega) | omega) _ _) | (refine Below.setCell ?_ (by first | (simp [size_ext, grow]; done) | (simp [size_ext, grow]; omega) | omega) _) | (refine Below.alloc ?_ (by first | (simp [size_ext, grow]; done) | (simp [size_ext, grow]; omega) | omega) _) | refine Below.drew ?_ | refine below_drewN ?_ _ | (refine Below.trans ?_ (Below.mono (by assumption) (by first | (simp [size_ext, grow]; done) | (simp [size_ext, grow]; omega) | omega)))))⟩
      · have H := Lib.hid (show rated e m = false by simp [rated, inB, *])
        go_enter Try.func29, Try.ntmps29
        go_wp2
        go_ret
        exact ⟨by rw [H.out]; rfl, by (repeat (first | exact Below.refl _ _ | exact Nat.le_refl _ | (refine below_ext ?_ (by first | (simp [size_ext, grow]; done) | (simp [size_ext, grow]; omega) | omega) _ _) | (refine Below.setCell ?_ (by first | (simp [size_ext, grow]; done) | (simp [size_ext, grow]; omega) | omega) _) | (refine Below.alloc ?_ (by first | (simp [size_ext, grow]; done) | (simp [size_ext, grow]; omega) | omega) _) | refine Below.drew ?_ | refine below_drewN ?_ _ | (refine Below.trans ?_ (Below.mono (by assumption) (by first | (simp [size_ext, grow]; done) | (simp [size_ext, grow]; omega) | omega)))))⟩
    · have H := Lib.hid (show rated e m = false by simp [rated, inB, *])
      go_enter Try.func29, Try.ntmps29
      go_wp2
      go_ret
      exact ⟨by rw [H.out]; rfl, by (repeat (first | exact Below.refl _ _ | exact Nat.le_refl _ | (refine below_ext ?_ (by first | (simp [size_ext, grow]; done) | (simp [size_ext, grow]; omega) | omega) _ _) | (refine Below.setCell ?_ (by first | (simp [size_ext, grow]; done) | (simp [size_ext, grow]; omega) | omega) _) | (refine Below.alloc ?_ (by first | (simp [size_ext, grow]; done) | (simp [size_ext, grow]; omega) | omega) _) | refine Below.drew ?_ | refine below_drewN ?_ _ | (refine Below.trans ?_ (Below.mono (by assumption) (by first | (simp [size_ext, grow]; done) | (simp [size_ext, grow]; omega) | omega)))))⟩
  · have H := Lib.hid (show rated e m = false by simp [rated, inB, *])
    go_enter Try.func29, Try.ntmps29
    go_wp2
    go_ret
    exact ⟨by rw [H.out]; rfl, by (repeat (first | exact Below.refl _ _ | exact Nat.le_refl _ | (refine below_ext ?_ (by first | (simp [size_ext, grow]; done) | (simp [size_ext, grow]; omega) | omega) _ _) | (refine Below.setCell ?_ (by first | (simp [size_ext, grow]; done) | (simp [size_ext, grow]; omega) | omega) _) | (refine Below.alloc ?_ (by first | (simp [size_ext, grow]; done) | (simp [size_ext, grow]; omega) | omega) _) | refine Below.drew ?_ | refine below_drewN ?_ _ | (refine Below.trans ?_ (Below.mono (by assumption) (by first | (simp [size_ext, grow]; done) | (simp [size_ext, grow]; omega) | omega)))))⟩

theorem check_ref (e m : Int) (w : World) :
    Calls Try.prog 14 #[.agg #[.int .i64 e, .int .i64 m]] w fun x w' => x = .returned (.int .i64 (rateErr e m)) ∧ Below w.heap.size w w' := by
  cases h1 : rated e m
  all_goals
    have H := Lib.hid h1
    have H1 : Hid (rateErr e m = 100) ∨ Hid (rateErr e m = 0) := by simp [rateErr, h1, Hid]
    clear h1
  · have H2 := Lib.hid (show rateErr e m = 100 by simp [rateErr, H.out])
    rw [H2.out]
    clear H1
    go_enter Try.func14, Try.ntmps14
    go_wp2_with (go_at_call 29; refine (rated_ref _ _ _).mono ?_; rw [H.out]; rintro e w1 ⟨rfl, hb⟩; obtain ⟨xs, d, rfl⟩ := ext_of hb; clear hb)
    go_ret
    exact ⟨rfl, by (repeat (first | exact Below.refl _ _ | exact Nat.le_refl _ | (refine below_ext ?_ (by first | (simp [size_ext, grow]; done) | (simp [size_ext, grow]; omega) | omega) _ _) | (refine Below.setCell ?_ (by first | (simp [size_ext, grow]; done) | (simp [size_ext, grow]; omega) | omega) _) | (refine Below.alloc ?_ (by first | (simp [size_ext, grow]; done) | (simp [size_ext, grow]; omega) | omega) _) | refine Below.drew ?_ | refine below_drewN ?_ _ | (refine Below.trans ?_ (Below.mono (by assumption) (by first | (simp [size_ext, grow]; done) | (simp [size_ext, grow]; omega) | omega)))))⟩
  · have H2 := Lib.hid (show rateErr e m = 0 by simp [rateErr, H.out])
    rw [H2.out]
    clear H1
    go_enter Try.func14, Try.ntmps14
    go_wp2_with (go_at_call 29; refine (rated_ref _ _ _).mono ?_; rw [H.out]; rintro e w1 ⟨rfl, hb⟩; obtain ⟨xs, d, rfl⟩ := ext_of hb; clear hb)
    go_ret
    exact ⟨rfl, by (repeat (first | exact Below.refl _ _ | exact Nat.le_refl _ | (refine below_ext ?_ (by first | (simp [size_ext, grow]; done) | (simp [size_ext, grow]; omega) | omega) _ _) | (refine Below.setCell ?_ (by first | (simp [size_ext, grow]; done) | (simp [size_ext, grow]; omega) | omega) _) | (refine Below.alloc ?_ (by first | (simp [size_ext, grow]; done) | (simp [size_ext, grow]; omega) | omega) _) | refine Below.drew ?_ | refine below_drewN ?_ _ | (refine Below.trans ?_ (Below.mono (by assumption) (by first | (simp [size_ext, grow]; done) | (simp [size_ext, grow]; omega) | omega)))))⟩

theorem full_ref (e m : Int) (w : World) :
    Calls Try.prog 16 #[.agg #[.int .i64 e, .int .i64 m]] w fun x w' => x = .returned (.agg #[.int .i64 (full e m), .int .i64 0]) ∧ Below w.heap.size w w' := by
  cases h1 : rated e m
  · have H := Lib.hid (show full e m = 0 by simp [full, h1])
    have H1 := Lib.hid h1
    clear h1
    rw [H.out]
    go_enter Try.func16, Try.ntmps16
    go_wp2_with (go_at_call 29; refine (rated_ref _ _ _).mono ?_; rw [H1.out]; rintro e w1 ⟨rfl, hb⟩; obtain ⟨xs, d, rfl⟩ := ext_of hb; clear hb)
    refine bodyPost_ret (v := .agg #[.int .i64 0, .int .i64 0]) (by simp [results, Try.results16, go_sem]) rfl ⟨rfl, ?_⟩
    (repeat (first | exact Below.refl _ _ | exact Nat.le_refl _ | (refine below_ext ?_ (by first | (simp [size_ext, grow]; done) | (simp [size_ext, grow]; omega) | omega) _ _) | (refine Below.setCell ?_ (by first | (simp [size_ext, grow]; done) | (simp [size_ext, grow]; omega) | omega) _) | (refine Below.alloc ?_ (by first | (simp [size_ext, grow]; done) | (simp [size_ext, grow]; omega) | omega) _) | refine Below.drew ?_ | refine below_drewN ?_ _ | (refine Below.trans ?_ (Below.mono (by assumption) (by first | (simp [size_ext, grow]; done) | (simp [size_ext, grow]; omega) | omega)))))
  · have H := Lib.hid (show full e m = m by simp [full, h1])
    have H1 := Lib.hid h1
    clear h1
    rw [H.out]
    go_enter Try.func16, Try.ntmps16
    go_wp2_with (go_at_call 29; refine (rated_ref _ _ _).mono ?_; rw [H1.out]; rintro e w1 ⟨rfl, hb⟩; obtain ⟨xs, d, rfl⟩ := ext_of hb; clear hb)
    refine bodyPost_ret (v := .agg #[.int .i64 m, .int .i64 0]) (by simp [results, Try.results16, go_sem]) rfl ⟨rfl, ?_⟩
    (repeat (first | exact Below.refl _ _ | exact Nat.le_refl _ | (refine below_ext ?_ (by first | (simp [size_ext, grow]; done) | (simp [size_ext, grow]; omega) | omega) _ _) | (refine Below.setCell ?_ (by first | (simp [size_ext, grow]; done) | (simp [size_ext, grow]; omega) | omega) _) | (refine Below.alloc ?_ (by first | (simp [size_ext, grow]; done) | (simp [size_ext, grow]; omega) | omega) _) | refine Below.drew ?_ | refine below_drewN ?_ _ | (refine Below.trans ?_ (Below.mono (by assumption) (by first | (simp [size_ext, grow]; done) | (simp [size_ext, grow]; omega) | omega)))))

set_option maxHeartbeats 2000000 in
theorem at_ref (e m t k n : Int) (w : World) :
    Calls Try.prog 12 #[.agg #[.int .i64 e, .int .i64 m], .agg #[.int .i64 t, .int .i64 k], .int .i64 n] w fun x w' => x = .returned (.tuple #[.agg #[.int .i64 (atTok e m t k n), .int .i64 (atTick e m t k n)], .int .i64 (atErr e m t k n)]) ∧ Below w.heap.size w w' := by
  cases h0 : atOk e m t k n
  · have H := Lib.hid (show atTok e m t k n = 0 ∧ atTick e m t k n = 0 ∧ atErr e m t k n = 100 by simp [atTok, atTick, atErr, h0])
    rw [H.out.1, H.out.2.1, H.out.2.2]
    cases h1 : rated e m
    · have H1 := Lib.hid h1
      clear h0 h1
      go_enter Try.func12, Try.ntmps12
      go_wp2_with (go_at_call 29; refine (rated_ref _ _ _).mono ?_; rw [H1.out]; rintro e w1 ⟨rfl, hb⟩; obtain ⟨xs, d, rfl⟩ := ext_of hb; clear hb)
      refine bodyPost_ret (v := .tuple #[.agg #[.int .i64 0, .int .i64 0], .int .i64 100]) (by simp [results, Try.results12, go_sem]) rfl ⟨rfl, ?_⟩
      (repeat (first | exact Below.refl _ _ | exact Nat.le_refl _ | (refine below_ext ?_ (by first | (simp [size_ext, grow]; done) | (simp [size_ext, grow]; omega) | omega) _ _) | (refine Below.setCell ?_ (by first | (simp [size_ext, grow]; done) | (simp [size_ext, grow]; omega) | omega) _) | (refine Below.alloc ?_ (by first | (simp [size_ext, grow]; done) | (simp [size_ext, grow]; omega) | omega) _) | refine Below.drew ?_ | refine below_drewN ?_ _ | (refine Below.trans ?_ (Below.mono (by assumption) (by first | (simp [size_ext, grow]; done) | (simp [size_ext, grow]; omega) | omega)))))
    · have H1 := Lib.hid h1
      by_cases c1 : t < 0
      · clear h0 h1
        go_enter Try.func12, Try.ntmps12
        go_wp2_with (go_at_call 29; refine (rated_ref _ _ _).mono ?_; rw [H1.out]; rintro e w1 ⟨rfl, hb⟩; obtain ⟨xs, d, rfl⟩ := ext_of hb; clear hb)
        refine bodyPost_ret (v := .tuple #[.agg #[.int .i64 0, .int .i64 0], .int .i64 100]) (by simp [results, Try.results12, go_sem]) rfl ⟨rfl, ?_⟩
        (repeat (first | exact Below.refl _ _ | exact Nat.le_refl _ | (refine below_ext ?_ (by first | (simp [size_ext, grow]; done) | (simp [size_ext, grow]; omega) | omega) _ _) | (refine Below.setCell ?_ (by first | (simp [size_ext, grow]; done) | (simp [size_ext, grow]; omega) | omega) _) | (refine Below.alloc ?_ (by first | (simp [size_ext, grow]; done) | (simp [size_ext, grow]; omega) | omega) _) | refine Below.drew ?_ | refine below_drewN ?_ _ | (refine Below.trans ?_ (Below.mono (by assumption) (by first | (simp [size_ext, grow]; done) | (simp [size_ext, grow]; omega) | omega)))))
      · by_cases c2 : m < t
        · clear h0 h1
          go_enter Try.func12, Try.ntmps12
          go_wp2_with (go_at_call 29; refine (rated_ref _ _ _).mono ?_; rw [H1.out]; rintro e w1 ⟨rfl, hb⟩; obtain ⟨xs, d, rfl⟩ := ext_of hb; clear hb)
          refine bodyPost_ret (v := .tuple #[.agg #[.int .i64 0, .int .i64 0], .int .i64 100]) (by simp [results, Try.results12, go_sem]) rfl ⟨rfl, ?_⟩
          (repeat (first | exact Below.refl _ _ | exact Nat.le_refl _ | (refine below_ext ?_ (by first | (simp [size_ext, grow]; done) | (simp [size_ext, grow]; omega) | omega) _ _) | (refine Below.setCell ?_ (by first | (simp [size_ext, grow]; done) | (simp [size_ext, grow]; omega) | omega) _) | (refine Below.alloc ?_ (by first | (simp [size_ext, grow]; done) | (simp [size_ext, grow]; omega) | omega) _) | refine Below.drew ?_ | refine below_drewN ?_ _ | (refine Below.trans ?_ (Below.mono (by assumption) (by first | (simp [size_ext, grow]; done) | (simp [size_ext, grow]; omega) | omega)))))
        · by_cases c3 : k < 0
          · clear h0 h1
            go_enter Try.func12, Try.ntmps12
            go_wp2_with (go_at_call 29; refine (rated_ref _ _ _).mono ?_; rw [H1.out]; rintro e w1 ⟨rfl, hb⟩; obtain ⟨xs, d, rfl⟩ := ext_of hb; clear hb)
            refine bodyPost_ret (v := .tuple #[.agg #[.int .i64 0, .int .i64 0], .int .i64 100]) (by simp [results, Try.results12, go_sem]) rfl ⟨rfl, ?_⟩
            (repeat (first | exact Below.refl _ _ | exact Nat.le_refl _ | (refine below_ext ?_ (by first | (simp [size_ext, grow]; done) | (simp [size_ext, grow]; omega) | omega) _ _) | (refine Below.setCell ?_ (by first | (simp [size_ext, grow]; done) | (simp [size_ext, grow]; omega) | omega) _) | (refine Below.alloc ?_ (by first | (simp [size_ext, grow]; done) | (simp [size_ext, grow]; omega) | omega) _) | refine Below.drew ?_ | refine below_drewN ?_ _ | (refine Below.trans ?_ (Below.mono (by assumption) (by first | (simp [size_ext, grow]; done) | (simp [size_ext, grow]; omega) | omega)))))
          · by_cases c4 : 1099511627776 < k
            · clear h0 h1
              go_enter Try.func12, Try.ntmps12
              go_wp2_with (go_at_call 29; refine (rated_ref _ _ _).mono ?_; rw [H1.out]; rintro e w1 ⟨rfl, hb⟩; obtain ⟨xs, d, rfl⟩ := ext_of hb; clear hb)
              refine bodyPost_ret (v := .tuple #[.agg #[.int .i64 0, .int .i64 0], .int .i64 100]) (by simp [results, Try.results12, go_sem]) rfl ⟨rfl, ?_⟩
              (repeat (first | exact Below.refl _ _ | exact Nat.le_refl _ | (refine below_ext ?_ (by first | (simp [size_ext, grow]; done) | (simp [size_ext, grow]; omega) | omega) _ _) | (refine Below.setCell ?_ (by first | (simp [size_ext, grow]; done) | (simp [size_ext, grow]; omega) | omega) _) | (refine Below.alloc ?_ (by first | (simp [size_ext, grow]; done) | (simp [size_ext, grow]; omega) | omega) _) | refine Below.drew ?_ | refine below_drewN ?_ _ | (refine Below.trans ?_ (Below.mono (by assumption) (by first | (simp [size_ext, grow]; done) | (simp [size_ext, grow]; omega) | omega)))))
            · by_cases c5 : n < k
              · clear h0 h1
                go_enter Try.func12, Try.ntmps12
                go_wp2_with (go_at_call 29; refine (rated_ref _ _ _).mono ?_; rw [H1.out]; rintro e w1 ⟨rfl, hb⟩; obtain ⟨xs, d, rfl⟩ := ext_of hb; clear hb)
                refine bodyPost_ret (v := .tuple #[.agg #[.int .i64 0, .int .i64 0], .int .i64 100]) (by simp [results, Try.results12, go_sem]) rfl ⟨rfl, ?_⟩
                (repeat (first | exact Below.refl _ _ | exact Nat.le_refl _ | (refine below_ext ?_ (by first | (simp [size_ext, grow]; done) | (simp [size_ext, grow]; omega) | omega) _ _) | (refine Below.setCell ?_ (by first | (simp [size_ext, grow]; done) | (simp [size_ext, grow]; omega) | omega) _) | (refine Below.alloc ?_ (by first | (simp [size_ext, grow]; done) | (simp [size_ext, grow]; omega) | omega) _) | refine Below.drew ?_ | refine below_drewN ?_ _ | (refine Below.trans ?_ (Below.mono (by assumption) (by first | (simp [size_ext, grow]; done) | (simp [size_ext, grow]; omega) | omega)))))
              · have c6 : 1099511627776 < n := by
                  simp [atOk, h1, inB] at h0
                  have := h0 (by omega) (by omega) (by omega) (by omega) (by omega)
                  omega
                clear h0 h1
                go_enter Try.func12, Try.ntmps12
                go_wp2_with (go_at_call 29; refine (rated_ref _ _ _).mono ?_; rw [H1.out]; rintro e w1 ⟨rfl, hb⟩; obtain ⟨xs, d, rfl⟩ := ext_of hb; clear hb)
                refine bodyPost_ret (v := .tuple #[.agg #[.int .i64 0, .int .i64 0], .int .i64 100]) (by simp [results, Try.results12, go_sem]) rfl ⟨rfl, ?_⟩
                (repeat (first | exact Below.refl _ _ | exact Nat.le_refl _ | (refine below_ext ?_ (by first | (simp [size_ext, grow]; done) | (simp [size_ext, grow]; omega) | omega) _ _) | (refine Below.setCell ?_ (by first | (simp [size_ext, grow]; done) | (simp [size_ext, grow]; omega) | omega) _) | (refine Below.alloc ?_ (by first | (simp [size_ext, grow]; done) | (simp [size_ext, grow]; omega) | omega) _) | refine Below.drew ?_ | refine below_drewN ?_ _ | (refine Below.trans ?_ (Below.mono (by assumption) (by first | (simp [size_ext, grow]; done) | (simp [size_ext, grow]; omega) | omega)))))
  · have H := Lib.hid (show atTok e m t k n = min m (t + e * (n - k)) ∧ atTick e m t k n = n ∧ atErr e m t k n = 0 by simp [atTok, atTick, atErr, h0])
    rw [H.out.1, H.out.2.1, H.out.2.2]
    simp only [atOk, Bool.and_eq_true] at h0
    obtain ⟨⟨⟨h1, h2⟩, h3⟩, h4⟩ := h0
    have H1 := Lib.hid h1
    have b1 := (rated_iff e m).1 h1
    have b2 : 0 ≤ t ∧ t ≤ m := by simpa [inB] using h2
    have b3 : 0 ≤ k ∧ k ≤ 1099511627776 := by simpa [inB] using h3
    have b4 : k ≤ n ∧ n ≤ 1099511627776 := by simpa [inB] using h4
    obtain ⟨⟨a1, a2⟩, a3, a4⟩ := b1
    obtain ⟨a5, a6⟩ := b2
    obtain ⟨a7, a8⟩ := b3
    obtain ⟨a9, a10⟩ := b4
    have p0 : 0 ≤ e * (n - k) := Int.mul_nonneg (by omega) (by omega)
    have p1 : e * (n - k) ≤ 1152921504606846976 := by
      have := Int.mul_le_mul (a := e) (c := 1048576) (b := n - k) (d := 1099511627776) (by omega) (by omega) (by omega) (by omega)
      omega
    clear h1 h2 h3 h4 H
    by_cases c : m < t + e * (n - k)
    · go_enter Try.func12, Try.ntmps12
      go_wp2_with (go_at_call 29; refine (rated_ref _ _ _).mono ?_; rw [H1.out]; rintro e w1 ⟨rfl, hb⟩; obtain ⟨xs, d, rfl⟩ := ext_of hb; clear hb)
      refine bodyPost_ret (v := .tuple #[.agg #[.int .i64 (min m (t + e * (n - k))), .int .i64 n], .int .i64 0]) (by simp [results, Try.results12, go_sem]; omega) rfl ⟨rfl, ?_⟩
      (repeat (first | exact Below.refl _ _ | exact Nat.le_refl _ | (refine below_ext ?_ (by first | (simp [size_ext, grow]; done) | (simp [size_ext, grow]; omega) | omega) _ _) | (refine Below.setCell ?_ (by first | (simp [size_ext, grow]; done) | (simp [size_ext, grow]; omega) | omega) _) | (refine Below.alloc ?_ (by first | (simp [size_ext, grow]; done) | (simp [size_ext, grow]; omega) | omega) _) | refine Below.drew ?_ | refine below_drewN ?_ _ | (refine Below.trans ?_ (Below.mono (by assumption) (by first | (simp [size_ext, grow]; done) | (simp [size_ext, grow]; omega) | omega)))))
    · go_enter Try.func12, Try.ntmps12
      go_wp2_with (go_at_call 29; refine (rated_ref _ _ _).mono ?_; rw [H1.out]; rintro e w1 ⟨rfl, hb⟩; obtain ⟨xs, d, rfl⟩ := ext_of hb; clear hb)
      refine bodyPost_ret (v := .tuple #[.agg #[.int .i64 (min m (t + e * (n - k))), .int .i64 n], .int .i64 0]) (by simp [results, Try.results12, go_sem]; omega) rfl ⟨rfl, ?_⟩
      (repeat (first | exact Below.refl _ _ | exact Nat.le_refl _ | (refine below_ext ?_ (by first | (simp [size_ext, grow]; done) | (simp [size_ext, grow]; omega) | omega) _ _) | (refine Below.setCell ?_ (by first | (simp [size_ext, grow]; done) | (simp [size_ext, grow]; omega) | omega) _) | (refine Below.alloc ?_ (by first | (simp [size_ext, grow]; done) | (simp [size_ext, grow]; omega) | omega) _) | refine Below.drew ?_ | refine below_drewN ?_ _ | (refine Below.trans ?_ (Below.mono (by assumption) (by first | (simp [size_ext, grow]; done) | (simp [size_ext, grow]; omega) | omega)))))

theorem take_ref (e m t k n : Int) (w : World) :
    Calls Try.prog 19 #[.agg #[.int .i64 e, .int .i64 m], .agg #[.int .i64 t, .int .i64 k], .int .i64 n] w fun x w' => x = .returned (.tuple #[.agg #[.int .i64 (tkTok e m t k n), .int .i64 (tkTick e m t k n)], .bool (tkOk e m t k n)]) ∧ Below w.heap.size w w' := by
  cases h0 : atOk e m t k n
  · have H := Lib.hid (show tkTok e m t k n = 0 ∧ tkTick e m t k n = 0 ∧ tkOk e m t k n = false by simp [tkTok, tkTick, tkOk, atTok, atTick, h0])
    have H1 := Lib.hid (show atTok e m t k n = 0 ∧ atTick e m t k n = 0 ∧ atErr e m t k n = 100 by simp [atTok, atTick, atErr, h0])
    rw [H.out.1, H.out.2.1, H.out.2.2]
    clear h0
    go_enter Try.func19, Try.ntmps19
    go_wp2_with (go_at_call 12; refine (at_ref _ _ _ _ _ _).mono ?_; rw [H1.out.1, H1.out.2.1, H1.out.2.2]; rintro e w1 ⟨rfl, hb⟩; obtain ⟨xs, d, rfl⟩ := ext_of hb; clear hb)
    refine bodyPost_ret (v := .tuple #[.agg #[.int .i64 0, .int .i64 0], .bool false]) (by simp [results, Try.results19, go_sem]) rfl ⟨rfl, ?_⟩
    (repeat (first | exact Below.refl _ _ | exact Nat.le_refl _ | (refine below_ext ?_ (by first | (simp [size_ext, grow]; done) | (simp [size_ext, grow]; omega) | omega) _ _) | (refine Below.setCell ?_ (by first | (simp [size_ext, grow]; done) | (simp [size_ext, grow]; omega) | omega) _) | (refine Below.alloc ?_ (by first | (simp [size_ext, grow]; done) | (simp [size_ext, grow]; omega) | omega) _) | refine Below.drew ?_ | refine below_drewN ?_ _ | (refine Below.trans ?_ (Below.mono (by assumption) (by first | (simp [size_ext, grow]; done) | (simp [size_ext, grow]; omega) | omega)))))
  · have H0 := Lib.hid (show atErr e m t k n = 0 by simp [atErr, h0])
    have H1 := Lib.hid (show tkTick e m t k n = atTick e m t k n from rfl)
    have hbd := atTok_bd e m t k n
    by_cases h1 : atTok e m t k n = 0
    · have H := Lib.hid (show tkTok e m t k n = 0 ∧ tkOk e m t k n = false by simp [tkTok, tkOk, h1])
      have H2 := Lib.hid h1
      rw [H.out.1, H.out.2, H1.out]
      clear h0 h1 hbd
      go_enter Try.func19, Try.ntmps19
      go_wp2_with (go_at_call 12; refine (at_ref _ _ _ _ _ _).mono ?_; rw [H0.out, H2.out]; rintro e w1 ⟨rfl, hb⟩; obtain ⟨xs, d, rfl⟩ := ext_of hb; clear hb)
      refine bodyPost_ret (v := .tuple #[.agg #[.int .i64 0, .int .i64 (atTick e m t k n)], .bool false]) (by simp [results, Try.results19, go_sem]) rfl ⟨rfl, ?_⟩
      (repeat (first | exact Below.refl _ _ | exact Nat.le_refl _ | (refine below_ext ?_ (by first | (simp [size_ext, grow]; done) | (simp [size_ext, grow]; omega) | omega) _ _) | (refine Below.setCell ?_ (by first | (simp [size_ext, grow]; done) | (simp [size_ext, grow]; omega) | omega) _) | (refine Below.alloc ?_ (by first | (simp [size_ext, grow]; done) | (simp [size_ext, grow]; omega) | omega) _) | refine Below.drew ?_ | refine below_drewN ?_ _ | (refine Below.trans ?_ (Below.mono (by assumption) (by first | (simp [size_ext, grow]; done) | (simp [size_ext, grow]; omega) | omega)))))
    · have H := Lib.hid (show tkTok e m t k n = atTok e m t k n - 1 ∧ tkOk e m t k n = true by simp [tkTok, tkOk, h0, h1])
      rw [H.out.1, H.out.2, H1.out]
      obtain ⟨q1, q2⟩ := hbd
      have h2 : 1 ≤ atTok e m t k n := by omega
      clear h0 h1 q1
      go_enter Try.func19, Try.ntmps19
      go_wp2_with (go_at_call 12; refine (at_ref _ _ _ _ _ _).mono ?_; rw [H0.out]; rintro e w1 ⟨rfl, hb⟩; obtain ⟨xs, d, rfl⟩ := ext_of hb; clear hb)
      refine bodyPost_ret (v := .tuple #[.agg #[.int .i64 (atTok e m t k n - 1), .int .i64 (atTick e m t k n)], .bool true]) (by simp [results, Try.results19, go_sem]) rfl ⟨rfl, ?_⟩
      (repeat (first | exact Below.refl _ _ | exact Nat.le_refl _ | (refine below_ext ?_ (by first | (simp [size_ext, grow]; done) | (simp [size_ext, grow]; omega) | omega) _ _) | (refine Below.setCell ?_ (by first | (simp [size_ext, grow]; done) | (simp [size_ext, grow]; omega) | omega) _) | (refine Below.alloc ?_ (by first | (simp [size_ext, grow]; done) | (simp [size_ext, grow]; omega) | omega) _) | refine Below.drew ?_ | refine below_drewN ?_ _ | (refine Below.trans ?_ (Below.mono (by assumption) (by first | (simp [size_ext, grow]; done) | (simp [size_ext, grow]; omega) | omega)))))
end Go.Proofs.Ytlholmndckhhgaa
