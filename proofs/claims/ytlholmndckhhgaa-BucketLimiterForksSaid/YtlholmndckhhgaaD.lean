/- The walks of BucketCuts and BucketRates. -/
import Derived.Test.YtlholmndckhhgaaC
namespace Go.Proofs.Ytlholmndckhhgaa
open Go.RowKit
set_option linter.unusedSimpArgs false
set_option linter.unusedVariables false

/-- A bucket as of a tick behind another one is that as of the later one. -/
theorem cut_law (e m t k a b : Int) (h1 : atOk e m t k a = true) (h2 : atOk e m (atTok e m t k a) (atTick e m t k a) b = true) :
    atOk e m t k b = true ∧ atTok e m (atTok e m t k a) (atTick e m t k a) b = atTok e m t k b ∧ atTick e m (atTok e m t k a) (atTick e m t k a) b = atTick e m t k b := by
  have hb1 := h1
  have hT : atTok e m t k a = min m (t + e * (a - k)) := by simp [atTok, h1]
  have hK : atTick e m t k a = a := by simp [atTick, h1]
  rw [hT, hK] at h2 ⊢
  simp only [atOk, inB, Bool.and_eq_true, decide_eq_true_eq] at h1 h2
  have q := (rated_iff e m).1 h1.1.1.1
  have p1 : 0 ≤ e * (a - k) := Int.mul_nonneg (by omega) (by omega)
  have h3 : atOk e m t k b = true := by
    simp only [atOk, inB, Bool.and_eq_true, decide_eq_true_eq]
    refine ⟨⟨⟨h1.1.1.1, ?_⟩, ?_⟩, ?_⟩ <;> omega
  have h2' : atOk e m (min m (t + e * (a - k))) a b = true := by
    simp only [atOk, inB, Bool.and_eq_true, decide_eq_true_eq]
    refine ⟨⟨⟨h1.1.1.1, ?_⟩, ?_⟩, ?_⟩ <;> omega
  refine ⟨h3, ?_, by simp [atTick, h3, h2']⟩
  simp only [atTok, h3, h2', if_true]
  have e1 : e * (b - k) = e * (a - k) + e * (b - a) := by rw [← Int.mul_add]; congr 1; omega
  have p0 : 0 ≤ e * (b - a) := Int.mul_nonneg (by omega) (by omega)
  rw [e1]
  omega

theorem bucketCuts_walk (e m t k a b : Int) (w : World) :
    Calls Try.prog 5 #[.agg #[.int .i64 e, .int .i64 m], .agg #[.int .i64 t, .int .i64 k], .int .i64 a, .int .i64 b] w fun x w' => x = .returned (.bool true) ∧ Below w.heap.size w w' := by
  cases h1 : atOk e m t k a
  · have H := Lib.hid (show atTok e m t k a = 0 ∧ atTick e m t k a = 0 ∧ atErr e m t k a = 100 by simp [atTok, atTick, atErr, h1])
    clear h1
    go_enter Try.func5, Try.ntmps5
    go_wp2_with (first | (go_at_call 11; refine (at_any _ _ _ _ _ _).mono ?_; (try simp only [H.out]); rintro e w1 ⟨rfl, hb⟩; obtain ⟨xs, d, rfl⟩ := ext_of hb; clear hb) | (go_at_call 17; refine (awake_any _).mono ?_; rintro e w1 ⟨rfl, hb⟩; obtain ⟨xs, d, rfl⟩ := ext_of hb; clear hb))
    go_ret
    exact ⟨rfl, by (repeat (first | exact Below.refl _ _ | exact Nat.le_refl _ | (refine below_ext ?_ (by first | (simp [size_ext, grow]; done) | (simp [size_ext, grow]; omega) | omega) _ _) | (refine Below.setCell ?_ (by first | (simp [size_ext, grow]; done) | (simp [size_ext, grow]; omega) | omega) _) | (refine Below.alloc ?_ (by first | (simp [size_ext, grow]; done) | (simp [size_ext, grow]; omega) | omega) _) | refine Below.drew ?_ | refine below_drewN ?_ _ | (refine Below.trans ?_ (Below.mono (by assumption) (by first | (simp [size_ext, grow]; done) | (simp [size_ext, grow]; omega) | omega)))))⟩
  · have H0 : atErr e m t k a = 0 := by simp [atErr, h1]
    cases h2 : atOk e m (atTok e m t k a) (atTick e m t k a) b
    · have H := Lib.hid (show atErr e m t k a = 0 ∧ atErr e m (atTok e m t k a) (atTick e m t k a) b = 100 by simp [atErr, h1, h2])
      clear h1 H0 h2
      go_enter Try.func5, Try.ntmps5
      go_wp2_with (first | (go_at_call 11; refine (at_any _ _ _ _ _ _).mono ?_; (try simp only [H.out]); rintro e w1 ⟨rfl, hb⟩; obtain ⟨xs, d, rfl⟩ := ext_of hb; clear hb) | (go_at_call 17; refine (awake_any _).mono ?_; rintro e w1 ⟨rfl, hb⟩; obtain ⟨xs, d, rfl⟩ := ext_of hb; clear hb))
      go_ret
      exact ⟨rfl, by (repeat (first | exact Below.refl _ _ | exact Nat.le_refl _ | (refine below_ext ?_ (by first | (simp [size_ext, grow]; done) | (simp [size_ext, grow]; omega) | omega) _ _) | (refine Below.setCell ?_ (by first | (simp [size_ext, grow]; done) | (simp [size_ext, grow]; omega) | omega) _) | (refine Below.alloc ?_ (by first | (simp [size_ext, grow]; done) | (simp [size_ext, grow]; omega) | omega) _) | refine Below.drew ?_ | refine below_drewN ?_ _ | (refine Below.trans ?_ (Below.mono (by assumption) (by first | (simp [size_ext, grow]; done) | (simp [size_ext, grow]; omega) | omega)))))⟩
    · obtain ⟨h3, h4, h5⟩ := cut_law e m t k a b h1 h2
      have H := Lib.hid (show atErr e m t k a = 0 ∧ atErr e m (atTok e m t k a) (atTick e m t k a) b = 0 ∧ atErr e m t k b = 0 ∧ atTok e m (atTok e m t k a) (atTick e m t k a) b = atTok e m t k b ∧ atTick e m (atTok e m t k a) (atTick e m t k a) b = atTick e m t k b from
        ⟨H0, by simp [atErr, h2], by simp [atErr, h3], h4, h5⟩)
      clear h1 H0 h2 h3 h4 h5
      go_enter Try.func5, Try.ntmps5
      go_wp2_with (first | (go_at_call 11; refine (at_any _ _ _ _ _ _).mono ?_; (try simp only [H.out]); rintro e w1 ⟨rfl, hb⟩; obtain ⟨xs, d, rfl⟩ := ext_of hb; clear hb) | (go_at_call 17; refine (awake_any _).mono ?_; rintro e w1 ⟨rfl, hb⟩; obtain ⟨xs, d, rfl⟩ := ext_of hb; clear hb))
      go_ret
      exact ⟨rfl, by (repeat (first | exact Below.refl _ _ | exact Nat.le_refl _ | (refine below_ext ?_ (by first | (simp [size_ext, grow]; done) | (simp [size_ext, grow]; omega) | omega) _ _) | (refine Below.setCell ?_ (by first | (simp [size_ext, grow]; done) | (simp [size_ext, grow]; omega) | omega) _) | (refine Below.alloc ?_ (by first | (simp [size_ext, grow]; done) | (simp [size_ext, grow]; omega) | omega) _) | refine Below.drew ?_ | refine below_drewN ?_ _ | (refine Below.trans ?_ (Below.mono (by assumption) (by first | (simp [size_ext, grow]; done) | (simp [size_ext, grow]; omega) | omega)))))⟩

set_option maxHeartbeats 2000000 in
theorem bucketRates_walk (e m t k n : Int) (w : World) :
    Calls Try.prog 3 #[.agg #[.int .i64 e, .int .i64 m], .agg #[.int .i64 t, .int .i64 k], .int .i64 n] w fun x w' => x = .returned (.bool true) ∧ Below w.heap.size w w' := by
  go_enter Try.func3, Try.ntmps3
  go_wp2_with fail
  refine (at_any _ _ _ _ _ _).mono ?_; rintro e w1 ⟨rfl, hb⟩; obtain ⟨xs1, d1, rfl⟩ := ext_of hb; clear hb
  go_wp2_with fail
  refine (at_ref _ _ _ _ _ _).mono ?_; rintro e w1 ⟨rfl, hb⟩; obtain ⟨xs2, d2, rfl⟩ := ext_of hb; clear hb
  go_wp2_with fail
  go_region_held3 (fun w' => w'.cell? ⟨w.heap.size, 0, none⟩ = some (.int .i64 e) ∧ w'.cell? ⟨w.heap.size, 1, none⟩ = some (.int .i64 m) ∧
     w'.cell? ⟨grow w.heap.size xs1 + 1 + 1, 0, none⟩ = some (.int .i64 (atTok e m t k n)) ∧ w'.cell? ⟨grow w.heap.size xs1 + 1 + 1, 1, none⟩ = some (.int .i64 (atTick e m t k n)) ∧
     w'.cell? ⟨grow (grow w.heap.size xs1) xs2 + 1 + 1 + 1, 0, none⟩ = some (.int .i64 (atTok e m t k n)) ∧ w'.cell? ⟨grow (grow w.heap.size xs1) xs2 + 1 + 1 + 1, 1, none⟩ = some (.int .i64 (atTick e m t k n))) (first | (go_keep; done) | (go_simp; done) | (simp [go_sem]; done)) (first | (go_at_call 11; refine (at_any _ _ _ _ _ _).mono ?_; rintro e w1 ⟨rfl, hb⟩; obtain ⟨xs, d, rfl⟩ := ext_of hb; clear hb) | (go_at_call 12; refine (at_ref _ _ _ _ _ _).mono ?_; rintro e w1 ⟨rfl, hb⟩; obtain ⟨xs, d, rfl⟩ := ext_of hb; clear hb) | (go_at_call 13; refine (check_any _ _ _).mono ?_; rintro e w1 ⟨rfl, hb⟩; obtain ⟨xs, d, rfl⟩ := ext_of hb; clear hb) | (go_at_call 14; refine (check_ref _ _ _).mono ?_; rintro e w1 ⟨rfl, hb⟩; obtain ⟨xs, d, rfl⟩ := ext_of hb; clear hb) | (go_at_call 15; refine (full_any _ _ _).mono ?_; rintro e w1 ⟨rfl, hb⟩; obtain ⟨xs, d, rfl⟩ := ext_of hb; clear hb) | (go_at_call 16; refine (full_ref _ _ _).mono ?_; rintro e w1 ⟨rfl, hb⟩; obtain ⟨xs, d, rfl⟩ := ext_of hb; clear hb) | (go_at_call 17; refine (awake_any _).mono ?_; rintro e w1 ⟨rfl, hb⟩; obtain ⟨xs, d, rfl⟩ := ext_of hb; clear hb))
  all_goals
    go_wp2
    go_ret
    exact ⟨rfl, by (repeat (first | exact Below.refl _ _ | exact Nat.le_refl _ | (refine below_ext ?_ (by first | (simp [size_ext, grow]; done) | (simp [size_ext, grow]; omega) | omega) _ _) | (refine Below.setCell ?_ (by first | (simp [size_ext, grow]; done) | (simp [size_ext, grow]; omega) | omega) _) | (refine Below.alloc ?_ (by first | (simp [size_ext, grow]; done) | (simp [size_ext, grow]; omega) | omega) _) | refine Below.drew ?_ | refine below_drewN ?_ _ | (refine Below.trans ?_ (Below.mono (by assumption) (by first | (simp [size_ext, grow]; done) | (simp [size_ext, grow]; omega) | omega)))))⟩
end Go.Proofs.Ytlholmndckhhgaa
