/- The law's own example holds; the walks of BucketRates, BucketTakes, BucketCuts. -/
import Derived.Test.YtlholmndckhhgaaB
import Derived.Test.YtlholmndckhhgaaL
namespace Go.Proofs.Ytlholmndckhhgaa
open Go.RowKit
set_option linter.unusedSimpArgs false
set_option linter.unusedVariables false

set_option maxHeartbeats 1000000 in
theorem awake_any (w : World) : Calls Try.prog 17 #[] w fun x w' => x = .returned (.bool true) ∧ Below w.heap.size w w' := by
  have k0 : full 1 2 = 2 := by decide
  have k1 : tkTok 1 2 2 0 0 = 1 := by decide
  have k2 : tkTick 1 2 2 0 0 = 0 := by decide
  have k3 : tkOk 1 2 2 0 0 = true := by decide
  have k4 : tkTok 1 2 1 0 0 = 0 := by decide
  have k5 : tkTick 1 2 1 0 0 = 0 := by decide
  have k6 : tkOk 1 2 1 0 0 = true := by decide
  have k7 : tkTok 1 2 0 0 0 = 0 := by decide
  have k8 : tkTick 1 2 0 0 0 = 0 := by decide
  have k9 : tkOk 1 2 0 0 0 = false := by decide
  have l1 : tkTok 1 2 0 0 1 = 0 := by decide
  have l2 : tkTick 1 2 0 0 1 = 1 := by decide
  have l3 : tkOk 1 2 0 0 1 = true := by decide
  go_enter Try.func17, Try.ntmps17
  go_wp2_with fail
  go_region_held3 (fun w' => w'.cell? ⟨w.heap.size, 0, none⟩ = some (.int .i64 1) ∧ w'.cell? ⟨w.heap.size, 1, none⟩ = some (.int .i64 2)) (first | (go_keep; done) | (go_simp; done) | (simp [go_sem]; done))
    (first | (go_at_call 15; refine (full_any _ _ _).mono ?_; (try simp only [k0]); rintro e w1 ⟨rfl, hb⟩; obtain ⟨xs, d, rfl⟩ := ext_of hb; clear hb) | (go_at_call 18; refine (take_any _ _ _ _ _ _).mono ?_; (try simp only [k1, k2, k3]); rintro e w1 ⟨rfl, hb⟩; obtain ⟨xs, d, rfl⟩ := ext_of hb; clear hb))
  all_goals
    go_wp2_with (go_at_call 18; refine (take_any _ _ _ _ _ _).mono ?_; (try simp only [k4, k5, k6, k7, k8, k9, l1, l2, l3]); rintro e w1 ⟨rfl, hb⟩; obtain ⟨xs, d, rfl⟩ := ext_of hb; clear hb)
    go_ret
    exact ⟨rfl, by (repeat (first | exact Below.refl _ _ | exact Nat.le_refl _ | (refine below_ext ?_ (by first | (simp [size_ext, grow]; done) | (simp [size_ext, grow]; omega) | omega) _ _) | (refine Below.setCell ?_ (by first | (simp [size_ext, grow]; done) | (simp [size_ext, grow]; omega) | omega) _) | (refine Below.alloc ?_ (by first | (simp [size_ext, grow]; done) | (simp [size_ext, grow]; omega) | omega) _) | refine Below.drew ?_ | refine below_drewN ?_ _ | (refine Below.trans ?_ (Below.mono (by assumption) (by first | (simp [size_ext, grow]; done) | (simp [size_ext, grow]; omega) | omega)))))⟩

theorem bucketTakes_walk (e m t k n : Int) (w : World) :
    Calls Try.prog 4 #[.agg #[.int .i64 e, .int .i64 m], .agg #[.int .i64 t, .int .i64 k], .int .i64 n] w fun x w' => x = .returned (.bool true) ∧ Below w.heap.size w w' := by
  go_enter Try.func4, Try.ntmps4
  go_wp2_with (first | (go_at_call 18; refine (take_any _ _ _ _ _ _).mono ?_; rintro e w1 ⟨rfl, hb⟩; obtain ⟨xs, d, rfl⟩ := ext_of hb; clear hb) | (go_at_call 19; refine (take_ref _ _ _ _ _ _).mono ?_; rintro e w1 ⟨rfl, hb⟩; obtain ⟨xs, d, rfl⟩ := ext_of hb; clear hb) | (go_at_call 17; refine (awake_any _).mono ?_; rintro e w1 ⟨rfl, hb⟩; obtain ⟨xs, d, rfl⟩ := ext_of hb; clear hb))
  go_ret
  exact ⟨rfl, by (repeat (first | exact Below.refl _ _ | exact Nat.le_refl _ | (refine below_ext ?_ (by first | (simp [size_ext, grow]; done) | (simp [size_ext, grow]; omega) | omega) _ _) | (refine Below.setCell ?_ (by first | (simp [size_ext, grow]; done) | (simp [size_ext, grow]; omega) | omega) _) | (refine Below.alloc ?_ (by first | (simp [size_ext, grow]; done) | (simp [size_ext, grow]; omega) | omega) _) | refine Below.drew ?_ | refine below_drewN ?_ _ | (refine Below.trans ?_ (Below.mono (by assumption) (by first | (simp [size_ext, grow]; done) | (simp [size_ext, grow]; omega) | omega)))))⟩

end Go.Proofs.Ytlholmndckhhgaa
