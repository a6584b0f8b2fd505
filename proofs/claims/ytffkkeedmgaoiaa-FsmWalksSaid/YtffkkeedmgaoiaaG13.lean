/- The laws of the timer, of names. -/
import Derived.Test.YtffkkeedmgaoiaaG11
namespace Go.Proofs.Ytffkkeedmgaoiaa
open Go.RowKit
set_option linter.unusedSimpArgs false
set_option linter.unusedVariables false
set_option maxHeartbeats 2000000 in
theorem ends_4 (w : World) : Calls Try.prog 8 #[.int .i64 4] w fun x w' => x = .returned (.bool true) ∧ Below w.heap.size w w' := by
  go_enter Try.func8, Try.ntmps8
  go_wp2_with fail
  refine (step_gen 4 6 2 0 [4] _ (by decide) (by decide) (by decide)).mono ?_; rintro e' w1 ⟨v, rfl, hb, ho⟩; obtain ⟨xs1, d1, rfl⟩ := ext_of hb; clear hb; obtain ⟨A1, c1, rfl, -, -⟩ := ownsRow_form ho; have HO1 := Lib.hid ho; clear ho
  simp only [List.length_cons, List.length_nil, Nat.zero_add] at HO1 ⊢
  go_wp2_with fail
  refine (step_gen 4 5 4 0 [10] _ (by decide) (by decide) (by decide)).mono ?_; rintro e' w1 ⟨v, rfl, hb, ho⟩; obtain ⟨xs2, d2, rfl⟩ := ext_of hb; clear hb; obtain ⟨A2, c2, rfl, -, -⟩ := ownsRow_form ho; have HO2 := Lib.hid ho; clear ho
  simp only [List.length_cons, List.length_nil, Nat.zero_add] at HO2 ⊢
  go_wp2_with fail
  refine (timed_any 4 _).mono ?_; rw [show timedB 4 = true from rfl]; rintro e' w1 ⟨rfl, rfl⟩
  go_wp2_with fail
  refine (timed_any 2 _).mono ?_; rw [show timedB 2 = false from rfl]; rintro e' w1 ⟨rfl, rfl⟩
  go_wp2_with fail
  have HN := Lib.hid (At.newN (ext (ext w xs1 d1) xs2 d2) #[.int .i64 4] 37 ([4].map av) (grow (grow w.heap.size xs1) xs2) (by simp [size_ext, grow]) rfl)
  refine (same_any A1 (some ⟨grow (grow w.heap.size xs1) xs2, 0, none⟩) 1 1 c1 1 [4] _ _ (Nat.le_refl _) ((At.of_own HO1.out).move (by (repeat (first | exact Below.refl _ _ | exact Nat.le_refl _ | (refine below_ext ?_ (by first | (simp [size_ext, grow]; done) | (simp [size_ext, grow]; omega) | omega) _ _) | (refine Below.setCell ?_ (by first | (simp [size_ext, grow]; done) | (simp [size_ext, grow]; omega) | omega) _) | (refine Below.alloc ?_ (by first | (simp [size_ext, grow]; done) | (simp [size_ext, grow]; omega) | omega) _) | refine Below.drew ?_ | refine below_drewN ?_ _ | (refine Below.trans ?_ (Below.mono (by assumption) (by first | (simp [size_ext, grow]; done) | (simp [size_ext, grow]; omega) | omega)))))) (by first | (simp [size_ext, grow]; done) | (simp [size_ext, grow]; omega))) (HN.out.move (Below.refl _ _) (by first | (simp [size_ext, grow]; done) | (simp [size_ext, grow]; omega))) rfl rfl (by decide)).mono ?_
  rintro e' w1 ⟨rfl, hb⟩; obtain ⟨xs3, d3, rfl⟩ := ext_of hb; clear hb
  go_wp2_with fail
  refine (timed_any 4 _).mono ?_; rw [show timedB 4 = true from rfl]; rintro e' w1 ⟨rfl, rfl⟩
  have hA2 : At (ext ((ext (ext w xs1 d1) xs2 d2).alloc (.cells #[.int .i64 4] 37)) xs3 d3) _ A2 ([10].map av) := (At.of_own HO2.out).keep (by (repeat (first | exact Below.refl _ _ | exact Nat.le_refl _ | (refine below_ext ?_ (by first | (simp [size_ext, grow]; done) | (simp [size_ext, grow]; omega) | omega) _ _) | (refine Below.setCell ?_ (by first | (simp [size_ext, grow]; done) | (simp [size_ext, grow]; omega) | omega) _) | (refine Below.alloc ?_ (by first | (simp [size_ext, grow]; done) | (simp [size_ext, grow]; omega) | omega) _) | refine Below.drew ?_ | refine below_drewN ?_ _ | (refine Below.trans ?_ (Below.mono (by assumption) (by first | (simp [size_ext, grow]; done) | (simp [size_ext, grow]; omega) | omega))))))
  obtain ⟨b, o, rfl, -⟩ := hA2.cellAt (k := 0) (by decide)
  obtain ⟨x, hx, hc⟩ := hA2.readAt (k := 0) (by decide)
  obtain rfl : 10 = x := hx
  simp only [Nat.add_zero] at hc
  clear hA2
  go_wp2_with (go_at_call 14; refine (awake_any _).mono ?_; rintro e w1 ⟨rfl, hb⟩; obtain ⟨xs, d, rfl⟩ := ext_of hb; clear hb)
  go_ret
  exact ⟨rfl, by (repeat (first | exact Below.refl _ _ | exact Nat.le_refl _ | (refine below_ext ?_ (by first | (simp [size_ext, grow]; done) | (simp [size_ext, grow]; omega) | omega) _ _) | (refine Below.setCell ?_ (by first | (simp [size_ext, grow]; done) | (simp [size_ext, grow]; omega) | omega) _) | (refine Below.alloc ?_ (by first | (simp [size_ext, grow]; done) | (simp [size_ext, grow]; omega) | omega) _) | refine Below.drew ?_ | refine below_drewN ?_ _ | (refine Below.trans ?_ (Below.mono (by assumption) (by first | (simp [size_ext, grow]; done) | (simp [size_ext, grow]; omega) | omega)))))⟩
set_option maxHeartbeats 2000000 in
theorem ends_5 (w : World) : Calls Try.prog 8 #[.int .i64 5] w fun x w' => x = .returned (.bool true) ∧ Below w.heap.size w w' := by
  go_enter Try.func8, Try.ntmps8
  go_wp2_with fail
  refine (step_gen 5 6 3 0 [4] _ (by decide) (by decide) (by decide)).mono ?_; rintro e' w1 ⟨v, rfl, hb, ho⟩; obtain ⟨xs1, d1, rfl⟩ := ext_of hb; clear hb; obtain ⟨A1, c1, rfl, -, -⟩ := ownsRow_form ho; have HO1 := Lib.hid ho; clear ho
  simp only [List.length_cons, List.length_nil, Nat.zero_add] at HO1 ⊢
  go_wp2_with fail
  refine (step_gen 5 5 5 0 [10] _ (by decide) (by decide) (by decide)).mono ?_; rintro e' w1 ⟨v, rfl, hb, ho⟩; obtain ⟨xs2, d2, rfl⟩ := ext_of hb; clear hb; obtain ⟨A2, c2, rfl, -, -⟩ := ownsRow_form ho; have HO2 := Lib.hid ho; clear ho
  simp only [List.length_cons, List.length_nil, Nat.zero_add] at HO2 ⊢
  go_wp2_with fail
  refine (timed_any 5 _).mono ?_; rw [show timedB 5 = true from rfl]; rintro e' w1 ⟨rfl, rfl⟩
  go_wp2_with fail
  refine (timed_any 3 _).mono ?_; rw [show timedB 3 = false from rfl]; rintro e' w1 ⟨rfl, rfl⟩
  go_wp2_with fail
  have HN := Lib.hid (At.newN (ext (ext w xs1 d1) xs2 d2) #[.int .i64 4] 37 ([4].map av) (grow (grow w.heap.size xs1) xs2) (by simp [size_ext, grow]) rfl)
  refine (same_any A1 (some ⟨grow (grow w.heap.size xs1) xs2, 0, none⟩) 1 1 c1 1 [4] _ _ (Nat.le_refl _) ((At.of_own HO1.out).move (by (repeat (first | exact Below.refl _ _ | exact Nat.le_refl _ | (refine below_ext ?_ (by first | (simp [size_ext, grow]; done) | (simp [size_ext, grow]; omega) | omega) _ _) | (refine Below.setCell ?_ (by first | (simp [size_ext, grow]; done) | (simp [size_ext, grow]; omega) | omega) _) | (refine Below.alloc ?_ (by first | (simp [size_ext, grow]; done) | (simp [size_ext, grow]; omega) | omega) _) | refine Below.drew ?_ | refine below_drewN ?_ _ | (refine Below.trans ?_ (Below.mono (by assumption) (by first | (simp [size_ext, grow]; done) | (simp [size_ext, grow]; omega) | omega)))))) (by first | (simp [size_ext, grow]; done) | (simp [size_ext, grow]; omega))) (HN.out.move (Below.refl _ _) (by first | (simp [size_ext, grow]; done) | (simp [size_ext, grow]; omega))) rfl rfl (by decide)).mono ?_
  rintro e' w1 ⟨rfl, hb⟩; obtain ⟨xs3, d3, rfl⟩ := ext_of hb; clear hb
  go_wp2_with fail
  refine (timed_any 5 _).mono ?_; rw [show timedB 5 = true from rfl]; rintro e' w1 ⟨rfl, rfl⟩
  have hA2 : At (ext ((ext (ext w xs1 d1) xs2 d2).alloc (.cells #[.int .i64 4] 37)) xs3 d3) _ A2 ([10].map av) := (At.of_own HO2.out).keep (by (repeat (first | exact Below.refl _ _ | exact Nat.le_refl _ | (refine below_ext ?_ (by first | (simp [size_ext, grow]; done) | (simp [size_ext, grow]; omega) | omega) _ _) | (refine Below.setCell ?_ (by first | (simp [size_ext, grow]; done) | (simp [size_ext, grow]; omega) | omega) _) | (refine Below.alloc ?_ (by first | (simp [size_ext, grow]; done) | (simp [size_ext, grow]; omega) | omega) _) | refine Below.drew ?_ | refine below_drewN ?_ _ | (refine Below.trans ?_ (Below.mono (by assumption) (by first | (simp [size_ext, grow]; done) | (simp [size_ext, grow]; omega) | omega))))))
  obtain ⟨b, o, rfl, -⟩ := hA2.cellAt (k := 0) (by decide)
  obtain ⟨x, hx, hc⟩ := hA2.readAt (k := 0) (by decide)
  obtain rfl : 10 = x := hx
  simp only [Nat.add_zero] at hc
  clear hA2
  go_wp2_with (go_at_call 14; refine (awake_any _).mono ?_; rintro e w1 ⟨rfl, hb⟩; obtain ⟨xs, d, rfl⟩ := ext_of hb; clear hb)
  go_ret
  exact ⟨rfl, by (repeat (first | exact Below.refl _ _ | exact Nat.le_refl _ | (refine below_ext ?_ (by first | (simp [size_ext, grow]; done) | (simp [size_ext, grow]; omega) | omega) _ _) | (refine Below.setCell ?_ (by first | (simp [size_ext, grow]; done) | (simp [size_ext, grow]; omega) | omega) _) | (refine Below.alloc ?_ (by first | (simp [size_ext, grow]; done) | (simp [size_ext, grow]; omega) | omega) _) | refine Below.drew ?_ | refine below_drewN ?_ _ | (refine Below.trans ?_ (Below.mono (by assumption) (by first | (simp [size_ext, grow]; done) | (simp [size_ext, grow]; omega) | omega)))))⟩
set_option maxHeartbeats 2000000 in
theorem ends_6 (w : World) : Calls Try.prog 8 #[.int .i64 6] w fun x w' => x = .returned (.bool true) ∧ Below w.heap.size w w' := by
  go_enter Try.func8, Try.ntmps8
  go_wp2_with fail
  refine (step_gen 6 6 3 0 [4] _ (by decide) (by decide) (by decide)).mono ?_; rintro e' w1 ⟨v, rfl, hb, ho⟩; obtain ⟨xs1, d1, rfl⟩ := ext_of hb; clear hb; obtain ⟨A1, c1, rfl, -, -⟩ := ownsRow_form ho; have HO1 := Lib.hid ho; clear ho
  simp only [List.length_cons, List.length_nil, Nat.zero_add] at HO1 ⊢
  go_wp2_with fail
  refine (step_gen 6 5 6 0 [7] _ (by decide) (by decide) (by decide)).mono ?_; rintro e' w1 ⟨v, rfl, hb, ho⟩; obtain ⟨xs2, d2, rfl⟩ := ext_of hb; clear hb; obtain ⟨A2, c2, rfl, -, -⟩ := ownsRow_form ho; have HO2 := Lib.hid ho; clear ho
  simp only [List.length_cons, List.length_nil, Nat.zero_add] at HO2 ⊢
  go_wp2_with fail
  refine (timed_any 6 _).mono ?_; rw [show timedB 6 = true from rfl]; rintro e' w1 ⟨rfl, rfl⟩
  go_wp2_with fail
  refine (timed_any 3 _).mono ?_; rw [show timedB 3 = false from rfl]; rintro e' w1 ⟨rfl, rfl⟩
  go_wp2_with fail
  have HN := Lib.hid (At.newN (ext (ext w xs1 d1) xs2 d2) #[.int .i64 4] 37 ([4].map av) (grow (grow w.heap.size xs1) xs2) (by simp [size_ext, grow]) rfl)
  refine (same_any A1 (some ⟨grow (grow w.heap.size xs1) xs2, 0, none⟩) 1 1 c1 1 [4] _ _ (Nat.le_refl _) ((At.of_own HO1.out).move (by (repeat (first | exact Below.refl _ _ | exact Nat.le_refl _ | (refine below_ext ?_ (by first | (simp [size_ext, grow]; done) | (simp [size_ext, grow]; omega) | omega) _ _) | (refine Below.setCell ?_ (by first | (simp [size_ext, grow]; done) | (simp [size_ext, grow]; omega) | omega) _) | (refine Below.alloc ?_ (by first | (simp [size_ext, grow]; done) | (simp [size_ext, grow]; omega) | omega) _) | refine Below.drew ?_ | refine below_drewN ?_ _ | (refine Below.trans ?_ (Below.mono (by assumption) (by first | (simp [size_ext, grow]; done) | (simp [size_ext, grow]; omega) | omega)))))) (by first | (simp [size_ext, grow]; done) | (simp [size_ext, grow]; omega))) (HN.out.move (Below.refl _ _) (by first | (simp [size_ext, grow]; done) | (simp [size_ext, grow]; omega))) rfl rfl (by decide)).mono ?_
  rintro e' w1 ⟨rfl, hb⟩; obtain ⟨xs3, d3, rfl⟩ := ext_of hb; clear hb
  go_wp2_with fail
  refine (timed_any 6 _).mono ?_; rw [show timedB 6 = true from rfl]; rintro e' w1 ⟨rfl, rfl⟩
  have hA2 : At (ext ((ext (ext w xs1 d1) xs2 d2).alloc (.cells #[.int .i64 4] 37)) xs3 d3) _ A2 ([7].map av) := (At.of_own HO2.out).keep (by (repeat (first | exact Below.refl _ _ | exact Nat.le_refl _ | (refine below_ext ?_ (by first | (simp [size_ext, grow]; done) | (simp [size_ext, grow]; omega) | omega) _ _) | (refine Below.setCell ?_ (by first | (simp [size_ext, grow]; done) | (simp [size_ext, grow]; omega) | omega) _) | (refine Below.alloc ?_ (by first | (simp [size_ext, grow]; done) | (simp [size_ext, grow]; omega) | omega) _) | refine Below.drew ?_ | refine below_drewN ?_ _ | (refine Below.trans ?_ (Below.mono (by assumption) (by first | (simp [size_ext, grow]; done) | (simp [size_ext, grow]; omega) | omega))))))
  obtain ⟨b, o, rfl, -⟩ := hA2.cellAt (k := 0) (by decide)
  obtain ⟨x, hx, hc⟩ := hA2.readAt (k := 0) (by decide)
  obtain rfl : 7 = x := hx
  simp only [Nat.add_zero] at hc
  clear hA2
  go_wp2_with (go_at_call 14; refine (awake_any _).mono ?_; rintro e w1 ⟨rfl, hb⟩; obtain ⟨xs, d, rfl⟩ := ext_of hb; clear hb)
  go_ret
  exact ⟨rfl, by (repeat (first | exact Below.refl _ _ | exact Nat.le_refl _ | (refine below_ext ?_ (by first | (simp [size_ext, grow]; done) | (simp [size_ext, grow]; omega) | omega) _ _) | (refine Below.setCell ?_ (by first | (simp [size_ext, grow]; done) | (simp [size_ext, grow]; omega) | omega) _) | (refine Below.alloc ?_ (by first | (simp [size_ext, grow]; done) | (simp [size_ext, grow]; omega) | omega) _) | refine Below.drew ?_ | refine below_drewN ?_ _ | (refine Below.trans ?_ (Below.mono (by assumption) (by first | (simp [size_ext, grow]; done) | (simp [size_ext, grow]; omega) | omega)))))⟩
set_option maxHeartbeats 2000000 in
theorem ends_7 (w : World) : Calls Try.prog 8 #[.int .i64 7] w fun x w' => x = .returned (.bool true) ∧ Below w.heap.size w w' := by
  go_enter Try.func8, Try.ntmps8
  go_wp2_with fail
  refine (step_gen 7 6 3 0 [4] _ (by decide) (by decide) (by decide)).mono ?_; rintro e' w1 ⟨v, rfl, hb, ho⟩; obtain ⟨xs1, d1, rfl⟩ := ext_of hb; clear hb; obtain ⟨A1, c1, rfl, -, -⟩ := ownsRow_form ho; have HO1 := Lib.hid ho; clear ho
  simp only [List.length_cons, List.length_nil, Nat.zero_add] at HO1 ⊢
  go_wp2_with fail
  refine (step_gen 7 5 6 0 [7] _ (by decide) (by decide) (by decide)).mono ?_; rintro e' w1 ⟨v, rfl, hb, ho⟩; obtain ⟨xs2, d2, rfl⟩ := ext_of hb; clear hb; obtain ⟨A2, c2, rfl, -, -⟩ := ownsRow_form ho; have HO2 := Lib.hid ho; clear ho
  simp only [List.length_cons, List.length_nil, Nat.zero_add] at HO2 ⊢
  go_wp2_with fail
  refine (timed_any 7 _).mono ?_; rw [show timedB 7 = true from rfl]; rintro e' w1 ⟨rfl, rfl⟩
  go_wp2_with fail
  refine (timed_any 3 _).mono ?_; rw [show timedB 3 = false from rfl]; rintro e' w1 ⟨rfl, rfl⟩
  go_wp2_with fail
  have HN := Lib.hid (At.newN (ext (ext w xs1 d1) xs2 d2) #[.int .i64 4] 37 ([4].map av) (grow (grow w.heap.size xs1) xs2) (by simp [size_ext, grow]) rfl)
  refine (same_any A1 (some ⟨grow (grow w.heap.size xs1) xs2, 0, none⟩) 1 1 c1 1 [4] _ _ (Nat.le_refl _) ((At.of_own HO1.out).move (by (repeat (first | exact Below.refl _ _ | exact Nat.le_refl _ | (refine below_ext ?_ (by first | (simp [size_ext, grow]; done) | (simp [size_ext, grow]; omega) | omega) _ _) | (refine Below.setCell ?_ (by first | (simp [size_ext, grow]; done) | (simp [size_ext, grow]; omega) | omega) _) | (refine Below.alloc ?_ (by first | (simp [size_ext, grow]; done) | (simp [size_ext, grow]; omega) | omega) _) | refine Below.drew ?_ | refine below_drewN ?_ _ | (refine Below.trans ?_ (Below.mono (by assumption) (by first | (simp [size_ext, grow]; done) | (simp [size_ext, grow]; omega) | omega)))))) (by first | (simp [size_ext, grow]; done) | (simp [size_ext, grow]; omega))) (HN.out.move (Below.refl _ _) (by first | (simp [size_ext, grow]; done) | (simp [size_ext, grow]; omega))) rfl rfl (by decide)).mono ?_
  rintro e' w1 ⟨rfl, hb⟩; obtain ⟨xs3, d3, rfl⟩ := ext_of hb; clear hb
  go_wp2_with fail
  refine (timed_any 6 _).mono ?_; rw [show timedB 6 = true from rfl]; rintro e' w1 ⟨rfl, rfl⟩
  have hA2 : At (ext ((ext (ext w xs1 d1) xs2 d2).alloc (.cells #[.int .i64 4] 37)) xs3 d3) _ A2 ([7].map av) := (At.of_own HO2.out).keep (by (repeat (first | exact Below.refl _ _ | exact Nat.le_refl _ | (refine below_ext ?_ (by first | (simp [size_ext, grow]; done) | (simp [size_ext, grow]; omega) | omega) _ _) | (refine Below.setCell ?_ (by first | (simp [size_ext, grow]; done) | (simp [size_ext, grow]; omega) | omega) _) | (refine Below.alloc ?_ (by first | (simp [size_ext, grow]; done) | (simp [size_ext, grow]; omega) | omega) _) | refine Below.drew ?_ | refine below_drewN ?_ _ | (refine Below.trans ?_ (Below.mono (by assumption) (by first | (simp [size_ext, grow]; done) | (simp [size_ext, grow]; omega) | omega))))))
  obtain ⟨b, o, rfl, -⟩ := hA2.cellAt (k := 0) (by decide)
  obtain ⟨x, hx, hc⟩ := hA2.readAt (k := 0) (by decide)
  obtain rfl : 7 = x := hx
  simp only [Nat.add_zero] at hc
  clear hA2
  go_wp2_with (go_at_call 14; refine (awake_any _).mono ?_; rintro e w1 ⟨rfl, hb⟩; obtain ⟨xs, d, rfl⟩ := ext_of hb; clear hb)
  go_ret
  exact ⟨rfl, by (repeat (first | exact Below.refl _ _ | exact Nat.le_refl _ | (refine below_ext ?_ (by first | (simp [size_ext, grow]; done) | (simp [size_ext, grow]; omega) | omega) _ _) | (refine Below.setCell ?_ (by first | (simp [size_ext, grow]; done) | (simp [size_ext, grow]; omega) | omega) _) | (refine Below.alloc ?_ (by first | (simp [size_ext, grow]; done) | (simp [size_ext, grow]; omega) | omega) _) | refine Below.drew ?_ | refine below_drewN ?_ _ | (refine Below.trans ?_ (Below.mono (by assumption) (by first | (simp [size_ext, grow]; done) | (simp [size_ext, grow]; omega) | omega)))))⟩
set_option maxHeartbeats 2000000 in
theorem ends_8 (w : World) : Calls Try.prog 8 #[.int .i64 8] w fun x w' => x = .returned (.bool true) ∧ Below w.heap.size w w' := by
  go_enter Try.func8, Try.ntmps8
  go_wp2_with fail
  refine (step_gen 8 6 3 0 [4] _ (by decide) (by decide) (by decide)).mono ?_; rintro e' w1 ⟨v, rfl, hb, ho⟩; obtain ⟨xs1, d1, rfl⟩ := ext_of hb; clear hb; obtain ⟨A1, c1, rfl, -, -⟩ := ownsRow_form ho; have HO1 := Lib.hid ho; clear ho
  simp only [List.length_cons, List.length_nil, Nat.zero_add] at HO1 ⊢
  go_wp2_with fail
  refine (step_gen 8 5 8 0 [7] _ (by decide) (by decide) (by decide)).mono ?_; rintro e' w1 ⟨v, rfl, hb, ho⟩; obtain ⟨xs2, d2, rfl⟩ := ext_of hb; clear hb; obtain ⟨A2, c2, rfl, -, -⟩ := ownsRow_form ho; have HO2 := Lib.hid ho; clear ho
  simp only [List.length_cons, List.length_nil, Nat.zero_add] at HO2 ⊢
  go_wp2_with fail
  refine (timed_any 8 _).mono ?_; rw [show timedB 8 = true from rfl]; rintro e' w1 ⟨rfl, rfl⟩
  go_wp2_with fail
  refine (timed_any 3 _).mono ?_; rw [show timedB 3 = false from rfl]; rintro e' w1 ⟨rfl, rfl⟩
  go_wp2_with fail
  have HN := Lib.hid (At.newN (ext (ext w xs1 d1) xs2 d2) #[.int .i64 4] 37 ([4].map av) (grow (grow w.heap.size xs1) xs2) (by simp [size_ext, grow]) rfl)
  refine (same_any A1 (some ⟨grow (grow w.heap.size xs1) xs2, 0, none⟩) 1 1 c1 1 [4] _ _ (Nat.le_refl _) ((At.of_own HO1.out).move (by (repeat (first | exact Below.refl _ _ | exact Nat.le_refl _ | (refine below_ext ?_ (by first | (simp [size_ext, grow]; done) | (simp [size_ext, grow]; omega) | omega) _ _) | (refine Below.setCell ?_ (by first | (simp [size_ext, grow]; done) | (simp [size_ext, grow]; omega) | omega) _) | (refine Below.alloc ?_ (by first | (simp [size_ext, grow]; done) | (simp [size_ext, grow]; omega) | omega) _) | refine Below.drew ?_ | refine below_drewN ?_ _ | (refine Below.trans ?_ (Below.mono (by assumption) (by first | (simp [size_ext, grow]; done) | (simp [size_ext, grow]; omega) | omega)))))) (by first | (simp [size_ext, grow]; done) | (simp [size_ext, grow]; omega))) (HN.out.move (Below.refl _ _) (by first | (simp [size_ext, grow]; done) | (simp [size_ext, grow]; omega))) rfl rfl (by decide)).mono ?_
  rintro e' w1 ⟨rfl, hb⟩; obtain ⟨xs3, d3, rfl⟩ := ext_of hb; clear hb
  go_wp2_with fail
  refine (timed_any 8 _).mono ?_; rw [show timedB 8 = true from rfl]; rintro e' w1 ⟨rfl, rfl⟩
  have hA2 : At (ext ((ext (ext w xs1 d1) xs2 d2).alloc (.cells #[.int .i64 4] 37)) xs3 d3) _ A2 ([7].map av) := (At.of_own HO2.out).keep (by (repeat (first | exact Below.refl _ _ | exact Nat.le_refl _ | (refine below_ext ?_ (by first | (simp [size_ext, grow]; done) | (simp [size_ext, grow]; omega) | omega) _ _) | (refine Below.setCell ?_ (by first | (simp [size_ext, grow]; done) | (simp [size_ext, grow]; omega) | omega) _) | (refine Below.alloc ?_ (by first | (simp [size_ext, grow]; done) | (simp [size_ext, grow]; omega) | omega) _) | refine Below.drew ?_ | refine below_drewN ?_ _ | (refine Below.trans ?_ (Below.mono (by assumption) (by first | (simp [size_ext, grow]; done) | (simp [size_ext, grow]; omega) | omega))))))
  obtain ⟨b, o, rfl, -⟩ := hA2.cellAt (k := 0) (by decide)
  obtain ⟨x, hx, hc⟩ := hA2.readAt (k := 0) (by decide)
  obtain rfl : 7 = x := hx
  simp only [Nat.add_zero] at hc
  clear hA2
  go_wp2_with (go_at_call 14; refine (awake_any _).mono ?_; rintro e w1 ⟨rfl, hb⟩; obtain ⟨xs, d, rfl⟩ := ext_of hb; clear hb)
  go_ret
  exact ⟨rfl, by (repeat (first | exact Below.refl _ _ | exact Nat.le_refl _ | (refine below_ext ?_ (by first | (simp [size_ext, grow]; done) | (simp [size_ext, grow]; omega) | omega) _ _) | (refine Below.setCell ?_ (by first | (simp [size_ext, grow]; done) | (simp [size_ext, grow]; omega) | omega) _) | (refine Below.alloc ?_ (by first | (simp [size_ext, grow]; done) | (simp [size_ext, grow]; omega) | omega) _) | refine Below.drew ?_ | refine below_drewN ?_ _ | (refine Below.trans ?_ (Below.mono (by assumption) (by first | (simp [size_ext, grow]; done) | (simp [size_ext, grow]; omega) | omega)))))⟩
theorem err_out (s e : Int) (h : s < 0 ∨ 9 < s) : stepErr s e = 140 := by unfold stepErr; rw [if_neg (by simp [inTab]; omega)]
theorem err_five (s : Int) (h : s = 0 ∨ s = 1 ∨ s = 2 ∨ s = 3 ∨ s = 9) : stepErr s 6 = 5 ∧ stepErr s 5 = 5 := by rcases h with rfl | rfl | rfl | rfl | rfl <;> decide
set_option maxHeartbeats 2000000 in
theorem ends_no (s er : Int) (w : World) (hs : s < 4 ∨ 8 < s) (he : er = 5 ∨ er = 140) (h6 : stepErr s 6 = er) (h5 : stepErr s 5 = er) : Calls Try.prog 8 #[.int .i64 s] w fun x w' => x = .returned (.bool true) ∧ Below w.heap.size w w' := by
  have H := Lib.hid (And.intro h6 h5)
  have hT : timedB s = false := by unfold timedB; simp; omega
  have HT := Lib.hid hT
  clear h6 h5 hs hT
  rcases he with rfl | rfl
  all_goals
    go_enter Try.func8, Try.ntmps8
    go_wp2_with fail
    refine (step_gen s 6 _ _ _ _ rfl rfl H.out.1).mono ?_; rintro e' w1 ⟨v, rfl, hb, ho⟩; obtain ⟨xs1, d1, rfl⟩ := ext_of hb; clear hb; obtain ⟨A1, c1, rfl, -, -⟩ := ownsRow_form ho; have HO1 := Lib.hid ho; clear ho
    go_wp2_with fail
    refine (step_gen s 5 _ _ _ _ rfl rfl H.out.2).mono ?_; rintro e' w1 ⟨v, rfl, hb, ho⟩; obtain ⟨xs2, d2, rfl⟩ := ext_of hb; clear hb; obtain ⟨A2, c2, rfl, -, -⟩ := ownsRow_form ho; have HO2 := Lib.hid ho; clear ho
    go_wp2_with fail
    refine (timed_any s _).mono ?_; rw [HT.out]; rintro e' w1 ⟨rfl, rfl⟩
    go_wp2_with (go_at_call 14; refine (awake_any _).mono ?_; rintro e w1 ⟨rfl, hb⟩; obtain ⟨xs, d, rfl⟩ := ext_of hb; clear hb)
    go_ret
    exact ⟨rfl, by (repeat (first | exact Below.refl _ _ | exact Nat.le_refl _ | (refine below_ext ?_ (by first | (simp [size_ext, grow]; done) | (simp [size_ext, grow]; omega) | omega) _ _) | (refine Below.setCell ?_ (by first | (simp [size_ext, grow]; done) | (simp [size_ext, grow]; omega) | omega) _) | (refine Below.alloc ?_ (by first | (simp [size_ext, grow]; done) | (simp [size_ext, grow]; omega) | omega) _) | refine Below.drew ?_ | refine below_drewN ?_ _ | (refine Below.trans ?_ (Below.mono (by assumption) (by first | (simp [size_ext, grow]; done) | (simp [size_ext, grow]; omega) | omega)))))⟩
theorem fsmEnds_walk (s : Int) (w : World) : Calls Try.prog 8 #[.int .i64 s] w fun x w' => x = .returned (.bool true) ∧ Below w.heap.size w w' := by
  by_cases h : 4 ≤ s ∧ s ≤ 8
  · have hs : s = 4 ∨ s = 5 ∨ s = 6 ∨ s = 7 ∨ s = 8 := by omega
    rcases hs with rfl | rfl | rfl | rfl | rfl
    · exact ends_4 w
    · exact ends_5 w
    · exact ends_6 w
    · exact ends_7 w
    · exact ends_8 w
  · by_cases h2 : 0 ≤ s ∧ s ≤ 9
    · obtain ⟨h6, h5⟩ := err_five s (by omega)
      exact ends_no s 5 w (by omega) (.inl rfl) h6 h5
    · exact ends_no s 140 w (by omega) (.inr rfl) (err_out s 6 (by omega)) (err_out s 5 (by omega))
theorem parse_name (s : Int) (h0 : 0 ≤ s) (h9 : s ≤ 9) : parseN (nameOf stL s) = s ∧ parseB (nameOf stL s) = true := by
  rcases ten h0 h9 with rfl | rfl | rfl | rfl | rfl | rfl | rfl | rfl | rfl | rfl <;> decide
set_option maxHeartbeats 2000000 in
theorem fsmParses_walk (s : Int) (w : World) : Calls Try.prog 9 #[.int .i64 s] w fun x w' => x = .returned (.bool true) ∧ Below w.heap.size w w' := by
  by_cases h : 0 ≤ s ∧ s ≤ 9
  · obtain ⟨h0, h9⟩ := h
    obtain ⟨n, hn⟩ : ∃ n, nameOf stL s = n := ⟨_, rfl⟩
    have HP := Lib.hid (parse_name s h0 h9)
    rw [hn] at HP
    have HN := Lib.hid hn
    clear hn
    go_enter Try.func9, Try.ntmps9
    go_wp2_with fail
    refine (name_any s _).mono ?_; rw [HN.out]; rintro e' w1 ⟨rfl, rfl⟩
    go_wp2_with fail
    refine (parse_any n _).mono ?_; rw [HP.out.1, HP.out.2]; rintro e' w1 ⟨rfl, rfl⟩
    go_wp2_with (go_at_call 14; refine (awake_any _).mono ?_; rintro e w1 ⟨rfl, hb⟩; obtain ⟨xs, d, rfl⟩ := ext_of hb; clear hb)
    go_ret
    exact ⟨rfl, by (repeat (first | exact Below.refl _ _ | exact Nat.le_refl _ | (refine below_ext ?_ (by first | (simp [size_ext, grow]; done) | (simp [size_ext, grow]; omega) | omega) _ _) | (refine Below.setCell ?_ (by first | (simp [size_ext, grow]; done) | (simp [size_ext, grow]; omega) | omega) _) | (refine Below.alloc ?_ (by first | (simp [size_ext, grow]; done) | (simp [size_ext, grow]; omega) | omega) _) | refine Below.drew ?_ | refine below_drewN ?_ _ | (refine Below.trans ?_ (Below.mono (by assumption) (by first | (simp [size_ext, grow]; done) | (simp [size_ext, grow]; omega) | omega)))))⟩
  · have HN := Lib.hid (show nameOf stL s = [] from nameOf_out (by simp only [stL, List.length_cons, List.length_nil]; omega))
    have HP := Lib.hid (show parseN [] = 0 ∧ parseB [] = false by decide)
    have hs : s < 0 ∨ 9 < s := by omega
    clear h
    have hd : (decide (0 ≤ s) && decide (s ≤ 9)) = false := by simp; omega
    rcases hs with hs | hs
    · have hd1 : decide (0 ≤ s) = false := by simp; omega
      clear hd hs
      go_enter Try.func9, Try.ntmps9
      go_wp2_with fail
      refine (name_any s _).mono ?_; rw [HN.out]; rintro e' w1 ⟨rfl, rfl⟩
      go_wp2_with fail
      refine (parse_any [] _).mono ?_; rw [HP.out.1, HP.out.2]; rintro e' w1 ⟨rfl, rfl⟩
      go_wp2_with (go_at_call 14; refine (awake_any _).mono ?_; rintro e w1 ⟨rfl, hb⟩; obtain ⟨xs, d, rfl⟩ := ext_of hb; clear hb)
      all_goals (go_ret; exact ⟨rfl, by (repeat (first | exact Below.refl _ _ | exact Nat.le_refl _ | (refine below_ext ?_ (by first | (simp [size_ext, grow]; done) | (simp [size_ext, grow]; omega) | omega) _ _) | (refine Below.setCell ?_ (by first | (simp [size_ext, grow]; done) | (simp [size_ext, grow]; omega) | omega) _) | (refine Below.alloc ?_ (by first | (simp [size_ext, grow]; done) | (simp [size_ext, grow]; omega) | omega) _) | refine Below.drew ?_ | refine below_drewN ?_ _ | (refine Below.trans ?_ (Below.mono (by assumption) (by first | (simp [size_ext, grow]; done) | (simp [size_ext, grow]; omega) | omega)))))⟩)
    · have hd1 : decide (s ≤ 9) = false := by simp; omega
      clear hd hs
      go_enter Try.func9, Try.ntmps9
      go_wp2_with fail
      refine (name_any s _).mono ?_; rw [HN.out]; rintro e' w1 ⟨rfl, rfl⟩
      go_wp2_with fail
      refine (parse_any [] _).mono ?_; rw [HP.out.1, HP.out.2]; rintro e' w1 ⟨rfl, rfl⟩
      go_wp2_with (go_at_call 14; refine (awake_any _).mono ?_; rintro e w1 ⟨rfl, hb⟩; obtain ⟨xs, d, rfl⟩ := ext_of hb; clear hb)
      all_goals (go_ret; exact ⟨rfl, by (repeat (first | exact Below.refl _ _ | exact Nat.le_refl _ | (refine below_ext ?_ (by first | (simp [size_ext, grow]; done) | (simp [size_ext, grow]; omega) | omega) _ _) | (refine Below.setCell ?_ (by first | (simp [size_ext, grow]; done) | (simp [size_ext, grow]; omega) | omega) _) | (refine Below.alloc ?_ (by first | (simp [size_ext, grow]; done) | (simp [size_ext, grow]; omega) | omega) _) | refine Below.drew ?_ | refine below_drewN ?_ _ | (refine Below.trans ?_ (Below.mono (by assumption) (by first | (simp [size_ext, grow]; done) | (simp [size_ext, grow]; omega) | omega)))))⟩)
set_option maxHeartbeats 4000000 in
theorem fsmNames_walk (s ev a : Int) (l : List UInt8) (w : World) (hl : (l.length : Int) ≤ 9223372036854775807) : Calls Try.prog 10 #[.int .i64 s, .int .i64 ev, .int .i64 a, .string ⟨l.toArray⟩] w fun x w' => x = .returned (.bool true) ∧ Below w.heap.size w w' := by
  by_cases h : 50 < l.length
  · go_enter Try.func10, Try.ntmps10
    go_wp2_with fail
    rw [ext3]
    go_wp2_with fail
    refine (parse_any _ _).mono ?_; rintro e' w1 ⟨rfl, rfl⟩
    go_wp2_with fail
    refine (parse_ref _ _).mono ?_; rintro e w1 ⟨rfl, hb⟩; obtain ⟨xs, d, rfl⟩ := ext_of hb; clear hb
    go_wp2_with fail
    refine (timed_any s _).mono ?_; rintro e' w1 ⟨rfl, rfl⟩
    go_wp2_with fail
    refine (timed_r s _).mono ?_; rintro e' w1 ⟨rfl, rfl⟩
    go_wp2_with fail
    refine (name_any s _).mono ?_; rintro e' w1 ⟨rfl, rfl⟩
    go_wp2_with fail
    refine (name_ref s _).mono ?_; rintro e' w1 ⟨rfl, hb⟩; obtain ⟨xs2, d2, rfl⟩ := ext_of hb; clear hb
    go_wp2_with fail
    refine (event_any ev _).mono ?_; rintro e' w1 ⟨rfl, rfl⟩
    go_wp2_with fail
    refine (event_ref ev _).mono ?_; rintro e' w1 ⟨rfl, hb⟩; obtain ⟨xs3, d3, rfl⟩ := ext_of hb; clear hb
    go_wp2_with fail
    refine (action_any a _).mono ?_; rintro e' w1 ⟨rfl, rfl⟩
    go_wp2_with fail
    refine (actname_ref a _).mono ?_; rintro e' w1 ⟨rfl, hb⟩; obtain ⟨xs4, d4, rfl⟩ := ext_of hb; clear hb
    go_wp2_with (go_at_call 14; refine (awake_any _).mono ?_; rintro e' w1 ⟨rfl, hb⟩; obtain ⟨xs5, d5, rfl⟩ := ext_of hb; clear hb)
    go_ret
    exact ⟨rfl, by (repeat (first | exact Below.refl _ _ | exact Nat.le_refl _ | (refine below_ext ?_ (by first | (simp [size_ext, grow]; done) | (simp [size_ext, grow]; omega) | omega) _ _) | (refine Below.setCell ?_ (by first | (simp [size_ext, grow]; done) | (simp [size_ext, grow]; omega) | omega) _) | (refine Below.alloc ?_ (by first | (simp [size_ext, grow]; done) | (simp [size_ext, grow]; omega) | omega) _) | refine Below.drew ?_ | refine below_drewN ?_ _ | (refine Below.trans ?_ (Below.mono (by assumption) (by first | (simp [size_ext, grow]; done) | (simp [size_ext, grow]; omega) | omega)))))⟩
  · go_enter Try.func10, Try.ntmps10
    go_wp2_with fail
    refine (parse_any _ _).mono ?_; rintro e' w1 ⟨rfl, rfl⟩
    go_wp2_with fail
    refine (parse_ref _ _).mono ?_; rintro e w1 ⟨rfl, hb⟩; obtain ⟨xs, d, rfl⟩ := ext_of hb; clear hb
    go_wp2_with fail
    refine (timed_any s _).mono ?_; rintro e' w1 ⟨rfl, rfl⟩
    go_wp2_with fail
    refine (timed_r s _).mono ?_; rintro e' w1 ⟨rfl, rfl⟩
    go_wp2_with fail
    refine (name_any s _).mono ?_; rintro e' w1 ⟨rfl, rfl⟩
    go_wp2_with fail
    refine (name_ref s _).mono ?_; rintro e' w1 ⟨rfl, hb⟩; obtain ⟨xs2, d2, rfl⟩ := ext_of hb; clear hb
    go_wp2_with fail
    refine (event_any ev _).mono ?_; rintro e' w1 ⟨rfl, rfl⟩
    go_wp2_with fail
    refine (event_ref ev _).mono ?_; rintro e' w1 ⟨rfl, hb⟩; obtain ⟨xs3, d3, rfl⟩ := ext_of hb; clear hb
    go_wp2_with fail
    refine (action_any a _).mono ?_; rintro e' w1 ⟨rfl, rfl⟩
    go_wp2_with fail
    refine (actname_ref a _).mono ?_; rintro e' w1 ⟨rfl, hb⟩; obtain ⟨xs4, d4, rfl⟩ := ext_of hb; clear hb
    go_wp2_with (go_at_call 14; refine (awake_any _).mono ?_; rintro e' w1 ⟨rfl, hb⟩; obtain ⟨xs5, d5, rfl⟩ := ext_of hb; clear hb)
    go_ret
    exact ⟨rfl, by (repeat (first | exact Below.refl _ _ | exact Nat.le_refl _ | (refine below_ext ?_ (by first | (simp [size_ext, grow]; done) | (simp [size_ext, grow]; omega) | omega) _ _) | (refine Below.setCell ?_ (by first | (simp [size_ext, grow]; done) | (simp [size_ext, grow]; omega) | omega) _) | (refine Below.alloc ?_ (by first | (simp [size_ext, grow]; done) | (simp [size_ext, grow]; omega) | omega) _) | refine Below.drew ?_ | refine below_drewN ?_ _ | (refine Below.trans ?_ (Below.mono (by assumption) (by first | (simp [size_ext, grow]; done) | (simp [size_ext, grow]; omega) | omega)))))⟩
end Go.Proofs.Ytffkkeedmgaoiaa
