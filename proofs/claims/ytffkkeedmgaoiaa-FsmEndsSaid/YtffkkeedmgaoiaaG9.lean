/- Names. -/
import Derived.Test.YtffkkeedmgaoiaaG5
import Derived.Test.YtffkkeedmgaoiaaG1
namespace Go.Proofs.Ytffkkeedmgaoiaa
open Go.RowKit
set_option linter.unusedSimpArgs false
set_option linter.unusedVariables false
def stL : List (List UInt8) := [[73, 110, 105, 116, 105, 97, 108], [83, 116, 97, 114, 116, 105, 110, 103], [67, 108, 111, 115, 101, 100], [83, 116, 111, 112, 112, 101, 100], [67, 108, 111, 115, 105, 110, 103], [83, 116, 111, 112, 112, 105, 110, 103], [82, 101, 113, 45, 83, 101, 110, 116], [65, 99, 107, 45, 82, 99, 118, 100], [65, 99, 107, 45, 83, 101, 110, 116], [79, 112, 101, 110, 101, 100]]
def evL : List (List UInt8) := [[], [85, 112], [68, 111, 119, 110], [79, 112, 101, 110], [67, 108, 111, 115, 101], [84, 79, 43], [84, 79, 45], [82, 67, 82, 43], [82, 67, 82, 45], [82, 67, 65], [82, 67, 78], [82, 84, 82], [82, 84, 65], [82, 85, 67], [82, 88, 74, 43], [82, 88, 74, 45], [82, 88, 82]]
def nameOf (L : List (List UInt8)) (s : Int) : List UInt8 := if 0 ≤ s then L.getD s.toNat [] else []
theorem nameOf_out {L : List (List UInt8)} {s : Int} (h : s < 0 ∨ (L.length : Int) ≤ s) : nameOf L s = [] := by
  unfold nameOf
  split
  · rw [List.getD_eq_getElem?_getD, List.getElem?_eq_none (by omega)]; rfl
  · rfl
theorem nameOf_nat (L : List (List UInt8)) (n : Nat) : nameOf L n = L.getD n [] := by unfold nameOf; rw [if_pos (by omega)]; simp
theorem ret_str {a b : List UInt8} (h : a = b) : Ending.returned (.string ⟨a.toArray⟩) = .returned (.string ⟨b.toArray⟩) := by rw [h]
theorem name_0 (w : World) : Calls Try.prog 19 #[.int .i64 0] w fun e w' => e = .returned (.string ⟨(nameOf stL 0).toArray⟩) ∧ w = w' := by
  go_enter Try.func19, Try.ntmps19
  go_wp2
  go_ret
  exact ⟨rfl, rfl⟩
theorem name_1 (w : World) : Calls Try.prog 19 #[.int .i64 1] w fun e w' => e = .returned (.string ⟨(nameOf stL 1).toArray⟩) ∧ w = w' := by
  go_enter Try.func19, Try.ntmps19
  go_wp2
  go_ret
  exact ⟨rfl, rfl⟩
theorem name_2 (w : World) : Calls Try.prog 19 #[.int .i64 2] w fun e w' => e = .returned (.string ⟨(nameOf stL 2).toArray⟩) ∧ w = w' := by
  go_enter Try.func19, Try.ntmps19
  go_wp2
  go_ret
  exact ⟨rfl, rfl⟩
theorem name_3 (w : World) : Calls Try.prog 19 #[.int .i64 3] w fun e w' => e = .returned (.string ⟨(nameOf stL 3).toArray⟩) ∧ w = w' := by
  go_enter Try.func19, Try.ntmps19
  go_wp2
  go_ret
  exact ⟨rfl, rfl⟩
theorem name_4 (w : World) : Calls Try.prog 19 #[.int .i64 4] w fun e w' => e = .returned (.string ⟨(nameOf stL 4).toArray⟩) ∧ w = w' := by
  go_enter Try.func19, Try.ntmps19
  go_wp2
  go_ret
  exact ⟨rfl, rfl⟩
theorem name_5 (w : World) : Calls Try.prog 19 #[.int .i64 5] w fun e w' => e = .returned (.string ⟨(nameOf stL 5).toArray⟩) ∧ w = w' := by
  go_enter Try.func19, Try.ntmps19
  go_wp2
  go_ret
  exact ⟨rfl, rfl⟩
theorem name_6 (w : World) : Calls Try.prog 19 #[.int .i64 6] w fun e w' => e = .returned (.string ⟨(nameOf stL 6).toArray⟩) ∧ w = w' := by
  go_enter Try.func19, Try.ntmps19
  go_wp2
  go_ret
  exact ⟨rfl, rfl⟩
theorem name_7 (w : World) : Calls Try.prog 19 #[.int .i64 7] w fun e w' => e = .returned (.string ⟨(nameOf stL 7).toArray⟩) ∧ w = w' := by
  go_enter Try.func19, Try.ntmps19
  go_wp2
  go_ret
  exact ⟨rfl, rfl⟩
theorem name_8 (w : World) : Calls Try.prog 19 #[.int .i64 8] w fun e w' => e = .returned (.string ⟨(nameOf stL 8).toArray⟩) ∧ w = w' := by
  go_enter Try.func19, Try.ntmps19
  go_wp2
  go_ret
  exact ⟨rfl, rfl⟩
theorem name_9 (w : World) : Calls Try.prog 19 #[.int .i64 9] w fun e w' => e = .returned (.string ⟨(nameOf stL 9).toArray⟩) ∧ w = w' := by
  go_enter Try.func19, Try.ntmps19
  go_wp2
  go_ret
  exact ⟨rfl, rfl⟩
theorem name_any (s : Int) (w : World) : Calls Try.prog 19 #[.int .i64 s] w fun e w' => e = .returned (.string ⟨(nameOf stL s).toArray⟩) ∧ w = w' := by
  by_cases h : 0 ≤ s ∧ s ≤ 9
  · have hs : s = 0 ∨ s = 1 ∨ s = 2 ∨ s = 3 ∨ s = 4 ∨ s = 5 ∨ s = 6 ∨ s = 7 ∨ s = 8 ∨ s = 9 := by omega
    rcases hs with rfl | rfl | rfl | rfl | rfl | rfl | rfl | rfl | rfl | rfl
    · exact name_0 w
    · exact name_1 w
    · exact name_2 w
    · exact name_3 w
    · exact name_4 w
    · exact name_5 w
    · exact name_6 w
    · exact name_7 w
    · exact name_8 w
    · exact name_9 w
  · have HN := Lib.hid (show nameOf stL s = [] by
      by_cases h0 : s = 0
      · subst h0; first | rfl | (exfalso; omega)
      · exact nameOf_out (by simp only [stL, List.length_cons, List.length_nil]; omega))
    have k0 : (s == 0) = false := by simp; omega
    have k1 : (s == 1) = false := by simp; omega
    have k2 : (s == 2) = false := by simp; omega
    have k3 : (s == 3) = false := by simp; omega
    have k4 : (s == 4) = false := by simp; omega
    have k5 : (s == 5) = false := by simp; omega
    have k6 : (s == 6) = false := by simp; omega
    have k7 : (s == 7) = false := by simp; omega
    have k8 : (s == 8) = false := by simp; omega
    have k9 : (s == 9) = false := by simp; omega
    clear h
    go_enter Try.func19, Try.ntmps19
    go_wp2
    go_ret
    exact ⟨by rw [HN.out]; rfl, rfl⟩
theorem event_1 (w : World) : Calls Try.prog 24 #[.int .i64 1] w fun e w' => e = .returned (.string ⟨(nameOf evL 1).toArray⟩) ∧ w = w' := by
  go_enter Try.func24, Try.ntmps24
  go_wp2
  go_ret
  exact ⟨rfl, rfl⟩
theorem event_2 (w : World) : Calls Try.prog 24 #[.int .i64 2] w fun e w' => e = .returned (.string ⟨(nameOf evL 2).toArray⟩) ∧ w = w' := by
  go_enter Try.func24, Try.ntmps24
  go_wp2
  go_ret
  exact ⟨rfl, rfl⟩
theorem event_3 (w : World) : Calls Try.prog 24 #[.int .i64 3] w fun e w' => e = .returned (.string ⟨(nameOf evL 3).toArray⟩) ∧ w = w' := by
  go_enter Try.func24, Try.ntmps24
  go_wp2
  go_ret
  exact ⟨rfl, rfl⟩
theorem event_4 (w : World) : Calls Try.prog 24 #[.int .i64 4] w fun e w' => e = .returned (.string ⟨(nameOf evL 4).toArray⟩) ∧ w = w' := by
  go_enter Try.func24, Try.ntmps24
  go_wp2
  go_ret
  exact ⟨rfl, rfl⟩
theorem event_5 (w : World) : Calls Try.prog 24 #[.int .i64 5] w fun e w' => e = .returned (.string ⟨(nameOf evL 5).toArray⟩) ∧ w = w' := by
  go_enter Try.func24, Try.ntmps24
  go_wp2
  go_ret
  exact ⟨rfl, rfl⟩
theorem event_6 (w : World) : Calls Try.prog 24 #[.int .i64 6] w fun e w' => e = .returned (.string ⟨(nameOf evL 6).toArray⟩) ∧ w = w' := by
  go_enter Try.func24, Try.ntmps24
  go_wp2
  go_ret
  exact ⟨rfl, rfl⟩
theorem event_7 (w : World) : Calls Try.prog 24 #[.int .i64 7] w fun e w' => e = .returned (.string ⟨(nameOf evL 7).toArray⟩) ∧ w = w' := by
  go_enter Try.func24, Try.ntmps24
  go_wp2
  go_ret
  exact ⟨rfl, rfl⟩
theorem event_8 (w : World) : Calls Try.prog 24 #[.int .i64 8] w fun e w' => e = .returned (.string ⟨(nameOf evL 8).toArray⟩) ∧ w = w' := by
  go_enter Try.func24, Try.ntmps24
  go_wp2
  go_ret
  exact ⟨rfl, rfl⟩
theorem event_9 (w : World) : Calls Try.prog 24 #[.int .i64 9] w fun e w' => e = .returned (.string ⟨(nameOf evL 9).toArray⟩) ∧ w = w' := by
  go_enter Try.func24, Try.ntmps24
  go_wp2
  go_ret
  exact ⟨rfl, rfl⟩
theorem event_10 (w : World) : Calls Try.prog 24 #[.int .i64 10] w fun e w' => e = .returned (.string ⟨(nameOf evL 10).toArray⟩) ∧ w = w' := by
  go_enter Try.func24, Try.ntmps24
  go_wp2
  go_ret
  exact ⟨rfl, rfl⟩
theorem event_11 (w : World) : Calls Try.prog 24 #[.int .i64 11] w fun e w' => e = .returned (.string ⟨(nameOf evL 11).toArray⟩) ∧ w = w' := by
  go_enter Try.func24, Try.ntmps24
  go_wp2
  go_ret
  exact ⟨rfl, rfl⟩
theorem event_12 (w : World) : Calls Try.prog 24 #[.int .i64 12] w fun e w' => e = .returned (.string ⟨(nameOf evL 12).toArray⟩) ∧ w = w' := by
  go_enter Try.func24, Try.ntmps24
  go_wp2
  go_ret
  exact ⟨rfl, rfl⟩
theorem event_13 (w : World) : Calls Try.prog 24 #[.int .i64 13] w fun e w' => e = .returned (.string ⟨(nameOf evL 13).toArray⟩) ∧ w = w' := by
  go_enter Try.func24, Try.ntmps24
  go_wp2
  go_ret
  exact ⟨rfl, rfl⟩
theorem event_14 (w : World) : Calls Try.prog 24 #[.int .i64 14] w fun e w' => e = .returned (.string ⟨(nameOf evL 14).toArray⟩) ∧ w = w' := by
  go_enter Try.func24, Try.ntmps24
  go_wp2
  go_ret
  exact ⟨rfl, rfl⟩
theorem event_15 (w : World) : Calls Try.prog 24 #[.int .i64 15] w fun e w' => e = .returned (.string ⟨(nameOf evL 15).toArray⟩) ∧ w = w' := by
  go_enter Try.func24, Try.ntmps24
  go_wp2
  go_ret
  exact ⟨rfl, rfl⟩
theorem event_16 (w : World) : Calls Try.prog 24 #[.int .i64 16] w fun e w' => e = .returned (.string ⟨(nameOf evL 16).toArray⟩) ∧ w = w' := by
  go_enter Try.func24, Try.ntmps24
  go_wp2
  go_ret
  exact ⟨rfl, rfl⟩
theorem event_any (s : Int) (w : World) : Calls Try.prog 24 #[.int .i64 s] w fun e w' => e = .returned (.string ⟨(nameOf evL s).toArray⟩) ∧ w = w' := by
  by_cases h : 1 ≤ s ∧ s ≤ 16
  · have hs : s = 1 ∨ s = 2 ∨ s = 3 ∨ s = 4 ∨ s = 5 ∨ s = 6 ∨ s = 7 ∨ s = 8 ∨ s = 9 ∨ s = 10 ∨ s = 11 ∨ s = 12 ∨ s = 13 ∨ s = 14 ∨ s = 15 ∨ s = 16 := by omega
    rcases hs with rfl | rfl | rfl | rfl | rfl | rfl | rfl | rfl | rfl | rfl | rfl | rfl | rfl | rfl | rfl | rfl
    · exact event_1 w
    · exact event_2 w
    · exact event_3 w
    · exact event_4 w
    · exact event_5 w
    · exact event_6 w
    · exact event_7 w
    · exact event_8 w
    · exact event_9 w
    · exact event_10 w
    · exact event_11 w
    · exact event_12 w
    · exact event_13 w
    · exact event_14 w
    · exact event_15 w
    · exact event_16 w
  · have HN := Lib.hid (show nameOf evL s = [] by
      by_cases h0 : s = 0
      · subst h0; first | rfl | (exfalso; omega)
      · exact nameOf_out (by simp only [evL, List.length_cons, List.length_nil]; omega))
    have k1 : (s == 1) = false := by simp; omega
    have k2 : (s == 2) = false := by simp; omega
    have k3 : (s == 3) = false := by simp; omega
    have k4 : (s == 4) = false := by simp; omega
    have k5 : (s == 5) = false := by simp; omega
    have k6 : (s == 6) = false := by simp; omega
    have k7 : (s == 7) = false := by simp; omega
    have k8 : (s == 8) = false := by simp; omega
    have k9 : (s == 9) = false := by simp; omega
    have k10 : (s == 10) = false := by simp; omega
    have k11 : (s == 11) = false := by simp; omega
    have k12 : (s == 12) = false := by simp; omega
    have k13 : (s == 13) = false := by simp; omega
    have k14 : (s == 14) = false := by simp; omega
    have k15 : (s == 15) = false := by simp; omega
    have k16 : (s == 16) = false := by simp; omega
    clear h
    go_enter Try.func24, Try.ntmps24
    go_wp2
    go_ret
    exact ⟨by rw [HN.out]; rfl, rfl⟩
theorem action_1 (w : World) : Calls Try.prog 26 #[.int .i64 1] w fun e w' => e = .returned (.string ⟨(nameOf actL 1).toArray⟩) ∧ w = w' := by
  go_enter Try.func26, Try.ntmps26
  go_wp2
  go_ret
  exact ⟨rfl, rfl⟩
theorem action_2 (w : World) : Calls Try.prog 26 #[.int .i64 2] w fun e w' => e = .returned (.string ⟨(nameOf actL 2).toArray⟩) ∧ w = w' := by
  go_enter Try.func26, Try.ntmps26
  go_wp2
  go_ret
  exact ⟨rfl, rfl⟩
theorem action_3 (w : World) : Calls Try.prog 26 #[.int .i64 3] w fun e w' => e = .returned (.string ⟨(nameOf actL 3).toArray⟩) ∧ w = w' := by
  go_enter Try.func26, Try.ntmps26
  go_wp2
  go_ret
  exact ⟨rfl, rfl⟩
theorem action_4 (w : World) : Calls Try.prog 26 #[.int .i64 4] w fun e w' => e = .returned (.string ⟨(nameOf actL 4).toArray⟩) ∧ w = w' := by
  go_enter Try.func26, Try.ntmps26
  go_wp2
  go_ret
  exact ⟨rfl, rfl⟩
theorem action_5 (w : World) : Calls Try.prog 26 #[.int .i64 5] w fun e w' => e = .returned (.string ⟨(nameOf actL 5).toArray⟩) ∧ w = w' := by
  go_enter Try.func26, Try.ntmps26
  go_wp2
  go_ret
  exact ⟨rfl, rfl⟩
theorem action_6 (w : World) : Calls Try.prog 26 #[.int .i64 6] w fun e w' => e = .returned (.string ⟨(nameOf actL 6).toArray⟩) ∧ w = w' := by
  go_enter Try.func26, Try.ntmps26
  go_wp2
  go_ret
  exact ⟨rfl, rfl⟩
theorem action_7 (w : World) : Calls Try.prog 26 #[.int .i64 7] w fun e w' => e = .returned (.string ⟨(nameOf actL 7).toArray⟩) ∧ w = w' := by
  go_enter Try.func26, Try.ntmps26
  go_wp2
  go_ret
  exact ⟨rfl, rfl⟩
theorem action_8 (w : World) : Calls Try.prog 26 #[.int .i64 8] w fun e w' => e = .returned (.string ⟨(nameOf actL 8).toArray⟩) ∧ w = w' := by
  go_enter Try.func26, Try.ntmps26
  go_wp2
  go_ret
  exact ⟨rfl, rfl⟩
theorem action_9 (w : World) : Calls Try.prog 26 #[.int .i64 9] w fun e w' => e = .returned (.string ⟨(nameOf actL 9).toArray⟩) ∧ w = w' := by
  go_enter Try.func26, Try.ntmps26
  go_wp2
  go_ret
  exact ⟨rfl, rfl⟩
theorem action_10 (w : World) : Calls Try.prog 26 #[.int .i64 10] w fun e w' => e = .returned (.string ⟨(nameOf actL 10).toArray⟩) ∧ w = w' := by
  go_enter Try.func26, Try.ntmps26
  go_wp2
  go_ret
  exact ⟨rfl, rfl⟩
theorem action_11 (w : World) : Calls Try.prog 26 #[.int .i64 11] w fun e w' => e = .returned (.string ⟨(nameOf actL 11).toArray⟩) ∧ w = w' := by
  go_enter Try.func26, Try.ntmps26
  go_wp2
  go_ret
  exact ⟨rfl, rfl⟩
theorem action_12 (w : World) : Calls Try.prog 26 #[.int .i64 12] w fun e w' => e = .returned (.string ⟨(nameOf actL 12).toArray⟩) ∧ w = w' := by
  go_enter Try.func26, Try.ntmps26
  go_wp2
  go_ret
  exact ⟨rfl, rfl⟩
theorem action_13 (w : World) : Calls Try.prog 26 #[.int .i64 13] w fun e w' => e = .returned (.string ⟨(nameOf actL 13).toArray⟩) ∧ w = w' := by
  go_enter Try.func26, Try.ntmps26
  go_wp2
  go_ret
  exact ⟨rfl, rfl⟩
theorem action_any (s : Int) (w : World) : Calls Try.prog 26 #[.int .i64 s] w fun e w' => e = .returned (.string ⟨(nameOf actL s).toArray⟩) ∧ w = w' := by
  by_cases h : 1 ≤ s ∧ s ≤ 13
  · have hs : s = 1 ∨ s = 2 ∨ s = 3 ∨ s = 4 ∨ s = 5 ∨ s = 6 ∨ s = 7 ∨ s = 8 ∨ s = 9 ∨ s = 10 ∨ s = 11 ∨ s = 12 ∨ s = 13 := by omega
    rcases hs with rfl | rfl | rfl | rfl | rfl | rfl | rfl | rfl | rfl | rfl | rfl | rfl | rfl
    · exact action_1 w
    · exact action_2 w
    · exact action_3 w
    · exact action_4 w
    · exact action_5 w
    · exact action_6 w
    · exact action_7 w
    · exact action_8 w
    · exact action_9 w
    · exact action_10 w
    · exact action_11 w
    · exact action_12 w
    · exact action_13 w
  · have HN := Lib.hid (show nameOf actL s = [] by
      by_cases h0 : s = 0
      · subst h0; first | rfl | (exfalso; omega)
      · exact nameOf_out (by simp only [actL, List.length_cons, List.length_nil]; omega))
    have k1 : (s == 1) = false := by simp; omega
    have k2 : (s == 2) = false := by simp; omega
    have k3 : (s == 3) = false := by simp; omega
    have k4 : (s == 4) = false := by simp; omega
    have k5 : (s == 5) = false := by simp; omega
    have k6 : (s == 6) = false := by simp; omega
    have k7 : (s == 7) = false := by simp; omega
    have k8 : (s == 8) = false := by simp; omega
    have k9 : (s == 9) = false := by simp; omega
    have k10 : (s == 10) = false := by simp; omega
    have k11 : (s == 11) = false := by simp; omega
    have k12 : (s == 12) = false := by simp; omega
    have k13 : (s == 13) = false := by simp; omega
    clear h
    go_enter Try.func26, Try.ntmps26
    go_wp2
    go_ret
    exact ⟨by rw [HN.out]; rfl, rfl⟩
theorem states_row (w : World) : Calls Try.prog 34 #[] w (Strs w stL) := by
  go_enter Try.func34, Try.ntmps34
  go_wp2
  go_ret
  exact ⟨_, rfl, by (repeat (first | exact Below.refl _ _ | exact Nat.le_refl _ | (refine below_ext ?_ (by first | (simp [size_ext, grow]; done) | (simp [size_ext, grow]; omega) | omega) _ _) | (refine Below.setCell ?_ (by first | (simp [size_ext, grow]; done) | (simp [size_ext, grow]; omega) | omega) _) | (refine Below.alloc ?_ (by first | (simp [size_ext, grow]; done) | (simp [size_ext, grow]; omega) | omega) _) | refine Below.drew ?_ | refine below_drewN ?_ _ | (refine Below.trans ?_ (Below.mono (by assumption) (by first | (simp [size_ext, grow]; done) | (simp [size_ext, grow]; omega) | omega))))), At.of_own (own_lit (base := 0) (size := 1) (e := 9) (n := 10) (by (repeat (first | ((refine heap_alloc_at _ _ _ ?_); (simp [go_sem]; done)) | ((refine (heap_ext _ _ _ _ ?_).trans ?_); (focus (simp [go_sem]; done))) | ((refine (heap_alloc_past _ _ _ ?_).trans ?_); (focus (simp [go_sem]; done)))))) (Nat.zero_le _) (by decide) rfl rfl)⟩
theorem events_row (w : World) : Calls Try.prog 35 #[] w (Strs w evL) := by
  go_enter Try.func35, Try.ntmps35
  go_wp2
  go_ret
  exact ⟨_, rfl, by (repeat (first | exact Below.refl _ _ | exact Nat.le_refl _ | (refine below_ext ?_ (by first | (simp [size_ext, grow]; done) | (simp [size_ext, grow]; omega) | omega) _ _) | (refine Below.setCell ?_ (by first | (simp [size_ext, grow]; done) | (simp [size_ext, grow]; omega) | omega) _) | (refine Below.alloc ?_ (by first | (simp [size_ext, grow]; done) | (simp [size_ext, grow]; omega) | omega) _) | refine Below.drew ?_ | refine below_drewN ?_ _ | (refine Below.trans ?_ (Below.mono (by assumption) (by first | (simp [size_ext, grow]; done) | (simp [size_ext, grow]; omega) | omega))))), At.of_own (own_lit (base := 0) (size := 1) (e := 9) (n := 17) (by (repeat (first | ((refine heap_alloc_at _ _ _ ?_); (simp [go_sem]; done)) | ((refine (heap_ext _ _ _ _ ?_).trans ?_); (focus (simp [go_sem]; done))) | ((refine (heap_alloc_past _ _ _ ?_).trans ?_); (focus (simp [go_sem]; done)))))) (Nat.zero_le _) (by decide) rfl rfl)⟩
theorem actions_row (w : World) : Calls Try.prog 36 #[] w (Strs w actL) := actions_ref w
theorem name_ref (s : Int) (w : World) : Calls Try.prog 23 #[.int .i64 s] w fun e w' => e = .returned (.string ⟨(nameOf stL s).toArray⟩) ∧ Below w.heap.size w w' := by
  by_cases h0 : s < 0
  · have HN := Lib.hid (show nameOf stL s = [] from nameOf_out (.inl h0))
    go_enter Try.func23, Try.ntmps23
    go_wp2
    go_ret
    exact ⟨by rw [HN.out]; rfl, by (repeat (first | exact Below.refl _ _ | exact Nat.le_refl _ | (refine below_ext ?_ (by first | (simp [size_ext, grow]; done) | (simp [size_ext, grow]; omega) | omega) _ _) | (refine Below.setCell ?_ (by first | (simp [size_ext, grow]; done) | (simp [size_ext, grow]; omega) | omega) _) | (refine Below.alloc ?_ (by first | (simp [size_ext, grow]; done) | (simp [size_ext, grow]; omega) | omega) _) | refine Below.drew ?_ | refine below_drewN ?_ _ | (refine Below.trans ?_ (Below.mono (by assumption) (by first | (simp [size_ext, grow]; done) | (simp [size_ext, grow]; omega) | omega)))))⟩
  · by_cases h1 : 9 < s
    · have HN := Lib.hid (show nameOf stL s = [] from nameOf_out (.inr (by simp only [stL, List.length_cons, List.length_nil]; omega)))
      go_enter Try.func23, Try.ntmps23
      go_wp2
      go_ret
      exact ⟨by rw [HN.out]; rfl, by (repeat (first | exact Below.refl _ _ | exact Nat.le_refl _ | (refine below_ext ?_ (by first | (simp [size_ext, grow]; done) | (simp [size_ext, grow]; omega) | omega) _ _) | (refine Below.setCell ?_ (by first | (simp [size_ext, grow]; done) | (simp [size_ext, grow]; omega) | omega) _) | (refine Below.alloc ?_ (by first | (simp [size_ext, grow]; done) | (simp [size_ext, grow]; omega) | omega) _) | refine Below.drew ?_ | refine below_drewN ?_ _ | (refine Below.trans ?_ (Below.mono (by assumption) (by first | (simp [size_ext, grow]; done) | (simp [size_ext, grow]; omega) | omega)))))⟩
    · obtain ⟨n, rfl⟩ := Int.eq_ofNat_of_zero_le (show 0 ≤ s by omega)
      have hn : n ≤ 9 := by omega
      clear h0 h1
      go_enter Try.func23, Try.ntmps23
      go_wp2_with (go_at_call 34; refine (states_row _).mono ?_; rintro e w1 ⟨A, rfl, hb, hA⟩; obtain ⟨xs, d, rfl⟩ := ext_of hb; clear hb; obtain ⟨b, o, x, rfl, hx, hc⟩ := hA.strAt (k := n) (by simp only [stL, List.length_cons, List.length_nil]; omega); clear hA; have HX := Lib.hid hx; clear hx; have hlen : (stL).length = 10 := rfl)
      go_ret
      exact ⟨ret_str (by rw [nameOf_nat, HX.out]), by (repeat (first | exact Below.refl _ _ | exact Nat.le_refl _ | (refine below_ext ?_ (by first | (simp [size_ext, grow]; done) | (simp [size_ext, grow]; omega) | omega) _ _) | (refine Below.setCell ?_ (by first | (simp [size_ext, grow]; done) | (simp [size_ext, grow]; omega) | omega) _) | (refine Below.alloc ?_ (by first | (simp [size_ext, grow]; done) | (simp [size_ext, grow]; omega) | omega) _) | refine Below.drew ?_ | refine below_drewN ?_ _ | (refine Below.trans ?_ (Below.mono (by assumption) (by first | (simp [size_ext, grow]; done) | (simp [size_ext, grow]; omega) | omega)))))⟩
theorem event_ref (s : Int) (w : World) : Calls Try.prog 25 #[.int .i64 s] w fun e w' => e = .returned (.string ⟨(nameOf evL s).toArray⟩) ∧ Below w.heap.size w w' := by
  by_cases h0 : s < 0
  · have HN := Lib.hid (show nameOf evL s = [] from nameOf_out (.inl h0))
    go_enter Try.func25, Try.ntmps25
    go_wp2
    go_ret
    exact ⟨by rw [HN.out]; rfl, by (repeat (first | exact Below.refl _ _ | exact Nat.le_refl _ | (refine below_ext ?_ (by first | (simp [size_ext, grow]; done) | (simp [size_ext, grow]; omega) | omega) _ _) | (refine Below.setCell ?_ (by first | (simp [size_ext, grow]; done) | (simp [size_ext, grow]; omega) | omega) _) | (refine Below.alloc ?_ (by first | (simp [size_ext, grow]; done) | (simp [size_ext, grow]; omega) | omega) _) | refine Below.drew ?_ | refine below_drewN ?_ _ | (refine Below.trans ?_ (Below.mono (by assumption) (by first | (simp [size_ext, grow]; done) | (simp [size_ext, grow]; omega) | omega)))))⟩
  · by_cases h1 : 16 < s
    · have HN := Lib.hid (show nameOf evL s = [] from nameOf_out (.inr (by simp only [evL, List.length_cons, List.length_nil]; omega)))
      go_enter Try.func25, Try.ntmps25
      go_wp2
      go_ret
      exact ⟨by rw [HN.out]; rfl, by (repeat (first | exact Below.refl _ _ | exact Nat.le_refl _ | (refine below_ext ?_ (by first | (simp [size_ext, grow]; done) | (simp [size_ext, grow]; omega) | omega) _ _) | (refine Below.setCell ?_ (by first | (simp [size_ext, grow]; done) | (simp [size_ext, grow]; omega) | omega) _) | (refine Below.alloc ?_ (by first | (simp [size_ext, grow]; done) | (simp [size_ext, grow]; omega) | omega) _) | refine Below.drew ?_ | refine below_drewN ?_ _ | (refine Below.trans ?_ (Below.mono (by assumption) (by first | (simp [size_ext, grow]; done) | (simp [size_ext, grow]; omega) | omega)))))⟩
    · obtain ⟨n, rfl⟩ := Int.eq_ofNat_of_zero_le (show 0 ≤ s by omega)
      have hn : n ≤ 16 := by omega
      clear h0 h1
      go_enter Try.func25, Try.ntmps25
      go_wp2_with (go_at_call 35; refine (events_row _).mono ?_; rintro e w1 ⟨A, rfl, hb, hA⟩; obtain ⟨xs, d, rfl⟩ := ext_of hb; clear hb; obtain ⟨b, o, x, rfl, hx, hc⟩ := hA.strAt (k := n) (by simp only [evL, List.length_cons, List.length_nil]; omega); clear hA; have HX := Lib.hid hx; clear hx; have hlen : (evL).length = 17 := rfl)
      go_ret
      exact ⟨ret_str (by rw [nameOf_nat, HX.out]), by (repeat (first | exact Below.refl _ _ | exact Nat.le_refl _ | (refine below_ext ?_ (by first | (simp [size_ext, grow]; done) | (simp [size_ext, grow]; omega) | omega) _ _) | (refine Below.setCell ?_ (by first | (simp [size_ext, grow]; done) | (simp [size_ext, grow]; omega) | omega) _) | (refine Below.alloc ?_ (by first | (simp [size_ext, grow]; done) | (simp [size_ext, grow]; omega) | omega) _) | refine Below.drew ?_ | refine below_drewN ?_ _ | (refine Below.trans ?_ (Below.mono (by assumption) (by first | (simp [size_ext, grow]; done) | (simp [size_ext, grow]; omega) | omega)))))⟩
theorem actname_ref (s : Int) (w : World) : Calls Try.prog 27 #[.int .i64 s] w fun e w' => e = .returned (.string ⟨(nameOf actL s).toArray⟩) ∧ Below w.heap.size w w' := by
  by_cases h0 : s < 0
  · have HN := Lib.hid (show nameOf actL s = [] from nameOf_out (.inl h0))
    go_enter Try.func27, Try.ntmps27
    go_wp2
    go_ret
    exact ⟨by rw [HN.out]; rfl, by (repeat (first | exact Below.refl _ _ | exact Nat.le_refl _ | (refine below_ext ?_ (by first | (simp [size_ext, grow]; done) | (simp [size_ext, grow]; omega) | omega) _ _) | (refine Below.setCell ?_ (by first | (simp [size_ext, grow]; done) | (simp [size_ext, grow]; omega) | omega) _) | (refine Below.alloc ?_ (by first | (simp [size_ext, grow]; done) | (simp [size_ext, grow]; omega) | omega) _) | refine Below.drew ?_ | refine below_drewN ?_ _ | (refine Below.trans ?_ (Below.mono (by assumption) (by first | (simp [size_ext, grow]; done) | (simp [size_ext, grow]; omega) | omega)))))⟩
  · by_cases h1 : 13 < s
    · have HN := Lib.hid (show nameOf actL s = [] from nameOf_out (.inr (by simp only [actL, List.length_cons, List.length_nil]; omega)))
      go_enter Try.func27, Try.ntmps27
      go_wp2
      go_ret
      exact ⟨by rw [HN.out]; rfl, by (repeat (first | exact Below.refl _ _ | exact Nat.le_refl _ | (refine below_ext ?_ (by first | (simp [size_ext, grow]; done) | (simp [size_ext, grow]; omega) | omega) _ _) | (refine Below.setCell ?_ (by first | (simp [size_ext, grow]; done) | (simp [size_ext, grow]; omega) | omega) _) | (refine Below.alloc ?_ (by first | (simp [size_ext, grow]; done) | (simp [size_ext, grow]; omega) | omega) _) | refine Below.drew ?_ | refine below_drewN ?_ _ | (refine Below.trans ?_ (Below.mono (by assumption) (by first | (simp [size_ext, grow]; done) | (simp [size_ext, grow]; omega) | omega)))))⟩
    · obtain ⟨n, rfl⟩ := Int.eq_ofNat_of_zero_le (show 0 ≤ s by omega)
      have hn : n ≤ 13 := by omega
      clear h0 h1
      go_enter Try.func27, Try.ntmps27
      go_wp2_with (go_at_call 36; refine (actions_row _).mono ?_; rintro e w1 ⟨A, rfl, hb, hA⟩; obtain ⟨xs, d, rfl⟩ := ext_of hb; clear hb; obtain ⟨b, o, x, rfl, hx, hc⟩ := hA.strAt (k := n) (by simp only [actL, List.length_cons, List.length_nil]; omega); clear hA; have HX := Lib.hid hx; clear hx; have hlen : (actL).length = 14 := rfl)
      go_ret
      exact ⟨ret_str (by rw [nameOf_nat, HX.out]), by (repeat (first | exact Below.refl _ _ | exact Nat.le_refl _ | (refine below_ext ?_ (by first | (simp [size_ext, grow]; done) | (simp [size_ext, grow]; omega) | omega) _ _) | (refine Below.setCell ?_ (by first | (simp [size_ext, grow]; done) | (simp [size_ext, grow]; omega) | omega) _) | (refine Below.alloc ?_ (by first | (simp [size_ext, grow]; done) | (simp [size_ext, grow]; omega) | omega) _) | refine Below.drew ?_ | refine below_drewN ?_ _ | (refine Below.trans ?_ (Below.mono (by assumption) (by first | (simp [size_ext, grow]; done) | (simp [size_ext, grow]; omega) | omega)))))⟩
end Go.Proofs.Ytffkkeedmgaoiaa
