/- Which ranges may be: walks. -/
import Derived.Test.YtoilghhclpgfaaaDoorP1
namespace Go.Proofs.YtoilghhclpgfaaaDoor
open Go.RowKit
set_option linter.unusedSimpArgs false
set_option linter.unusedVariables false
def headOk (b s : Int) : Bool := decide (1 ≤ b) && (decide (b ≤ 4294967294) && (decide (0 ≤ s) && (decide (s ≤ 65536) && decide (b + s ≤ 4294967295))))
def badAt (s : Int) (R : List Int) (i : Nat) : Bool := decide (R.getD i 0 < 0) || (decide (s ≤ R.getD i 0) || (decide (0 < i) && decide (R.getD i 0 ≤ R.getD (i - 1) 0)))
def rowOk (s : Int) (R : List Int) : Bool := (List.range R.length).all fun i => !badAt s R i
theorem rowOk_yes {s : Int} {R : List Int} (h : ∀ i, i < R.length → badAt s R i = false) : rowOk s R = true := by
  unfold rowOk
  rw [List.all_eq_true]
  intro i hi
  rw [h i (List.mem_range.1 hi)]; rfl
theorem rowOk_no {s : Int} {R : List Int} {i : Nat} (hi : i < R.length) (h : badAt s R i = true) : rowOk s R = false := by
  unfold rowOk
  rw [List.all_eq_false]
  exact ⟨i, List.mem_range.2 hi, by rw [h]; simp⟩
theorem rowOk_at {s : Int} {R : List Int} (h : rowOk s R = true) {i : Nat} (hi : i < R.length) : badAt s R i = false := by
  unfold rowOk at h
  rw [List.all_eq_true] at h
  have := h i (List.mem_range.2 hi)
  simpa using this
def rangeOk (b s : Int) (R : List Int) : Bool := headOk b s && rowOk s R
def rangeErr (b s : Int) (R : List Int) : Int := if rangeOk b s R = true then 0 else 120
theorem err_head {b s : Int} {R : List Int} (h : headOk b s = false) : rangeErr b s R = 120 := by unfold rangeErr rangeOk; rw [h]; rfl
theorem err_row {b s : Int} {R : List Int} (h : rowOk s R = false) : rangeErr b s R = 120 := by unfold rangeErr rangeOk; rw [h, Bool.and_false]; rfl
theorem err_none {b s : Int} {R : List Int} (h : headOk b s = true) (h2 : rowOk s R = true) : rangeErr b s R = 0 := by unfold rangeErr rangeOk; rw [h, h2]; rfl
theorem upto_succ {P : Nat → Prop} {k : Nat} (h : ∀ i, i < k → P i) (hk : P k) : ∀ i, i < k + 1 → P i := fun i hi => by
  rcases Nat.lt_succ_iff_lt_or_eq.1 hi with h1 | h1
  · exact h i h1
  · rw [h1]; exact hk
theorem row_ge {s : Int} {R : List Int} (h : rowOk s R = true) : ∀ i, i < R.length → (i : Int) ≤ R.getD i 0 ∧ R.getD i 0 < s
  | 0, hi => by
    have := rowOk_at h hi
    unfold badAt at this
    simp at this
    simp
    omega
  | i + 1, hi => by
    have h1 := rowOk_at h hi
    have h2 := (row_ge h i (by omega)).1
    unfold badAt at h1
    simp at h1 h2 ⊢
    omega
theorem row_lt {s : Int} {R : List Int} (h : rowOk s R = true) {i : Nat} : ∀ {j : Nat}, i < j → j < R.length → R.getD i 0 < R.getD j 0
  | 0, hij, _ => by omega
  | j + 1, hij, hj => by
    have h1 := rowOk_at h hj
    unfold badAt at h1
    simp at h1
    by_cases e : i = j
    · subst e; simp; omega
    · have := row_lt h (i := i) (j := j) (by omega) (by omega)
      simp at this ⊢
      omega
theorem row_len {s : Int} {R : List Int} (h : rowOk s R = true) (hs : 0 ≤ s) : (R.length : Int) ≤ s := by
  rcases Nat.eq_zero_or_pos R.length with h0 | h0
  · omega
  · have := row_ge h (R.length - 1) (by omega)
    omega
theorem ok_head {b s : Int} {R : List Int} (h : headOk b s = false) : rangeOk b s R = false := by unfold rangeOk; rw [h]; rfl
theorem ok_row {b s : Int} {R : List Int} (h : rowOk s R = false) : rangeOk b s R = false := by unfold rangeOk; rw [h, Bool.and_false]
theorem ok_yes {b s : Int} {R : List Int} (h : headOk b s = true) (h2 : rowOk s R = true) : rangeOk b s R = true := by unfold rangeOk; rw [h, h2]; rfl
def ints (R : List Int) : List Value := R.map (Value.int .i64)
theorem At.int {w : World} {B : Nat} {A : Option Addr} {R : List Int} (h : At w B A (ints R)) {k : Nat} (hk : k < R.length) :
    ∃ b o, A = some ⟨b, o, none⟩ ∧ b < B ∧ ∀ j, j < R.length → w.cell? ⟨b, o + j, none⟩ = some (.int .i64 (R.getD j 0)) := by
  obtain ⟨b, o, hA, hB, hc⟩ := h.get (by simp [ints]; omega)
  refine ⟨b, o, hA, hB, fun j hj => hc j _ ?_⟩
  simp [ints, List.getElem?_map, List.getElem?_eq_getElem hj, List.getD_eq_getElem?_getD]
def rangeV (b s : Int) (A : Option Addr) (n c : Nat) : Value := .agg #[.int .i64 b, .int .i64 s, .slice A n c]
set_option maxHeartbeats 1000000 in
theorem check_any (b s : Int) (A : Option Addr) (n c : Nat) (R : List Int) (W : World) (hA : At W W.heap.size A (ints R)) (hn : n = R.length) (hn2 : (n : Int) ≤ 9223372036854775807) :
    Calls Tryd.prog 9 #[rangeV b s A n c] W fun e w' => e = .returned (.int .i64 (rangeErr b s R)) ∧ Below W.heap.size W w' := by
  unfold rangeV
  by_cases h1 : b < 1
  · have HH := Lib.hid (show headOk b s = false by unfold headOk; simp; omega)
    have d1 : decide (b < 1) = true := by simpa using h1
    clear h1
    go_enter Tryd.func9, Tryd.ntmps9
    go_wp2_with fail
    go_ret
    exact ⟨ret_int (err_head HH.out).symm, by (repeat (first | exact Below.refl _ _ | exact Nat.le_refl _ | (refine below_ext ?_ (by first | (simp [size_ext, grow]; done) | (simp [size_ext, grow]; omega) | omega) _ _) | (refine Below.setCell ?_ (by first | (simp [size_ext, grow]; done) | (simp [size_ext, grow]; omega) | omega) _) | (refine Below.alloc ?_ (by first | (simp [size_ext, grow]; done) | (simp [size_ext, grow]; omega) | omega) _) | refine Below.drew ?_ | refine below_drewN ?_ _ | (refine Below.trans ?_ (Below.mono (by assumption) (by first | (simp [size_ext, grow]; done) | (simp [size_ext, grow]; omega) | omega)))))⟩
  by_cases h2 : 4294967294 < b
  · have HH := Lib.hid (show headOk b s = false by unfold headOk; simp; omega)
    have d1 : decide (b < 1) = false := by simp; omega
    have d2 : decide (4294967294 < b) = true := by simpa using h2
    clear h1 h2
    go_enter Tryd.func9, Tryd.ntmps9
    go_wp2_with fail
    go_ret
    exact ⟨ret_int (err_head HH.out).symm, by (repeat (first | exact Below.refl _ _ | exact Nat.le_refl _ | (refine below_ext ?_ (by first | (simp [size_ext, grow]; done) | (simp [size_ext, grow]; omega) | omega) _ _) | (refine Below.setCell ?_ (by first | (simp [size_ext, grow]; done) | (simp [size_ext, grow]; omega) | omega) _) | (refine Below.alloc ?_ (by first | (simp [size_ext, grow]; done) | (simp [size_ext, grow]; omega) | omega) _) | refine Below.drew ?_ | refine below_drewN ?_ _ | (refine Below.trans ?_ (Below.mono (by assumption) (by first | (simp [size_ext, grow]; done) | (simp [size_ext, grow]; omega) | omega)))))⟩
  by_cases h3 : s < 0
  · have HH := Lib.hid (show headOk b s = false by unfold headOk; simp; omega)
    have d1 : decide (b < 1) = false := by simp; omega
    have d2 : decide (4294967294 < b) = false := by simp; omega
    have d3 : decide (s < 0) = true := by simpa using h3
    clear h1 h2 h3
    go_enter Tryd.func9, Tryd.ntmps9
    go_wp2_with fail
    go_ret
    exact ⟨ret_int (err_head HH.out).symm, by (repeat (first | exact Below.refl _ _ | exact Nat.le_refl _ | (refine below_ext ?_ (by first | (simp [size_ext, grow]; done) | (simp [size_ext, grow]; omega) | omega) _ _) | (refine Below.setCell ?_ (by first | (simp [size_ext, grow]; done) | (simp [size_ext, grow]; omega) | omega) _) | (refine Below.alloc ?_ (by first | (simp [size_ext, grow]; done) | (simp [size_ext, grow]; omega) | omega) _) | refine Below.drew ?_ | refine below_drewN ?_ _ | (refine Below.trans ?_ (Below.mono (by assumption) (by first | (simp [size_ext, grow]; done) | (simp [size_ext, grow]; omega) | omega)))))⟩
  by_cases h4 : 65536 < s
  · have HH := Lib.hid (show headOk b s = false by unfold headOk; simp; omega)
    have d1 : decide (b < 1) = false := by simp; omega
    have d2 : decide (4294967294 < b) = false := by simp; omega
    have d3 : decide (s < 0) = false := by simp; omega
    have d4 : decide (65536 < s) = true := by simpa using h4
    clear h1 h2 h3 h4
    go_enter Tryd.func9, Tryd.ntmps9
    go_wp2_with fail
    go_ret
    exact ⟨ret_int (err_head HH.out).symm, by (repeat (first | exact Below.refl _ _ | exact Nat.le_refl _ | (refine below_ext ?_ (by first | (simp [size_ext, grow]; done) | (simp [size_ext, grow]; omega) | omega) _ _) | (refine Below.setCell ?_ (by first | (simp [size_ext, grow]; done) | (simp [size_ext, grow]; omega) | omega) _) | (refine Below.alloc ?_ (by first | (simp [size_ext, grow]; done) | (simp [size_ext, grow]; omega) | omega) _) | refine Below.drew ?_ | refine below_drewN ?_ _ | (refine Below.trans ?_ (Below.mono (by assumption) (by first | (simp [size_ext, grow]; done) | (simp [size_ext, grow]; omega) | omega)))))⟩
  have b1 : 1 ≤ b := by omega
  have b2 : b ≤ 4294967294 := by omega
  have b3 : 0 ≤ s := by omega
  have b4 : s ≤ 65536 := by omega
  have d1 : decide (b < 1) = false := by simp; omega
  have d2 : decide (4294967294 < b) = false := by simp; omega
  have d3 : decide (s < 0) = false := by simp; omega
  have d4 : decide (65536 < s) = false := by simp; omega
  clear h1 h2 h3 h4
  by_cases h5 : 4294967294 < b + s - 1
  · have HH := Lib.hid (show headOk b s = false by unfold headOk; simp; omega)
    have d5 : decide (4294967294 < b + s - 1) = true := by simpa using h5
    clear h5
    go_enter Tryd.func9, Tryd.ntmps9
    go_wp2_with fail
    go_ret
    exact ⟨ret_int (err_head HH.out).symm, by (repeat (first | exact Below.refl _ _ | exact Nat.le_refl _ | (refine below_ext ?_ (by first | (simp [size_ext, grow]; done) | (simp [size_ext, grow]; omega) | omega) _ _) | (refine Below.setCell ?_ (by first | (simp [size_ext, grow]; done) | (simp [size_ext, grow]; omega) | omega) _) | (refine Below.alloc ?_ (by first | (simp [size_ext, grow]; done) | (simp [size_ext, grow]; omega) | omega) _) | refine Below.drew ?_ | refine below_drewN ?_ _ | (refine Below.trans ?_ (Below.mono (by assumption) (by first | (simp [size_ext, grow]; done) | (simp [size_ext, grow]; omega) | omega)))))⟩
  have HH := Lib.hid (show headOk b s = true by unfold headOk; simp; omega)
  have d5 : decide (4294967294 < b + s - 1) = false := by simpa using h5
  clear h5
  have HA0 := Lib.hid hA
  have HN := Lib.hid hn
  clear hA hn
  go_enter Tryd.func9, Tryd.ntmps9
  go_wp2_with fail
  obtain ⟨w, hw⟩ : ∃ w, w = W.alloc (.cells #[.int .i64 b, .int .i64 s, .slice A n c] 24) := ⟨_, rfl⟩
  rw [← hw]
  have q1 : w.cell? ⟨W.heap.size, 1, none⟩ = some (.int .i64 s) := by rw [hw]; simp [go_sem]
  have q2 : w.cell? ⟨W.heap.size, 2, none⟩ = some (.slice A n c) := by rw [hw]; simp [go_sem]
  have qz : W.heap.size < w.heap.size := by rw [hw]; simp [go_sem]
  have HBW := Lib.hid (show Below W.heap.size W w by rw [hw]; (repeat (first | exact Below.refl _ _ | exact Nat.le_refl _ | (refine below_ext ?_ (by first | (simp [size_ext, grow]; done) | (simp [size_ext, grow]; omega) | omega) _ _) | (refine Below.setCell ?_ (by first | (simp [size_ext, grow]; done) | (simp [size_ext, grow]; omega) | omega) _) | (refine Below.alloc ?_ (by first | (simp [size_ext, grow]; done) | (simp [size_ext, grow]; omega) | omega) _) | refine Below.drew ?_ | refine below_drewN ?_ _ | (refine Below.trans ?_ (Below.mono (by assumption) (by first | (simp [size_ext, grow]; done) | (simp [size_ext, grow]; omega) | omega))))))
  have HA := Lib.hid (HA0.out.keep HBW.out)
  clear hw
  go_loop [35] (fun i => ∃ k : Nat, k ≤ n ∧ i = .int .i64 k ∧ ∀ i, i < k → badAt s R i = false) (fun i => n - (intOf i).toNat)
  case atStart => exact ⟨0, Nat.zero_le _, rfl, fun i hi => absurd hi (Nat.not_lt_zero i)⟩
  case round =>
    obtain ⟨k, hk, rfl, hp⟩ := hrel
    have HPR := Lib.hid hp
    clear hp
    by_cases hlt : k < n
    · have HKL := Lib.hid (show k < R.length by have := HN.out; omega)
      obtain ⟨bb, o, rfl, hbB, hcells⟩ := At.int HA.out HKL.out
      have g0 : w.cell? ⟨bb, o + k, none⟩ = some (.int .i64 (R.getD k 0)) := hcells k HKL.out
      obtain ⟨x, hx⟩ : ∃ x, R.getD k 0 = x := ⟨_, rfl⟩
      rw [hx] at g0
      have HX := Lib.hid hx
      clear hx
      by_cases x1 : x < 0
      · have HBAD := Lib.hid (show rowOk s R = false from rowOk_no HKL.out (by unfold badAt; rw [HX.out]; simp [x1]))
        have d1 : decide (x < 0) = true := by simpa using x1
        clear x1 hcells
        go_wp2_with fail
        go_ret
        exact ⟨ret_int (err_row HBAD.out).symm, HBW.out⟩
      · by_cases x2 : s ≤ x
        · have HBAD := Lib.hid (show rowOk s R = false from rowOk_no HKL.out (by unfold badAt; rw [HX.out]; simp [x2]))
          have d1 : decide (x < 0) = false := by simpa using x1
          have d2 : decide (s ≤ x) = true := by simpa using x2
          clear x1 x2 hcells
          go_wp2_with fail
          go_ret
          exact ⟨ret_int (err_row HBAD.out).symm, HBW.out⟩
        · have d1 : decide (x < 0) = false := by simpa using x1
          have d2 : decide (s ≤ x) = false := by simpa using x2
          by_cases x3 : 0 < k
          · have g1 : w.cell? ⟨bb, o + (k - 1), none⟩ = some (.int .i64 (R.getD (k - 1) 0)) := hcells (k - 1) (by have := HKL.out; omega)
            obtain ⟨y, hy⟩ : ∃ y, R.getD (k - 1) 0 = y := ⟨_, rfl⟩
            rw [hy] at g1
            have HY := Lib.hid hy
            clear hy hcells
            obtain ⟨q, rfl⟩ : ∃ q, k = q + 1 := ⟨k - 1, by omega⟩
            rw [show q + 1 - 1 = q by omega] at g1
            by_cases x4 : x ≤ y
            · have HBAD := Lib.hid (show rowOk s R = false from rowOk_no HKL.out (by unfold badAt; rw [HX.out, HY.out]; simp [x4]))
              have d4 : decide (x ≤ y) = true := by simpa using x4
              clear x1 x2 x3 x4
              go_wp2_with fail
              go_ret
              exact ⟨ret_int (err_row HBAD.out).symm, HBW.out⟩
            · have HGD := Lib.hid (show badAt s R (q + 1) = false by unfold badAt; rw [HX.out, HY.out]; simp; omega)
              have d4 : decide (x ≤ y) = false := by simpa using x4
              clear x1 x2 x3 x4
              go_wp2_with fail
              go_round
              case rel => exact ⟨_ + 1, by omega, by go_num, upto_succ HPR.out HGD.out⟩
              case measure => simp [intOf]; omega
          · have HGD := Lib.hid (show badAt s R k = false by unfold badAt; rw [HX.out]; simp; omega)
            obtain rfl : k = 0 := by omega
            rw [Nat.add_zero] at g0
            clear x1 x2 x3 hcells
            go_wp2_with fail
            go_round
            case rel => exact ⟨_ + 1, by omega, by go_num, upto_succ HPR.out HGD.out⟩
            case measure => simp [intOf]; omega
    · obtain rfl : k = n := by omega
      have HYES := Lib.hid (show rowOk s R = true from rowOk_yes (fun i hi => HPR.out i (by have := HN.out; omega)))
      go_wp2_with fail
      go_ret
      exact ⟨ret_int (err_none HH.out HYES.out).symm, HBW.out⟩
set_option maxHeartbeats 1000000 in
theorem is_any (b s : Int) (A : Option Addr) (n c : Nat) (R : List Int) (W : World) (hA : At W W.heap.size A (ints R)) (hn : n = R.length) (hn2 : (n : Int) ≤ 9223372036854775807) :
    Calls Tryd.prog 10 #[rangeV b s A n c] W fun e w' => e = .returned (.bool (rangeOk b s R)) ∧ Below W.heap.size W w' := by
  unfold rangeV
  by_cases h1 : b < 1
  · have HH := Lib.hid (show headOk b s = false by unfold headOk; simp; omega)
    have d1 : decide (b < 1) = true := by simpa using h1
    clear h1
    go_enter Tryd.func10, Tryd.ntmps10
    go_wp2_with fail
    go_ret
    exact ⟨ret_bool (ok_head HH.out).symm, by (repeat (first | exact Below.refl _ _ | exact Nat.le_refl _ | (refine below_ext ?_ (by first | (simp [size_ext, grow]; done) | (simp [size_ext, grow]; omega) | omega) _ _) | (refine Below.setCell ?_ (by first | (simp [size_ext, grow]; done) | (simp [size_ext, grow]; omega) | omega) _) | (refine Below.alloc ?_ (by first | (simp [size_ext, grow]; done) | (simp [size_ext, grow]; omega) | omega) _) | refine Below.drew ?_ | refine below_drewN ?_ _ | (refine Below.trans ?_ (Below.mono (by assumption) (by first | (simp [size_ext, grow]; done) | (simp [size_ext, grow]; omega) | omega)))))⟩
  by_cases h2 : 4294967294 < b
  · have HH := Lib.hid (show headOk b s = false by unfold headOk; simp; omega)
    have d1 : decide (b < 1) = false := by simp; omega
    have d2 : decide (4294967294 < b) = true := by simpa using h2
    clear h1 h2
    go_enter Tryd.func10, Tryd.ntmps10
    go_wp2_with fail
    go_ret
    exact ⟨ret_bool (ok_head HH.out).symm, by (repeat (first | exact Below.refl _ _ | exact Nat.le_refl _ | (refine below_ext ?_ (by first | (simp [size_ext, grow]; done) | (simp [size_ext, grow]; omega) | omega) _ _) | (refine Below.setCell ?_ (by first | (simp [size_ext, grow]; done) | (simp [size_ext, grow]; omega) | omega) _) | (refine Below.alloc ?_ (by first | (simp [size_ext, grow]; done) | (simp [size_ext, grow]; omega) | omega) _) | refine Below.drew ?_ | refine below_drewN ?_ _ | (refine Below.trans ?_ (Below.mono (by assumption) (by first | (simp [size_ext, grow]; done) | (simp [size_ext, grow]; omega) | omega)))))⟩
  by_cases h3 : s < 0
  · have HH := Lib.hid (show headOk b s = false by unfold headOk; simp; omega)
    have d1 : decide (b < 1) = false := by simp; omega
    have d2 : decide (4294967294 < b) = false := by simp; omega
    have d3 : decide (s < 0) = true := by simpa using h3
    clear h1 h2 h3
    go_enter Tryd.func10, Tryd.ntmps10
    go_wp2_with fail
    go_ret
    exact ⟨ret_bool (ok_head HH.out).symm, by (repeat (first | exact Below.refl _ _ | exact Nat.le_refl _ | (refine below_ext ?_ (by first | (simp [size_ext, grow]; done) | (simp [size_ext, grow]; omega) | omega) _ _) | (refine Below.setCell ?_ (by first | (simp [size_ext, grow]; done) | (simp [size_ext, grow]; omega) | omega) _) | (refine Below.alloc ?_ (by first | (simp [size_ext, grow]; done) | (simp [size_ext, grow]; omega) | omega) _) | refine Below.drew ?_ | refine below_drewN ?_ _ | (refine Below.trans ?_ (Below.mono (by assumption) (by first | (simp [size_ext, grow]; done) | (simp [size_ext, grow]; omega) | omega)))))⟩
  by_cases h4 : 65536 < s
  · have HH := Lib.hid (show headOk b s = false by unfold headOk; simp; omega)
    have d1 : decide (b < 1) = false := by simp; omega
    have d2 : decide (4294967294 < b) = false := by simp; omega
    have d3 : decide (s < 0) = false := by simp; omega
    have d4 : decide (65536 < s) = true := by simpa using h4
    clear h1 h2 h3 h4
    go_enter Tryd.func10, Tryd.ntmps10
    go_wp2_with fail
    go_ret
    exact ⟨ret_bool (ok_head HH.out).symm, by (repeat (first | exact Below.refl _ _ | exact Nat.le_refl _ | (refine below_ext ?_ (by first | (simp [size_ext, grow]; done) | (simp [size_ext, grow]; omega) | omega) _ _) | (refine Below.setCell ?_ (by first | (simp [size_ext, grow]; done) | (simp [size_ext, grow]; omega) | omega) _) | (refine Below.alloc ?_ (by first | (simp [size_ext, grow]; done) | (simp [size_ext, grow]; omega) | omega) _) | refine Below.drew ?_ | refine below_drewN ?_ _ | (refine Below.trans ?_ (Below.mono (by assumption) (by first | (simp [size_ext, grow]; done) | (simp [size_ext, grow]; omega) | omega)))))⟩
  have b1 : 1 ≤ b := by omega
  have b2 : b ≤ 4294967294 := by omega
  have b3 : 0 ≤ s := by omega
  have b4 : s ≤ 65536 := by omega
  have d1 : decide (b < 1) = false := by simp; omega
  have d2 : decide (4294967294 < b) = false := by simp; omega
  have d3 : decide (s < 0) = false := by simp; omega
  have d4 : decide (65536 < s) = false := by simp; omega
  clear h1 h2 h3 h4
  by_cases h5 : 4294967295 < b + s
  · have HH := Lib.hid (show headOk b s = false by unfold headOk; simp; omega)
    have d5 : decide (4294967295 < b + s) = true := by simpa using h5
    clear h5
    go_enter Tryd.func10, Tryd.ntmps10
    go_wp2_with fail
    go_ret
    exact ⟨ret_bool (ok_head HH.out).symm, by (repeat (first | exact Below.refl _ _ | exact Nat.le_refl _ | (refine below_ext ?_ (by first | (simp [size_ext, grow]; done) | (simp [size_ext, grow]; omega) | omega) _ _) | (refine Below.setCell ?_ (by first | (simp [size_ext, grow]; done) | (simp [size_ext, grow]; omega) | omega) _) | (refine Below.alloc ?_ (by first | (simp [size_ext, grow]; done) | (simp [size_ext, grow]; omega) | omega) _) | refine Below.drew ?_ | refine below_drewN ?_ _ | (refine Below.trans ?_ (Below.mono (by assumption) (by first | (simp [size_ext, grow]; done) | (simp [size_ext, grow]; omega) | omega)))))⟩
  have HH := Lib.hid (show headOk b s = true by unfold headOk; simp; omega)
  by_cases h6 : s < (n : Int)
  · have HR := Lib.hid (show rowOk s R = false by
      cases hr : rowOk s R
      · rfl
      · have := row_len hr b3; omega)
    have d5 : decide (4294967295 < b + s) = false := by simpa using h5
    have d6 : decide (s < (n : Int)) = true := by simpa using h6
    clear h5 h6 hA hn
    go_enter Tryd.func10, Tryd.ntmps10
    go_wp2_with fail
    go_ret
    exact ⟨ret_bool (ok_row HR.out).symm, by (repeat (first | exact Below.refl _ _ | exact Nat.le_refl _ | (refine below_ext ?_ (by first | (simp [size_ext, grow]; done) | (simp [size_ext, grow]; omega) | omega) _ _) | (refine Below.setCell ?_ (by first | (simp [size_ext, grow]; done) | (simp [size_ext, grow]; omega) | omega) _) | (refine Below.alloc ?_ (by first | (simp [size_ext, grow]; done) | (simp [size_ext, grow]; omega) | omega) _) | refine Below.drew ?_ | refine below_drewN ?_ _ | (refine Below.trans ?_ (Below.mono (by assumption) (by first | (simp [size_ext, grow]; done) | (simp [size_ext, grow]; omega) | omega)))))⟩
  have d6 : decide (s < (n : Int)) = false := by simpa using h6
  clear h6
  have d5 : decide (4294967295 < b + s) = false := by simpa using h5
  clear h5
  have HA0 := Lib.hid hA
  have HN := Lib.hid hn
  clear hA hn
  go_enter Tryd.func10, Tryd.ntmps10
  go_wp2_with fail
  obtain ⟨w, hw⟩ : ∃ w, w = W.alloc (.cells #[.int .i64 b, .int .i64 s, .slice A n c] 24) := ⟨_, rfl⟩
  rw [← hw]
  have q1 : w.cell? ⟨W.heap.size, 1, none⟩ = some (.int .i64 s) := by rw [hw]; simp [go_sem]
  have q2 : w.cell? ⟨W.heap.size, 2, none⟩ = some (.slice A n c) := by rw [hw]; simp [go_sem]
  have qz : W.heap.size < w.heap.size := by rw [hw]; simp [go_sem]
  have HBW := Lib.hid (show Below W.heap.size W w by rw [hw]; (repeat (first | exact Below.refl _ _ | exact Nat.le_refl _ | (refine below_ext ?_ (by first | (simp [size_ext, grow]; done) | (simp [size_ext, grow]; omega) | omega) _ _) | (refine Below.setCell ?_ (by first | (simp [size_ext, grow]; done) | (simp [size_ext, grow]; omega) | omega) _) | (refine Below.alloc ?_ (by first | (simp [size_ext, grow]; done) | (simp [size_ext, grow]; omega) | omega) _) | refine Below.drew ?_ | refine below_drewN ?_ _ | (refine Below.trans ?_ (Below.mono (by assumption) (by first | (simp [size_ext, grow]; done) | (simp [size_ext, grow]; omega) | omega))))))
  have HA := Lib.hid (HA0.out.keep HBW.out)
  clear hw
  go_loop [3] (fun i => ∃ k : Nat, k ≤ n ∧ i = .int .i64 k ∧ ∀ i, i < k → badAt s R i = false) (fun i => n - (intOf i).toNat)
  case atStart => exact ⟨0, Nat.zero_le _, rfl, fun i hi => absurd hi (Nat.not_lt_zero i)⟩
  case round =>
    obtain ⟨k, hk, rfl, hp⟩ := hrel
    have HPR := Lib.hid hp
    clear hp
    by_cases hlt : k < n
    · have HKL := Lib.hid (show k < R.length by have := HN.out; omega)
      obtain ⟨bb, o, rfl, hbB, hcells⟩ := At.int HA.out HKL.out
      have g0 : w.cell? ⟨bb, o + k, none⟩ = some (.int .i64 (R.getD k 0)) := hcells k HKL.out
      obtain ⟨x, hx⟩ : ∃ x, R.getD k 0 = x := ⟨_, rfl⟩
      rw [hx] at g0
      have HX := Lib.hid hx
      clear hx
      by_cases x1 : x < 0
      · have HBAD := Lib.hid (show rowOk s R = false from rowOk_no HKL.out (by unfold badAt; rw [HX.out]; simp [x1]))
        have d1 : decide (x < 0) = true := by simpa using x1
        clear x1 hcells
        go_wp2_with fail
        go_ret
        exact ⟨ret_bool (ok_row HBAD.out).symm, HBW.out⟩
      · by_cases x2 : s ≤ x
        · have HBAD := Lib.hid (show rowOk s R = false from rowOk_no HKL.out (by unfold badAt; rw [HX.out]; simp [x2]))
          have d1 : decide (x < 0) = false := by simpa using x1
          have d2 : decide (s ≤ x) = true := by simpa using x2
          clear x1 x2 hcells
          go_wp2_with fail
          go_ret
          exact ⟨ret_bool (ok_row HBAD.out).symm, HBW.out⟩
        · have d1 : decide (x < 0) = false := by simpa using x1
          have d2 : decide (s ≤ x) = false := by simpa using x2
          by_cases x3 : 0 < k
          · have g1 : w.cell? ⟨bb, o + (k - 1), none⟩ = some (.int .i64 (R.getD (k - 1) 0)) := hcells (k - 1) (by have := HKL.out; omega)
            obtain ⟨y, hy⟩ : ∃ y, R.getD (k - 1) 0 = y := ⟨_, rfl⟩
            rw [hy] at g1
            have HY := Lib.hid hy
            clear hy hcells
            obtain ⟨q, rfl⟩ : ∃ q, k = q + 1 := ⟨k - 1, by omega⟩
            rw [show q + 1 - 1 = q by omega] at g1
            by_cases x4 : x ≤ y
            · have HBAD := Lib.hid (show rowOk s R = false from rowOk_no HKL.out (by unfold badAt; rw [HX.out, HY.out]; simp [x4]))
              have d4 : decide (x ≤ y) = true := by simpa using x4
              clear x1 x2 x3 x4
              go_wp2_with fail
              go_ret
              exact ⟨ret_bool (ok_row HBAD.out).symm, HBW.out⟩
            · have HGD := Lib.hid (show badAt s R (q + 1) = false by unfold badAt; rw [HX.out, HY.out]; simp; omega)
              have d4 : decide (x ≤ y) = false := by simpa using x4
              clear x1 x2 x3 x4
              go_wp2_with fail
              go_round
              case rel => exact ⟨_ + 1, by omega, by go_num, upto_succ HPR.out HGD.out⟩
              case measure => simp [intOf]; omega
          · have HGD := Lib.hid (show badAt s R k = false by unfold badAt; rw [HX.out]; simp; omega)
            obtain rfl : k = 0 := by omega
            rw [Nat.add_zero] at g0
            clear x1 x2 x3 hcells
            go_wp2_with fail
            go_round
            case rel => exact ⟨_ + 1, by omega, by go_num, upto_succ HPR.out HGD.out⟩
            case measure => simp [intOf]; omega
    · obtain rfl : k = n := by omega
      have HYES := Lib.hid (show rowOk s R = true from rowOk_yes (fun i hi => HPR.out i (by have := HN.out; omega)))
      go_wp2_with fail
      go_ret
      exact ⟨ret_bool (ok_yes HH.out HYES.out).symm, HBW.out⟩
end Go.Proofs.YtoilghhclpgfaaaDoor
