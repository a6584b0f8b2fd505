/- The reference's Make. -/
import Derived.Test.YtbdkapmiioiikaaH11
namespace Go.Proofs.Ytbdkapmiioiikaa
open Go.RowKit
set_option linter.unusedSimpArgs false
set_option linter.unusedVariables false
theorem putB_cons (j : Nat) : ∀ m : Nat, putB m (j + 1) = UInt8.ofNat (m / 256 ^ j) :: putB m j := by
  induction j with
  | zero => intro m; simp [putB]
  | succ j ih =>
    intro m
    have e : putB m (j + 1 + 1) = putB (m / 256) (j + 1) ++ [UInt8.ofNat m] := rfl
    rw [e, ih (m / 256), Nat.div_div_eq_div_mul]
    have e2 : 256 * 256 ^ j = 256 ^ (j + 1) := by rw [Nat.pow_succ]; omega
    rw [e2]
    rfl
theorem zeros_set (q j m : Nat) : ((List.replicate (q + 1) (0 : UInt8) ++ putB m j).map bv).set q (bv (UInt8.ofNat (m / 256 ^ j))) = (List.replicate q (0 : UInt8) ++ putB m (j + 1)).map bv := by
  rw [← List.map_set, putB_cons]
  congr 1
  rw [List.replicate_succ', List.append_assoc, List.set_append_right _ _ (by simp)]
  simp
set_option maxRecDepth 100000 in
set_option maxHeartbeats 4000000 in
theorem rmake_in (typ : Int) (k m : Nat) (w : World) (h1 : 0 ≤ typ) (h2 : typ ≤ 255) (k1 : 1 ≤ k) (k4 : k ≤ 4) (hn2 : (m : Int) ≤ 9223372036854775807) : Calls Try.prog 21 #[.int .i64 typ, .int .i64 k, .int .i64 m] w (MakeP w typ k m) := by
  obtain ⟨i0, hi, hz0, hz1, hz2⟩ := info_parts infoU8
  have HI := Lib.hid (And.intro hi (And.intro hz0 (And.intro hz1 hz2)))
  have hbb : i0.bytes * k ≤ 281474976710656 := by rw [hz2]; omega
  have HBB := Lib.hid hbb
  clear hi hz0 hz1 hz2 hbb
  go_enter Try.func21, Try.ntmps21
  go_wp2_with (at_make; go_loud (refine wpList_make_full _ rfl (.tmp 29) (.tmp 29) 23 rfl w.heap.size 5 i0 (.int .u8 0) 1 Try.underlying23 HI.out.1 HI.out.2.1 HI.out.2.2.1 .i64 .i64 k k k rfl rfl rfl rfl HBB.out (by unfold maxLen; omega) (by simp) ?_); intro w' ho hg; have HO := Lib.hid ho; have HG := Lib.hid hg; clear ho hg)
  have HR := Lib.hid (show w'.heap[w.heap.size]? = some (.cells #[.int .i64 0, .slice none 0 0] 36 (0, 0)) from (HG.out.block _ (by simp) (by simp)).trans (heap_alloc_new w _))
  have HBW := Lib.hid (show Below w.heap.size w w' from ((Below.refl _ w).alloc (Nat.le_refl _) _).grown HG.out (by simp) (fun q e => by cases e))
  have HZ := Lib.hid (show w'.ownsRow w.heap.size 5 1 (.slice (some ⟨w.heap.size + 1, 0, none⟩) k k) k ((List.replicate k (0 : UInt8) ++ putB m 0).map bv) by
    have := HO.out
    simp only [World.size_alloc] at this
    have e : (madeCells (Value.cells (.int .u8 0)) (k * 1)).toList = (List.replicate k (0 : UInt8) ++ putB m 0).map bv := by
      rw [show (Value.cells (.int .u8 0)) = #[.int .u8 0] from rfl, toList_madeCells_one]; simp [putB]; right; rfl
    rw [e] at this
    exact this)
  clear HO HG
  go_loopw [2, 9] (fun nv iv wr => ∃ j : Nat, j ≤ k ∧ nv = .int .i64 ((m / 256 ^ j : Nat) : Int) ∧ iv = .int .i64 ((k : Int) - 1 - j) ∧ Below w.heap.size w wr ∧ wr.heap[w.heap.size]? = some (.cells #[.int .i64 0, .slice none 0 0] 36 (0, 0)) ∧ wr.ownsRow w.heap.size 5 1 (.slice (some ⟨w.heap.size + 1, 0, none⟩) k k) k ((List.replicate (k - j) (0 : UInt8) ++ putB m j).map bv)) (fun _ iv _ => (intOf iv + 1).toNat)
  case atStart => exact ⟨0, Nat.zero_le _, by simp, by simp, HBW.out, HR.out, HZ.out⟩
  case round =>
    obtain ⟨j, hj, rfl, hiv, hb, hr, ho⟩ := hrel
    have HB := Lib.hid hb
    have HRR := Lib.hid hr
    have HO := Lib.hid ho
    clear hb hr ho
    obtain ⟨X, hX⟩ : ∃ X, m / 256 ^ j = X := ⟨_, rfl⟩
    have hXm : X ≤ m := by rw [← hX]; exact Nat.div_le_self _ _
    have hX2 : (X : Int) ≤ 9223372036854775807 := by omega
    rw [hX]
    have HXX := Lib.hid hX
    clear hX
    by_cases hlt : j < k
    · obtain ⟨q, hq⟩ : ∃ q, k = q + 1 + j := ⟨k - 1 - j, by omega⟩
      obtain rfl : _ = Value.int .i64 (q : Int) := hiv.trans (congrArg (Value.int .i64) (by omega))
      have HQ := Lib.hid hq
      have hqk : q < k := by omega
      have c1 : wr.cell? ⟨w.heap.size + 1, q, none⟩ = some (bv 0) := by
        rw [World.ownsRow.cellAt HO.out q (by omega), List.getElem?_map, List.getElem?_append_left (by simp; omega), List.getElem?_replicate]
        simp; omega
      simp only [bv] at c1
      have f1 := World.ownsRow.frozenAt HO.out q
      clear hiv hq
      go_wp2
      have eb : Value.int .u8 ((X : Int) % 256) = bv (UInt8.ofNat X) := by
        simp only [bv]; congr 1
      rw [eb]
      go_roundw
      case rel =>
        refine ⟨j + 1, by omega, ?_, ?_, HB.out.setCell (p := ⟨w.heap.size + 1, q, none⟩) (by simp) _, (Below.heap_setCell wr ⟨w.heap.size + 1, q, none⟩ _ _ (by simp)).trans HRR.out, ?_⟩
        · congr 1; rw [Nat.pow_succ, ← Nat.div_div_eq_div_mul, HXX.out]; omega
        · congr 1; have := HQ.out; omega
        · have h := (World.ownsRow.stored HO.out q (bv (UInt8.ofNat X))).1
          have hk1 : k - j = q + 1 := by have := HQ.out; omega
          have hk2 : k - (j + 1) = q := by have := HQ.out; omega
          rw [hk1, ← HXX.out, zeros_set] at h
          rw [hk2, ← HXX.out]
          exact h
      case measure => simp [intOf]
    · obtain rfl : j = k := by omega
      obtain rfl : _ = Value.int .i64 (-1) := hiv.trans (congrArg (Value.int .i64) (by omega))
      have HD := Lib.hid (show (List.replicate (j - j) (0 : UInt8) ++ putB m j) = putB m j by simp)
      have r0 : wr.cell? ⟨w.heap.size, 0, none⟩ = some (.int .i64 0) := (cell_of_row wr _ 0 _ _ (0, 0) HRR.out).trans rfl
      have r1 : wr.cell? ⟨w.heap.size, 1, none⟩ = some (.slice none 0 0) := (cell_of_row wr _ 1 _ _ (0, 0) HRR.out).trans rfl
      have rf0 : wr.frozen? ⟨w.heap.size, 0, none⟩ = false := frozen_of_row wr _ 0 _ _ HRR.out
      have rf1 : wr.frozen? ⟨w.heap.size, 1, none⟩ = false := frozen_of_row wr _ 1 _ _ HRR.out
      have hsz := HB.out.size
      have HXP := Lib.hid (show makeB typ j m = decide (X = 0) by
        unfold makeB
        have e : X = 0 ↔ m < 256 ^ j := by rw [← HXX.out]; exact Nat.div_eq_zero_iff.trans (by simp)
        rw [Bool.eq_iff_iff]
        simp only [decide_eq_true_eq, e]
        have : ((256 : Int) ^ (j : Int).toNat) = ((256 ^ j : Nat) : Int) := by simp
        rw [this]
        omega)
      by_cases hx0 : X = 0
      · subst hx0
        have HM := Lib.hid (show makeB typ j m = true by rw [HXP.out]; rfl)
        have HP := Lib.hid (putB_len m j)
        go_wp2
        refine bodyPost_ret (v := .tuple #[.agg #[.int .i64 typ, .slice (some ⟨w.heap.size + 1, 0, none⟩) j j], .int .i64 0]) (by simp [results, Try.results21, go_sem, r0, r1]) rfl ⟨⟨typ, putB m j, some ⟨w.heap.size + 1, 0, none⟩, j⟩, by rw [HM.out]; simp only [Ent.v]; rw [HP.out]; rfl, by have := HB.out; (repeat (first | exact Below.refl _ _ | exact Nat.le_refl _ | (refine below_ext ?_ (by first | (simp [size_ext, grow]; done) | (simp [size_ext, grow]; omega) | omega) _ _) | (refine Below.setCell ?_ (by first | (simp [size_ext, grow]; done) | (simp [size_ext, grow]; omega) | omega) _) | (refine Below.alloc ?_ (by first | (simp [size_ext, grow]; done) | (simp [size_ext, grow]; omega) | omega) _) | refine Below.drew ?_ | refine below_drewN ?_ _ | (refine Below.trans ?_ (Below.mono (by assumption) (by first | (simp [size_ext, grow]; done) | (simp [size_ext, grow]; omega) | omega))))), ?_, by rw [HM.out]; rfl⟩
        simp only [Ent.v]
        rw [HP.out]
        have h := HO.out
        rw [HD.out] at h
        refine own_keep h fun q hq => ?_
        have hq2 : q = w.heap.size + 1 := by simp only [Value.ownBlock, Option.some.injEq] at hq; exact hq.symm
        subst hq2
        exact (Below.heap_setCell _ ⟨w.heap.size, 1, none⟩ _ _ (by simp)).trans (Below.heap_setCell _ ⟨w.heap.size, 0, none⟩ _ _ (by simp))
      · have HM := Lib.hid (show makeB typ j m = false by rw [HXP.out]; simpa using hx0)
        have hx1 : (0 : Int) < (X : Int) := by omega
        go_wp2
        refine bodyPost_ret (v := .tuple #[.agg #[.int .i64 0, .slice none 0 0], .int .i64 80]) (by simp [results, Try.results21, go_sem, r0, r1]) rfl ⟨⟨0, [], none, 0⟩, by rw [HM.out]; rfl, by have := HB.out; (repeat (first | exact Below.refl _ _ | exact Nat.le_refl _ | (refine below_ext ?_ (by first | (simp [size_ext, grow]; done) | (simp [size_ext, grow]; omega) | omega) _ _) | (refine Below.setCell ?_ (by first | (simp [size_ext, grow]; done) | (simp [size_ext, grow]; omega) | omega) _) | (refine Below.alloc ?_ (by first | (simp [size_ext, grow]; done) | (simp [size_ext, grow]; omega) | omega) _) | refine Below.drew ?_ | refine below_drewN ?_ _ | (refine Below.trans ?_ (Below.mono (by assumption) (by first | (simp [size_ext, grow]; done) | (simp [size_ext, grow]; omega) | omega))))), own_nil _ _ _ _, by rw [HM.out]; rfl⟩
set_option maxHeartbeats 4000000 in
theorem rmake_any (typ size n : Int) (w : World) (hn2 : n ≤ 9223372036854775807) : Calls Try.prog 21 #[.int .i64 typ, .int .i64 size, .int .i64 n] w (MakeP w typ size n) := by
  by_cases hb : typ < 0 ∨ 255 < typ ∨ size < 1 ∨ 4 < size ∨ n < 0
  · have HM := Lib.hid (show makeB typ size n = false by unfold makeB; simp; omega)
    by_cases h1 : typ < 0
    · go_enter Try.func21, Try.ntmps21
      go_wp2
      exact bodyPost_ret (v := .tuple #[.agg #[.int .i64 0, .slice none 0 0], .int .i64 80]) (by simp [results, Try.results21, go_sem]) rfl ⟨⟨0, [], none, 0⟩, by rw [HM.out]; rfl, by (repeat (first | exact Below.refl _ _ | exact Nat.le_refl _ | (refine below_ext ?_ (by first | (simp [size_ext, grow]; done) | (simp [size_ext, grow]; omega) | omega) _ _) | (refine Below.setCell ?_ (by first | (simp [size_ext, grow]; done) | (simp [size_ext, grow]; omega) | omega) _) | (refine Below.alloc ?_ (by first | (simp [size_ext, grow]; done) | (simp [size_ext, grow]; omega) | omega) _) | refine Below.drew ?_ | refine below_drewN ?_ _ | (refine Below.trans ?_ (Below.mono (by assumption) (by first | (simp [size_ext, grow]; done) | (simp [size_ext, grow]; omega) | omega))))), own_nil _ _ _ _, by rw [HM.out]; rfl⟩
    · by_cases h2 : 255 < typ
      · clear hb
        go_enter Try.func21, Try.ntmps21
        go_wp2
        exact bodyPost_ret (v := .tuple #[.agg #[.int .i64 0, .slice none 0 0], .int .i64 80]) (by simp [results, Try.results21, go_sem]) rfl ⟨⟨0, [], none, 0⟩, by rw [HM.out]; rfl, by (repeat (first | exact Below.refl _ _ | exact Nat.le_refl _ | (refine below_ext ?_ (by first | (simp [size_ext, grow]; done) | (simp [size_ext, grow]; omega) | omega) _ _) | (refine Below.setCell ?_ (by first | (simp [size_ext, grow]; done) | (simp [size_ext, grow]; omega) | omega) _) | (refine Below.alloc ?_ (by first | (simp [size_ext, grow]; done) | (simp [size_ext, grow]; omega) | omega) _) | refine Below.drew ?_ | refine below_drewN ?_ _ | (refine Below.trans ?_ (Below.mono (by assumption) (by first | (simp [size_ext, grow]; done) | (simp [size_ext, grow]; omega) | omega))))), own_nil _ _ _ _, by rw [HM.out]; rfl⟩
      · by_cases h3 : size < 1
        · clear hb
          go_enter Try.func21, Try.ntmps21
          go_wp2
          exact bodyPost_ret (v := .tuple #[.agg #[.int .i64 0, .slice none 0 0], .int .i64 80]) (by simp [results, Try.results21, go_sem]) rfl ⟨⟨0, [], none, 0⟩, by rw [HM.out]; rfl, by (repeat (first | exact Below.refl _ _ | exact Nat.le_refl _ | (refine below_ext ?_ (by first | (simp [size_ext, grow]; done) | (simp [size_ext, grow]; omega) | omega) _ _) | (refine Below.setCell ?_ (by first | (simp [size_ext, grow]; done) | (simp [size_ext, grow]; omega) | omega) _) | (refine Below.alloc ?_ (by first | (simp [size_ext, grow]; done) | (simp [size_ext, grow]; omega) | omega) _) | refine Below.drew ?_ | refine below_drewN ?_ _ | (refine Below.trans ?_ (Below.mono (by assumption) (by first | (simp [size_ext, grow]; done) | (simp [size_ext, grow]; omega) | omega))))), own_nil _ _ _ _, by rw [HM.out]; rfl⟩
        · by_cases h4 : 4 < size
          · clear hb
            go_enter Try.func21, Try.ntmps21
            go_wp2
            exact bodyPost_ret (v := .tuple #[.agg #[.int .i64 0, .slice none 0 0], .int .i64 80]) (by simp [results, Try.results21, go_sem]) rfl ⟨⟨0, [], none, 0⟩, by rw [HM.out]; rfl, by (repeat (first | exact Below.refl _ _ | exact Nat.le_refl _ | (refine below_ext ?_ (by first | (simp [size_ext, grow]; done) | (simp [size_ext, grow]; omega) | omega) _ _) | (refine Below.setCell ?_ (by first | (simp [size_ext, grow]; done) | (simp [size_ext, grow]; omega) | omega) _) | (refine Below.alloc ?_ (by first | (simp [size_ext, grow]; done) | (simp [size_ext, grow]; omega) | omega) _) | refine Below.drew ?_ | refine below_drewN ?_ _ | (refine Below.trans ?_ (Below.mono (by assumption) (by first | (simp [size_ext, grow]; done) | (simp [size_ext, grow]; omega) | omega))))), own_nil _ _ _ _, by rw [HM.out]; rfl⟩
          · have h5 : n < 0 := by omega
            clear hb
            go_enter Try.func21, Try.ntmps21
            go_wp2
            exact bodyPost_ret (v := .tuple #[.agg #[.int .i64 0, .slice none 0 0], .int .i64 80]) (by simp [results, Try.results21, go_sem]) rfl ⟨⟨0, [], none, 0⟩, by rw [HM.out]; rfl, by (repeat (first | exact Below.refl _ _ | exact Nat.le_refl _ | (refine below_ext ?_ (by first | (simp [size_ext, grow]; done) | (simp [size_ext, grow]; omega) | omega) _ _) | (refine Below.setCell ?_ (by first | (simp [size_ext, grow]; done) | (simp [size_ext, grow]; omega) | omega) _) | (refine Below.alloc ?_ (by first | (simp [size_ext, grow]; done) | (simp [size_ext, grow]; omega) | omega) _) | refine Below.drew ?_ | refine below_drewN ?_ _ | (refine Below.trans ?_ (Below.mono (by assumption) (by first | (simp [size_ext, grow]; done) | (simp [size_ext, grow]; omega) | omega))))), own_nil _ _ _ _, by rw [HM.out]; rfl⟩
  · obtain ⟨m, rfl⟩ := Int.eq_ofNat_of_zero_le (show 0 ≤ n by omega)
    obtain ⟨k, rfl⟩ := Int.eq_ofNat_of_zero_le (show 0 ≤ size by omega)
    exact rmake_in typ k m w (by omega) (by omega) (by omega) (by omega) hn2
end Go.Proofs.Ytbdkapmiioiikaa
