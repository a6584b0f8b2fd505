/- The walks of CpSplits and CpPackets. -/
import Derived.Test.YtjnahbiagfghgaaC16
namespace Go.Proofs.Ytjnahbiagfghgaa
open Go.RowKit
set_option linter.unusedSimpArgs false
set_option linter.unusedVariables false
def cutN (n : Nat) : Nat := min n 1600
theorem cut_n (A : Option Addr) (len c : Nat) (w : World) (h : len ≤ c ∧ (len : Int) ≤ 9223372036854775807) :
    Calls Try.prog 8 #[.slice A len c] w fun e w' => e = .returned (.slice A (cutN len) c) ∧ w = w' := cut_any A len c w h.1 h.2
theorem cutN_len (l : List UInt8) : cutN l.length = (l.take 1600).length := by simp [cutN]; omega
theorem cutN_le (n : Nat) : cutN n ≤ n ∧ cutN n ≤ 1600 := by unfold cutN; omega

set_option maxRecDepth 100000 in
set_option maxHeartbeats 4000000 in
theorem cpSplits_walk (A1 A2 : Option Addr) (n1 c1 n2 c2 : Nat) (l1 l2 : List UInt8) (p : Int) (w : World) (hA1 : At w w.heap.size A1 (l1.map bv)) (hA2 : At w w.heap.size A2 (l2.map bv)) (hn1 : n1 = l1.length) (hn2 : n2 = l2.length)
    (b1 : n1 ≤ c1 ∧ (n1 : Int) ≤ 9223372036854775807) (b2 : n2 ≤ c2 ∧ (n2 : Int) ≤ 9223372036854775807) :
    Calls Try.prog 3 #[.slice A1 n1 c1, .agg #[.int .i64 p, .slice A2 n2 c2]] w fun e w' => e = .returned (.bool true) ∧ Below w.heap.size w w' := by
  have HA1 := Lib.hid (show At w w.heap.size A1 ((l1.take 1600).map bv) by rw [List.map_take]; exact hA1.take _)
  have HA2 := Lib.hid (show At w w.heap.size A2 ((l2.take 1600).map bv) by rw [List.map_take]; exact hA2.take _)
  have HB1 := Lib.hid b1
  have HB2 := Lib.hid b2
  have HN1 := Lib.hid (show cutN n1 = (l1.take 1600).length by rw [hn1]; exact cutN_len l1)
  have HN2 := Lib.hid (show cutN n2 = (l2.take 1600).length by rw [hn2]; exact cutN_len l2)
  have HM1 := Lib.hid (show cutN n1 ≤ 1600 ∧ cutN n1 ≤ c1 by have := cutN_le n1; omega)
  have HM2 := Lib.hid (show cutN n2 ≤ 1600 ∧ cutN n2 ≤ c2 by have := cutN_le n2; omega)
  clear hA1 hA2 b1 b2 hn1 hn2
  go_enter Try.func3, Try.ntmps3
  go_wp2_with fail
  go_region_with (go_at_call 8; refine (cut_n _ _ _ _ (by first | exact HB1.out | exact HB2.out)).mono ?_; rintro e w1 ⟨rfl, rfl⟩)
  all_goals
    go_wp2_with fail
    refine (split_any A1 (cutN n1) c1 (l1.take 1600) _ w.heap.size (by simp [go_sem]) (HA1.out.keep (by (repeat (first | exact Below.refl _ _ | exact Nat.le_refl _ | (refine below_ext ?_ (by first | (simp [size_ext, grow]; done) | (simp [size_ext, grow]; omega)) _ _) | (refine Below.setCell ?_ (by first | (simp [size_ext, grow]; done) | (simp [size_ext, grow]; omega)) _) | (refine Below.alloc ?_ (by first | (simp [size_ext, grow]; done) | (simp [size_ext, grow]; omega)) _) | refine Below.drew ?_ | refine below_drewN ?_ _ | (refine Below.trans ?_ (Below.mono (by assumption) (by first | (simp [size_ext, grow]; done) | (simp [size_ext, grow]; omega)))))))) HN1.out (by have := HM1.out; omega) HM1.out.2).mono ?_; rintro e w1 ⟨v, rfl, hb, ho⟩; obtain ⟨xs1, d1, rfl⟩ := ext_of hb; clear hb; obtain ⟨B1, k1, rfl, -, -⟩ := ownsRow_form ho; have HO1 := Lib.hid ho; clear ho
    go_wp2_with fail
    refine (split_ref A1 (cutN n1) c1 (l1.take 1600) _ w.heap.size (by simp [go_sem]) (HA1.out.keep (by (repeat (first | exact Below.refl _ _ | exact Nat.le_refl _ | (refine below_ext ?_ (by first | (simp [size_ext, grow]; done) | (simp [size_ext, grow]; omega)) _ _) | (refine Below.setCell ?_ (by first | (simp [size_ext, grow]; done) | (simp [size_ext, grow]; omega)) _) | (refine Below.alloc ?_ (by first | (simp [size_ext, grow]; done) | (simp [size_ext, grow]; omega)) _) | refine Below.drew ?_ | refine below_drewN ?_ _ | (refine Below.trans ?_ (Below.mono (by assumption) (by first | (simp [size_ext, grow]; done) | (simp [size_ext, grow]; omega)))))))) HN1.out (by have := HM1.out; omega) HM1.out.2).mono ?_; rintro e w1 ⟨v, rfl, hb, ho⟩; obtain ⟨xs2, d2, rfl⟩ := ext_of hb; clear hb; obtain ⟨B2, k2, rfl, -, -⟩ := ownsRow_form ho; have HO2 := Lib.hid ho; clear ho
    go_wp2_with fail
    refine (join_any p A2 (cutN n2) c2 (l2.take 1600) _ w.heap.size (by simp [go_sem]) (HA2.out.keep (by (repeat (first | exact Below.refl _ _ | exact Nat.le_refl _ | (refine below_ext ?_ (by first | (simp [size_ext, grow]; done) | (simp [size_ext, grow]; omega)) _ _) | (refine Below.setCell ?_ (by first | (simp [size_ext, grow]; done) | (simp [size_ext, grow]; omega)) _) | (refine Below.alloc ?_ (by first | (simp [size_ext, grow]; done) | (simp [size_ext, grow]; omega)) _) | refine Below.drew ?_ | refine below_drewN ?_ _ | (refine Below.trans ?_ (Below.mono (by assumption) (by first | (simp [size_ext, grow]; done) | (simp [size_ext, grow]; omega)))))))) HN2.out (by have := HM2.out; omega)).mono ?_; rintro e w1 ⟨v, rfl, hb, ho⟩; obtain ⟨xs3, d3, rfl⟩ := ext_of hb; clear hb; obtain ⟨B3, k3, rfl, -, -⟩ := ownsRow_form ho; have HO3 := Lib.hid ho; clear ho
    go_wp2_with fail
    refine (join_ref p A2 (cutN n2) c2 (l2.take 1600) _ w.heap.size (by simp [go_sem]) (HA2.out.keep (by (repeat (first | exact Below.refl _ _ | exact Nat.le_refl _ | (refine below_ext ?_ (by first | (simp [size_ext, grow]; done) | (simp [size_ext, grow]; omega)) _ _) | (refine Below.setCell ?_ (by first | (simp [size_ext, grow]; done) | (simp [size_ext, grow]; omega)) _) | (refine Below.alloc ?_ (by first | (simp [size_ext, grow]; done) | (simp [size_ext, grow]; omega)) _) | refine Below.drew ?_ | refine below_drewN ?_ _ | (refine Below.trans ?_ (Below.mono (by assumption) (by first | (simp [size_ext, grow]; done) | (simp [size_ext, grow]; omega)))))))) HN2.out (by have := HM2.out; omega)).mono ?_; rintro e w1 ⟨v, rfl, hb, ho⟩; obtain ⟨xs4, d4, rfl⟩ := ext_of hb; clear hb; obtain ⟨B4, k4, rfl, -, -⟩ := ownsRow_form ho; have HO4 := Lib.hid ho; clear ho
    go_wp2_with fail
    refine (samePPP_true _ B1 B2 _ k1 k2 (splitRest (l1.take 1600)) _ _ (Nat.le_refl _) ((At.of_own HO1.out).move (by (repeat (first | exact Below.refl _ _ | exact Nat.le_refl _ | (refine below_ext ?_ (by first | (simp [size_ext, grow]; done) | (simp [size_ext, grow]; omega)) _ _) | (refine Below.setCell ?_ (by first | (simp [size_ext, grow]; done) | (simp [size_ext, grow]; omega)) _) | (refine Below.alloc ?_ (by first | (simp [size_ext, grow]; done) | (simp [size_ext, grow]; omega)) _) | refine Below.drew ?_ | refine below_drewN ?_ _ | (refine Below.trans ?_ (Below.mono (by assumption) (by first | (simp [size_ext, grow]; done) | (simp [size_ext, grow]; omega))))))) (by first | (simp [size_ext, grow]; done) | (simp [size_ext, grow]; omega))) ((At.of_own HO2.out).move (by (repeat (first | exact Below.refl _ _ | exact Nat.le_refl _ | (refine below_ext ?_ (by first | (simp [size_ext, grow]; done) | (simp [size_ext, grow]; omega)) _ _) | (refine Below.setCell ?_ (by first | (simp [size_ext, grow]; done) | (simp [size_ext, grow]; omega)) _) | (refine Below.alloc ?_ (by first | (simp [size_ext, grow]; done) | (simp [size_ext, grow]; omega)) _) | refine Below.drew ?_ | refine below_drewN ?_ _ | (refine Below.trans ?_ (Below.mono (by assumption) (by first | (simp [size_ext, grow]; done) | (simp [size_ext, grow]; omega))))))) (by first | (simp [size_ext, grow]; done) | (simp [size_ext, grow]; omega))) rfl).mono ?_; rintro e w1 ⟨rfl, hb⟩; obtain ⟨xs, d, rfl⟩ := ext_of hb; clear hb
    have hA3 := At.of_own HO3.out
    have hA4 := At.of_own HO4.out
    simp only [size_ext, World.size_alloc, World.size_drew, grow_succ] at hA3 hA4
    have q3 : ∀ W : World, At W (grow (grow (grow w.heap.size xs1) xs2) xs3 + 1 + 1 + 1) B3 ((joinB p (l2.take 1600)).map bv) → (convert 22 9 (.slice B3 (joinB p (l2.take 1600)).length k3)).run Try.prog W = .ok (.string ⟨(joinB p (l2.take 1600)).toArray⟩) W := fun W h => run_str Try.underlying22 Try.underlying5 Try.underlying9 rfl h
    have q4 : ∀ W : World, At W (grow (grow (grow (grow w.heap.size xs1) xs2) xs3) xs4 + 1 + 1 + 1) B4 ((joinB p (l2.take 1600)).map bv) → (convert 22 9 (.slice B4 (joinB p (l2.take 1600)).length k4)).run Try.prog W = .ok (.string ⟨(joinB p (l2.take 1600)).toArray⟩) W := fun W h => run_str Try.underlying22 Try.underlying5 Try.underlying9 rfl h
    go_wp2_with (go_at_call 14; refine (awake_any _).mono ?_; rintro e w1 ⟨rfl, hb⟩; obtain ⟨xs, d, rfl⟩ := ext_of hb; clear hb)
    go_goals
    go_ret
    exact ⟨rfl, by (repeat (first | exact Below.refl _ _ | exact Nat.le_refl _ | (refine below_ext ?_ (by first | (simp [size_ext, grow]; done) | (simp [size_ext, grow]; omega)) _ _) | (refine Below.setCell ?_ (by first | (simp [size_ext, grow]; done) | (simp [size_ext, grow]; omega)) _) | (refine Below.alloc ?_ (by first | (simp [size_ext, grow]; done) | (simp [size_ext, grow]; omega)) _) | refine Below.drew ?_ | refine below_drewN ?_ _ | (refine Below.trans ?_ (Below.mono (by assumption) (by first | (simp [size_ext, grow]; done) | (simp [size_ext, grow]; omega))))))⟩
end Go.Proofs.Ytjnahbiagfghgaa
