/- The law's own example. -/
import Derived.Test.YtjnahbiagfghgaaC15
import Derived.Test.YtjnahbiagfghgaaS2
namespace Go.Proofs.Ytjnahbiagfghgaa
open Go.RowKit
set_option linter.unusedSimpArgs false
set_option linter.unusedVariables false
set_option maxRecDepth 100000 in
set_option maxHeartbeats 2000000 in
theorem awake_any (w : World) : Calls Try.prog 14 #[] w fun e w' => e = .returned (.bool true) ∧ Below w.heap.size w w' := by
  have jB := Lib.hid (show joinB 49185 [1, 2] = [192, 33, 1, 2] by decide)
  have jE : joinErr 49185 2 = 0 := by decide
  go_enter Try.func14, Try.ntmps14
  go_wp2_with fail
  refine (join_any 49185 _ 2 2 [1, 2] _ _ (Nat.le_refl _) (At.of_own (own_lit (base := 0) (size := 1) (n := 2) (by (repeat (first | ((refine heap_alloc_at _ _ _ ?_); (simp [go_sem]; done)) | ((refine (heap_ext _ _ _ _ ?_).trans ?_); (focus (simp [go_sem]; done))) | ((refine (heap_alloc_past _ _ _ ?_).trans ?_); (focus (simp [go_sem]; done)))))) (Nat.zero_le _) (by decide) rfl rfl)) rfl (by omega)).mono ?_; rintro e w1 ⟨v, rfl, hb, ho⟩; obtain ⟨xs1, d1, rfl⟩ := ext_of hb; clear hb; rw [jB.out] at ho; obtain ⟨A1, c1, rfl, hc1, -⟩ := ownsRow_form ho; have HO1 := Lib.hid ho; clear ho
  obtain ⟨L1, hL1⟩ : ∃ L : List UInt8, L = [192, 33, 1, 2] := ⟨_, rfl⟩
  have HL1 := Lib.hid hL1
  have hA1 : At (ext (w.alloc (.cells #[.int .u8 1, .int .u8 2] 5)) xs1 d1) (grow w.heap.size xs1 + 1) A1 (L1.map bv) := by rw [hL1]; simpa [go_sem] using At.of_own HO1.out
  have HA1 := Lib.hid (hL1 ▸ hA1)
  have q1 : ∀ W : World, At W (grow w.heap.size xs1 + 1) A1 (L1.map bv) → (convert 22 9 (.slice A1 4 c1)).run Try.prog W = .ok (.string ⟨#[192, 33, 1, 2]⟩) W := fun W h => run_str (l := [192, 33, 1, 2]) Try.underlying22 Try.underlying5 Try.underlying9 rfl (HL1.out ▸ h)
  clear hL1
  go_wp2_with fail
  have sR := Lib.hid (show splitRest [192, 33, 1, 2] = [1, 2] by decide)
  have sE : splitErr [192, 33, 1, 2] = 0 := by decide
  have sN : splitNum [192, 33, 1, 2] = 49185 := by decide
  refine (split_any A1 4 c1 [192, 33, 1, 2] _ (grow w.heap.size xs1 + 1) (by simp [go_sem]) (HA1.out.keep (by (repeat (first | exact Below.refl _ _ | exact Nat.le_refl _ | (refine below_ext ?_ (by first | (simp [size_ext, grow]; done) | (simp [size_ext, grow]; omega)) _ _) | (refine Below.setCell ?_ (by first | (simp [size_ext, grow]; done) | (simp [size_ext, grow]; omega)) _) | (refine Below.alloc ?_ (by first | (simp [size_ext, grow]; done) | (simp [size_ext, grow]; omega)) _) | refine Below.drew ?_ | refine below_drewN ?_ _ | (refine Below.trans ?_ (Below.mono (by assumption) (by first | (simp [size_ext, grow]; done) | (simp [size_ext, grow]; omega)))))))) rfl (by omega) hc1).mono ?_; rintro e w1 ⟨v, rfl, hb, ho⟩; obtain ⟨xs2, d2, rfl⟩ := ext_of hb; clear hb; rw [sR.out] at ho; obtain ⟨A2, c2, rfl, hc2, -⟩ := ownsRow_form ho; have HO2 := Lib.hid ho; clear ho
  go_wp2_with fail
  have nB := Lib.hid (show encB 1 7 [9] = [1, 7, 0, 5, 9] by decide)
  have nE : encErr 1 7 1 = 0 := by decide
  refine (enc_any 1 7 _ 1 1 [9] _ _ (Nat.le_refl _) (At.of_own (own_lit (base := 0) (size := 1) (n := 1) (by (repeat (first | ((refine heap_alloc_at _ _ _ ?_); (simp [go_sem]; done)) | ((refine (heap_ext _ _ _ _ ?_).trans ?_); (focus (simp [go_sem]; done))) | ((refine (heap_alloc_past _ _ _ ?_).trans ?_); (focus (simp [go_sem]; done)))))) (Nat.zero_le _) (by decide) rfl rfl)) rfl (by omega)).mono ?_; rintro e w1 ⟨v, rfl, hb, ho⟩; obtain ⟨xs3, d3, rfl⟩ := ext_of hb; clear hb; rw [nB.out] at ho; obtain ⟨A3, c3, rfl, hc3, -⟩ := ownsRow_form ho; have HO3 := Lib.hid ho; clear ho
  go_wp2_with (at_builtin; (refine wpList_appb2 _ rfl (.tmp 29) (.tmp 30) 22 rfl 5 Try.underlying22 infoU8 A3 c3 5 [1, 7, 0, 5, 9] rfl (own_below HO3.out (by (repeat (first | exact Below.refl _ _ | exact Nat.le_refl _ | (refine below_ext ?_ (by first | (simp [size_ext, grow]; done) | (simp [size_ext, grow]; omega)) _ _) | (refine Below.setCell ?_ (by first | (simp [size_ext, grow]; done) | (simp [size_ext, grow]; omega)) _) | (refine Below.alloc ?_ (by first | (simp [size_ext, grow]; done) | (simp [size_ext, grow]; omega)) _) | refine Below.drew ?_ | refine below_drewN ?_ _ | (refine Below.trans ?_ (Below.mono (by assumption) (by first | (simp [size_ext, grow]; done) | (simp [size_ext, grow]; omega)))))))) _ _ 1 1 [5] rfl rfl (by omega) (At.of_own (own_lit (base := 0) (size := 1) (n := 1) (by (repeat (first | ((refine heap_alloc_at _ _ _ ?_); (simp [go_sem]; done)) | ((refine (heap_ext _ _ _ _ ?_).trans ?_); (focus (simp [go_sem]; done))) | ((refine (heap_alloc_past _ _ _ ?_).trans ?_); (focus (simp [go_sem]; done)))))) (Nat.zero_le _) (by decide) rfl rfl)) (by (repeat (first | exact Below.refl _ _ | exact Nat.le_refl _ | (refine below_ext ?_ (by first | (simp [size_ext, grow]; done) | (simp [size_ext, grow]; omega)) _ _) | (refine Below.setCell ?_ (by first | (simp [size_ext, grow]; done) | (simp [size_ext, grow]; omega)) _) | (refine Below.alloc ?_ (by first | (simp [size_ext, grow]; done) | (simp [size_ext, grow]; omega)) _) | refine Below.drew ?_ | refine below_drewN ?_ _ | (refine Below.trans ?_ (Below.mono (by assumption) (by first | (simp [size_ext, grow]; done) | (simp [size_ext, grow]; omega))))))) ?_); intro A4 c4 ys d4 hown4 hc4 hA3; have HO4 := Lib.hid hown4; clear hown4)
  have kE : decErr [1, 7, 0, 5, 9, 5] = 0 := by decide
  have kC : decCode [1, 7, 0, 5, 9, 5] = 1 := by decide
  have kI : decID [1, 7, 0, 5, 9, 5] = 7 := by decide
  have kD := Lib.hid (show decData [1, 7, 0, 5, 9, 5] = [9] by decide)
  have hA3' := hA3
  simp only [size_ext] at hA3'
  have HA3 := Lib.hid hA3
  have HA4 := Lib.hid (At.of_own HO4.out)
  obtain ⟨L3, hL3⟩ : ∃ L : List UInt8, L = [1, 7, 0, 5, 9] := ⟨_, rfl⟩
  have HL3 := Lib.hid hL3
  have q3 : ∀ W : World, At W (grow (grow (grow w.heap.size xs1) xs2) ys + 1 + 1 + 1) A3 (L3.map bv) → (convert 22 9 (.slice A3 5 c3)).run Try.prog W = .ok (.string ⟨#[1, 7, 0, 5, 9]⟩) W := fun W h => run_str (l := [1, 7, 0, 5, 9]) Try.underlying22 Try.underlying5 Try.underlying9 rfl (HL3.out ▸ h)
  clear hA3 hA3'
  refine (dec_any A4 6 c4 [1, 7, 0, 5, 9, 5] _ _ (Nat.le_refl _) HA4.out rfl (by omega) hc4).mono ?_; rintro e w1 ⟨v, rfl, hb, ho⟩; obtain ⟨xs5, d5, rfl⟩ := ext_of hb; clear hb; rw [kD.out] at ho; obtain ⟨A5, c5, rfl, hc5, -⟩ := ownsRow_form ho; have HO5 := Lib.hid ho; clear ho
  clear hL3
  have hA3 := HA3.out
  rw [← HL3.out] at hA3
  simp only [size_ext, World.size_alloc, grow_succ] at hA3
  go_wp2_with fail
  have zE : decErr [] = 71 := by decide
  have zC : decCode [] = 0 := by decide
  have zI : decID [] = 0 := by decide
  have zD := Lib.hid (show decData [] = [] by decide)
  refine (dec_any none 0 0 [] _ _ (Nat.le_refl _) (At.nil _ _ _) rfl (by omega) (by omega)).mono ?_; rintro e w1 ⟨v, rfl, hb, ho⟩; obtain ⟨xs6, d6, rfl⟩ := ext_of hb; clear hb; rw [zD.out] at ho; obtain ⟨A6, c6, rfl, hc6, -⟩ := ownsRow_form ho; have HO6 := Lib.hid ho; clear ho
  go_wp2_with fail
  go_outline
  go_ret
  exact ⟨rfl, by (repeat (first | exact Below.refl _ _ | exact Nat.le_refl _ | (refine below_ext ?_ (by first | (simp [size_ext, grow]; done) | (simp [size_ext, grow]; omega)) _ _) | (refine Below.setCell ?_ (by first | (simp [size_ext, grow]; done) | (simp [size_ext, grow]; omega)) _) | (refine Below.alloc ?_ (by first | (simp [size_ext, grow]; done) | (simp [size_ext, grow]; omega)) _) | refine Below.drew ?_ | refine below_drewN ?_ _ | (refine Below.trans ?_ (Below.mono (by assumption) (by first | (simp [size_ext, grow]; done) | (simp [size_ext, grow]; omega))))))⟩
end Go.Proofs.Ytjnahbiagfghgaa
