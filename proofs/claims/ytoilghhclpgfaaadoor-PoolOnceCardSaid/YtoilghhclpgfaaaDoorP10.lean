/- PoolRanges. -/
import Derived.Test.YtoilghhclpgfaaaDoorP9
import Derived.ProofKit
import Derived.OpenShut
import Derived.Lib.SmallJoins
namespace Go.Proofs.YtoilghhclpgfaaaDoor
open Go.ChangeShapes Go.WideShapes Go.ChangeAt Go.RowKit Go.Joins
set_option linter.unusedSimpArgs false
set_option linter.unusedVariables false
theorem cellsInt : Tryd.prog.cellsOf 3 = 1 := by kernel_rfl
theorem open_ints_row {H : Type} {enc : TypeId × Value → H} {W : World} {fuel : Nat} {cs : List Value} {x : DataW H × List MemPlace} (h : DataW.trod enc Tryd.prog W 0 (fun _ => true) true fuel 22 cs = some x) :
    ∃ (A : Option Addr) (len c : Nat) (R : List Int), cs = [.slice A len c] ∧ At W W.heap.size A (ints R) ∧ len = R.length ∧ len ≤ c ∧ (len : Int) ≤ 9223372036854775807 := by
  rcases open_ints Tryd.underlying22 Tryd.underlying3 cellsInt h with ⟨hcs, _⟩ | ⟨a, len, cap, zs, hcs, _, hl, hm, hz, _, hcell, hwz⟩
  · exact ⟨none, 0, 0, [], hcs, At.nil _ _ _, rfl, Nat.le_refl _, by omega⟩
  · have hz' : zs.length = cap := by simpa using hz
    refine ⟨some a, len, cap, zs.take len, hcs, ?_, by simp; omega, hl, by unfold maxLen at hm; omega⟩
    rcases Nat.eq_zero_or_pos len with h0 | h0
    · left; simp [h0, ints]
    · right
      have hc0 := hcell 0 (by omega)
      obtain ⟨b, off, spot⟩ := a
      have hspot : spot = none := by simpa [Addr.add] using World.cell?_spot hc0
      subst hspot
      have hlt : b < W.heap.size := by
        have := World.block_lt_of_cell? W _ hc0
        simpa [Addr.add] using this
      refine ⟨b, off, rfl, hlt, fun j u hu => ?_⟩
      unfold ints at hu
      rw [List.getElem?_map, List.getElem?_take] at hu
      have hj : j < len := by
        by_cases hj : j < len
        · exact hj
        · rw [if_neg hj] at hu; cases hu
      rw [if_pos hj, List.getElem?_eq_getElem (by omega)] at hu
      have hc := hcell j (by omega)
      rw [List.getD_eq_getElem?_getD, List.getElem?_eq_getElem (by omega)] at hc
      have e : (⟨b, off, none⟩ : Addr).add j = ⟨b, off + j, none⟩ := by
        simp only [Addr.add]
        by_cases h0 : j = 0 <;> simp [h0]
      rw [e] at hc
      rw [hc]
      simpa using hu
theorem open_range {H : Type} {enc : TypeId × Value → H} {W : World} {base : Nat} {v : Value} {d : DataW H} {p : List MemPlace} (o : Value.okWide Tryd.prog W .any base 24 v) (h : DataW.Trod enc Tryd.prog W 0 (fun _ => true) true 24 v d p) :
    ∃ (b s : Int) (A : Option Addr) (n c : Nat) (R : List Int), v = rangeV b s A n c ∧ At W W.heap.size A (ints R) ∧ n = R.length ∧ n ≤ c ∧ (n : Int) ≤ 9223372036854775807 := by
  obtain ⟨c0, c1, c2, y0, y1, y2, m, rfl, rfl, rfl, hy0, hy1, hy2⟩ := open_agg3 Tryd.underlying24 (by kernel_rfl) (by kernel_rfl) o h
  obtain ⟨b, e0, rfl, w0⟩ := DataW.trod_int Tryd.underlying3 hy0
  obtain ⟨s, e1, rfl, w1⟩ := DataW.trod_int Tryd.underlying3 hy1
  obtain ⟨A, n, c, R, hcs, r⟩ := open_ints_row hy2
  simp at e0 e1 hcs
  subst e0 e1 hcs
  exact ⟨b, s, A, n, c, R, rfl, r⟩
theorem ints_take (R : List Int) (n : Nat) : ints (R.take n) = (ints R).take n := by simp [ints, List.map_take]
theorem eq_ok (b s : Int) (R : List Int) : ((rangeErr b s R == 0) = rangeOk b s R) ∧ ((rangeErr b s R == 120) = !rangeOk b s R) := by
  unfold rangeErr
  cases rangeOk b s R <;> simp
set_option maxHeartbeats 1000000 in
theorem ranges_any (b s : Int) (A : Option Addr) (n c : Nat) (R : List Int) (w : World) (hT : TabAt w) (hA : At w w.heap.size A (ints R)) (hn : n = R.length) (hc : n ≤ c) (hn2 : (n : Int) ≤ 9223372036854775807) :
    Calls Tryd.prog 3 #[rangeV b s A n c] w fun e w' => e = .returned (.bool true) ∧ Below w.heap.size w w' := by
  have HT := Lib.hid hT
  by_cases h3 : 300 < n
  · obtain ⟨R', hR'⟩ : ∃ R', R' = R.take 300 := ⟨_, rfl⟩
    have HA := Lib.hid (show At w w.heap.size A (ints R') by rw [hR', ints_take]; exact hA.take 300)
    have HM := Lib.hid (show 300 = R'.length by rw [hR', List.length_take]; omega)
    have hmc : 300 ≤ c := by omega
    have ha : Option.map (fun x : Addr => x.add 0) A = A := by cases A <;> simp [Addr.add]
    clear hA hn hR' hT
    unfold rangeV
    cases hok : rangeOk b s R'
    · have HE := Lib.hid (show rangeErr b s R' = 120 by unfold rangeErr; rw [hok]; rfl)
      have HOK := Lib.hid hok
      clear hok
      go_enter Tryd.func3, Tryd.ntmps3
      go_wp2_with fail
      refine (check_any b s A 300 c R' _ (HA.out.move (by (repeat (first | exact Below.refl _ _ | exact Nat.le_refl _ | (refine below_ext ?_ (by first | (simp [size_ext, grow]; done) | (simp [size_ext, grow]; omega) | omega) _ _) | (refine Below.setCell ?_ (by first | (simp [size_ext, grow]; done) | (simp [size_ext, grow]; omega) | omega) _) | (refine Below.alloc ?_ (by first | (simp [size_ext, grow]; done) | (simp [size_ext, grow]; omega) | omega) _) | refine Below.drew ?_ | refine below_drewN ?_ _ | (refine Below.trans ?_ (Below.mono (by assumption) (by first | (simp [size_ext, grow]; done) | (simp [size_ext, grow]; omega) | omega)))))) (by simp)) HM.out (by omega)).mono ?_
      rw [HE.out]
      rintro e w1 ⟨rfl, hb⟩
      obtain ⟨xs, d, rfl⟩ := ext_of hb
      clear hb
      go_wp2_with fail
      refine (is_any b s A 300 c R' _ (HA.out.move (by (repeat (first | exact Below.refl _ _ | exact Nat.le_refl _ | (refine below_ext ?_ (by first | (simp [size_ext, grow]; done) | (simp [size_ext, grow]; omega) | omega) _ _) | (refine Below.setCell ?_ (by first | (simp [size_ext, grow]; done) | (simp [size_ext, grow]; omega) | omega) _) | (refine Below.alloc ?_ (by first | (simp [size_ext, grow]; done) | (simp [size_ext, grow]; omega) | omega) _) | refine Below.drew ?_ | refine below_drewN ?_ _ | (refine Below.trans ?_ (Below.mono (by assumption) (by first | (simp [size_ext, grow]; done) | (simp [size_ext, grow]; omega) | omega)))))) (by simp [size_ext, grow]; omega)) HM.out (by omega)).mono ?_
      rw [HOK.out]
      rintro e w1 ⟨rfl, hb⟩
      obtain ⟨xs2, d2, rfl⟩ := ext_of hb
      clear hb
      go_wp2_with fail
      refine (awake_any _ (HT.out.keep (by (repeat (first | exact Below.refl _ _ | exact Nat.le_refl _ | (refine below_ext ?_ (by first | (simp [size_ext, grow]; done) | (simp [size_ext, grow]; omega) | omega) _ _) | (refine Below.setCell ?_ (by first | (simp [size_ext, grow]; done) | (simp [size_ext, grow]; omega) | omega) _) | (refine Below.alloc ?_ (by first | (simp [size_ext, grow]; done) | (simp [size_ext, grow]; omega) | omega) _) | refine Below.drew ?_ | refine below_drewN ?_ _ | (refine Below.trans ?_ (Below.mono (by assumption) (by first | (simp [size_ext, grow]; done) | (simp [size_ext, grow]; omega) | omega)))))))).mono ?_
      rintro e w1 ⟨rfl, hb⟩
      obtain ⟨xs3, d3, rfl⟩ := ext_of hb
      clear hb
      go_wp2_with fail
      go_ret
      exact ⟨rfl, by (repeat (first | exact Below.refl _ _ | exact Nat.le_refl _ | (refine below_ext ?_ (by first | (simp [size_ext, grow]; done) | (simp [size_ext, grow]; omega) | omega) _ _) | (refine Below.setCell ?_ (by first | (simp [size_ext, grow]; done) | (simp [size_ext, grow]; omega) | omega) _) | (refine Below.alloc ?_ (by first | (simp [size_ext, grow]; done) | (simp [size_ext, grow]; omega) | omega) _) | refine Below.drew ?_ | refine below_drewN ?_ _ | (refine Below.trans ?_ (Below.mono (by assumption) (by first | (simp [size_ext, grow]; done) | (simp [size_ext, grow]; omega) | omega)))))⟩
    · have HE := Lib.hid (show rangeErr b s R' = 0 by unfold rangeErr; rw [hok]; rfl)
      have HOK := Lib.hid hok
      clear hok
      go_enter Tryd.func3, Tryd.ntmps3
      go_wp2_with fail
      refine (check_any b s A 300 c R' _ (HA.out.move (by (repeat (first | exact Below.refl _ _ | exact Nat.le_refl _ | (refine below_ext ?_ (by first | (simp [size_ext, grow]; done) | (simp [size_ext, grow]; omega) | omega) _ _) | (refine Below.setCell ?_ (by first | (simp [size_ext, grow]; done) | (simp [size_ext, grow]; omega) | omega) _) | (refine Below.alloc ?_ (by first | (simp [size_ext, grow]; done) | (simp [size_ext, grow]; omega) | omega) _) | refine Below.drew ?_ | refine below_drewN ?_ _ | (refine Below.trans ?_ (Below.mono (by assumption) (by first | (simp [size_ext, grow]; done) | (simp [size_ext, grow]; omega) | omega)))))) (by simp)) HM.out (by omega)).mono ?_
      rw [HE.out]
      rintro e w1 ⟨rfl, hb⟩
      obtain ⟨xs, d, rfl⟩ := ext_of hb
      clear hb
      go_wp2_with fail
      refine (is_any b s A 300 c R' _ (HA.out.move (by (repeat (first | exact Below.refl _ _ | exact Nat.le_refl _ | (refine below_ext ?_ (by first | (simp [size_ext, grow]; done) | (simp [size_ext, grow]; omega) | omega) _ _) | (refine Below.setCell ?_ (by first | (simp [size_ext, grow]; done) | (simp [size_ext, grow]; omega) | omega) _) | (refine Below.alloc ?_ (by first | (simp [size_ext, grow]; done) | (simp [size_ext, grow]; omega) | omega) _) | refine Below.drew ?_ | refine below_drewN ?_ _ | (refine Below.trans ?_ (Below.mono (by assumption) (by first | (simp [size_ext, grow]; done) | (simp [size_ext, grow]; omega) | omega)))))) (by simp [size_ext, grow]; omega)) HM.out (by omega)).mono ?_
      rw [HOK.out]
      rintro e w1 ⟨rfl, hb⟩
      obtain ⟨xs2, d2, rfl⟩ := ext_of hb
      clear hb
      go_wp2_with fail
      refine (awake_any _ (HT.out.keep (by (repeat (first | exact Below.refl _ _ | exact Nat.le_refl _ | (refine below_ext ?_ (by first | (simp [size_ext, grow]; done) | (simp [size_ext, grow]; omega) | omega) _ _) | (refine Below.setCell ?_ (by first | (simp [size_ext, grow]; done) | (simp [size_ext, grow]; omega) | omega) _) | (refine Below.alloc ?_ (by first | (simp [size_ext, grow]; done) | (simp [size_ext, grow]; omega) | omega) _) | refine Below.drew ?_ | refine below_drewN ?_ _ | (refine Below.trans ?_ (Below.mono (by assumption) (by first | (simp [size_ext, grow]; done) | (simp [size_ext, grow]; omega) | omega)))))))).mono ?_
      rintro e w1 ⟨rfl, hb⟩
      obtain ⟨xs3, d3, rfl⟩ := ext_of hb
      clear hb
      go_wp2_with fail
      go_ret
      exact ⟨rfl, by (repeat (first | exact Below.refl _ _ | exact Nat.le_refl _ | (refine below_ext ?_ (by first | (simp [size_ext, grow]; done) | (simp [size_ext, grow]; omega) | omega) _ _) | (refine Below.setCell ?_ (by first | (simp [size_ext, grow]; done) | (simp [size_ext, grow]; omega) | omega) _) | (refine Below.alloc ?_ (by first | (simp [size_ext, grow]; done) | (simp [size_ext, grow]; omega) | omega) _) | refine Below.drew ?_ | refine below_drewN ?_ _ | (refine Below.trans ?_ (Below.mono (by assumption) (by first | (simp [size_ext, grow]; done) | (simp [size_ext, grow]; omega) | omega)))))⟩
  · obtain ⟨R', hR'⟩ : ∃ R', R' = R := ⟨_, rfl⟩
    have HA := Lib.hid (show At w w.heap.size A (ints R') by rw [hR']; exact hA)
    have HM := Lib.hid (show n = R'.length by rw [hR']; exact hn)
    have h3' : n ≤ 300 := by omega
    clear hA hn hR' hT
    unfold rangeV
    cases hok : rangeOk b s R'
    · have HE := Lib.hid (show rangeErr b s R' = 120 by unfold rangeErr; rw [hok]; rfl)
      have HOK := Lib.hid hok
      clear hok
      go_enter Tryd.func3, Tryd.ntmps3
      go_wp2_with fail
      refine (check_any b s A n c R' _ (HA.out.move (by (repeat (first | exact Below.refl _ _ | exact Nat.le_refl _ | (refine below_ext ?_ (by first | (simp [size_ext, grow]; done) | (simp [size_ext, grow]; omega) | omega) _ _) | (refine Below.setCell ?_ (by first | (simp [size_ext, grow]; done) | (simp [size_ext, grow]; omega) | omega) _) | (refine Below.alloc ?_ (by first | (simp [size_ext, grow]; done) | (simp [size_ext, grow]; omega) | omega) _) | refine Below.drew ?_ | refine below_drewN ?_ _ | (refine Below.trans ?_ (Below.mono (by assumption) (by first | (simp [size_ext, grow]; done) | (simp [size_ext, grow]; omega) | omega)))))) (by simp)) HM.out (by omega)).mono ?_
      rw [HE.out]
      rintro e w1 ⟨rfl, hb⟩
      obtain ⟨xs, d, rfl⟩ := ext_of hb
      clear hb
      go_wp2_with fail
      refine (is_any b s A n c R' _ (HA.out.move (by (repeat (first | exact Below.refl _ _ | exact Nat.le_refl _ | (refine below_ext ?_ (by first | (simp [size_ext, grow]; done) | (simp [size_ext, grow]; omega) | omega) _ _) | (refine Below.setCell ?_ (by first | (simp [size_ext, grow]; done) | (simp [size_ext, grow]; omega) | omega) _) | (refine Below.alloc ?_ (by first | (simp [size_ext, grow]; done) | (simp [size_ext, grow]; omega) | omega) _) | refine Below.drew ?_ | refine below_drewN ?_ _ | (refine Below.trans ?_ (Below.mono (by assumption) (by first | (simp [size_ext, grow]; done) | (simp [size_ext, grow]; omega) | omega)))))) (by simp [size_ext, grow]; omega)) HM.out (by omega)).mono ?_
      rw [HOK.out]
      rintro e w1 ⟨rfl, hb⟩
      obtain ⟨xs2, d2, rfl⟩ := ext_of hb
      clear hb
      go_wp2_with fail
      refine (awake_any _ (HT.out.keep (by (repeat (first | exact Below.refl _ _ | exact Nat.le_refl _ | (refine below_ext ?_ (by first | (simp [size_ext, grow]; done) | (simp [size_ext, grow]; omega) | omega) _ _) | (refine Below.setCell ?_ (by first | (simp [size_ext, grow]; done) | (simp [size_ext, grow]; omega) | omega) _) | (refine Below.alloc ?_ (by first | (simp [size_ext, grow]; done) | (simp [size_ext, grow]; omega) | omega) _) | refine Below.drew ?_ | refine below_drewN ?_ _ | (refine Below.trans ?_ (Below.mono (by assumption) (by first | (simp [size_ext, grow]; done) | (simp [size_ext, grow]; omega) | omega)))))))).mono ?_
      rintro e w1 ⟨rfl, hb⟩
      obtain ⟨xs3, d3, rfl⟩ := ext_of hb
      clear hb
      go_wp2_with fail
      go_ret
      exact ⟨rfl, by (repeat (first | exact Below.refl _ _ | exact Nat.le_refl _ | (refine below_ext ?_ (by first | (simp [size_ext, grow]; done) | (simp [size_ext, grow]; omega) | omega) _ _) | (refine Below.setCell ?_ (by first | (simp [size_ext, grow]; done) | (simp [size_ext, grow]; omega) | omega) _) | (refine Below.alloc ?_ (by first | (simp [size_ext, grow]; done) | (simp [size_ext, grow]; omega) | omega) _) | refine Below.drew ?_ | refine below_drewN ?_ _ | (refine Below.trans ?_ (Below.mono (by assumption) (by first | (simp [size_ext, grow]; done) | (simp [size_ext, grow]; omega) | omega)))))⟩
    · have HE := Lib.hid (show rangeErr b s R' = 0 by unfold rangeErr; rw [hok]; rfl)
      have HOK := Lib.hid hok
      clear hok
      go_enter Tryd.func3, Tryd.ntmps3
      go_wp2_with fail
      refine (check_any b s A n c R' _ (HA.out.move (by (repeat (first | exact Below.refl _ _ | exact Nat.le_refl _ | (refine below_ext ?_ (by first | (simp [size_ext, grow]; done) | (simp [size_ext, grow]; omega) | omega) _ _) | (refine Below.setCell ?_ (by first | (simp [size_ext, grow]; done) | (simp [size_ext, grow]; omega) | omega) _) | (refine Below.alloc ?_ (by first | (simp [size_ext, grow]; done) | (simp [size_ext, grow]; omega) | omega) _) | refine Below.drew ?_ | refine below_drewN ?_ _ | (refine Below.trans ?_ (Below.mono (by assumption) (by first | (simp [size_ext, grow]; done) | (simp [size_ext, grow]; omega) | omega)))))) (by simp)) HM.out (by omega)).mono ?_
      rw [HE.out]
      rintro e w1 ⟨rfl, hb⟩
      obtain ⟨xs, d, rfl⟩ := ext_of hb
      clear hb
      go_wp2_with fail
      refine (is_any b s A n c R' _ (HA.out.move (by (repeat (first | exact Below.refl _ _ | exact Nat.le_refl _ | (refine below_ext ?_ (by first | (simp [size_ext, grow]; done) | (simp [size_ext, grow]; omega) | omega) _ _) | (refine Below.setCell ?_ (by first | (simp [size_ext, grow]; done) | (simp [size_ext, grow]; omega) | omega) _) | (refine Below.alloc ?_ (by first | (simp [size_ext, grow]; done) | (simp [size_ext, grow]; omega) | omega) _) | refine Below.drew ?_ | refine below_drewN ?_ _ | (refine Below.trans ?_ (Below.mono (by assumption) (by first | (simp [size_ext, grow]; done) | (simp [size_ext, grow]; omega) | omega)))))) (by simp [size_ext, grow]; omega)) HM.out (by omega)).mono ?_
      rw [HOK.out]
      rintro e w1 ⟨rfl, hb⟩
      obtain ⟨xs2, d2, rfl⟩ := ext_of hb
      clear hb
      go_wp2_with fail
      refine (awake_any _ (HT.out.keep (by (repeat (first | exact Below.refl _ _ | exact Nat.le_refl _ | (refine below_ext ?_ (by first | (simp [size_ext, grow]; done) | (simp [size_ext, grow]; omega) | omega) _ _) | (refine Below.setCell ?_ (by first | (simp [size_ext, grow]; done) | (simp [size_ext, grow]; omega) | omega) _) | (refine Below.alloc ?_ (by first | (simp [size_ext, grow]; done) | (simp [size_ext, grow]; omega) | omega) _) | refine Below.drew ?_ | refine below_drewN ?_ _ | (refine Below.trans ?_ (Below.mono (by assumption) (by first | (simp [size_ext, grow]; done) | (simp [size_ext, grow]; omega) | omega)))))))).mono ?_
      rintro e w1 ⟨rfl, hb⟩
      obtain ⟨xs3, d3, rfl⟩ := ext_of hb
      clear hb
      go_wp2_with fail
      go_ret
      exact ⟨rfl, by (repeat (first | exact Below.refl _ _ | exact Nat.le_refl _ | (refine below_ext ?_ (by first | (simp [size_ext, grow]; done) | (simp [size_ext, grow]; omega) | omega) _ _) | (refine Below.setCell ?_ (by first | (simp [size_ext, grow]; done) | (simp [size_ext, grow]; omega) | omega) _) | (refine Below.alloc ?_ (by first | (simp [size_ext, grow]; done) | (simp [size_ext, grow]; omega) | omega) _) | refine Below.drew ?_ | refine below_drewN ?_ _ | (refine Below.trans ?_ (Below.mono (by assumption) (by first | (simp [size_ext, grow]; done) | (simp [size_ext, grow]; omega) | omega)))))⟩
theorem poolRanges_calls {H : Type} (enc : TypeId × Value → H) (W : World) (base : Nat) (hT : TabAt W) (v0 : Value) (d0 : DataW H) (p0 : List MemPlace)
    (o0 : Value.okWide Tryd.prog W .any base 24 v0) (h0 : DataW.Trod enc Tryd.prog W 0 (fun _ => true) true 24 v0 d0 p0) :
    Calls Tryd.prog 3 #[v0] W fun e W' => e = .returned (.bool true) ∧ Below W.heap.size W W' := by
  obtain ⟨b, s, A, n, c, R, rfl, hA, hn, hc, hl⟩ := open_range o0 h0
  exact ranges_any b s A n c R W hT hA hn hc hl
end Go.Proofs.YtoilghhclpgfaaaDoor
