/- The walk of CpPackets. -/
import Derived.Test.YtjnahbiagfghgaaC17
import Derived.Test.YtjnahbiagfghgaaF
namespace Go.Proofs.Ytjnahbiagfghgaa
open Go.ChangeShapes Go.WideShapes Go.ChangeAt Go.RowKit Go.Joins
set_option linter.unusedSimpArgs false
set_option linter.unusedVariables false
set_option maxRecDepth 100000 in
set_option maxHeartbeats 4000000 in
theorem cpPackets_walk (A1 A2 : Option Addr) (n1 c1 n2 c2 : Nat) (l1 l2 : List UInt8) (p r : Int) (w : World) (hA1 : At w w.heap.size A1 (l1.map bv)) (hA2 : At w w.heap.size A2 (l2.map bv)) (hn1 : n1 = l1.length) (hn2 : n2 = l2.length)
    (b1 : n1 ≤ c1 ∧ (n1 : Int) ≤ 9223372036854775807) (b2 : n2 ≤ c2 ∧ (n2 : Int) ≤ 9223372036854775807) :
    Calls Try.prog 4 #[.slice A1 n1 c1, .agg #[.int .i64 p, .int .i64 r, .slice A2 n2 c2]] w fun e w' => e = .returned (.bool true) ∧ Below w.heap.size w w' := by
  have HA1 := Lib.hid (show At w w.heap.size A1 ((l1.take 1600).map bv) by rw [List.map_take]; exact hA1.take _)
  have HA2 := Lib.hid (show At w w.heap.size A2 ((l2.take 1600).map bv) by rw [List.map_take]; exact hA2.take _)
  have HB1 := Lib.hid b1
  have HB2 := Lib.hid b2
  have HN1 := Lib.hid (show cutN n1 = (l1.take 1600).length by rw [hn1]; exact cutN_len l1)
  have HN2 := Lib.hid (show cutN n2 = (l2.take 1600).length by rw [hn2]; exact cutN_len l2)
  have HM1 := Lib.hid (show cutN n1 ≤ 1600 ∧ cutN n1 ≤ c1 by have := cutN_le n1; omega)
  have HM2 := Lib.hid (show cutN n2 ≤ 1600 ∧ cutN n2 ≤ c2 by have := cutN_le n2; omega)
  clear hA1 hA2 b1 b2 hn1 hn2
  go_enter Try.func4, Try.ntmps4
  go_wp2_with fail
  go_region_with (go_at_call 8; refine (cut_n _ _ _ _ (by first | exact HB1.out | exact HB2.out)).mono ?_; rintro e w1 ⟨rfl, rfl⟩)
  all_goals
    go_wp2_with fail
    refine (dec_any A1 (cutN n1) c1 (l1.take 1600) _ w.heap.size (by simp [go_sem]) (HA1.out.keep (by (repeat (first | exact Below.refl _ _ | exact Nat.le_refl _ | (refine below_ext ?_ (by first | (simp [size_ext, grow]; done) | (simp [size_ext, grow]; omega)) _ _) | (refine Below.setCell ?_ (by first | (simp [size_ext, grow]; done) | (simp [size_ext, grow]; omega)) _) | (refine Below.alloc ?_ (by first | (simp [size_ext, grow]; done) | (simp [size_ext, grow]; omega)) _) | refine Below.drew ?_ | refine below_drewN ?_ _ | (refine Below.trans ?_ (Below.mono (by assumption) (by first | (simp [size_ext, grow]; done) | (simp [size_ext, grow]; omega)))))))) HN1.out (by have := HM1.out; omega) HM1.out.2).mono ?_; rintro e w1 ⟨v, rfl, hb, ho⟩; obtain ⟨xs1, d1, rfl⟩ := ext_of hb; clear hb; obtain ⟨B1, k1, rfl, -, -⟩ := ownsRow_form ho; have HO1 := Lib.hid ho; clear ho
    go_wp2_with fail
    refine (dec_ref A1 (cutN n1) c1 (l1.take 1600) _ w.heap.size (by simp [go_sem]) (HA1.out.keep (by (repeat (first | exact Below.refl _ _ | exact Nat.le_refl _ | (refine below_ext ?_ (by first | (simp [size_ext, grow]; done) | (simp [size_ext, grow]; omega)) _ _) | (refine Below.setCell ?_ (by first | (simp [size_ext, grow]; done) | (simp [size_ext, grow]; omega)) _) | (refine Below.alloc ?_ (by first | (simp [size_ext, grow]; done) | (simp [size_ext, grow]; omega)) _) | refine Below.drew ?_ | refine below_drewN ?_ _ | (refine Below.trans ?_ (Below.mono (by assumption) (by first | (simp [size_ext, grow]; done) | (simp [size_ext, grow]; omega)))))))) HN1.out (by have := HM1.out; omega) HM1.out.2).mono ?_; rintro e w1 ⟨v, rfl, hb, ho⟩; obtain ⟨xs2, d2, rfl⟩ := ext_of hb; clear hb; obtain ⟨B2, k2, rfl, -, -⟩ := ownsRow_form ho; have HO2 := Lib.hid ho; clear ho
    go_wp2_with fail
    refine (enc_any p r A2 (cutN n2) c2 (l2.take 1600) _ w.heap.size (by simp [go_sem]) (HA2.out.keep (by (repeat (first | exact Below.refl _ _ | exact Nat.le_refl _ | (refine below_ext ?_ (by first | (simp [size_ext, grow]; done) | (simp [size_ext, grow]; omega)) _ _) | (refine Below.setCell ?_ (by first | (simp [size_ext, grow]; done) | (simp [size_ext, grow]; omega)) _) | (refine Below.alloc ?_ (by first | (simp [size_ext, grow]; done) | (simp [size_ext, grow]; omega)) _) | refine Below.drew ?_ | refine below_drewN ?_ _ | (refine Below.trans ?_ (Below.mono (by assumption) (by first | (simp [size_ext, grow]; done) | (simp [size_ext, grow]; omega)))))))) HN2.out (by have := HM2.out; omega)).mono ?_; rintro e w1 ⟨v, rfl, hb, ho⟩; obtain ⟨xs3, d3, rfl⟩ := ext_of hb; clear hb; obtain ⟨B3, k3, rfl, -, -⟩ := ownsRow_form ho; have HO3 := Lib.hid ho; clear ho
    go_wp2_with fail
    refine (enc_ref p r A2 (cutN n2) c2 (l2.take 1600) _ w.heap.size (by simp [go_sem]) (HA2.out.keep (by (repeat (first | exact Below.refl _ _ | exact Nat.le_refl _ | (refine below_ext ?_ (by first | (simp [size_ext, grow]; done) | (simp [size_ext, grow]; omega)) _ _) | (refine Below.setCell ?_ (by first | (simp [size_ext, grow]; done) | (simp [size_ext, grow]; omega)) _) | (refine Below.alloc ?_ (by first | (simp [size_ext, grow]; done) | (simp [size_ext, grow]; omega)) _) | refine Below.drew ?_ | refine below_drewN ?_ _ | (refine Below.trans ?_ (Below.mono (by assumption) (by first | (simp [size_ext, grow]; done) | (simp [size_ext, grow]; omega)))))))) HN2.out (by have := HM2.out; omega)).mono ?_; rintro e w1 ⟨v, rfl, hb, ho⟩; obtain ⟨xs4, d4, rfl⟩ := ext_of hb; clear hb; obtain ⟨B4, k4, rfl, -, -⟩ := ownsRow_form ho; have HO4 := Lib.hid ho; clear ho
    go_wp2_with fail
    refine (same_true _ _ B1 B2 _ k1 k2 (decData (l1.take 1600)) _ _ (Nat.le_refl _) ((At.of_own HO1.out).move (by (repeat (first | exact Below.refl _ _ | exact Nat.le_refl _ | (refine below_ext ?_ (by first | (simp [size_ext, grow]; done) | (simp [size_ext, grow]; omega)) _ _) | (refine Below.setCell ?_ (by first | (simp [size_ext, grow]; done) | (simp [size_ext, grow]; omega)) _) | (refine Below.alloc ?_ (by first | (simp [size_ext, grow]; done) | (simp [size_ext, grow]; omega)) _) | refine Below.drew ?_ | refine below_drewN ?_ _ | (refine Below.trans ?_ (Below.mono (by assumption) (by first | (simp [size_ext, grow]; done) | (simp [size_ext, grow]; omega))))))) (by first | (simp [size_ext, grow]; done) | (simp [size_ext, grow]; omega))) ((At.of_own HO2.out).move (by (repeat (first | exact Below.refl _ _ | exact Nat.le_refl _ | (refine below_ext ?_ (by first | (simp [size_ext, grow]; done) | (simp [size_ext, grow]; omega)) _ _) | (refine Below.setCell ?_ (by first | (simp [size_ext, grow]; done) | (simp [size_ext, grow]; omega)) _) | (refine Below.alloc ?_ (by first | (simp [size_ext, grow]; done) | (simp [size_ext, grow]; omega)) _) | refine Below.drew ?_ | refine below_drewN ?_ _ | (refine Below.trans ?_ (Below.mono (by assumption) (by first | (simp [size_ext, grow]; done) | (simp [size_ext, grow]; omega))))))) (by first | (simp [size_ext, grow]; done) | (simp [size_ext, grow]; omega))) rfl).mono ?_; rintro e w1 ⟨rfl, hb⟩; obtain ⟨xs, d, rfl⟩ := ext_of hb; clear hb
    have hA3 := At.of_own HO3.out
    have hA4 := At.of_own HO4.out
    simp only [size_ext, World.size_alloc, World.size_drew, grow_succ] at hA3 hA4
    have q3 : ∀ W : World, At W (grow (grow (grow w.heap.size xs1) xs2) xs3 + 1 + 1 + 1) B3 ((encB p r (l2.take 1600)).map bv) → (convert 22 9 (.slice B3 (encB p r (l2.take 1600)).length k3)).run Try.prog W = .ok (.string ⟨(encB p r (l2.take 1600)).toArray⟩) W := fun W h => run_str Try.underlying22 Try.underlying5 Try.underlying9 rfl h
    have q4 : ∀ W : World, At W (grow (grow (grow (grow w.heap.size xs1) xs2) xs3) xs4 + 1 + 1 + 1) B4 ((encB p r (l2.take 1600)).map bv) → (convert 22 9 (.slice B4 (encB p r (l2.take 1600)).length k4)).run Try.prog W = .ok (.string ⟨(encB p r (l2.take 1600)).toArray⟩) W := fun W h => run_str Try.underlying22 Try.underlying5 Try.underlying9 rfl h
    go_wp2_with (go_at_call 14; refine (awake_any _).mono ?_; rintro e w1 ⟨rfl, hb⟩; obtain ⟨xs, d, rfl⟩ := ext_of hb; clear hb)
    go_ret
    exact ⟨rfl, by (repeat (first | exact Below.refl _ _ | exact Nat.le_refl _ | (refine below_ext ?_ (by first | (simp [size_ext, grow]; done) | (simp [size_ext, grow]; omega)) _ _) | (refine Below.setCell ?_ (by first | (simp [size_ext, grow]; done) | (simp [size_ext, grow]; omega)) _) | (refine Below.alloc ?_ (by first | (simp [size_ext, grow]; done) | (simp [size_ext, grow]; omega)) _) | refine Below.drew ?_ | refine below_drewN ?_ _ | (refine Below.trans ?_ (Below.mono (by assumption) (by first | (simp [size_ext, grow]; done) | (simp [size_ext, grow]; omega))))))⟩
theorem cpPackets_calls {H : Type} (enc : TypeId × Value → H) (W : World) (base : Nat) (v0 v1 : Value) (d0 d1 : DataW H) (p0 p1 : List MemPlace)
    (o0 : Value.okWide Try.prog W .any base 22 v0) (o1 : Value.okWide Try.prog W .any base 39 v1)
    (h0 : DataW.Trod enc Try.prog W 0 (fun _ => true) true 22 v0 d0 p0) (h1 : DataW.Trod enc Try.prog W 0 (fun _ => true) true 39 v1 d1 p1) :
    Calls Try.prog 4 #[v0, v1] W fun e W' => e = .returned (.bool true) ∧ Below W.heap.size W W' := by
  obtain ⟨A1, n1, c1, l1, rfl, hA1, hn1, hc1, hm1⟩ := open_bytes_arg o0 h0
  obtain ⟨p, r, A2, n2, c2, l2, rfl, hA2, hn2, hc2, hm2⟩ := open_ctl o1 h1
  exact cpPackets_walk A1 A2 n1 c1 n2 c2 l1 l2 p r W hA1 hA2 hn1 hn2 ⟨hc1, hm1⟩ ⟨hc2, hm2⟩
end Go.Proofs.Ytjnahbiagfghgaa
