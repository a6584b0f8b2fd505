/- The walk of CpBack: the beginning. -/
import Derived.Test.YtjnahbiagfghgaaC25
import Derived.Test.YtjnahbiagfghgaaC26
import Derived.StillTailTactics
import Derived.Test.YtjnahbiagfghgaaS2
namespace Go.Proofs.Ytjnahbiagfghgaa
open Go.RowKit
set_option linter.unusedSimpArgs false
set_option linter.unusedVariables false
theorem splitRest_le (l : List UInt8) : (splitRest l).length ≤ l.length := by
  unfold splitRest
  split
  · rw [List.length_drop]; omega
  · simp
theorem cut_still (A : Option Addr) (len c : Nat) (w : World) (h : len ≤ c ∧ (len : Int) ≤ 9223372036854775807) :
    Calls Try.prog 8 #[.slice A len c] w fun e w' => e = .returned (.slice A (cutN len) c) ∧ w' = w := (cut_n A len c w h).mono fun _ _ h => ⟨h.1, h.2.symm⟩
theorem samePPP2 (p : Int) (A1 A2 : Option Addr) (n m c1 c2 : Nat) (l : List UInt8) (w : World) (B : Nat) (hB : B ≤ w.heap.size) (g1 : At w B A1 (l.map bv)) (g2 : At w B A2 (l.map bv)) (hn : n = l.length) (hm : m = l.length) :
    Calls Try.prog 13 #[.agg #[.int .i64 p, .slice A1 n c1], .agg #[.int .i64 p, .slice A2 m c2]] w fun e w' => e = .returned (.bool true) ∧ Below w.heap.size w w' := by
  subst hn hm
  exact samePPP_true p A1 A2 _ c1 c2 l w B hB g1 g2 rfl
theorem same2 (a b : Int) (A1 A2 : Option Addr) (n m c1 c2 : Nat) (l : List UInt8) (w : World) (B : Nat) (hB : B ≤ w.heap.size) (g1 : At w B A1 (l.map bv)) (g2 : At w B A2 (l.map bv)) (hn : n = l.length) (hm : m = l.length) :
    Calls Try.prog 19 #[.agg #[.int .i64 a, .int .i64 b, .slice A1 n c1], .agg #[.int .i64 a, .int .i64 b, .slice A2 m c2]] w fun e w' => e = .returned (.bool true) ∧ Below w.heap.size w w' := by
  subst hn hm
  exact same_true a b A1 A2 _ c1 c2 l w B hB g1 g2 rfl
set_option maxRecDepth 100000 in
set_option maxHeartbeats 4000000 in
theorem cpBack_walk (A1 A2 A3 A4 : Option Addr) (n1 c1 n2 c2 n3 c3 n4 c4 : Nat) (l1 l2 l3 l4 : List UInt8) (p a b : Int) (w : World) (hA1 : At w w.heap.size A1 (l1.map bv)) (hA2 : At w w.heap.size A2 (l2.map bv)) (hA3 : At w w.heap.size A3 (l3.map bv)) (hA4 : At w w.heap.size A4 (l4.map bv))
    (hn1 : n1 = l1.length) (hn2 : n2 = l2.length) (hn3 : n3 = l3.length) (hn4 : n4 = l4.length)
    (b1 : n1 ≤ c1 ∧ (n1 : Int) ≤ 9223372036854775807) (b2 : n2 ≤ c2 ∧ (n2 : Int) ≤ 9223372036854775807) (b3 : n3 ≤ c3 ∧ (n3 : Int) ≤ 9223372036854775807) (b4 : n4 ≤ c4 ∧ (n4 : Int) ≤ 9223372036854775807) :
    Calls Try.prog 5 #[.agg #[.int .i64 p, .slice A1 n1 c1], .agg #[.int .i64 a, .int .i64 b, .slice A2 n2 c2], .slice A3 n3 c3, .slice A4 n4 c4] w fun e w' => e = .returned (.bool true) ∧ Below w.heap.size w w' := by
  have HB1 := Lib.hid b1
  have HB2 := Lib.hid b2
  have HB3 := Lib.hid b3
  have HB4 := Lib.hid b4
  obtain ⟨L1, hL1⟩ : ∃ L, L = l1.take 1600 := ⟨_, rfl⟩
  have HA1 := Lib.hid (show At w w.heap.size A1 (L1.map bv) by rw [hL1, List.map_take]; exact hA1.take _)
  have HN1 := Lib.hid (show cutN n1 = L1.length by rw [hn1, hL1]; exact cutN_len l1)
  have HM1 := Lib.hid (show cutN n1 ≤ 1600 ∧ cutN n1 ≤ c1 by have := cutN_le n1; omega)
  obtain ⟨L2, hL2⟩ : ∃ L, L = l2.take 1600 := ⟨_, rfl⟩
  have HA2 := Lib.hid (show At w w.heap.size A2 (L2.map bv) by rw [hL2, List.map_take]; exact hA2.take _)
  have HN2 := Lib.hid (show cutN n2 = L2.length by rw [hn2, hL2]; exact cutN_len l2)
  have HM2 := Lib.hid (show cutN n2 ≤ 1600 ∧ cutN n2 ≤ c2 by have := cutN_le n2; omega)
  obtain ⟨L3, hL3⟩ : ∃ L, L = l3.take 1600 := ⟨_, rfl⟩
  have HA3 := Lib.hid (show At w w.heap.size A3 (L3.map bv) by rw [hL3, List.map_take]; exact hA3.take _)
  have HN3 := Lib.hid (show cutN n3 = L3.length by rw [hn3, hL3]; exact cutN_len l3)
  have HM3 := Lib.hid (show cutN n3 ≤ 1600 ∧ cutN n3 ≤ c3 by have := cutN_le n3; omega)
  obtain ⟨L4, hL4⟩ : ∃ L, L = l4.take 1600 := ⟨_, rfl⟩
  have HA4 := Lib.hid (show At w w.heap.size A4 (L4.map bv) by rw [hL4, List.map_take]; exact hA4.take _)
  have HN4 := Lib.hid (show cutN n4 = L4.length by rw [hn4, hL4]; exact cutN_len l4)
  have HM4 := Lib.hid (show cutN n4 ≤ 1600 ∧ cutN n4 ≤ c4 by have := cutN_le n4; omega)
  clear b1 b2 b3 b4 hA1 hA2 hA3 hA4 hn1 hn2 hn3 hn4 hL1 hL2 hL3 hL4
  go_enter Try.func5, Try.ntmps5
  go_wp2_with fail
  refine wp_region_still_tail 11 (by kernel_rfl) (by kernel_rfl) ?_
  change wpStill _ _ (World.drew _) (fun a' => wpList _ _ _ _ a' (World.drew _)) _ _
  simp only [List.take_succ_cons, List.take_zero, List.drop_succ_cons, List.drop_zero]
  repeat still_step
  still_call (cut_still A1 n1 c1 _ HB1.out)
  repeat still_step
  still_call (cut_still A2 n2 c2 _ HB2.out)
  repeat still_step
  still_call (cut_still A3 n3 c3 _ HB3.out)
  repeat still_step
  still_call (cut_still A4 n4 c4 _ HB4.out)
  repeat still_step
  refine wpStill_nil ?_
  go_upto_if 46 with (go_at_call 11; refine (join_any p A1 (cutN n1) c1 L1 _ w.heap.size (by simp [go_sem]) (HA1.out.keep (by (repeat (first | exact Below.refl _ _ | exact Nat.le_refl _ | (refine below_ext ?_ (by first | (simp [size_ext, grow]; done) | (simp [size_ext, grow]; omega)) _ _) | (refine Below.setCell ?_ (by first | (simp [size_ext, grow]; done) | (simp [size_ext, grow]; omega)) _) | (refine Below.alloc ?_ (by first | (simp [size_ext, grow]; done) | (simp [size_ext, grow]; omega)) _) | refine Below.drew ?_ | refine below_drewN ?_ _ | (refine Below.trans ?_ (Below.mono (by assumption) (by first | (simp [size_ext, grow]; done) | (simp [size_ext, grow]; omega)))))))) HN1.out (by have := HM1.out; omega)).mono ?_; rintro e w1 ⟨v, rfl, hb, ho⟩; obtain ⟨xs1, d1, rfl⟩ := ext_of hb; clear hb; obtain ⟨B1, k1, rfl, hk1, -⟩ := ownsRow_form ho; have HO1 := Lib.hid ho; have HK1 := Lib.hid hk1; clear ho hk1)
  go_cut [] (fun wx => ∃ xs d, wx = ext ((w.alloc (.cells #[.int .i64 p, .slice A1 (cutN n1) c1] 24)).alloc (.cells #[.int .i64 a, .int .i64 b, .slice A2 (cutN n2) c2] 39)) xs d)
  case first =>
    by_cases e : joinErr p L1.length = 0
    · obtain ⟨s1, s2, s3⟩ := back_split p L1 e
      have S3 := Lib.hid s3
      have e' : (joinErr p L1.length == 0) = true := by simp [e]
      clear e s3
      go_wp2_with fail
      refine (split_any B1 (joinB p L1).length k1 (joinB p L1) _ _ (Nat.le_refl _) (At.of_own HO1.out) rfl (by have := joinB_len p L1; omega) HK1.out).mono ?_; rintro e w1 ⟨v, rfl, hb, ho⟩; obtain ⟨xs2, d2, rfl⟩ := ext_of hb; clear hb; rw [S3.out] at ho; obtain ⟨B2, k2, rfl, -, -⟩ := ownsRow_form ho; have HO2 := Lib.hid ho; clear ho
      go_wp2_with fail
      refine (samePPP2 p B2 A1 _ _ k2 c1 L1 _ _ (Nat.le_refl _) ((At.of_own HO2.out).move (by (repeat (first | exact Below.refl _ _ | exact Nat.le_refl _ | (refine below_ext ?_ (by first | (simp [size_ext, grow]; done) | (simp [size_ext, grow]; omega)) _ _) | (refine Below.setCell ?_ (by first | (simp [size_ext, grow]; done) | (simp [size_ext, grow]; omega)) _) | (refine Below.alloc ?_ (by first | (simp [size_ext, grow]; done) | (simp [size_ext, grow]; omega)) _) | refine Below.drew ?_ | refine below_drewN ?_ _ | (refine Below.trans ?_ (Below.mono (by assumption) (by first | (simp [size_ext, grow]; done) | (simp [size_ext, grow]; omega))))))) (by first | (simp [size_ext, grow]; done) | (simp [size_ext, grow]; omega))) (HA1.out.move (by (repeat (first | exact Below.refl _ _ | exact Nat.le_refl _ | (refine below_ext ?_ (by first | (simp [size_ext, grow]; done) | (simp [size_ext, grow]; omega)) _ _) | (refine Below.setCell ?_ (by first | (simp [size_ext, grow]; done) | (simp [size_ext, grow]; omega)) _) | (refine Below.alloc ?_ (by first | (simp [size_ext, grow]; done) | (simp [size_ext, grow]; omega)) _) | refine Below.drew ?_ | refine below_drewN ?_ _ | (refine Below.trans ?_ (Below.mono (by assumption) (by first | (simp [size_ext, grow]; done) | (simp [size_ext, grow]; omega))))))) (by first | (simp [size_ext, grow]; done) | (simp [size_ext, grow]; omega))) rfl HN1.out).mono ?_; rintro e w1 ⟨rfl, hb⟩; obtain ⟨xs3, d3, rfl⟩ := ext_of hb; clear hb
      go_wp2_with fail
      go_meet
      exact ext_of (show Below _ ((w.alloc (.cells #[.int .i64 p, .slice A1 (cutN n1) c1] 24)).alloc (.cells #[.int .i64 a, .int .i64 b, .slice A2 (cutN n2) c2] 39)) _ by (repeat (first | exact Below.refl _ _ | exact Nat.le_refl _ | (refine below_ext ?_ (by first | (simp [size_ext, grow]; done) | (simp [size_ext, grow]; omega)) _ _) | (refine Below.setCell ?_ (by first | (simp [size_ext, grow]; done) | (simp [size_ext, grow]; omega)) _) | (refine Below.alloc ?_ (by first | (simp [size_ext, grow]; done) | (simp [size_ext, grow]; omega)) _) | refine Below.drew ?_ | refine below_drewN ?_ _ | (refine Below.trans ?_ (Below.mono (by assumption) (by first | (simp [size_ext, grow]; done) | (simp [size_ext, grow]; omega)))))))
    · have e' : (joinErr p L1.length == 0) = false := by simp [e]
      clear e
      go_wp2_with fail
      go_meet
      exact ext_of (show Below _ ((w.alloc (.cells #[.int .i64 p, .slice A1 (cutN n1) c1] 24)).alloc (.cells #[.int .i64 a, .int .i64 b, .slice A2 (cutN n2) c2] 39)) _ by (repeat (first | exact Below.refl _ _ | exact Nat.le_refl _ | (refine below_ext ?_ (by first | (simp [size_ext, grow]; done) | (simp [size_ext, grow]; omega)) _ _) | (refine Below.setCell ?_ (by first | (simp [size_ext, grow]; done) | (simp [size_ext, grow]; omega)) _) | (refine Below.alloc ?_ (by first | (simp [size_ext, grow]; done) | (simp [size_ext, grow]; omega)) _) | refine Below.drew ?_ | refine below_drewN ?_ _ | (refine Below.trans ?_ (Below.mono (by assumption) (by first | (simp [size_ext, grow]; done) | (simp [size_ext, grow]; omega)))))))
  case rest =>
    obtain ⟨xs, d, rfl⟩ := hcut
    go_upto_if 66 with (go_at_call 17; refine (enc_any a b A2 (cutN n2) c2 L2 _ w.heap.size (by simp [go_sem]) (HA2.out.keep (by (repeat (first | exact Below.refl _ _ | exact Nat.le_refl _ | (refine below_ext ?_ (by first | (simp [size_ext, grow]; done) | (simp [size_ext, grow]; omega)) _ _) | (refine Below.setCell ?_ (by first | (simp [size_ext, grow]; done) | (simp [size_ext, grow]; omega)) _) | (refine Below.alloc ?_ (by first | (simp [size_ext, grow]; done) | (simp [size_ext, grow]; omega)) _) | refine Below.drew ?_ | refine below_drewN ?_ _ | (refine Below.trans ?_ (Below.mono (by assumption) (by first | (simp [size_ext, grow]; done) | (simp [size_ext, grow]; omega)))))))) HN2.out (by have := HM2.out; omega)).mono ?_; rintro e w1 ⟨v, rfl, hb, ho⟩; obtain ⟨xs1, d1, rfl⟩ := ext_of hb; clear hb; obtain ⟨B1, k1, rfl, hk1, -⟩ := ownsRow_form ho; have HO1 := Lib.hid ho; have HK1 := Lib.hid hk1; clear ho hk1)
    go_cut [] (fun wx => ∃ xs d, wx = ext ((w.alloc (.cells #[.int .i64 p, .slice A1 (cutN n1) c1] 24)).alloc (.cells #[.int .i64 a, .int .i64 b, .slice A2 (cutN n2) c2] 39)) xs d)
    case first =>
      by_cases e : encErr a b L2.length = 0
      · obtain ⟨s1, s2, s3, s4⟩ := back_dec a b L2 L4 e
        have S4 := Lib.hid s4
        have e' : (encErr a b L2.length == 0) = true := by simp [e]
        have hE := Lib.hid (encB_len a b L2)
        clear e s4
        have hE4 := Lib.hid (show (encB a b L2 ++ L4).length = (encB a b L2).length + cutN n4 by rw [List.length_append, HN4.out])
        go_wp2_with (at_builtin; first | ((apply wpList_dupb (P := Try.prog) (w1 := ext (ext ((w.alloc (.cells #[.int .i64 p, .slice A1 (cutN n1) c1] 24)).alloc (.cells #[.int .i64 a, .int .i64 b, .slice A2 (cutN n2) c2] 39)) xs d) xs1 d1) (s := .tmp 68) (x := .tmp 69) (t := 22) (e := 5) (N := grow (grow w.heap.size xs) xs1 + 1 + 1) (B := (ext (ext ((w.alloc (.cells #[.int .i64 p, .slice A1 (cutN n1) c1] 24)).alloc (.cells #[.int .i64 a, .int .i64 b, .slice A2 (cutN n2) c2] 39)) xs d) xs1 d1).heap.size) (A := B1) (m := (encB a b L2).length) (c := k1) (l := encB a b L2)); go_loud (exact rfl); go_loud (exact rfl); go_loud (exact Try.underlying22); go_loud (exact infoU8); (simp [size_ext, grow]; omega); exact rfl; go_loud (exact rfl); go_loud (exact rfl); go_loud (have := hE.out; omega); go_loud (exact At.of_own HO1.out); go_loud (exact Nat.le_refl _); intro v' ys d' hown; obtain ⟨A5, c5, rfl, -, -⟩ := ownsRow_form hown; have HO5 := Lib.hid hown; clear hown) | (apply wpList_appb2 (P := Try.prog) (w1 := (ext (ext ((w.alloc (.cells #[.int .i64 p, .slice A1 (cutN n1) c1] 24)).alloc (.cells #[.int .i64 a, .int .i64 b, .slice A2 (cutN n2) c2] 39)) xs d) xs1 d1)) (s := .tmp 70) (x := .tmp 71) (t := 22) (e := 5) (A0 := A5) (c0 := c5) (n := (encB a b L2).length) (xs := encB a b L2) (B := w.heap.size) (A := A4) (m := cutN n4) (c := c4) (l := L4); exact rfl; exact rfl; exact Try.underlying22; exact infoU8; exact rfl; go_loud (exact HO5.out); exact rfl; exact HN4.out; (have := hE.out; have := HM4.out; omega); go_loud (exact HA4.out.keep (by (repeat (first | exact Below.refl _ _ | exact Nat.le_refl _ | (refine below_ext ?_ (by first | (simp [size_ext, grow]; done) | (simp [size_ext, grow]; omega)) _ _) | (refine Below.setCell ?_ (by first | (simp [size_ext, grow]; done) | (simp [size_ext, grow]; omega)) _) | (refine Below.alloc ?_ (by first | (simp [size_ext, grow]; done) | (simp [size_ext, grow]; omega)) _) | refine Below.drew ?_ | refine below_drewN ?_ _ | (refine Below.trans ?_ (Below.mono (by assumption) (by first | (simp [size_ext, grow]; done) | (simp [size_ext, grow]; omega)))))))); go_loud ((repeat (first | exact Below.refl _ _ | exact Nat.le_refl _ | (refine below_ext ?_ (by first | (simp [size_ext, grow]; done) | (simp [size_ext, grow]; omega)) _ _) | (refine Below.setCell ?_ (by first | (simp [size_ext, grow]; done) | (simp [size_ext, grow]; omega)) _) | (refine Below.alloc ?_ (by first | (simp [size_ext, grow]; done) | (simp [size_ext, grow]; omega)) _) | refine Below.drew ?_ | refine below_drewN ?_ _ | (refine Below.trans ?_ (Below.mono (by assumption) (by first | (simp [size_ext, grow]; done) | (simp [size_ext, grow]; omega))))))); intro A6 c6 ys6 d6 hown6 hc6 hA6; clear hA6; have HO6 := Lib.hid hown6; have HC6 := Lib.hid hc6; clear hown6 hc6))
        refine (dec_any A6 ((encB a b L2).length + cutN n4) c6 (encB a b L2 ++ L4) _ _ (Nat.le_refl _) (At.of_own HO6.out) hE4.out.symm (by have := hE.out; have := HM4.out; omega) HC6.out).mono ?_; rintro e w1 ⟨v, rfl, hb, ho⟩; obtain ⟨xs3, d3, rfl⟩ := ext_of hb; clear hb; rw [S4.out] at ho; obtain ⟨B3, k3, rfl, -, -⟩ := ownsRow_form ho; have HO3 := Lib.hid ho; clear ho
        go_wp2_with fail
        refine (same2 a b B3 A2 _ _ k3 c2 L2 _ _ (Nat.le_refl _) ((At.of_own HO3.out).move (by (repeat (first | exact Below.refl _ _ | exact Nat.le_refl _ | (refine below_ext ?_ (by first | (simp [size_ext, grow]; done) | (simp [size_ext, grow]; omega)) _ _) | (refine Below.setCell ?_ (by first | (simp [size_ext, grow]; done) | (simp [size_ext, grow]; omega)) _) | (refine Below.alloc ?_ (by first | (simp [size_ext, grow]; done) | (simp [size_ext, grow]; omega)) _) | refine Below.drew ?_ | refine below_drewN ?_ _ | (refine Below.trans ?_ (Below.mono (by assumption) (by first | (simp [size_ext, grow]; done) | (simp [size_ext, grow]; omega))))))) (by first | (simp [size_ext, grow]; done) | (simp [size_ext, grow]; omega))) (HA2.out.move (by (repeat (first | exact Below.refl _ _ | exact Nat.le_refl _ | (refine below_ext ?_ (by first | (simp [size_ext, grow]; done) | (simp [size_ext, grow]; omega)) _ _) | (refine Below.setCell ?_ (by first | (simp [size_ext, grow]; done) | (simp [size_ext, grow]; omega)) _) | (refine Below.alloc ?_ (by first | (simp [size_ext, grow]; done) | (simp [size_ext, grow]; omega)) _) | refine Below.drew ?_ | refine below_drewN ?_ _ | (refine Below.trans ?_ (Below.mono (by assumption) (by first | (simp [size_ext, grow]; done) | (simp [size_ext, grow]; omega))))))) (by first | (simp [size_ext, grow]; done) | (simp [size_ext, grow]; omega))) rfl HN2.out).mono ?_; rintro e w1 ⟨rfl, hb⟩; obtain ⟨xs5, d5, rfl⟩ := ext_of hb; clear hb
        go_wp2_with fail
        go_meet
        exact ext_of (show Below _ ((w.alloc (.cells #[.int .i64 p, .slice A1 (cutN n1) c1] 24)).alloc (.cells #[.int .i64 a, .int .i64 b, .slice A2 (cutN n2) c2] 39)) _ by (repeat (first | exact Below.refl _ _ | exact Nat.le_refl _ | (refine below_ext ?_ (by first | (simp [size_ext, grow]; done) | (simp [size_ext, grow]; omega)) _ _) | (refine Below.setCell ?_ (by first | (simp [size_ext, grow]; done) | (simp [size_ext, grow]; omega)) _) | (refine Below.alloc ?_ (by first | (simp [size_ext, grow]; done) | (simp [size_ext, grow]; omega)) _) | refine Below.drew ?_ | refine below_drewN ?_ _ | (refine Below.trans ?_ (Below.mono (by assumption) (by first | (simp [size_ext, grow]; done) | (simp [size_ext, grow]; omega)))))))
      · have e' : (encErr a b L2.length == 0) = false := by simp [e]
        clear e
        go_wp2_with fail
        go_meet
        exact ext_of (show Below _ ((w.alloc (.cells #[.int .i64 p, .slice A1 (cutN n1) c1] 24)).alloc (.cells #[.int .i64 a, .int .i64 b, .slice A2 (cutN n2) c2] 39)) _ by (repeat (first | exact Below.refl _ _ | exact Nat.le_refl _ | (refine below_ext ?_ (by first | (simp [size_ext, grow]; done) | (simp [size_ext, grow]; omega)) _ _) | (refine Below.setCell ?_ (by first | (simp [size_ext, grow]; done) | (simp [size_ext, grow]; omega)) _) | (refine Below.alloc ?_ (by first | (simp [size_ext, grow]; done) | (simp [size_ext, grow]; omega)) _) | refine Below.drew ?_ | refine below_drewN ?_ _ | (refine Below.trans ?_ (Below.mono (by assumption) (by first | (simp [size_ext, grow]; done) | (simp [size_ext, grow]; omega)))))))
    case rest =>
      obtain ⟨xs, d, rfl⟩ := hcut
      have q3 : ∀ W : World, At W w.heap.size A3 (L3.map bv) → (convert 22 9 (.slice A3 (cutN n3) c3)).run Try.prog W = .ok (.string ⟨L3.toArray⟩) W := fun W h => run_str Try.underlying22 Try.underlying5 Try.underlying9 HN3.out h
      have g3 : At (ext ((w.alloc (.cells #[.int .i64 p, .slice A1 (cutN n1) c1] 24)).alloc (.cells #[.int .i64 a, .int .i64 b, .slice A2 (cutN n2) c2] 39)) xs d) w.heap.size A3 (L3.map bv) := HA3.out.keep (by (repeat (first | exact Below.refl _ _ | exact Nat.le_refl _ | (refine below_ext ?_ (by first | (simp [size_ext, grow]; done) | (simp [size_ext, grow]; omega)) _ _) | (refine Below.setCell ?_ (by first | (simp [size_ext, grow]; done) | (simp [size_ext, grow]; omega)) _) | (refine Below.alloc ?_ (by first | (simp [size_ext, grow]; done) | (simp [size_ext, grow]; omega)) _) | refine Below.drew ?_ | refine below_drewN ?_ _ | (refine Below.trans ?_ (Below.mono (by assumption) (by first | (simp [size_ext, grow]; done) | (simp [size_ext, grow]; omega)))))))
      go_upto_if 92 with (go_at_call 9; go_loud (refine (split_any A3 (cutN n3) c3 L3 _ w.heap.size (by simp [go_sem]) (HA3.out.keep (by (repeat (first | exact Below.refl _ _ | exact Nat.le_refl _ | (refine below_ext ?_ (by first | (simp [size_ext, grow]; done) | (simp [size_ext, grow]; omega)) _ _) | (refine Below.setCell ?_ (by first | (simp [size_ext, grow]; done) | (simp [size_ext, grow]; omega)) _) | (refine Below.alloc ?_ (by first | (simp [size_ext, grow]; done) | (simp [size_ext, grow]; omega)) _) | refine Below.drew ?_ | refine below_drewN ?_ _ | (refine Below.trans ?_ (Below.mono (by assumption) (by first | (simp [size_ext, grow]; done) | (simp [size_ext, grow]; omega)))))))) HN3.out (by have := HM3.out; omega) (by have := HM3.out; omega)).mono ?_); rintro e w1 ⟨v, rfl, hb, ho⟩; obtain ⟨xs7, d7, rfl⟩ := ext_of hb; clear hb; obtain ⟨B7, k7, rfl, hk7, -⟩ := ownsRow_form ho; have HO7 := Lib.hid ho; have HK7 := Lib.hid hk7; clear ho hk7)
      clear g3
      go_cut [] (fun wx => ∃ xs d, wx = ext ((w.alloc (.cells #[.int .i64 p, .slice A1 (cutN n1) c1] 24)).alloc (.cells #[.int .i64 a, .int .i64 b, .slice A2 (cutN n2) c2] 39)) xs d)
      case first =>
        by_cases e : splitErr L3 = 0
        · obtain ⟨s1, s2⟩ := back_join L3 e
          have S2 := Lib.hid s2
          have e' : (splitErr L3 == 0) = true := by simp [e]
          clear e s2
          go_wp2_with fail
          refine (join_any (splitNum L3) B7 _ k7 (splitRest L3) _ _ (Nat.le_refl _) ((At.of_own HO7.out).move (by (repeat (first | exact Below.refl _ _ | exact Nat.le_refl _ | (refine below_ext ?_ (by first | (simp [size_ext, grow]; done) | (simp [size_ext, grow]; omega)) _ _) | (refine Below.setCell ?_ (by first | (simp [size_ext, grow]; done) | (simp [size_ext, grow]; omega)) _) | (refine Below.alloc ?_ (by first | (simp [size_ext, grow]; done) | (simp [size_ext, grow]; omega)) _) | refine Below.drew ?_ | refine below_drewN ?_ _ | (refine Below.trans ?_ (Below.mono (by assumption) (by first | (simp [size_ext, grow]; done) | (simp [size_ext, grow]; omega))))))) (by first | (simp [size_ext, grow]; done) | (simp [size_ext, grow]; omega))) rfl (by have := splitRest_le L3; have := HN3.out; have := HM3.out; omega)).mono ?_; rintro e w1 ⟨v, rfl, hb, ho⟩; obtain ⟨xs8, d8, rfl⟩ := ext_of hb; clear hb; rw [S2.out] at ho; obtain ⟨B8, k8, rfl, -, -⟩ := ownsRow_form ho; have HO8 := Lib.hid ho; clear ho
          have g8 := At.of_own HO8.out
          simp only [size_ext, World.size_alloc, grow_succ] at g8
          have q8 : ∀ W : World, At W (grow (grow (grow w.heap.size xs) xs7) xs8 + 1 + 1 + 1) B8 (L3.map bv) → (convert 22 9 (.slice B8 L3.length k8)).run Try.prog W = .ok (.string ⟨L3.toArray⟩) W := fun W h => run_str Try.underlying22 Try.underlying5 Try.underlying9 rfl h
          have g3 : At (ext ((ext (ext ((w.alloc (.cells #[.int .i64 p, .slice A1 (cutN n1) c1] 24)).alloc (.cells #[.int .i64 a, .int .i64 b, .slice A2 (cutN n2) c2] 39)) xs d) xs7 d7).alloc (.cells #[.int .i64 (splitNum L3), .slice B7 (splitRest L3).length k7] 24)) xs8 d8) w.heap.size A3 (L3.map bv) := HA3.out.keep (by (repeat (first | exact Below.refl _ _ | exact Nat.le_refl _ | (refine below_ext ?_ (by first | (simp [size_ext, grow]; done) | (simp [size_ext, grow]; omega)) _ _) | (refine Below.setCell ?_ (by first | (simp [size_ext, grow]; done) | (simp [size_ext, grow]; omega)) _) | (refine Below.alloc ?_ (by first | (simp [size_ext, grow]; done) | (simp [size_ext, grow]; omega)) _) | refine Below.drew ?_ | refine below_drewN ?_ _ | (refine Below.trans ?_ (Below.mono (by assumption) (by first | (simp [size_ext, grow]; done) | (simp [size_ext, grow]; omega)))))))
          go_wp2_with fail
          clear q8 g3
          have HB := Lib.hid (show (splitRest L3).length ≤ 1600 by have := splitRest_le L3; have := HN3.out; have := HM3.out; omega)
          go_loopw [22] (fun i wr => ∃ k : Nat, k ≤ (splitRest L3).length ∧ i = .int .i64 k ∧ Turned ((w.alloc (.cells #[.int .i64 p, .slice A1 (cutN n1) c1] 24)).alloc (.cells #[.int .i64 a, .int .i64 b, .slice A2 (cutN n2) c2] 39)) (grow (grow w.heap.size xs) xs7 + 1 + 1) [.int .i64 (splitNum L3), .slice B7 (splitRest L3).length k7] 24 B7 (splitRest L3).length k7 wr) (fun i _ => (splitRest L3).length - (intOf i).toNat)
          case atStart => exact ⟨0, Nat.zero_le _, rfl, Turned.start HO7.out (by first | (simp [size_ext, grow]; done) | (simp [size_ext, grow]; omega)) rfl (by (repeat (first | exact Below.refl _ _ | exact Nat.le_refl _ | (refine below_ext ?_ (by first | (simp [size_ext, grow]; done) | (simp [size_ext, grow]; omega)) _ _) | (refine Below.setCell ?_ (by first | (simp [size_ext, grow]; done) | (simp [size_ext, grow]; omega)) _) | (refine Below.alloc ?_ (by first | (simp [size_ext, grow]; done) | (simp [size_ext, grow]; omega)) _) | refine Below.drew ?_ | refine below_drewN ?_ _ | (refine Below.trans ?_ (Below.mono (by assumption) (by first | (simp [size_ext, grow]; done) | (simp [size_ext, grow]; omega))))))) (by (repeat (first | exact Below.refl _ _ | exact Nat.le_refl _ | (refine below_ext ?_ (by first | (simp [size_ext, grow]; done) | (simp [size_ext, grow]; omega)) _ _) | (refine Below.setCell ?_ (by first | (simp [size_ext, grow]; done) | (simp [size_ext, grow]; omega)) _) | (refine Below.alloc ?_ (by first | (simp [size_ext, grow]; done) | (simp [size_ext, grow]; omega)) _) | refine Below.drew ?_ | refine below_drewN ?_ _ | (refine Below.trans ?_ (Below.mono (by assumption) (by first | (simp [size_ext, grow]; done) | (simp [size_ext, grow]; omega))))))) (by first | (simp [size_ext, grow]; done) | (simp [size_ext, grow]; omega)) (by first | (simp [size_ext, grow]; done) | (simp [size_ext, grow]; omega)) (by (repeat (first | ((refine heap_alloc_at _ _ _ ?_); (simp [go_sem]; done)) | ((refine (heap_ext _ _ _ _ ?_).trans ?_); (focus (simp [go_sem]; done))) | ((refine (heap_alloc_past _ _ _ ?_).trans ?_); (focus (simp [go_sem]; done))))))⟩
          case round =>
            obtain ⟨k, hk, rfl, hT⟩ := hrel
            have HT := Lib.hid hT
            have h1 : wr.cell? ⟨grow (grow w.heap.size xs) xs7 + 1 + 1, 1, none⟩ = some (.slice B7 (splitRest L3).length k7) := hT.at 1
            clear hT
            have hb := HB.out
            by_cases hlt : k < (splitRest L3).length
            · obtain ⟨g, rfl⟩ := HT.out.form hlt
              obtain ⟨z, hz⟩ := HT.out.byte hlt
              have h2 := HT.out.free k
              go_wp2
              go_roundw
              case rel => exact ⟨k + 1, by omega, by go_num, HT.out.put k _⟩
              case measure => simp [intOf]; omega
            · go_wp2_with fail
              go_meet
              exact ext_of HT.out.below
        · have e' : (splitErr L3 == 0) = false := by simp [e]
          clear e
          go_wp2_with fail
          go_meet
          exact ext_of (show Below _ ((w.alloc (.cells #[.int .i64 p, .slice A1 (cutN n1) c1] 24)).alloc (.cells #[.int .i64 a, .int .i64 b, .slice A2 (cutN n2) c2] 39)) _ by (repeat (first | exact Below.refl _ _ | exact Nat.le_refl _ | (refine below_ext ?_ (by first | (simp [size_ext, grow]; done) | (simp [size_ext, grow]; omega)) _ _) | (refine Below.setCell ?_ (by first | (simp [size_ext, grow]; done) | (simp [size_ext, grow]; omega)) _) | (refine Below.alloc ?_ (by first | (simp [size_ext, grow]; done) | (simp [size_ext, grow]; omega)) _) | refine Below.drew ?_ | refine below_drewN ?_ _ | (refine Below.trans ?_ (Below.mono (by assumption) (by first | (simp [size_ext, grow]; done) | (simp [size_ext, grow]; omega)))))))
      case rest =>
        obtain ⟨xs, d, rfl⟩ := hcut
        have q3 : ∀ W : World, At W w.heap.size A3 (L3.map bv) → (convert 22 9 (.slice A3 (cutN n3) c3)).run Try.prog W = .ok (.string ⟨L3.toArray⟩) W := fun W h => run_str Try.underlying22 Try.underlying5 Try.underlying9 HN3.out h
        have Q3 := Lib.hid q3
        clear q3
        go_upto_if 127 with (go_at_call 15; go_loud (refine (dec_any A3 (cutN n3) c3 L3 _ w.heap.size (by simp [go_sem]) (HA3.out.keep (by (repeat (first | exact Below.refl _ _ | exact Nat.le_refl _ | (refine below_ext ?_ (by first | (simp [size_ext, grow]; done) | (simp [size_ext, grow]; omega)) _ _) | (refine Below.setCell ?_ (by first | (simp [size_ext, grow]; done) | (simp [size_ext, grow]; omega)) _) | (refine Below.alloc ?_ (by first | (simp [size_ext, grow]; done) | (simp [size_ext, grow]; omega)) _) | refine Below.drew ?_ | refine below_drewN ?_ _ | (refine Below.trans ?_ (Below.mono (by assumption) (by first | (simp [size_ext, grow]; done) | (simp [size_ext, grow]; omega)))))))) HN3.out (by have := HM3.out; omega) HM3.out.2).mono ?_); rintro e w1 ⟨v, rfl, hb, ho⟩; obtain ⟨xs9, d9, rfl⟩ := ext_of hb; clear hb; obtain ⟨B9, k9, rfl, hk9, -⟩ := ownsRow_form ho; have HO9 := Lib.hid ho; have HK9 := Lib.hid hk9; clear ho hk9)
        by_cases e : decErr L3 = 0
        · have e' : (decErr L3 == 0) = true := by simp [e]
          have E := Lib.hid e
          clear e
          by_cases hbig : (decData L3).length ≤ 1488
          · obtain ⟨s1, s2, s3⟩ := back_enc L3 E.out hbig
            have S2 := Lib.hid s2
            have S3 := Lib.hid s3
            clear s2 s3
            have hE := Lib.hid s1
            clear s1
            go_wp2_with fail
            refine (enc_any (decCode L3) (decID L3) B9 _ k9 (decData L3) _ _ (Nat.le_refl _) ((At.of_own HO9.out).move (by (repeat (first | exact Below.refl _ _ | exact Nat.le_refl _ | (refine below_ext ?_ (by first | (simp [size_ext, grow]; done) | (simp [size_ext, grow]; omega)) _ _) | (refine Below.setCell ?_ (by first | (simp [size_ext, grow]; done) | (simp [size_ext, grow]; omega)) _) | (refine Below.alloc ?_ (by first | (simp [size_ext, grow]; done) | (simp [size_ext, grow]; omega)) _) | refine Below.drew ?_ | refine below_drewN ?_ _ | (refine Below.trans ?_ (Below.mono (by assumption) (by first | (simp [size_ext, grow]; done) | (simp [size_ext, grow]; omega))))))) (by first | (simp [size_ext, grow]; done) | (simp [size_ext, grow]; omega))) rfl (by omega)).mono ?_; rintro e w1 ⟨v, rfl, hb, ho⟩; obtain ⟨xs10, d10, rfl⟩ := ext_of hb; clear hb; rw [S2.out] at ho; rw [hE.out]; obtain ⟨B10, k10, rfl, -, -⟩ := ownsRow_form ho; have HO10 := Lib.hid ho; clear ho
            obtain ⟨X, hX⟩ : ∃ X, X = L3.take (decN L3) := ⟨_, rfl⟩
            simp only [← hX] at HO10 ⊢
            have HX := Lib.hid hX
            have HXN := Lib.hid (show X.length ≤ cutN n3 by rw [HN3.out, hX, List.length_take]; omega)
            clear hX
            go_wp2_with fail
            obtain ⟨wz, hwz⟩ : ∃ wz, wz = ext ((ext (ext ((w.alloc (.cells #[.int .i64 p, .slice A1 (cutN n1) c1] 24)).alloc (.cells #[.int .i64 a, .int .i64 b, .slice A2 (cutN n2) c2] 39)) xs d) xs9 d9).alloc (.cells #[.int .i64 (decCode L3), .int .i64 (decID L3), .slice B9 (decData L3).length k9] 39)) xs10 d10 := ⟨_, rfl⟩
            rw [← hwz]
            have k1 : ∀ n, (convert 22 9 (.slice A3 X.length c3)).run Try.prog (wz.drewN n) = .ok (.string ⟨X.toArray⟩) (wz.drewN n) := fun n => run_str Try.underlying22 Try.underlying5 Try.underlying9 rfl (B := w.heap.size) (by subst hwz; have := HA3.out.take (decN L3); rw [← List.map_take, ← HX.out] at this; exact this.keep (below_drewN (by (repeat (first | exact Below.refl _ _ | exact Nat.le_refl _ | (refine below_ext ?_ (by first | (simp [size_ext, grow]; done) | (simp [size_ext, grow]; omega)) _ _) | (refine Below.setCell ?_ (by first | (simp [size_ext, grow]; done) | (simp [size_ext, grow]; omega)) _) | (refine Below.alloc ?_ (by first | (simp [size_ext, grow]; done) | (simp [size_ext, grow]; omega)) _) | refine Below.drew ?_ | refine below_drewN ?_ _ | (refine Below.trans ?_ (Below.mono (by assumption) (by first | (simp [size_ext, grow]; done) | (simp [size_ext, grow]; omega))))))) n))
            have k2 : ∀ n, (convert 22 9 (.slice B10 X.length k10)).run Try.prog (wz.drewN n) = .ok (.string ⟨X.toArray⟩) (wz.drewN n) := fun n => run_str Try.underlying22 Try.underlying5 Try.underlying9 rfl (B := wz.heap.size) (by subst hwz; exact (At.of_own HO10.out).keep (below_drewN (Below.refl _ _) n))
            have k1' := k1 0
            have k2' := k2 0
            simp only [World.drewN_zero] at k1' k2'
            have HWZ := Lib.hid hwz
            clear hwz
            have hx1 := HXN.out
            have hx2 : decide (cutN n3 < X.length) = false := by simp; omega
            have hx3 : X.length ≤ c3 := by have := HM3.out; omega
            go_quiet (fail)
            clear k1 k2 k1' k2' hx1 hx2 hx3
            go_wp2_with fail
            have HBD := Lib.hid hbig
            clear hbig
            go_loopw [27] (fun i wr => ∃ k : Nat, k ≤ (decData L3).length ∧ i = .int .i64 k ∧ Turned ((w.alloc (.cells #[.int .i64 p, .slice A1 (cutN n1) c1] 24)).alloc (.cells #[.int .i64 a, .int .i64 b, .slice A2 (cutN n2) c2] 39)) (grow (grow w.heap.size xs) xs9 + 1 + 1) [.int .i64 (decCode L3), .int .i64 (decID L3), .slice B9 (decData L3).length k9] 39 B9 (decData L3).length k9 wr) (fun i _ => (decData L3).length - (intOf i).toNat)
            case atStart =>
              have hwz := HWZ.out
              subst hwz
              exact ⟨0, Nat.zero_le _, rfl, Turned.start HO9.out (by first | (simp [size_ext, grow]; done) | (simp [size_ext, grow]; omega)) rfl (by (repeat (first | exact Below.refl _ _ | exact Nat.le_refl _ | (refine below_ext ?_ (by first | (simp [size_ext, grow]; done) | (simp [size_ext, grow]; omega)) _ _) | (refine Below.setCell ?_ (by first | (simp [size_ext, grow]; done) | (simp [size_ext, grow]; omega)) _) | (refine Below.alloc ?_ (by first | (simp [size_ext, grow]; done) | (simp [size_ext, grow]; omega)) _) | refine Below.drew ?_ | refine below_drewN ?_ _ | (refine Below.trans ?_ (Below.mono (by assumption) (by first | (simp [size_ext, grow]; done) | (simp [size_ext, grow]; omega))))))) (by (repeat (first | exact Below.refl _ _ | exact Nat.le_refl _ | (refine below_ext ?_ (by first | (simp [size_ext, grow]; done) | (simp [size_ext, grow]; omega)) _ _) | (refine Below.setCell ?_ (by first | (simp [size_ext, grow]; done) | (simp [size_ext, grow]; omega)) _) | (refine Below.alloc ?_ (by first | (simp [size_ext, grow]; done) | (simp [size_ext, grow]; omega)) _) | refine Below.drew ?_ | refine below_drewN ?_ _ | (refine Below.trans ?_ (Below.mono (by assumption) (by first | (simp [size_ext, grow]; done) | (simp [size_ext, grow]; omega))))))) (by first | (simp [size_ext, grow]; done) | (simp [size_ext, grow]; omega)) (by first | (simp [size_ext, grow]; done) | (simp [size_ext, grow]; omega)) (by simp only [heap_drewN]; (repeat (first | ((refine heap_alloc_at _ _ _ ?_); (simp [go_sem]; done)) | ((refine (heap_ext _ _ _ _ ?_).trans ?_); (focus (simp [go_sem]; done))) | ((refine (heap_alloc_past _ _ _ ?_).trans ?_); (focus (simp [go_sem]; done))))))⟩
            case round =>
              obtain ⟨k, hk, rfl, hT⟩ := hrel
              have HT := Lib.hid hT
              have h1 : wr.cell? ⟨grow (grow w.heap.size xs) xs9 + 1 + 1, 2, none⟩ = some (.slice B9 (decData L3).length k9) := hT.at 2
              clear hT
              have hb := HBD.out
              by_cases hlt : k < (decData L3).length
              · obtain ⟨g, rfl⟩ := HT.out.form hlt
                obtain ⟨z, hz⟩ := HT.out.byte hlt
                have h2 := HT.out.free k
                go_wp2
                go_roundw
                case rel => exact ⟨k + 1, by omega, by go_num, HT.out.put k _⟩
                case measure => simp [intOf]; omega
              · have q3 := Q3.out
                have hbw : Below w.heap.size w wr := (show Below w.heap.size w ((w.alloc (.cells #[.int .i64 p, .slice A1 (cutN n1) c1] 24)).alloc (.cells #[.int .i64 a, .int .i64 b, .slice A2 (cutN n2) c2] 39)) by (repeat (first | exact Below.refl _ _ | exact Nat.le_refl _ | (refine below_ext ?_ (by first | (simp [size_ext, grow]; done) | (simp [size_ext, grow]; omega)) _ _) | (refine Below.setCell ?_ (by first | (simp [size_ext, grow]; done) | (simp [size_ext, grow]; omega)) _) | (refine Below.alloc ?_ (by first | (simp [size_ext, grow]; done) | (simp [size_ext, grow]; omega)) _) | refine Below.drew ?_ | refine below_drewN ?_ _ | (refine Below.trans ?_ (Below.mono (by assumption) (by first | (simp [size_ext, grow]; done) | (simp [size_ext, grow]; omega))))))).trans (HT.out.below.mono (by first | (simp [size_ext, grow]; done) | (simp [size_ext, grow]; omega)))
                have g3 : At wr w.heap.size A3 (L3.map bv) := HA3.out.keep hbw
                have HBW := Lib.hid hbw
                clear hbw
                go_wp2_with (go_at_call 14; refine (awake_any _).mono ?_; rintro e w1 ⟨rfl, hb9⟩)
                go_ret
                exact ⟨rfl, HBW.out.trans (hb9.mono HBW.out.size)⟩
          · have hb2 : 1488 < (decData L3).length := by omega
            clear hbig
            go_wp2_with (go_at_call 14; refine (awake_any _).mono ?_; rintro e w1 ⟨rfl, hb⟩; obtain ⟨xs, d, rfl⟩ := ext_of hb; clear hb)
            go_ret
            exact ⟨rfl, by (repeat (first | exact Below.refl _ _ | exact Nat.le_refl _ | (refine below_ext ?_ (by first | (simp [size_ext, grow]; done) | (simp [size_ext, grow]; omega)) _ _) | (refine Below.setCell ?_ (by first | (simp [size_ext, grow]; done) | (simp [size_ext, grow]; omega)) _) | (refine Below.alloc ?_ (by first | (simp [size_ext, grow]; done) | (simp [size_ext, grow]; omega)) _) | refine Below.drew ?_ | refine below_drewN ?_ _ | (refine Below.trans ?_ (Below.mono (by assumption) (by first | (simp [size_ext, grow]; done) | (simp [size_ext, grow]; omega))))))⟩
        · have e' : (decErr L3 == 0) = false := by simp [e]
          clear e
          have q3 := Q3.out
          have g3 : At ((ext (ext ((w.alloc (.cells #[.int .i64 p, .slice A1 (cutN n1) c1] 24)).alloc (.cells #[.int .i64 a, .int .i64 b, .slice A2 (cutN n2) c2] 39)) xs d) xs9 d9).alloc (.cells #[.int .i64 (decCode L3), .int .i64 (decID L3), .slice B9 (decData L3).length k9] 39)) w.heap.size A3 (L3.map bv) := HA3.out.keep (by (repeat (first | exact Below.refl _ _ | exact Nat.le_refl _ | (refine below_ext ?_ (by first | (simp [size_ext, grow]; done) | (simp [size_ext, grow]; omega)) _ _) | (refine Below.setCell ?_ (by first | (simp [size_ext, grow]; done) | (simp [size_ext, grow]; omega)) _) | (refine Below.alloc ?_ (by first | (simp [size_ext, grow]; done) | (simp [size_ext, grow]; omega)) _) | refine Below.drew ?_ | refine below_drewN ?_ _ | (refine Below.trans ?_ (Below.mono (by assumption) (by first | (simp [size_ext, grow]; done) | (simp [size_ext, grow]; omega)))))))
          go_wp2_with (go_at_call 14; refine (awake_any _).mono ?_; rintro e w1 ⟨rfl, hb⟩; obtain ⟨xs, d, rfl⟩ := ext_of hb; clear hb)
          go_ret
          exact ⟨rfl, by (repeat (first | exact Below.refl _ _ | exact Nat.le_refl _ | (refine below_ext ?_ (by first | (simp [size_ext, grow]; done) | (simp [size_ext, grow]; omega)) _ _) | (refine Below.setCell ?_ (by first | (simp [size_ext, grow]; done) | (simp [size_ext, grow]; omega)) _) | (refine Below.alloc ?_ (by first | (simp [size_ext, grow]; done) | (simp [size_ext, grow]; omega)) _) | refine Below.drew ?_ | refine below_drewN ?_ _ | (refine Below.trans ?_ (Below.mono (by assumption) (by first | (simp [size_ext, grow]; done) | (simp [size_ext, grow]; omega))))))⟩
end Go.Proofs.Ytjnahbiagfghgaa
