/- The walk of CpBounded. -/
import Derived.Test.YtjnahbiagfghgaaC21
namespace Go.Proofs.Ytjnahbiagfghgaa
open Go.ChangeShapes Go.WideShapes Go.ChangeAt Go.RowKit Go.Joins
set_option linter.unusedSimpArgs false
set_option linter.unusedVariables false
def BndP (w : World) (e : Ending) (w' : World) : Prop :=
  ∃ (x y e1 : Int) (A : Option Addr) (k : Nat) (l : List UInt8), e = .returned (.tuple #[.agg #[.int .i64 x, .int .i64 y, .slice A l.length k], .int .i64 e1]) ∧ Below w.heap.size w w' ∧ w'.ownsRow w.heap.size 5 1 (.slice A l.length k) l.length (l.map bv) ∧
    l.length ≤ k ∧ l.length ≤ 1488 ∧ (e1 = 0 → encErr x y l.length = 0)
theorem bnd_of {w w' : World} {K id err : Int} {l : List UInt8} {e : Ending} (hK : inB K 0 255 = true) (he : err = 0 → inB id 0 255 = true) (h : RejP w K id err l e w') : BndP w e w' := by
  obtain ⟨v, rfl, hb, ho⟩ := h
  obtain ⟨A, k, rfl, hk, -⟩ := ownsRow_form ho
  have hl : (rL err l).length ≤ 1488 := by
    unfold rL; split
    · simp; omega
    · simp
  refine ⟨_, _, _, A, k, rL err l, rfl, hb, ho, hk, hl, fun h0 => ?_⟩
  have hi := he h0
  subst h0
  have e1 : rK 0 K = K := rfl
  have e2 : rK 0 id = id := rfl
  rw [e1, e2]
  simp only [encErr, hK, hi, Bool.not_true, Bool.or_false, Bool.false_eq_true, if_false]
  rw [if_neg (by omega)]
theorem rejE_in {id e : Int} (h : rejE id e = 0) : inB id 0 255 = true := by
  unfold rejE at h
  split at h
  · omega
  · rename_i h1; simpa using h1
theorem rej_b (a b : Int) (A : Option Addr) (len c : Nat) (l : List UInt8) (id : Int) (w : World) (B : Nat) (hB : B ≤ w.heap.size) (hA : At w B A (l.map bv)) (hlen : len = l.length) (hl : len ≤ 1000000000) :
    Calls Try.prog 20 #[.agg #[.int .i64 a, .int .i64 b, .slice A len c], .int .i64 id] w (BndP w) :=
  (rej_any a b A len c l id w B hB hA hlen hl).mono fun _ _ h => bnd_of (by decide) rejE_in h
theorem prot_b (p : Int) (A : Option Addr) (len c : Nat) (l : List UInt8) (id : Int) (w : World) (B : Nat) (hB : B ≤ w.heap.size) (hA : At w B A (l.map bv)) (hlen : len = l.length) (hl : len ≤ 1000000000) :
    Calls Try.prog 22 #[.agg #[.int .i64 p, .slice A len c], .int .i64 id] w (BndP w) :=
  (prot_any p A len c l id w B hB hA hlen hl).mono fun _ _ h => bnd_of (by decide) rejE_in h
theorem join_ok (x y : Int) (l : List UInt8) : joinErr 49185 (encB x y l).length = 0 := by
  unfold joinErr
  rw [if_neg (by decide), if_neg (by have := encB_len x y l; omega)]

set_option maxRecDepth 100000 in
set_option maxHeartbeats 4000000 in
theorem cpBounded_walk (A1 A2 : Option Addr) (n1 c1 n2 c2 : Nat) (l1 l2 : List UInt8) (a b p id : Int) (w : World) (hA1 : At w w.heap.size A1 (l1.map bv)) (hA2 : At w w.heap.size A2 (l2.map bv)) (hn1 : n1 = l1.length) (hn2 : n2 = l2.length)
    (b1 : n1 ≤ c1 ∧ (n1 : Int) ≤ 9223372036854775807) (b2 : n2 ≤ c2 ∧ (n2 : Int) ≤ 9223372036854775807) :
    Calls Try.prog 7 #[.agg #[.int .i64 a, .int .i64 b, .slice A1 n1 c1], .agg #[.int .i64 p, .slice A2 n2 c2], .int .i64 id] w fun e w' => e = .returned (.bool true) ∧ Below w.heap.size w w' := by
  obtain ⟨L1, hL1⟩ : ∃ L, L = l1.take 1600 := ⟨_, rfl⟩
  obtain ⟨L2, hL2⟩ : ∃ L, L = l2.take 1600 := ⟨_, rfl⟩
  have HA1 := Lib.hid (show At w w.heap.size A1 (L1.map bv) by rw [hL1, List.map_take]; exact hA1.take _)
  have HA2 := Lib.hid (show At w w.heap.size A2 (L2.map bv) by rw [hL2, List.map_take]; exact hA2.take _)
  have HB1 := Lib.hid b1
  have HB2 := Lib.hid b2
  have HN1 := Lib.hid (show cutN n1 = L1.length by rw [hn1, hL1]; exact cutN_len l1)
  have HN2 := Lib.hid (show cutN n2 = L2.length by rw [hn2, hL2]; exact cutN_len l2)
  have HM1 := Lib.hid (show cutN n1 ≤ 1600 ∧ cutN n1 ≤ c1 by have := cutN_le n1; omega)
  have HM2 := Lib.hid (show cutN n2 ≤ 1600 ∧ cutN n2 ≤ c2 by have := cutN_le n2; omega)
  clear hA1 hA2 b1 b2 hn1 hn2 hL1 hL2
  go_enter Try.func7, Try.ntmps7
  go_wp2_with fail
  go_region_with (go_at_call 8; refine (cut_n _ _ _ _ (by first | exact HB1.out | exact HB2.out)).mono ?_; rintro e w1 ⟨rfl, rfl⟩)
  all_goals
    go_wp2_with fail
    refine (rej_b a b A1 (cutN n1) c1 L1 id _ w.heap.size (by simp [go_sem]) (HA1.out.keep (by (repeat (first | exact Below.refl _ _ | exact Nat.le_refl _ | (refine below_ext ?_ (by first | (simp [size_ext, grow]; done) | (simp [size_ext, grow]; omega)) _ _) | (refine Below.setCell ?_ (by first | (simp [size_ext, grow]; done) | (simp [size_ext, grow]; omega)) _) | (refine Below.alloc ?_ (by first | (simp [size_ext, grow]; done) | (simp [size_ext, grow]; omega)) _) | refine Below.drew ?_ | refine below_drewN ?_ _ | (refine Below.trans ?_ (Below.mono (by assumption) (by first | (simp [size_ext, grow]; done) | (simp [size_ext, grow]; omega)))))))) HN1.out (by have := HM1.out; omega)).mono ?_; rintro e w1 ⟨x3, y3, e3, A3, k3, m3, rfl, hb, ho, hk3, hm3, hz3⟩; obtain ⟨xs3, d3, rfl⟩ := ext_of hb; have HO3 := Lib.hid ho; have HZ3 := Lib.hid hz3; have HM3 := Lib.hid hm3; clear hb ho hz3 hk3 hm3
    go_wp2_with fail
    refine (prot_b p A2 (cutN n2) c2 L2 id _ w.heap.size (by simp [go_sem]) (HA2.out.keep (by (repeat (first | exact Below.refl _ _ | exact Nat.le_refl _ | (refine below_ext ?_ (by first | (simp [size_ext, grow]; done) | (simp [size_ext, grow]; omega)) _ _) | (refine Below.setCell ?_ (by first | (simp [size_ext, grow]; done) | (simp [size_ext, grow]; omega)) _) | (refine Below.alloc ?_ (by first | (simp [size_ext, grow]; done) | (simp [size_ext, grow]; omega)) _) | refine Below.drew ?_ | refine below_drewN ?_ _ | (refine Below.trans ?_ (Below.mono (by assumption) (by first | (simp [size_ext, grow]; done) | (simp [size_ext, grow]; omega)))))))) HN2.out (by have := HM2.out; omega)).mono ?_; rintro e w1 ⟨x4, y4, e4, A4, k4, m4, rfl, hb, ho, hk4, hm4, hz4⟩; obtain ⟨xs4, d4, rfl⟩ := ext_of hb; have HO4 := Lib.hid ho; have HZ4 := Lib.hid hz4; have HM4 := Lib.hid hm4; clear hb ho hz4 hk4 hm4
    go_wp2_with fail
    refine wp_loop_rounds 3 ?_
    have j3 := join_ok x3 y3 m3
    have j4 := join_ok x4 y4 m4
    by_cases q3 : e3 = 0
    · subst q3
      have z3 := HZ3.out rfl
      by_cases q4 : e4 = 0
      · subst q4
        have z4 := HZ4.out rfl
        rw [rounds_succ]; go_wp2_with fail
        refine (enc_any x3 y3 A3 m3.length k3 m3 _ _ (Nat.le_refl _) ((At.of_own HO3.out).move (by (repeat (first | exact Below.refl _ _ | exact Nat.le_refl _ | (refine below_ext ?_ (by first | (simp [size_ext, grow]; done) | (simp [size_ext, grow]; omega)) _ _) | (refine Below.setCell ?_ (by first | (simp [size_ext, grow]; done) | (simp [size_ext, grow]; omega)) _) | (refine Below.alloc ?_ (by first | (simp [size_ext, grow]; done) | (simp [size_ext, grow]; omega)) _) | refine Below.drew ?_ | refine below_drewN ?_ _ | (refine Below.trans ?_ (Below.mono (by assumption) (by first | (simp [size_ext, grow]; done) | (simp [size_ext, grow]; omega))))))) (by first | (simp [size_ext, grow]; done) | (simp [size_ext, grow]; omega))) rfl (by have := HM3.out; omega)).mono ?_; rintro e w1 ⟨v, rfl, hb, ho⟩; obtain ⟨xs, d, rfl⟩ := ext_of hb; clear hb; obtain ⟨A, k, rfl, -, -⟩ := ownsRow_form ho; have HA := Lib.hid (At.of_own ho); clear ho
        go_wp2_with fail
        refine (join_any 49185 A _ k (encB x3 y3 m3) _ _ (Nat.le_refl _) HA.out rfl (by have := encB_len x3 y3 m3; omega)).mono ?_; rintro e w1 ⟨v, rfl, hb, ho⟩; obtain ⟨xs', d', rfl⟩ := ext_of hb; clear hb; obtain ⟨A', k', rfl, -, -⟩ := ownsRow_form ho; clear ho HA
        go_wp2_with fail
        rw [rounds_succ]; go_wp2_with fail
        refine (enc_any x4 y4 A4 m4.length k4 m4 _ _ (Nat.le_refl _) ((At.of_own HO4.out).move (by (repeat (first | exact Below.refl _ _ | exact Nat.le_refl _ | (refine below_ext ?_ (by first | (simp [size_ext, grow]; done) | (simp [size_ext, grow]; omega)) _ _) | (refine Below.setCell ?_ (by first | (simp [size_ext, grow]; done) | (simp [size_ext, grow]; omega)) _) | (refine Below.alloc ?_ (by first | (simp [size_ext, grow]; done) | (simp [size_ext, grow]; omega)) _) | refine Below.drew ?_ | refine below_drewN ?_ _ | (refine Below.trans ?_ (Below.mono (by assumption) (by first | (simp [size_ext, grow]; done) | (simp [size_ext, grow]; omega))))))) (by first | (simp [size_ext, grow]; done) | (simp [size_ext, grow]; omega))) rfl (by have := HM4.out; omega)).mono ?_; rintro e w1 ⟨v, rfl, hb, ho⟩; obtain ⟨xs, d, rfl⟩ := ext_of hb; clear hb; obtain ⟨A, k, rfl, -, -⟩ := ownsRow_form ho; have HA := Lib.hid (At.of_own ho); clear ho
        go_wp2_with fail
        refine (join_any 49185 A _ k (encB x4 y4 m4) _ _ (Nat.le_refl _) HA.out rfl (by have := encB_len x4 y4 m4; omega)).mono ?_; rintro e w1 ⟨v, rfl, hb, ho⟩; obtain ⟨xs', d', rfl⟩ := ext_of hb; clear hb; obtain ⟨A', k', rfl, -, -⟩ := ownsRow_form ho; clear ho HA
        go_wp2_with fail
        rw [rounds_succ]
        go_wp2_with (go_at_call 14; refine (awake_any _).mono ?_; rintro e w1 ⟨rfl, hb⟩; obtain ⟨xs, d, rfl⟩ := ext_of hb; clear hb)
        go_ret
        exact ⟨rfl, by (repeat (first | exact Below.refl _ _ | exact Nat.le_refl _ | (refine below_ext ?_ (by first | (simp [size_ext, grow]; done) | (simp [size_ext, grow]; omega)) _ _) | (refine Below.setCell ?_ (by first | (simp [size_ext, grow]; done) | (simp [size_ext, grow]; omega)) _) | (refine Below.alloc ?_ (by first | (simp [size_ext, grow]; done) | (simp [size_ext, grow]; omega)) _) | refine Below.drew ?_ | refine below_drewN ?_ _ | (refine Below.trans ?_ (Below.mono (by assumption) (by first | (simp [size_ext, grow]; done) | (simp [size_ext, grow]; omega))))))⟩
      · have u4 : (e4 == 0) = false := by simpa using q4
        have v4 : (e4 != 0) = true := by simpa using q4
        clear q4
        rw [rounds_succ]; go_wp2_with fail
        refine (enc_any x3 y3 A3 m3.length k3 m3 _ _ (Nat.le_refl _) ((At.of_own HO3.out).move (by (repeat (first | exact Below.refl _ _ | exact Nat.le_refl _ | (refine below_ext ?_ (by first | (simp [size_ext, grow]; done) | (simp [size_ext, grow]; omega)) _ _) | (refine Below.setCell ?_ (by first | (simp [size_ext, grow]; done) | (simp [size_ext, grow]; omega)) _) | (refine Below.alloc ?_ (by first | (simp [size_ext, grow]; done) | (simp [size_ext, grow]; omega)) _) | refine Below.drew ?_ | refine below_drewN ?_ _ | (refine Below.trans ?_ (Below.mono (by assumption) (by first | (simp [size_ext, grow]; done) | (simp [size_ext, grow]; omega))))))) (by first | (simp [size_ext, grow]; done) | (simp [size_ext, grow]; omega))) rfl (by have := HM3.out; omega)).mono ?_; rintro e w1 ⟨v, rfl, hb, ho⟩; obtain ⟨xs, d, rfl⟩ := ext_of hb; clear hb; obtain ⟨A, k, rfl, -, -⟩ := ownsRow_form ho; have HA := Lib.hid (At.of_own ho); clear ho
        go_wp2_with fail
        refine (join_any 49185 A _ k (encB x3 y3 m3) _ _ (Nat.le_refl _) HA.out rfl (by have := encB_len x3 y3 m3; omega)).mono ?_; rintro e w1 ⟨v, rfl, hb, ho⟩; obtain ⟨xs', d', rfl⟩ := ext_of hb; clear hb; obtain ⟨A', k', rfl, -, -⟩ := ownsRow_form ho; clear ho HA
        go_wp2_with fail
        rw [rounds_succ]; go_wp2_with fail
        rw [rounds_succ]
        go_wp2_with (go_at_call 14; refine (awake_any _).mono ?_; rintro e w1 ⟨rfl, hb⟩; obtain ⟨xs, d, rfl⟩ := ext_of hb; clear hb)
        go_ret
        exact ⟨rfl, by (repeat (first | exact Below.refl _ _ | exact Nat.le_refl _ | (refine below_ext ?_ (by first | (simp [size_ext, grow]; done) | (simp [size_ext, grow]; omega)) _ _) | (refine Below.setCell ?_ (by first | (simp [size_ext, grow]; done) | (simp [size_ext, grow]; omega)) _) | (refine Below.alloc ?_ (by first | (simp [size_ext, grow]; done) | (simp [size_ext, grow]; omega)) _) | refine Below.drew ?_ | refine below_drewN ?_ _ | (refine Below.trans ?_ (Below.mono (by assumption) (by first | (simp [size_ext, grow]; done) | (simp [size_ext, grow]; omega))))))⟩
    · have u3 : (e3 == 0) = false := by simpa using q3
      have v3 : (e3 != 0) = true := by simpa using q3
      clear q3
      by_cases q4 : e4 = 0
      · subst q4
        have z4 := HZ4.out rfl
        rw [rounds_succ]; go_wp2_with fail
        rw [rounds_succ]; go_wp2_with fail
        refine (enc_any x4 y4 A4 m4.length k4 m4 _ _ (Nat.le_refl _) ((At.of_own HO4.out).move (by (repeat (first | exact Below.refl _ _ | exact Nat.le_refl _ | (refine below_ext ?_ (by first | (simp [size_ext, grow]; done) | (simp [size_ext, grow]; omega)) _ _) | (refine Below.setCell ?_ (by first | (simp [size_ext, grow]; done) | (simp [size_ext, grow]; omega)) _) | (refine Below.alloc ?_ (by first | (simp [size_ext, grow]; done) | (simp [size_ext, grow]; omega)) _) | refine Below.drew ?_ | refine below_drewN ?_ _ | (refine Below.trans ?_ (Below.mono (by assumption) (by first | (simp [size_ext, grow]; done) | (simp [size_ext, grow]; omega))))))) (by first | (simp [size_ext, grow]; done) | (simp [size_ext, grow]; omega))) rfl (by have := HM4.out; omega)).mono ?_; rintro e w1 ⟨v, rfl, hb, ho⟩; obtain ⟨xs, d, rfl⟩ := ext_of hb; clear hb; obtain ⟨A, k, rfl, -, -⟩ := ownsRow_form ho; have HA := Lib.hid (At.of_own ho); clear ho
        go_wp2_with fail
        refine (join_any 49185 A _ k (encB x4 y4 m4) _ _ (Nat.le_refl _) HA.out rfl (by have := encB_len x4 y4 m4; omega)).mono ?_; rintro e w1 ⟨v, rfl, hb, ho⟩; obtain ⟨xs', d', rfl⟩ := ext_of hb; clear hb; obtain ⟨A', k', rfl, -, -⟩ := ownsRow_form ho; clear ho HA
        go_wp2_with fail
        rw [rounds_succ]
        go_wp2_with (go_at_call 14; refine (awake_any _).mono ?_; rintro e w1 ⟨rfl, hb⟩; obtain ⟨xs, d, rfl⟩ := ext_of hb; clear hb)
        go_ret
        exact ⟨rfl, by (repeat (first | exact Below.refl _ _ | exact Nat.le_refl _ | (refine below_ext ?_ (by first | (simp [size_ext, grow]; done) | (simp [size_ext, grow]; omega)) _ _) | (refine Below.setCell ?_ (by first | (simp [size_ext, grow]; done) | (simp [size_ext, grow]; omega)) _) | (refine Below.alloc ?_ (by first | (simp [size_ext, grow]; done) | (simp [size_ext, grow]; omega)) _) | refine Below.drew ?_ | refine below_drewN ?_ _ | (refine Below.trans ?_ (Below.mono (by assumption) (by first | (simp [size_ext, grow]; done) | (simp [size_ext, grow]; omega))))))⟩
      · have u4 : (e4 == 0) = false := by simpa using q4
        have v4 : (e4 != 0) = true := by simpa using q4
        clear q4
        rw [rounds_succ]; go_wp2_with fail
        rw [rounds_succ]; go_wp2_with fail
        rw [rounds_succ]
        go_wp2_with (go_at_call 14; refine (awake_any _).mono ?_; rintro e w1 ⟨rfl, hb⟩; obtain ⟨xs, d, rfl⟩ := ext_of hb; clear hb)
        go_ret
        exact ⟨rfl, by (repeat (first | exact Below.refl _ _ | exact Nat.le_refl _ | (refine below_ext ?_ (by first | (simp [size_ext, grow]; done) | (simp [size_ext, grow]; omega)) _ _) | (refine Below.setCell ?_ (by first | (simp [size_ext, grow]; done) | (simp [size_ext, grow]; omega)) _) | (refine Below.alloc ?_ (by first | (simp [size_ext, grow]; done) | (simp [size_ext, grow]; omega)) _) | refine Below.drew ?_ | refine below_drewN ?_ _ | (refine Below.trans ?_ (Below.mono (by assumption) (by first | (simp [size_ext, grow]; done) | (simp [size_ext, grow]; omega))))))⟩
theorem cpBounded_calls {H : Type} (enc : TypeId × Value → H) (W : World) (base : Nat) (v0 v1 v2 : Value) (d0 d1 d2 : DataW H) (p0 p1 p2 : List MemPlace)
    (o0 : Value.okWide Try.prog W .any base 39 v0) (o1 : Value.okWide Try.prog W .any base 24 v1) (o2 : Value.okWide Try.prog W .any base 3 v2)
    (h0 : DataW.Trod enc Try.prog W 0 (fun _ => true) true 39 v0 d0 p0) (h1 : DataW.Trod enc Try.prog W 0 (fun _ => true) true 24 v1 d1 p1) (h2 : DataW.Trod enc Try.prog W 0 (fun _ => true) true 3 v2 d2 p2) :
    Calls Try.prog 7 #[v0, v1, v2] W fun e W' => e = .returned (.bool true) ∧ Below W.heap.size W W' := by
  obtain ⟨a, b, A1, n1, c1, l1, rfl, hA1, hn1, hc1, hm1⟩ := open_ctl o0 h0
  obtain ⟨p, A2, n2, c2, l2, rfl, hA2, hn2, hc2, hm2⟩ := open_ppp o1 h1
  obtain ⟨id, rfl, rfl, rfl, _⟩ := open_int Try.underlying3 o2 h2
  exact cpBounded_walk A1 A2 n1 c1 n2 c2 l1 l2 a b p id W hA1 hA2 hn1 hn2 ⟨hc1, hm1⟩ ⟨hc2, hm2⟩
end Go.Proofs.Ytjnahbiagfghgaa
