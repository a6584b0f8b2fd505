/- OptsMade: its walk. -/
import Derived.Test.YtbdkapmiioiikaaH19
namespace Go.Proofs.Ytbdkapmiioiikaa
open Go.ChangeShapes Go.WideShapes Go.ChangeAt Go.RowKit Go.Joins Go.Deep
set_option linter.unusedSimpArgs false
set_option linter.unusedVariables false
theorem be_putB (k : Nat) : ∀ n : Nat, be (putB n k) = n % 256 ^ k := by
  induction k with
  | zero => intro n; simp [putB, be, Nat.mod_one]
  | succ k ih =>
    intro n
    have e : putB n (k + 1) = putB (n / 256) k ++ [UInt8.ofNat n] := rfl
    rw [e, be_snoc, ih, Nat.pow_succ, Nat.mul_comm (256 ^ k) 256, Nat.mod_mul]
    simp
    omega
theorem made_lt {n k : Nat} (hn : n < 4294967296) (h1 : 1 ≤ k) (h4 : k ≤ 4) : n / 256 ^ (4 - k) < 256 ^ k := by
  rw [Nat.div_lt_iff_lt_mul (Nat.pow_pos (by decide)), ← Nat.pow_add, show k + (4 - k) = 4 by omega]
  exact hn
set_option maxRecDepth 100000 in
set_option maxHeartbeats 2000000 in
theorem made_any (typ size n : Nat) (w : World) (ht : typ < 256) (hs : size < 256) (hn : n < 4294967296) :
    Calls Try.prog 6 #[.int .u8 (typ : Int), .int .u8 (size : Int), .int .u32 (n : Int)] w fun e w' => e = .returned (.bool true) ∧ Below w.heap.size w w' := by
  go_enter Try.func6, Try.ntmps6
  go_wp2_with fail
  obtain ⟨k, hk⟩ : ∃ k : Nat, (1 : Int) + (size : Int) % 4 = (k : Int) := ⟨1 + size % 4, by omega⟩
  rw [hk]
  have k1 : 1 ≤ k := by omega
  have k4 : k ≤ 4 := by omega
  clear hk
  go_loop [8, 9] (fun v i => ∃ j : Nat, k ≤ j ∧ j ≤ 4 ∧ i = .int .i64 j ∧ v = .int .i64 ((n / 256 ^ (j - k) : Nat) : Int)) (fun _ i => 4 - (intOf i).toNat)
  case atStart => exact ⟨k, Nat.le_refl _, k4, rfl, by simp⟩
  case round =>
    obtain ⟨j, hj1, hj2, rfl, rfl⟩ := hrel
    obtain ⟨X, hX⟩ : ∃ X, n / 256 ^ (j - k) = X := ⟨_, rfl⟩
    have hXn : X ≤ n := by rw [← hX]; exact Nat.div_le_self _ _
    rw [hX]
    have HX := Lib.hid hX
    clear hX
    by_cases hlt : j < 4
    · go_wp2
      go_round
      case rel => exact ⟨j + 1, by omega, by omega, by go_num, by
        rw [show j + 1 - k = (j - k) + 1 by omega, Nat.pow_succ, ← Nat.div_div_eq_div_mul, HX.out]; congr 1⟩
      case measure => simp [intOf]; omega
    · obtain rfl : j = 4 := by omega
      have HL := Lib.hid (made_lt hn k1 k4)
      rw [HX.out] at HL
      have hX3 : (X : Int) ≤ 9223372036854775807 := by omega
      have HM := Lib.hid (show makeB typ k X = true by
        unfold makeB
        have h := HL.out
        simp only [decide_eq_true_eq]
        refine ⟨by omega, by omega, by omega, by omega, by omega, ?_⟩
        have : ((256 : Int) ^ (k : Int).toNat) = ((256 ^ k : Nat) : Int) := by simp
        rw [this]
        omega)
      have HO := Lib.hid (show makeO true (typ : Int) (k : Int) (X : Int) = ((typ : Int), putB X k) by unfold makeO; simp)
      have HNB := Lib.hid (show numN (putB X k) = X ∧ numB (putB X k) = true ∧ (putB X k).length = k by
        have e := putB_length X k
        have e2 := be_putB k X
        rw [Nat.mod_eq_of_lt HL.out] at e2
        unfold numN numB
        rw [e, e2]
        exact ⟨by rw [if_pos ⟨k1, k4⟩], by simp; omega, rfl⟩)
      go_wp2_with fail
      refine (make_any typ k X _ hX3).mono ?_
      rw [show MakeP w (typ : Int) k X = MakeP w (typ : Int) k X from rfl]
      unfold MakeP
      rw [HM.out, HO.out]
      rintro e w1 ⟨⟨t3, d3, a3, c3⟩, rfl, hb, ho, he⟩
      obtain ⟨xs3, dr3, rfl⟩ := ext_of hb
      clear hb
      simp only [Ent.v, Ent.o, Prod.mk.injEq] at ho he ⊢
      obtain ⟨rfl, rfl⟩ := he
      rw [HNB.out.2.2] at ho ⊢
      obtain ⟨_, _, hac, hc3, -⟩ := ownsRow_form ho
      simp only [Value.slice.injEq] at hac
      obtain ⟨rfl, -, rfl⟩ := hac
      have HO3 := Lib.hid (At.of_own ho)
      clear ho
      have m3 : makeE true = 0 := rfl
      go_wp2_with fail
      refine (number_any typ a3 k c3 (putB X k) _ _ (Nat.le_refl _) (HO3.out.move (by (repeat (first | exact Below.refl _ _ | exact Nat.le_refl _ | (refine below_ext ?_ (by first | (simp [size_ext, grow]; done) | (simp [size_ext, grow]; omega) | omega) _ _) | (refine Below.setCell ?_ (by first | (simp [size_ext, grow]; done) | (simp [size_ext, grow]; omega) | omega) _) | (refine Below.alloc ?_ (by first | (simp [size_ext, grow]; done) | (simp [size_ext, grow]; omega) | omega) _) | refine Below.drew ?_ | refine below_drewN ?_ _ | (refine Below.trans ?_ (Below.mono (by assumption) (by first | (simp [size_ext, grow]; done) | (simp [size_ext, grow]; omega) | omega)))))) (by simp [go_sem])) HNB.out.2.2.symm (by omega) hc3).mono ?_
      rw [HNB.out.1, HNB.out.2.1]
      rintro e w1 ⟨rfl, hb⟩
      obtain ⟨xs4, dr4, rfl⟩ := ext_of hb
      clear hb
      go_wp2_with fail
      refine (awake_any _).mono ?_
      rintro e w1 ⟨rfl, hb⟩
      obtain ⟨xs5, dr5, rfl⟩ := ext_of hb
      clear hb
      go_wp2_with fail
      go_ret
      exact ⟨rfl, by (repeat (first | exact Below.refl _ _ | exact Nat.le_refl _ | (refine below_ext ?_ (by first | (simp [size_ext, grow]; done) | (simp [size_ext, grow]; omega) | omega) _ _) | (refine Below.setCell ?_ (by first | (simp [size_ext, grow]; done) | (simp [size_ext, grow]; omega) | omega) _) | (refine Below.alloc ?_ (by first | (simp [size_ext, grow]; done) | (simp [size_ext, grow]; omega) | omega) _) | refine Below.drew ?_ | refine below_drewN ?_ _ | (refine Below.trans ?_ (Below.mono (by assumption) (by first | (simp [size_ext, grow]; done) | (simp [size_ext, grow]; omega) | omega)))))⟩
theorem optsMade_calls {H : Type} (enc : TypeId × Value → H) (W : World) (base : Nat) (v0 v1 v2 : Value) (d0 d1 d2 : DataW H) (p0 p1 p2 : List MemPlace)
    (o0 : Value.okWide Try.prog W .any base 5 v0) (o1 : Value.okWide Try.prog W .any base 5 v1) (o2 : Value.okWide Try.prog W .any base 43 v2)
    (h0 : DataW.Trod enc Try.prog W 0 (fun _ => true) true 5 v0 d0 p0) (h1 : DataW.Trod enc Try.prog W 0 (fun _ => true) true 5 v1 d1 p1) (h2 : DataW.Trod enc Try.prog W 0 (fun _ => true) true 43 v2 d2 p2) :
    Calls Try.prog 6 #[v0, v1, v2] W fun e W' => e = .returned (.bool true) ∧ Below W.heap.size W W' := by
  obtain ⟨i0, rfl, rfl, rfl, w0⟩ := open_int Try.underlying5 o0 h0
  obtain ⟨i1, rfl, rfl, rfl, w1⟩ := open_int Try.underlying5 o1 h1
  obtain ⟨i2, rfl, rfl, rfl, w2⟩ := open_int Try.underlying43 o2 h2
  have b0 : 0 ≤ i0 ∧ i0 ≤ 255 := by simpa [Lit.wf, IntKind.min, IntKind.max, IntKind.signed, IntKind.bits] using w0
  have b1 : 0 ≤ i1 ∧ i1 ≤ 255 := by simpa [Lit.wf, IntKind.min, IntKind.max, IntKind.signed, IntKind.bits] using w1
  have b2 : 0 ≤ i2 ∧ i2 ≤ 4294967295 := by simpa [Lit.wf, IntKind.min, IntKind.max, IntKind.signed, IntKind.bits] using w2
  obtain ⟨j0, rfl⟩ := Int.eq_ofNat_of_zero_le b0.1
  obtain ⟨j1, rfl⟩ := Int.eq_ofNat_of_zero_le b1.1
  obtain ⟨j2, rfl⟩ := Int.eq_ofNat_of_zero_le b2.1
  exact made_any j0 j1 j2 W (by omega) (by omega) (by omega)
end Go.Proofs.Ytbdkapmiioiikaa
