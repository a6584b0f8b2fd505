/- OptsNumbers: its walk. -/
import Derived.Test.YtbdkapmiioiikaaH17
namespace Go.Proofs.Ytbdkapmiioiikaa
open Go.ChangeShapes Go.WideShapes Go.ChangeAt Go.RowKit Go.Joins Go.Deep
set_option linter.unusedSimpArgs false
set_option linter.unusedVariables false
theorem open_opt_arg {H : Type} {enc : TypeId × Value → H} {W : World} {base : Nat} {v : Value} {d : DataW H} {p : List MemPlace} (o : Value.okWide Try.prog W .any base 36 v) (h : DataW.Trod enc Try.prog W 0 (fun _ => true) true 36 v d p) :
    ∃ (t : Int) (A : Option Addr) (len c : Nat) (l : List UInt8), v = .agg #[.int .i64 t, .slice A len c] ∧ At W W.heap.size A (l.map bv) ∧ len = l.length ∧ len ≤ c ∧ (len : Int) ≤ 9223372036854775807 := by
  obtain ⟨c0, c1, y0, y1, n, rfl, rfl, rfl, hy0, hy1⟩ := open_agg2 Try.underlying36 (by kernel_rfl) (by kernel_rfl) o h
  obtain ⟨a, e0, rfl, wa⟩ := DataW.trod_int Try.underlying3 hy0
  obtain ⟨A, len, c, l, hcs, r⟩ := open_bytes hy1
  simp at e0 hcs
  subst e0 hcs
  exact ⟨a, A, len, c, l, rfl, r⟩
theorem one_self (o : Int × List UInt8) : oneB o o = true := by unfold oneB; simp
set_option maxRecDepth 100000 in
set_option maxHeartbeats 1000000 in
theorem numbers_any (t : Int) (A : Option Addr) (n c : Nat) (l : List UInt8) (typ size x : Int) (w : World) (hA : At w w.heap.size A (l.map bv)) (hl : n = l.length) (hc : n ≤ c) (hx : x ≤ 9223372036854775807) :
    Calls Try.prog 4 #[.agg #[.int .i64 t, .slice A n c], .int .i64 typ, .int .i64 size, .int .i64 x] w fun e w' => e = .returned (.bool true) ∧ Below w.heap.size w w' := by
  have ha : Option.map (fun x : Addr => x.add 0) A = A := by cases A <;> simp [Addr.add]
  by_cases h3 : 300 < n
  · obtain ⟨d, hd⟩ : ∃ d, d = l.take 300 := ⟨_, rfl⟩
    have HA := Lib.hid (show At w w.heap.size A (d.map bv) by rw [hd, List.map_take]; exact hA.take 300)
    have HM := Lib.hid (show 300 = d.length by rw [hd, List.length_take]; omega)
    have hmc : 300 ≤ c := by omega
    clear hA hl hd
    go_enter Try.func4, Try.ntmps4
    go_wp2_with fail
    refine (number_any t A 300 c d _ w.heap.size (by simp [go_sem]) (HA.out.keep (by (repeat (first | exact Below.refl _ _ | exact Nat.le_refl _ | (refine below_ext ?_ (by first | (simp [size_ext, grow]; done) | (simp [size_ext, grow]; omega) | omega) _ _) | (refine Below.setCell ?_ (by first | (simp [size_ext, grow]; done) | (simp [size_ext, grow]; omega) | omega) _) | (refine Below.alloc ?_ (by first | (simp [size_ext, grow]; done) | (simp [size_ext, grow]; omega) | omega) _) | refine Below.drew ?_ | refine below_drewN ?_ _ | (refine Below.trans ?_ (Below.mono (by assumption) (by first | (simp [size_ext, grow]; done) | (simp [size_ext, grow]; omega) | omega))))))) HM.out (by omega) hmc).mono ?_
    rintro e w1 ⟨rfl, hb⟩
    obtain ⟨xs1, dr1, rfl⟩ := ext_of hb
    clear hb
    go_wp2_with fail
    refine (number_ref t A 300 c d _ w.heap.size (by simp [go_sem]) (HA.out.keep (by (repeat (first | exact Below.refl _ _ | exact Nat.le_refl _ | (refine below_ext ?_ (by first | (simp [size_ext, grow]; done) | (simp [size_ext, grow]; omega) | omega) _ _) | (refine Below.setCell ?_ (by first | (simp [size_ext, grow]; done) | (simp [size_ext, grow]; omega) | omega) _) | (refine Below.alloc ?_ (by first | (simp [size_ext, grow]; done) | (simp [size_ext, grow]; omega) | omega) _) | refine Below.drew ?_ | refine below_drewN ?_ _ | (refine Below.trans ?_ (Below.mono (by assumption) (by first | (simp [size_ext, grow]; done) | (simp [size_ext, grow]; omega) | omega))))))) HM.out (by omega) hmc).mono ?_
    rintro e w1 ⟨rfl, hb⟩
    obtain ⟨xs2, dr2, rfl⟩ := ext_of hb
    clear hb
    go_wp2_with fail
    refine (make_any typ size x _ hx).mono ?_
    rintro e w1 ⟨⟨t3, d3, a3, c3⟩, rfl, hb, ho, he⟩
    obtain ⟨xs3, dr3, rfl⟩ := ext_of hb
    clear hb
    simp only [Ent.v, Ent.o] at ho he ⊢
    obtain ⟨_, _, hac, hc3, -⟩ := ownsRow_form ho
    simp only [Value.slice.injEq] at hac
    obtain ⟨rfl, -, rfl⟩ := hac
    have HO3 := Lib.hid (At.of_own ho)
    have HE3 := Lib.hid he
    clear ho he
    obtain ⟨n3, hn3⟩ : ∃ n, d3.length = n := ⟨_, rfl⟩
    rw [hn3] at hc3 ⊢
    have HN3 := Lib.hid hn3.symm
    clear hn3
    go_wp2_with fail
    refine (rmake_any typ size x _ hx).mono ?_
    rintro e w1 ⟨⟨t4, d4, a4, c4⟩, rfl, hb, ho, he⟩
    obtain ⟨xs4, dr4, rfl⟩ := ext_of hb
    clear hb
    simp only [Ent.v, Ent.o] at ho he ⊢
    obtain ⟨_, _, hac, hc4, -⟩ := ownsRow_form ho
    simp only [Value.slice.injEq] at hac
    obtain ⟨rfl, -, rfl⟩ := hac
    have HO4 := Lib.hid (At.of_own ho)
    have HE4 := Lib.hid he
    clear ho he
    obtain ⟨n4, hn4⟩ : ∃ n, d4.length = n := ⟨_, rfl⟩
    rw [hn4] at hc4 ⊢
    have HN4 := Lib.hid hn4.symm
    clear hn4
    go_wp2_with fail
    refine (one_ref t3 t4 a3 a4 n3 n4 c3 c4 d3 d4 _ _ (Nat.le_refl _) (HO3.out.move (by (repeat (first | exact Below.refl _ _ | exact Nat.le_refl _ | (refine below_ext ?_ (by first | (simp [size_ext, grow]; done) | (simp [size_ext, grow]; omega) | omega) _ _) | (refine Below.setCell ?_ (by first | (simp [size_ext, grow]; done) | (simp [size_ext, grow]; omega) | omega) _) | (refine Below.alloc ?_ (by first | (simp [size_ext, grow]; done) | (simp [size_ext, grow]; omega) | omega) _) | refine Below.drew ?_ | refine below_drewN ?_ _ | (refine Below.trans ?_ (Below.mono (by assumption) (by first | (simp [size_ext, grow]; done) | (simp [size_ext, grow]; omega) | omega)))))) (by simp [go_sem])) (HO4.out.move (by (repeat (first | exact Below.refl _ _ | exact Nat.le_refl _ | (refine below_ext ?_ (by first | (simp [size_ext, grow]; done) | (simp [size_ext, grow]; omega) | omega) _ _) | (refine Below.setCell ?_ (by first | (simp [size_ext, grow]; done) | (simp [size_ext, grow]; omega) | omega) _) | (refine Below.alloc ?_ (by first | (simp [size_ext, grow]; done) | (simp [size_ext, grow]; omega) | omega) _) | refine Below.drew ?_ | refine below_drewN ?_ _ | (refine Below.trans ?_ (Below.mono (by assumption) (by first | (simp [size_ext, grow]; done) | (simp [size_ext, grow]; omega) | omega)))))) (by simp [go_sem])) HN3.out HN4.out).mono ?_
    rw [HE3.out, HE4.out, one_self]
    rintro e w1 ⟨rfl, hb⟩
    obtain ⟨xs5, dr5, rfl⟩ := ext_of hb
    clear hb
    go_wp2_with fail
    refine (awake_any _).mono ?_
    rintro e w1 ⟨rfl, hb⟩
    obtain ⟨xs6, dr6, rfl⟩ := ext_of hb
    clear hb
    go_wp2_with fail
    go_ret
    exact ⟨rfl, by (repeat (first | exact Below.refl _ _ | exact Nat.le_refl _ | (refine below_ext ?_ (by first | (simp [size_ext, grow]; done) | (simp [size_ext, grow]; omega) | omega) _ _) | (refine Below.setCell ?_ (by first | (simp [size_ext, grow]; done) | (simp [size_ext, grow]; omega) | omega) _) | (refine Below.alloc ?_ (by first | (simp [size_ext, grow]; done) | (simp [size_ext, grow]; omega) | omega) _) | refine Below.drew ?_ | refine below_drewN ?_ _ | (refine Below.trans ?_ (Below.mono (by assumption) (by first | (simp [size_ext, grow]; done) | (simp [size_ext, grow]; omega) | omega)))))⟩
  · obtain ⟨m, hm⟩ : ∃ m, m = n := ⟨_, rfl⟩
    subst hm
    obtain ⟨d, hd⟩ : ∃ d, d = l := ⟨_, rfl⟩
    subst hd
    have HA := Lib.hid hA
    have HM := Lib.hid hl
    have hmc : m ≤ c := hc
    clear hA hl
    go_enter Try.func4, Try.ntmps4
    go_wp2_with fail
    refine (number_any t A m c d _ w.heap.size (by simp [go_sem]) (HA.out.keep (by (repeat (first | exact Below.refl _ _ | exact Nat.le_refl _ | (refine below_ext ?_ (by first | (simp [size_ext, grow]; done) | (simp [size_ext, grow]; omega) | omega) _ _) | (refine Below.setCell ?_ (by first | (simp [size_ext, grow]; done) | (simp [size_ext, grow]; omega) | omega) _) | (refine Below.alloc ?_ (by first | (simp [size_ext, grow]; done) | (simp [size_ext, grow]; omega) | omega) _) | refine Below.drew ?_ | refine below_drewN ?_ _ | (refine Below.trans ?_ (Below.mono (by assumption) (by first | (simp [size_ext, grow]; done) | (simp [size_ext, grow]; omega) | omega))))))) HM.out (by omega) hmc).mono ?_
    rintro e w1 ⟨rfl, hb⟩
    obtain ⟨xs1, dr1, rfl⟩ := ext_of hb
    clear hb
    go_wp2_with fail
    refine (number_ref t A m c d _ w.heap.size (by simp [go_sem]) (HA.out.keep (by (repeat (first | exact Below.refl _ _ | exact Nat.le_refl _ | (refine below_ext ?_ (by first | (simp [size_ext, grow]; done) | (simp [size_ext, grow]; omega) | omega) _ _) | (refine Below.setCell ?_ (by first | (simp [size_ext, grow]; done) | (simp [size_ext, grow]; omega) | omega) _) | (refine Below.alloc ?_ (by first | (simp [size_ext, grow]; done) | (simp [size_ext, grow]; omega) | omega) _) | refine Below.drew ?_ | refine below_drewN ?_ _ | (refine Below.trans ?_ (Below.mono (by assumption) (by first | (simp [size_ext, grow]; done) | (simp [size_ext, grow]; omega) | omega))))))) HM.out (by omega) hmc).mono ?_
    rintro e w1 ⟨rfl, hb⟩
    obtain ⟨xs2, dr2, rfl⟩ := ext_of hb
    clear hb
    go_wp2_with fail
    refine (make_any typ size x _ hx).mono ?_
    rintro e w1 ⟨⟨t3, d3, a3, c3⟩, rfl, hb, ho, he⟩
    obtain ⟨xs3, dr3, rfl⟩ := ext_of hb
    clear hb
    simp only [Ent.v, Ent.o] at ho he ⊢
    obtain ⟨_, _, hac, hc3, -⟩ := ownsRow_form ho
    simp only [Value.slice.injEq] at hac
    obtain ⟨rfl, -, rfl⟩ := hac
    have HO3 := Lib.hid (At.of_own ho)
    have HE3 := Lib.hid he
    clear ho he
    obtain ⟨n3, hn3⟩ : ∃ n, d3.length = n := ⟨_, rfl⟩
    rw [hn3] at hc3 ⊢
    have HN3 := Lib.hid hn3.symm
    clear hn3
    go_wp2_with fail
    refine (rmake_any typ size x _ hx).mono ?_
    rintro e w1 ⟨⟨t4, d4, a4, c4⟩, rfl, hb, ho, he⟩
    obtain ⟨xs4, dr4, rfl⟩ := ext_of hb
    clear hb
    simp only [Ent.v, Ent.o] at ho he ⊢
    obtain ⟨_, _, hac, hc4, -⟩ := ownsRow_form ho
    simp only [Value.slice.injEq] at hac
    obtain ⟨rfl, -, rfl⟩ := hac
    have HO4 := Lib.hid (At.of_own ho)
    have HE4 := Lib.hid he
    clear ho he
    obtain ⟨n4, hn4⟩ : ∃ n, d4.length = n := ⟨_, rfl⟩
    rw [hn4] at hc4 ⊢
    have HN4 := Lib.hid hn4.symm
    clear hn4
    go_wp2_with fail
    refine (one_ref t3 t4 a3 a4 n3 n4 c3 c4 d3 d4 _ _ (Nat.le_refl _) (HO3.out.move (by (repeat (first | exact Below.refl _ _ | exact Nat.le_refl _ | (refine below_ext ?_ (by first | (simp [size_ext, grow]; done) | (simp [size_ext, grow]; omega) | omega) _ _) | (refine Below.setCell ?_ (by first | (simp [size_ext, grow]; done) | (simp [size_ext, grow]; omega) | omega) _) | (refine Below.alloc ?_ (by first | (simp [size_ext, grow]; done) | (simp [size_ext, grow]; omega) | omega) _) | refine Below.drew ?_ | refine below_drewN ?_ _ | (refine Below.trans ?_ (Below.mono (by assumption) (by first | (simp [size_ext, grow]; done) | (simp [size_ext, grow]; omega) | omega)))))) (by simp [go_sem])) (HO4.out.move (by (repeat (first | exact Below.refl _ _ | exact Nat.le_refl _ | (refine below_ext ?_ (by first | (simp [size_ext, grow]; done) | (simp [size_ext, grow]; omega) | omega) _ _) | (refine Below.setCell ?_ (by first | (simp [size_ext, grow]; done) | (simp [size_ext, grow]; omega) | omega) _) | (refine Below.alloc ?_ (by first | (simp [size_ext, grow]; done) | (simp [size_ext, grow]; omega) | omega) _) | refine Below.drew ?_ | refine below_drewN ?_ _ | (refine Below.trans ?_ (Below.mono (by assumption) (by first | (simp [size_ext, grow]; done) | (simp [size_ext, grow]; omega) | omega)))))) (by simp [go_sem])) HN3.out HN4.out).mono ?_
    rw [HE3.out, HE4.out, one_self]
    rintro e w1 ⟨rfl, hb⟩
    obtain ⟨xs5, dr5, rfl⟩ := ext_of hb
    clear hb
    go_wp2_with fail
    refine (awake_any _).mono ?_
    rintro e w1 ⟨rfl, hb⟩
    obtain ⟨xs6, dr6, rfl⟩ := ext_of hb
    clear hb
    go_wp2_with fail
    go_ret
    exact ⟨rfl, by (repeat (first | exact Below.refl _ _ | exact Nat.le_refl _ | (refine below_ext ?_ (by first | (simp [size_ext, grow]; done) | (simp [size_ext, grow]; omega) | omega) _ _) | (refine Below.setCell ?_ (by first | (simp [size_ext, grow]; done) | (simp [size_ext, grow]; omega) | omega) _) | (refine Below.alloc ?_ (by first | (simp [size_ext, grow]; done) | (simp [size_ext, grow]; omega) | omega) _) | refine Below.drew ?_ | refine below_drewN ?_ _ | (refine Below.trans ?_ (Below.mono (by assumption) (by first | (simp [size_ext, grow]; done) | (simp [size_ext, grow]; omega) | omega)))))⟩
theorem optsNumbers_calls {H : Type} (enc : TypeId × Value → H) (W : World) (base : Nat) (v0 v1 v2 v3 : Value) (d0 d1 d2 d3 : DataW H) (p0 p1 p2 p3 : List MemPlace)
    (o0 : Value.okWide Try.prog W .any base 36 v0) (o1 : Value.okWide Try.prog W .any base 3 v1) (o2 : Value.okWide Try.prog W .any base 3 v2) (o3 : Value.okWide Try.prog W .any base 3 v3)
    (h0 : DataW.Trod enc Try.prog W 0 (fun _ => true) true 36 v0 d0 p0) (h1 : DataW.Trod enc Try.prog W 0 (fun _ => true) true 3 v1 d1 p1) (h2 : DataW.Trod enc Try.prog W 0 (fun _ => true) true 3 v2 d2 p2) (h3 : DataW.Trod enc Try.prog W 0 (fun _ => true) true 3 v3 d3 p3) :
    Calls Try.prog 4 #[v0, v1, v2, v3] W fun e W' => e = .returned (.bool true) ∧ Below W.heap.size W W' := by
  obtain ⟨t, A, n, c, l, rfl, hA, hn, hc, hl⟩ := open_opt_arg o0 h0
  obtain ⟨i1, rfl, rfl, rfl, w1⟩ := open_int Try.underlying3 o1 h1
  obtain ⟨i2, rfl, rfl, rfl, w2⟩ := open_int Try.underlying3 o2 h2
  obtain ⟨i3, rfl, rfl, rfl, w3⟩ := open_int Try.underlying3 o3 h3
  exact numbers_any t A n c l i1 i2 i3 W hA hn hc (by
    have : -9223372036854775808 ≤ i3 ∧ i3 ≤ 9223372036854775807 := by simpa [Lit.wf, IntKind.min, IntKind.max, IntKind.signed, IntKind.bits] using w3
    exact this.2)
end Go.Proofs.Ytbdkapmiioiikaa
