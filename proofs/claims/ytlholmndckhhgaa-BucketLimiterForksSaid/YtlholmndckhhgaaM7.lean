/- BucketLimiterMany: its walk. -/
import Derived.Test.YtlholmndckhhgaaM6
namespace Go.Proofs.Ytlholmndckhhgaa
open Go.ChangeShapes Go.WideShapes Go.ChangeAt Go.RowKit Go.Joins Go.Deep Go.Maps
set_option linter.unusedSimpArgs false
set_option linter.unusedVariables false
theorem two_below {B l bm : Nat} {w W W' : World} (h : Below B w W) (hB : B ≤ W.heap.size) (ht : Two l bm W W') (h1 : B ≤ l) (h2 : B ≤ bm) : Below B w W' := h.trans (ht.below hB h1 h2)
set_option maxRecDepth 100000 in
set_option maxHeartbeats 1000000 in
theorem many_any (n later : Nat) (w : World) (hn : n < 65536) (hl : later ≤ 255) : Calls Try.prog 8 #[.int .u16 (n : Int), .int .u8 (later : Int)] w fun e w' => e = .returned (.bool true) ∧ Below w.heap.size w w' := by
  go_enter Try.func8, Try.ntmps8
  go_wp2_with fail
  refine (new_any 1000 100000 1 2 _).mono ?_
  rintro e w1 ⟨hb, ⟨h, -⟩ | ⟨-, l, bm, rfl, hl1, hb1, hc, hm⟩⟩
  · exact absurd h (by decide)
  have HBW := Lib.hid (show Below w.heap.size w w1 from ((Below.refl _ w).alloc (Nat.le_refl _) _).trans (hb.mono (by simp)))
  have hlw : w.heap.size ≤ l := by simp at hl1; omega
  have hbw : w.heap.size ≤ bm := by simp at hb1; omega
  have HC := Lib.hid hc
  have HM := Lib.hid hm
  clear hb hl1 hb1 hc hm
  go_wp2_with fail
  refine (awake_any _).mono ?_
  rintro e w2 ⟨rfl, hb⟩
  have HB2 := Lib.hid (show Below w.heap.size w w2 from HBW.out.trans (hb.mono HBW.out.size))
  have HC2 := Lib.hid (show LimC w2 l 1000 100000 1 2 100000 0 (some bm) 0 from (hb.block l (lt_of_block HC.out)).trans HC.out)
  have HM2 := Lib.hid (HM.out.kept (hb.block bm HM.out.lt))
  clear hb
  obtain ⟨k, hk⟩ : ∃ k : Nat, (n : Int) % 300 = (k : Int) := ⟨n % 300, by omega⟩
  have k3 : k < 300 := by omega
  go_wp2_with fail
  rw [hk]
  clear hk
  go_loopw [9] (fun i wr => ∃ j : Nat, j ≤ k ∧ i = .int .i64 j ∧ Below w.heap.size w wr ∧ LimC wr l 1000 100000 1 2 (manyS j).bt (manyS j).bk (some bm) (manyS j).tick ∧ MapAt wr bm (manyS j).L) (fun i _ => k - (intOf i).toNat)
  case atStart => exact ⟨0, Nat.zero_le _, rfl, HB2.out, HC2.out, HM2.out⟩
  case round =>
    obtain ⟨j, hj, rfl, hb, hc, hm⟩ := hrel
    have HB := Lib.hid hb
    have HCR := Lib.hid hc
    have HMR := Lib.hid hm
    have hsz := hb.size
    clear hb hc hm
    by_cases hlt : j < k
    · have j3 : j < 300 := by omega
      have HS := Lib.hid (many_step j3)
      have hlen : (manyS j).L.length ≤ 100000 := by unfold manyS; simp only [manyL_len]; omega
      have hlen1 := Lib.hid (show ((manyS (j + 1)).L.length : Int) = min ((j : Int) + 1) 256 by unfold manyS; simp only [manyL_len]; omega)
      go_wp2_with fail
      refine (allow_any l bm 1000 100000 1 2 (manyS j) (mk j) (keyL (mk j)) 0 wr (key6 (mk_ok (by omega))) HCR.out HMR.out hlen).mono ?_
      rintro y w3 ⟨rfl, hc, hm, ht⟩
      rw [HS.out.2] at hc hm
      rw [HS.out.1]
      have HC3 := Lib.hid hc
      have HM3 := Lib.hid hm
      have HB3 := Lib.hid (two_below HB.out hsz ht hlw hbw)
      clear hc hm ht hlen
      by_cases h6 : j < 256
      · have h6' : decide ((j : Int) < 256) = true := by simp; omega
        have e6 : decide (j < 256) = true := by simp; omega
        rw [e6]
        go_wp2_with fail
        refine (len_any l bm 1000 100000 1 2 _ _ _ _ _ HC3.out HM3.out).mono ?_
        rintro e w4 ⟨rfl, rfl⟩
        rw [hlen1.out, show min ((j : Int) + 1) 256 = (j : Int) + 1 by omega]
        go_wp2_with fail
        go_roundw
        case rel => exact ⟨j + 1, by omega, by go_num, HB3.out, HC3.out, HM3.out⟩
        case measure => simp [intOf]; omega
      · have h6' : decide ((j : Int) < 256) = false := by simp; omega
        have e6 : decide (j < 256) = false := by simp; omega
        rw [e6]
        go_wp2_with fail
        refine (len_any l bm 1000 100000 1 2 _ _ _ _ _ HC3.out HM3.out).mono ?_
        rintro e w4 ⟨rfl, rfl⟩
        rw [hlen1.out, show min ((j : Int) + 1) 256 = 256 by omega]
        go_wp2_with fail
        go_roundw
        case rel => exact ⟨j + 1, by omega, by go_num, HB3.out, HC3.out, HM3.out⟩
        case measure => simp [intOf]; omega
    · obtain rfl : j = k := by omega
      have hlen : (manyS j).L.length ≤ 100000 := by unfold manyS; simp only [manyL_len]; omega
      go_wp2_with fail
      refine (allow_any l bm 1000 100000 1 2 (manyS j) key4 (keyL key4) (later : Int) wr (key6 key4_ok) HCR.out HMR.out hlen).mono ?_
      rintro y w3 ⟨rfl, hc, hm, ht⟩
      have HC3 := Lib.hid hc
      have HM3 := Lib.hid hm
      have HB3 := Lib.hid (two_below HB.out hsz ht hlw hbw)
      clear hc hm ht hlen
      by_cases h0 : later = 0
      · subst h0
        rw [show allowB 1000 100000 1 2 (manyS j) (keyL key4) ((0 : Nat) : Int) = decide (j < 256) from many_last0 k3]
        by_cases h6 : j < 256
        · have h6' : decide ((j : Int) < 256) = true := by simp; omega
          have e6 : decide (j < 256) = true := by simp; omega
          rw [e6]
          go_wp2_with fail
          go_ret
          exact ⟨rfl, HB3.out⟩
        · have h6' : decide ((j : Int) < 256) = false := by simp; omega
          have e6 : decide (j < 256) = false := by simp; omega
          rw [e6]
          go_wp2_with fail
          go_ret
          exact ⟨rfl, HB3.out⟩
      · have HLS := Lib.hid (many_last1 (i := j) (t := (later : Int)) k3 (by omega) (by omega))
        rw [HLS.out.1]
        have l0 : ((later : Int) == 0) = false := by simp; omega
        go_wp2_with fail
        refine (len_any l bm 1000 100000 1 2 _ _ _ _ _ HC3.out HM3.out).mono ?_
        rintro e w4 ⟨rfl, rfl⟩
        rw [HLS.out.2]
        go_wp2_with fail
        go_ret
        exact ⟨rfl, HB3.out⟩
theorem bucketLimiterMany_calls {H : Type} (enc : TypeId × Value → H) (W : World) (base : Nat) (v0 v1 : Value) (d0 d1 : DataW H) (p0 p1 : List MemPlace)
    (o0 : Value.okWide Try.prog W .any base 50 v0) (o1 : Value.okWide Try.prog W .any base 5 v1)
    (h0 : DataW.Trod enc Try.prog W 0 (fun _ => true) true 50 v0 d0 p0) (h1 : DataW.Trod enc Try.prog W 0 (fun _ => true) true 5 v1 d1 p1) :
    Calls Try.prog 8 #[v0, v1] W fun e W' => e = .returned (.bool true) ∧ Below W.heap.size W W' := by
  obtain ⟨i0, rfl, rfl, rfl, w0⟩ := open_int Try.underlying50 o0 h0
  obtain ⟨i1, rfl, rfl, rfl, w1⟩ := open_int Try.underlying5 o1 h1
  have b0 : 0 ≤ i0 ∧ i0 ≤ 65535 := by simpa [Lit.wf, IntKind.min, IntKind.max, IntKind.signed, IntKind.bits] using w0
  have b1 : 0 ≤ i1 ∧ i1 ≤ 255 := by simpa [Lit.wf, IntKind.min, IntKind.max, IntKind.signed, IntKind.bits] using w1
  obtain ⟨j0, rfl⟩ := Int.eq_ofNat_of_zero_le b0.1
  obtain ⟨j1, rfl⟩ := Int.eq_ofNat_of_zero_le b1.1
  exact many_any j0 j1 W (by omega) (by omega)
end Go.Proofs.Ytlholmndckhhgaa
