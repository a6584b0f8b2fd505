/- The lowest free place. -/
import Derived.Test.YtoilghhclpgfaaaDoorP3
import Derived.Laws.Bits64b
import Derived.Outline
namespace Go.Proofs.YtoilghhclpgfaaaDoor
open Go.RowKit
set_option linter.unusedSimpArgs false
set_option linter.unusedVariables false
def tab64 : List Nat := Lib.deBruijn64tab
/-- The library's table in its variable. -/
def TabAt (w : World) : Prop := ∀ j, j < Lib.deBruijn64tab.length → w.cell? ⟨0, j, none⟩ = some (.int .u8 ((Lib.deBruijn64tab.getD j 0 : Nat) : Int))
theorem tz_key (x a : Nat) (hx : x < 18446744073709551616) (hx0 : x ≠ 0) (hlow : x &&& (18446744073709551616 - x) = a) :
    IntKind.u64.wrap (bits BinOp.and IntKind.u64 (x : Int) (IntKind.u64.wrap (-(x : Int))) * 285870213051353865) / 288230376151711744 = ((a * 285870213051353865 % 18446744073709551616 / 288230376151711744 : Nat) : Int) := by
  have e1 : IntKind.u64.wrap (-(x : Int)) = ((18446744073709551616 - x : Nat) : Int) := by rw [IntKind.wrap_u64]; omega
  rw [e1, bits_and_u64_nat x _ hx (by omega), hlow, IntKind.wrap_u64]
  omega
set_option maxHeartbeats 1000000 in
theorem tz_core (x k idx : Nat) (w : World) (hx0 : ((x : Int) == 0) = false)
    (key : IntKind.u64.wrap (bits BinOp.and IntKind.u64 (x : Int) (IntKind.u64.wrap (-(x : Int))) * 285870213051353865) / 288230376151711744 = (idx : Int))
    (hi : idx < 64) (hk : k < 64) (hcell : w.cell? ⟨0, idx, none⟩ = some (.int .u8 (k : Int))) :
    Calls Tryd.prog 38 #[.int .u64 (x : Int)] w fun e w' => e = .returned (.int .i64 (k : Int)) ∧ w' = w := by
  go_enter Tryd.func38, Tryd.ntmps38
  go_wp2_with (simp only [key])
  go_ret
  exact ⟨rfl, rfl⟩
theorem tz_any (x : Nat) (hx : x < W64) (hx0 : x ≠ 0) (w : World) (hT : TabAt w) : Calls Tryd.prog 38 #[.int .u64 (x : Int)] w fun e w' => e = .returned (.int .i64 ((Lib.ctz 64 x : Nat) : Int)) ∧ w' = w := by
  unfold W64 at hx
  obtain ⟨hlow, hk⟩ := Lib.lowest_bit 64 x hx0 hx
  obtain ⟨hi, htab⟩ := Lib.deBruijn64_at _ hk
  have hcell := hT _ hi
  rw [htab] at hcell
  exact tz_core x _ _ w (by simp; omega) (tz_key x _ hx hx0 hlow) hi hk hcell
def lowK (fw : List Nat) : Option Nat := (List.range fw.length).find? fun k => !(fw.getD k 0 == 0)
def lowO (fw : List Nat) : Option Nat := (lowK fw).map fun k => 64 * k + Lib.ctz 64 (fw.getD k 0)
def lowI (fw : List Nat) : Int := match lowO fw with | some i => (i : Int) | none => 0
def lowE (fw : List Nat) : Int := match lowO fw with | some _ => 0 | none => 121
theorem lowK_some {fw : List Nat} {k : Nat} (hk : k < fw.length) (h0 : ∀ i, i < k → fw.getD i 0 = 0) (h : fw.getD k 0 ≠ 0) : lowK fw = some k := by
  unfold lowK
  rw [List.find?_range_eq_some]
  refine ⟨by simpa using h, List.mem_range.2 hk, fun j hj => ?_⟩
  rw [h0 j hj]; rfl
theorem lowK_none {fw : List Nat} (h0 : ∀ i, i < fw.length → fw.getD i 0 = 0) : lowK fw = none := by
  unfold lowK
  rw [List.find?_eq_none]
  intro k hk
  rw [h0 k (List.mem_range.1 hk)]; simp
theorem lowK_is {fw : List Nat} {k : Nat} (h : lowK fw = some k) : k < fw.length ∧ (∀ i, i < k → fw.getD i 0 = 0) ∧ fw.getD k 0 ≠ 0 := by
  unfold lowK at h
  rw [List.find?_range_eq_some] at h
  exact ⟨List.mem_range.1 h.2.1, fun i hi => by have := h.2.2 i hi; simpa using this, by have := h.1; simpa using this⟩
theorem lowK_isnone {fw : List Nat} (h : lowK fw = none) (i : Nat) : fw.getD i 0 = 0 := by
  by_cases hi : i < fw.length
  · unfold lowK at h
    rw [List.find?_eq_none] at h
    have := h i (List.mem_range.2 hi)
    simpa using this
  · rw [List.getD_eq_getElem?_getD, List.getElem?_eq_none (by omega)]; rfl
theorem lowO_some {fw : List Nat} (hw : Wide fw) {i : Nat} (h : lowO fw = some i) : i / 64 < fw.length ∧ bitW fw i = true ∧ ∀ j, j < i → bitW fw j = false := by
  unfold lowO at h
  obtain ⟨k, hk, rfl⟩ := Option.map_eq_some_iff.1 h
  obtain ⟨h1, h2, h3⟩ := lowK_is hk
  have hl := ctz_lt h3 (hw.get k)
  have hb := ctz_bit h3 (hw.get k)
  have e1 : (64 * k + Lib.ctz 64 (fw.getD k 0)) / 64 = k := by omega
  have e2 : (64 * k + Lib.ctz 64 (fw.getD k 0)) % 64 = Lib.ctz 64 (fw.getD k 0) := by omega
  refine ⟨by rw [e1]; exact h1, by unfold bitW; rw [e1, e2]; exact hb.1, fun j hj => ?_⟩
  by_cases hjk : j / 64 < k
  · exact word_bit (h2 _ hjk) rfl
  · have hjk' : j / 64 = k := by omega
    unfold bitW
    rw [hjk']
    exact hb.2 _ (by omega)
theorem lowO_none {fw : List Nat} (h : lowO fw = none) (i : Nat) : bitW fw i = false := by
  unfold lowO at h
  rw [Option.map_eq_none_iff] at h
  exact word_bit (lowK_isnone h _) rfl
set_option maxRecDepth 100000 in
set_option maxHeartbeats 1000000 in
theorem lowest_any (p : Nat) (S : PoolS) (w : World) (h : PoolAt w p S) (hT : TabAt w) (hs : S.s ≤ 65536) :
    Calls Tryd.prog 31 #[.pointer (some ⟨p, 0, none⟩)] w fun e w' => e = .returned (.tuple #[.int .i64 (lowI S.fw), .int .i64 (lowE S.fw)]) ∧ w = w' := by
  have c2 : w.cell? ⟨p, 2, none⟩ = some (.slice (some ⟨S.af, 0, none⟩) S.nw S.cf) := (cell_of_row w p 2 _ _ (0, 0) h.st).trans rfl
  have hz : p < w.heap.size := lt_of_block h.st
  have hnl : S.nw = S.fw.length := h.free.n
  have hnb : S.nw ≤ 1100 := by unfold PoolS.nw; omega
  have hwide := h.free.wide
  obtain ⟨nw, hnw⟩ : ∃ nw, S.nw = nw := ⟨_, rfl⟩
  rw [hnw] at c2 hnl hnb
  have HN := Lib.hid hnl
  have HW := Lib.hid hwide
  have HF := Lib.hid h.free
  have HT := Lib.hid hT
  clear h hnl hwide hnw hT hs
  go_enter Tryd.func31, Tryd.ntmps31
  go_wp2_with fail
  go_loop [11] (fun i => ∃ k : Nat, k ≤ nw ∧ i = .int .i64 k ∧ ∀ i, i < k → S.fw.getD i 0 = 0) (fun i => nw - (intOf i).toNat)
  case atStart => exact ⟨0, Nat.zero_le _, rfl, fun i hi => absurd hi (Nat.not_lt_zero i)⟩
  case round =>
    obtain ⟨k, hk, rfl, hp⟩ := hrel
    have HP := Lib.hid hp
    clear hp
    by_cases hlt : k < nw
    · have HK := Lib.hid (show k < S.fw.length by have := HN.out; omega)
      obtain ⟨b, hb, hbz, hc, -⟩ := HF.out.get HK.out
      cases hb
      have hx := HW.out.get k
      obtain ⟨x, hxx⟩ : ∃ x, S.fw.getD k 0 = x := ⟨_, rfl⟩
      rw [hxx] at hc hx
      have HX := Lib.hid (And.intro hxx hx)
      clear hxx hx
      by_cases h0 : x = 0
      · subst h0
        go_wp2_with fail
        go_round
        case rel => exact ⟨k + 1, by omega, by go_num, upto_succ HP.out HX.out.1⟩
        case measure => simp [intOf]; omega
      · have e1 : ((x : Int) == 0) = false := by simpa using h0
        have e2 : ((x : Int) != 0) = true := by simpa using h0
        have HLO := Lib.hid (show lowO S.fw = some (64 * k + Lib.ctz 64 x) by unfold lowO; rw [lowK_some HK.out HP.out (by rw [HX.out.1]; exact h0)]; simp only [Option.map_some]; rw [HX.out.1])
        have hcl := ctz_lt h0 HX.out.2
        have H0 := Lib.hid h0
        clear h0
        obtain ⟨t, ht⟩ : ∃ t, Lib.ctz 64 x = t := ⟨_, rfl⟩
        rw [ht] at HLO hcl
        have HTT := Lib.hid ht
        clear ht
        go_wp2_with fail
        refine (tz_any x HX.out.2 H0.out _ HT.out).mono ?_
        rw [HTT.out]
        rintro e w1 ⟨rfl, rfl⟩
        go_wp2_with fail
        go_ret2
        refine ⟨?_, rfl⟩
        unfold lowI lowE
        rw [HLO.out]
        simp
    · obtain rfl : k = nw := by omega
      have HLO := Lib.hid (show lowO S.fw = none by unfold lowO; rw [lowK_none (fun i hi => HP.out i (by have := HN.out; omega))]; rfl)
      go_wp2_with fail
      go_ret2
      refine ⟨?_, rfl⟩
      unfold lowI lowE
      rw [HLO.out]
      rfl
end Go.Proofs.YtoilghhclpgfaaaDoor
