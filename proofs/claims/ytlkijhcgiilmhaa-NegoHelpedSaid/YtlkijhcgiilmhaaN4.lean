/- slices.Equal of bytes; placed. -/
import Derived.Test.YtlkijhcgiilmhaaN3
namespace Go.Proofs.Ytlkijhcgiilmhaa
open Go.RowKit
set_option linter.unusedSimpArgs false
set_option linter.unusedVariables false
theorem bytes_get {w : World} {B : Nat} {A : Option Addr} {l : List UInt8} (h : At w B A (l.map bv)) {k : Nat} (hk : k < l.length) :
    ∃ b o, A = some ⟨b, o, none⟩ ∧ b < B ∧ w.cell? ⟨b, o + k, none⟩ = some (.int .u8 ((l[k].toNat : Nat) : Int)) := by
  obtain ⟨b, o, hA, hB, hc⟩ := h.get (by simp; omega)
  exact ⟨b, o, hA, hB, hc k _ (by simp [List.getElem?_map, List.getElem?_eq_getElem hk, bv])⟩
set_option maxHeartbeats 1000000 in
theorem equal_any (A1 A2 : Option Addr) (n1 n2 c1 c2 : Nat) (l1 l2 : List UInt8) (w : World) (B : Nat) (hB : B ≤ w.heap.size) (h1 : At w B A1 (l1.map bv)) (h2 : At w B A2 (l2.map bv)) (hn1 : n1 = l1.length) (hn2 : n2 = l2.length) (hl : n1 ≤ 1000000) (hl2 : n2 ≤ 1000000) :
    Calls Try.prog 48 #[.slice A1 n1 c1, .slice A2 n2 c2] w fun x w' => x = .returned (.bool (decide (l1 = l2))) ∧ Below w.heap.size w w' := by
  have H1 := Lib.hid h1
  have H2 := Lib.hid h2
  have HN1 := Lib.hid hn1
  have HN2 := Lib.hid hn2
  have HB := Lib.hid hB
  clear h1 h2 hn1 hn2 hB
  by_cases hne : n1 = n2
  · subst hne
    go_enter Try.func48, Try.ntmps48
    go_wp2_with fail
    go_loopw [13] (fun i wr => ∃ k : Nat, k ≤ n1 ∧ i = .int .i64 k ∧ l1.take k = l2.take k ∧ Below w.heap.size w wr) (fun i _ => n1 - (intOf i).toNat)
    case atStart => exact ⟨0, Nat.zero_le _, rfl, rfl, Below.refl _ _⟩
    case round =>
      obtain ⟨k, hk, rfl, ht, hb⟩ := hrel
      have HT := Lib.hid ht
      have HBL := Lib.hid hb
      have hsz := hb.size
      clear ht hb
      by_cases hlt : k < n1
      · have HK1 := Lib.hid (show k < l1.length by have := HN1.out; omega)
        have HK2 := Lib.hid (show k < l2.length by have := HN2.out; omega)
        obtain ⟨b1, o1, rfl, hb1, g1⟩ := bytes_get (H1.out.keep (HBL.out.mono HB.out)) HK1.out
        obtain ⟨b2, o2, rfl, hb2, g2⟩ := bytes_get (H2.out.keep (HBL.out.mono HB.out)) HK2.out
        obtain ⟨x, hx⟩ : ∃ x, l1[k]'HK1.out = x := ⟨_, rfl⟩
        obtain ⟨y, hy⟩ : ∃ y, l2[k]'HK2.out = y := ⟨_, rfl⟩
        rw [hx] at g1
        rw [hy] at g2
        have HX := Lib.hid hx
        have HY := Lib.hid hy
        have z1 : b1 < wr.heap.size := by have := HB.out; omega
        have z2 : b2 < wr.heap.size := by have := HB.out; omega
        have jj0 : (0 : Int) ≤ (k : Int) := by omega
        have jj1 : (k : Int) < (n1 : Int) := by omega
        clear hx hy
        by_cases hxy : x = y
        · have HS := Lib.hid (show l1.take (k + 1) = l2.take (k + 1) by rw [List.take_succ_eq_append_getElem HK1.out, List.take_succ_eq_append_getElem HK2.out, HT.out, HX.out, HY.out, hxy])
          have e1 : (((x.toNat : Nat) : Int) != ((y.toNat : Nat) : Int)) = false := by simp [hxy]
          clear hxy
          go_upto_region 6 with (fail)
          go_quiet (fail)
          go_wp2_with fail
          go_roundw
          case rel => exact ⟨k + 1, by omega, by go_num, HS.out, by have := HBL.out; exact bel⟩
          case measure => simp [intOf]; omega
        · have HNO := Lib.hid (show l1 ≠ l2 by intro e; subst e; exact hxy (HX.out.symm.trans HY.out))
          have e1 : (((x.toNat : Nat) : Int) != ((y.toNat : Nat) : Int)) = true := by
            simp only [bne_iff_ne, ne_eq]
            intro e
            exact hxy (UInt8.toNat_inj.1 (by omega))
          clear hxy
          go_upto_region 6 with (fail)
          go_quiet (fail)
          go_wp2_with fail
          go_ret
          exact ⟨by rw [decide_eq_false HNO.out]; rfl, by have := HBL.out; exact bel⟩
      · obtain rfl : k = n1 := by omega
        have HYES := Lib.hid (show l1 = l2 by have h := HT.out; rw [HN1.out, List.take_length] at h; rw [h, List.take_of_length_le (by have := HN1.out; have := HN2.out; omega)])
        go_wp2_with fail
        go_ret
        exact ⟨by rw [decide_eq_true HYES.out]; rfl, HBL.out⟩
  · have HNO := Lib.hid (show l1 ≠ l2 by intro e; subst e; exact hne (HN1.out.trans HN2.out.symm))
    have e0 : ((n1 : Int) != (n2 : Int)) = true := by simp; omega
    go_enter Try.func48, Try.ntmps48
    go_wp2_with fail
    go_ret
    exact ⟨by rw [decide_eq_false HNO.out]; rfl, Below.refl _ _⟩
end Go.Proofs.Ytlkijhcgiilmhaa
