/- opts.Number, opts.Make, and the reference's. -/
import Derived.Test.YtbdkapmiioiikaaH4
namespace Go.Proofs.Ytbdkapmiioiikaa
open Go.RowKit
set_option linter.unusedSimpArgs false
set_option linter.unusedVariables false
def numN (d : List UInt8) : Int := if 1 ≤ d.length ∧ d.length ≤ 4 then (be d : Int) else 0
def numB (d : List UInt8) : Bool := decide (1 ≤ d.length ∧ d.length ≤ 4)
theorem ret_num {a a' : Int} {b b' : Bool} (h1 : a = a') (h2 : b = b') : Ending.returned (.tuple #[.int .i64 a, .bool b]) = .returned (.tuple #[.int .i64 a', .bool b']) := by rw [h1, h2]
theorem be_lt4 (l : List UInt8) (h : l.length ≤ 4) : be l < 4294967296 := by
  have := be_take_lt l l.length (by omega)
  rw [List.take_length] at this
  have h9 : 256 ^ l.length ≤ 256 ^ 4 := Nat.pow_le_pow_right (by omega) h
  omega
set_option maxHeartbeats 1000000 in
theorem number_any (t : Int) (A : Option Addr) (n c : Nat) (d : List UInt8) (w : World) (B : Nat) (hB : B ≤ w.heap.size) (hA : At w B A (d.map bv)) (hn : n = d.length) (hl : n ≤ 1000000) (hc : n ≤ c) :
    Calls Try.prog 18 #[.agg #[.int .i64 t, .slice A n c]] w fun x w' => x = .returned (.tuple #[.int .i64 (numN d), .bool (numB d)]) ∧ Below w.heap.size w w' := by
  have HA := Lib.hid hA
  have HN := Lib.hid hn
  have HB := Lib.hid hB
  clear hA hB hn
  cases hw : inB (n : Int) 1 4
  · have HR := Lib.hid (show numN d = 0 ∧ numB d = false by have := HN.out; simp [inB] at hw; unfold numN numB; exact ⟨by rw [if_neg (by omega)], by simp; omega⟩)
    go_enter Try.func18, Try.ntmps18
    go_wp2_with (go_at_call 26; refine (within_any _ _ _ _).mono ?_; rw [hw]; rintro e w1 ⟨rfl, rfl⟩)
    go_ret2
    exact ⟨by rw [HR.out.1, HR.out.2]; rfl, by (repeat (first | exact Below.refl _ _ | exact Nat.le_refl _ | (refine below_ext ?_ (by first | (simp [size_ext, grow]; done) | (simp [size_ext, grow]; omega) | omega) _ _) | (refine Below.setCell ?_ (by first | (simp [size_ext, grow]; done) | (simp [size_ext, grow]; omega) | omega) _) | (refine Below.alloc ?_ (by first | (simp [size_ext, grow]; done) | (simp [size_ext, grow]; omega) | omega) _) | refine Below.drew ?_ | refine below_drewN ?_ _ | (refine Below.trans ?_ (Below.mono (by assumption) (by first | (simp [size_ext, grow]; done) | (simp [size_ext, grow]; omega) | omega)))))⟩
  · have h14 : 1 ≤ n ∧ n ≤ 4 := by simp [inB] at hw; omega
    have HR := Lib.hid (show numN d = (be d : Int) ∧ numB d = true by have := HN.out; unfold numN numB; exact ⟨by rw [if_pos (by omega)], by simp; omega⟩)
    have hbe : (be d : Int) < 4294967296 := by have := be_lt4 d (by have := HN.out; omega); omega
    have hbe0 : (0 : Int) ≤ (be d : Int) := by omega
    have HT := Lib.hid (show d.take n = d by rw [HN.out]; exact List.take_length)
    obtain ⟨h1, h4⟩ := h14
    go_enter Try.func18, Try.ntmps18
    go_wp2_with (first | (go_at_call 26; refine (within_any _ _ _ _).mono ?_; rw [hw]; rintro e w1 ⟨rfl, rfl⟩) | (go_at_call 29; refine (take_yes A n c d (n : Int) _ B (by have := HB.out; simp; omega) (by have := HB.out; exact HA.out.keep (by (repeat (first | exact Below.refl _ _ | exact Nat.le_refl _ | (refine below_ext ?_ (by first | (simp [size_ext, grow]; done) | (simp [size_ext, grow]; omega) | omega) _ _) | (refine Below.setCell ?_ (by first | (simp [size_ext, grow]; done) | (simp [size_ext, grow]; omega) | omega) _) | (refine Below.alloc ?_ (by first | (simp [size_ext, grow]; done) | (simp [size_ext, grow]; omega) | omega) _) | refine Below.drew ?_ | refine below_drewN ?_ _ | (refine Below.trans ?_ (Below.mono (by assumption) (by first | (simp [size_ext, grow]; done) | (simp [size_ext, grow]; omega) | omega))))))) HN.out (by omega) (by omega) (by omega) (by omega) hc).mono ?_; rintro e w1 ⟨v, rfl, hb, ho⟩; obtain ⟨xs, dd, rfl⟩ := ext_of hb; clear hb; rw [Int.toNat_natCast, HT.out]; obtain ⟨A2, c2, rfl, -, -⟩ := ownsRow_form ho; clear ho))
    go_ret2
    exact ⟨by rw [HR.out.1, HR.out.2]; rfl, by (repeat (first | exact Below.refl _ _ | exact Nat.le_refl _ | (refine below_ext ?_ (by first | (simp [size_ext, grow]; done) | (simp [size_ext, grow]; omega) | omega) _ _) | (refine Below.setCell ?_ (by first | (simp [size_ext, grow]; done) | (simp [size_ext, grow]; omega) | omega) _) | (refine Below.alloc ?_ (by first | (simp [size_ext, grow]; done) | (simp [size_ext, grow]; omega) | omega) _) | refine Below.drew ?_ | refine below_drewN ?_ _ | (refine Below.trans ?_ (Below.mono (by assumption) (by first | (simp [size_ext, grow]; done) | (simp [size_ext, grow]; omega) | omega)))))⟩
end Go.Proofs.Ytbdkapmiioiikaa
