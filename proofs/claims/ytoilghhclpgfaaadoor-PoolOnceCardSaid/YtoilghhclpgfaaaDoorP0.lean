/- Rows of bits in words of 64. -/
import Derived.Test.YtoilghhclpgfaaaDoorT
import Derived.Laws.BitsAllLaws
import Derived.Lib.TrailingZeros
namespace Go.Proofs.YtoilghhclpgfaaaDoor
open Go.RowKit
set_option linter.unusedSimpArgs false
set_option linter.unusedVariables false
/-- 2^64 behind a name. -/
def W64 : Nat := 18446744073709551616
def bitW (ws : List Nat) (i : Nat) : Bool := (ws.getD (i / 64) 0).testBit (i % 64)
def putB (x j : Nat) (on : Bool) : Nat := if on = true then x ||| 2 ^ j else x &&& (18446744073709551615 - 2 ^ j)
def setW (ws : List Nat) (i : Nat) (on : Bool) : List Nat := ws.set (i / 64) (putB (ws.getD (i / 64) 0) (i % 64) on)
structure Wide (ws : List Nat) : Prop where
  lt : ∀ x ∈ ws, x < W64
theorem Wide.get {ws : List Nat} (h : Wide ws) (k : Nat) : ws.getD k 0 < W64 := by
  rw [List.getD_eq_getElem?_getD]
  by_cases hk : k < ws.length
  · rw [List.getElem?_eq_getElem hk]; exact h.lt _ (List.getElem_mem hk)
  · rw [List.getElem?_eq_none (by omega)]; simp [W64]
theorem two_lt {j : Nat} (h : j < 64) : 2 ^ j < W64 := by
  have : 2 ^ j < 2 ^ 64 := Nat.pow_lt_pow_right (by omega) h
  simpa [W64] using this
theorem putB_lt {x j : Nat} (hx : x < W64) (hj : j < 64) (on : Bool) : putB x j on < W64 := by
  unfold putB
  cases on
  · simp only [Bool.false_eq_true, if_false]
    exact Nat.lt_of_le_of_lt Nat.and_le_left hx
  · simp only [if_true]
    have h1 := two_lt hj
    unfold W64 at *
    exact Nat.or_lt_two_pow (n := 64) hx h1
theorem putB_bit {x j : Nat} (hx : x < W64) (hj : j < 64) (on : Bool) (i : Nat) (hi : i < 64) : (putB x j on).testBit i = if i = j then on else x.testBit i := by
  unfold putB
  cases on
  · simp only [Bool.false_eq_true, if_false]
    rw [Nat.testBit_and]
    have e : (18446744073709551615 - 2 ^ j).testBit i = !decide (j = i) := by
      have := Nat.testBit_two_pow_sub_succ (x := 2 ^ j) (n := 64) (by have := two_lt hj; simpa [W64] using this) i
      rw [show 2 ^ 64 - (2 ^ j + 1) = 18446744073709551615 - 2 ^ j by omega] at this
      rw [this, Nat.testBit_two_pow]
      simp [hi]
    rw [e]
    by_cases h : i = j
    · subst h; simp
    · rw [if_neg h]; simp [Ne.symm h]
  · simp only [if_true]
    rw [Nat.testBit_or, Nat.testBit_two_pow]
    by_cases h : i = j
    · subst h; simp
    · rw [if_neg h]; simp [Ne.symm h]
theorem setW_len (ws : List Nat) (i : Nat) (on : Bool) : (setW ws i on).length = ws.length := by simp [setW]
theorem setW_wide {ws : List Nat} (h : Wide ws) (i : Nat) (on : Bool) : Wide (setW ws i on) := by
  refine ⟨fun x hx => ?_⟩
  rcases List.mem_or_eq_of_mem_set hx with hx | rfl
  · exact h.lt x hx
  · exact putB_lt (h.get _) (by omega) on
theorem bit_setW {ws : List Nat} (h : Wide ws) {i : Nat} (hi : i / 64 < ws.length) (on : Bool) (j : Nat) : bitW (setW ws i on) j = if j = i then on else bitW ws j := by
  unfold bitW setW
  rw [List.getD_eq_getElem?_getD, List.getElem?_set]
  by_cases hd : i / 64 = j / 64
  · rw [if_pos hd, if_pos hi]
    simp only [Option.getD_some]
    rw [putB_bit (h.get _) (by omega) on _ (by omega), hd]
    by_cases he : j = i
    · subst he; simp
    · rw [if_neg he, if_neg (by omega)]
  · rw [if_neg hd, if_neg (by rintro rfl; exact hd rfl), List.getD_eq_getElem?_getD]
theorem bit_over {ws : List Nat} {j : Nat} (h : ws.length ≤ j / 64) : bitW ws j = false := by
  unfold bitW
  rw [List.getD_eq_getElem?_getD, List.getElem?_eq_none h]
  simp
theorem bit_zero (n j : Nat) : bitW (List.replicate n 0) j = false := by
  unfold bitW
  rw [List.getD_eq_getElem?_getD, List.getElem?_replicate]
  by_cases h : j / 64 < n <;> simp [h]
theorem wide_zero (n : Nat) : Wide (List.replicate n 0) := ⟨fun x hx => by rw [List.mem_replicate] at hx; rw [hx.2]; simp [W64]⟩
/-- A word that is 0 has no bit. -/
theorem word_bit {ws : List Nat} {k j : Nat} (h : ws.getD k 0 = 0) (hj : j / 64 = k) : bitW ws j = false := by
  unfold bitW; rw [hj, h]; simp
theorem ctz_lt {x : Nat} (h0 : x ≠ 0) (hx : x < W64) : Lib.ctz 64 x < 64 := by
  unfold Lib.ctz
  rw [if_neg h0]
  obtain ⟨m, hm, hk⟩ := Lib.ctzFrom_spec 64 x (by omega) (by simpa [W64] using hx)
  exact hk
theorem ctz_bit {x : Nat} (h0 : x ≠ 0) (hx : x < W64) : x.testBit (Lib.ctz 64 x) = true ∧ ∀ j, j < Lib.ctz 64 x → x.testBit j = false := by
  unfold Lib.ctz
  rw [if_neg h0]
  obtain ⟨m, hm, hk⟩ := Lib.ctzFrom_spec 64 x (by omega) (by simpa [W64] using hx)
  generalize Lib.ctzFrom 64 x = k at hm hk
  subst hm
  rw [Nat.mul_comm]
  refine ⟨?_, fun j hj => ?_⟩
  · rw [Nat.testBit_mul_two_pow]; simp [Nat.testBit_zero]
  · rw [Nat.testBit_mul_two_pow]; simp; omega
end Go.Proofs.YtoilghhclpgfaaaDoor
