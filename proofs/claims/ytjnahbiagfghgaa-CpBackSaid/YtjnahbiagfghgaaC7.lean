/- cp and its reference: small functions. -/
import Derived.Test.YtjnahbiagfghgaaR1
namespace Go.Proofs.Ytjnahbiagfghgaa
open Go.RowKit
set_option linter.unusedSimpArgs false
set_option linter.unusedVariables false
theorem isByte_any (n : Int) (w : World) : Calls Try.prog 30 #[.int .i64 n] w fun e w' => e = .returned (.bool (inB n 0 255)) ∧ w = w' := by
  by_cases h1 : 0 ≤ n
  · by_cases h2 : n ≤ 255
    · have H := Lib.hid (show inB n 0 255 = true by simp [inB, h1, h2])
      go_enter Try.func30, Try.ntmps30
      go_wp2
      go_ret
      rw [H.out]
      exact ⟨rfl, rfl⟩
    · have H := Lib.hid (show inB n 0 255 = false by simp [inB, h2])
      go_enter Try.func30, Try.ntmps30
      go_wp2
      go_ret
      rw [H.out]
      exact ⟨rfl, rfl⟩
  · have H := Lib.hid (show inB n 0 255 = false by simp [inB, h1])
    go_enter Try.func30, Try.ntmps30
    go_wp2
    go_ret
    rw [H.out]
    exact ⟨rfl, rfl⟩
theorem byteOK_any (n : Int) (w : World) : Calls Try.prog 31 #[.int .i64 n] w fun e w' => e = .returned (.bool (inB n 0 255)) ∧ w = w' := by
  by_cases h1 : 0 ≤ n
  · by_cases h2 : n ≤ 255
    · have H := Lib.hid (show inB n 0 255 = true by simp [inB, h1, h2])
      go_enter Try.func31, Try.ntmps31
      go_wp2
      go_ret
      rw [H.out]
      exact ⟨rfl, rfl⟩
    · have H := Lib.hid (show inB n 0 255 = false by simp [inB, h2])
      go_enter Try.func31, Try.ntmps31
      go_wp2
      go_ret
      rw [H.out]
      exact ⟨rfl, rfl⟩
  · have H := Lib.hid (show inB n 0 255 = false by simp [inB, h1])
    go_enter Try.func31, Try.ntmps31
    go_wp2
    go_ret
    rw [H.out]
    exact ⟨rfl, rfl⟩

def proto (p : Int) : Bool := inB p 1 65535 && decide (p / 256 % 2 = 0) && decide (p % 2 = 1)

theorem and_one (x : Int) (h : 0 ≤ x) (h2 : x ≤ 65535) : bits .and .i64 x 1 = x % 2 := by
  obtain ⟨a, rfl⟩ := Int.eq_ofNat_of_zero_le h
  show IntKind.i64.wrap ((BitVec.ofInt 64 (a : Int) &&& BitVec.ofInt 64 (1 : Int)).toNat : Int) = _
  have e : (BitVec.ofInt 64 (a : Int)).toNat = a := by
    rw [BitVec.ofInt_natCast, BitVec.toNat_ofNat]; exact Nat.mod_eq_of_lt (by omega)
  rw [BitVec.toNat_and, e, show (BitVec.ofInt 64 (1 : Int)).toNat = 1 from rfl, Nat.and_one_is_mod, IntKind.wrap_i64]
  omega

theorem isProto_any (p : Int) (w : World) : Calls Try.prog 25 #[.int .i64 p] w fun e w' => e = .returned (.bool (proto p)) ∧ w = w' := by
  by_cases h1 : 1 ≤ p
  · by_cases h2 : p ≤ 65535
    · have a1 := and_one (p / 256) (by omega) (by omega)
      have a2 := and_one p (by omega) h2
      by_cases h3 : p / 256 % 2 = 0
      · by_cases h4 : p % 2 = 1
        · have H := Lib.hid (show proto p = true by simp [proto, inB, h1, h2, h3, h4])
          go_enter Try.func25, Try.ntmps25
          go_wp2
          go_ret
          rw [H.out]
          exact ⟨rfl, rfl⟩
        · have h5 : p % 2 = 0 := by omega
          have H := Lib.hid (show proto p = false by simp [proto, inB, h1, h2, h3, h5])
          go_enter Try.func25, Try.ntmps25
          go_wp2
          go_ret
          rw [H.out]
          exact ⟨rfl, rfl⟩
      · have h5 : p / 256 % 2 = 1 := by omega
        have H := Lib.hid (show proto p = false by simp [proto, inB, h1, h2, h5])
        go_enter Try.func25, Try.ntmps25
        go_wp2
        go_ret
        rw [H.out]
        exact ⟨rfl, rfl⟩
    · have H := Lib.hid (show proto p = false by simp [proto, inB, h2])
      go_enter Try.func25, Try.ntmps25
      go_wp2
      go_ret
      rw [H.out]
      exact ⟨rfl, rfl⟩
  · have H := Lib.hid (show proto p = false by simp [proto, inB, h1])
    go_enter Try.func25, Try.ntmps25
    go_wp2
    go_ret
    rw [H.out]
    exact ⟨rfl, rfl⟩
theorem isProto_ref (p : Int) (w : World) : Calls Try.prog 26 #[.int .i64 p] w fun e w' => e = .returned (.bool (proto p)) ∧ w = w' := by
  by_cases h1 : 1 ≤ p
  · by_cases h2 : p ≤ 65535
    · have a1 := and_one (p / 256) (by omega) (by omega)
      have a2 := and_one p (by omega) h2
      by_cases h3 : p / 256 % 2 = 0
      · by_cases h4 : p % 2 = 1
        · have H := Lib.hid (show proto p = true by simp [proto, inB, h1, h2, h3, h4])
          go_enter Try.func26, Try.ntmps26
          go_wp2
          go_ret
          rw [H.out]
          exact ⟨rfl, rfl⟩
        · have h5 : p % 2 = 0 := by omega
          have H := Lib.hid (show proto p = false by simp [proto, inB, h1, h2, h3, h5])
          go_enter Try.func26, Try.ntmps26
          go_wp2
          go_ret
          rw [H.out]
          exact ⟨rfl, rfl⟩
      · have h5 : p / 256 % 2 = 1 := by omega
        have H := Lib.hid (show proto p = false by simp [proto, inB, h1, h2, h5])
        go_enter Try.func26, Try.ntmps26
        go_wp2
        go_ret
        rw [H.out]
        exact ⟨rfl, rfl⟩
    · have H := Lib.hid (show proto p = false by simp [proto, inB, h2])
      go_enter Try.func26, Try.ntmps26
      go_wp2
      go_ret
      rw [H.out]
      exact ⟨rfl, rfl⟩
  · have H := Lib.hid (show proto p = false by simp [proto, inB, h1])
    go_enter Try.func26, Try.ntmps26
    go_wp2
    go_ret
    rw [H.out]
    exact ⟨rfl, rfl⟩
end Go.Proofs.Ytjnahbiagfghgaa
