/- opts.Decode at any bytes; opts.Encode. -/
import Derived.Test.YtbdkapmiioiikaaH2
import Derived.Deep.RegionHeld3
namespace Go.Proofs.Ytbdkapmiioiikaa
open Go.RowKit
set_option linter.unusedSimpArgs false
set_option linter.unusedVariables false
theorem dec_any (A : Option Addr) (n c : Nat) (l : List UInt8) (w : World) (B : Nat) (hB : B ≤ w.heap.size) (hA : At w B A (l.map bv)) (hn : n = l.length) (hc : n ≤ c) :
    Calls Try.prog 14 #[.slice A n c] w (DecP w l) := by
  by_cases hl : n ≤ 1488
  · exact dec_in A n c l w B hB hA hn hc hl
  · have HR := Lib.hid (show decR l = ([], 2) by unfold decR; rw [if_pos (by omega)])
    have h9 : 1488 < n := by omega
    clear hA hB hn hc hl
    go_enter Try.func14, Try.ntmps14
    go_wp2
    exact bodyPost_ret (v := .tuple #[.slice none 0 0, .int .i64 2]) (by simp [results, Try.results14, go_sem]) rfl ⟨[], .slice none 0 0, by rw [HR.out], by (repeat (first | exact Below.refl _ _ | exact Nat.le_refl _ | (refine below_ext ?_ (by first | (simp [size_ext, grow]; done) | (simp [size_ext, grow]; omega) | omega) _ _) | (refine Below.setCell ?_ (by first | (simp [size_ext, grow]; done) | (simp [size_ext, grow]; omega) | omega) _) | (refine Below.alloc ?_ (by first | (simp [size_ext, grow]; done) | (simp [size_ext, grow]; omega) | omega) _) | refine Below.drew ?_ | refine below_drewN ?_ _ | (refine Below.trans ?_ (Below.mono (by assumption) (by first | (simp [size_ext, grow]; done) | (simp [size_ext, grow]; omega) | omega))))), OwnOpts.nil _ _, by rw [HR.out]; rfl⟩
theorem within_any (n lo hi : Int) (w : World) : Calls Try.prog 26 #[.int .i64 n, .int .i64 lo, .int .i64 hi] w fun e w' => e = .returned (.bool (inB n lo hi)) ∧ w = w' := by
  by_cases h1 : lo ≤ n <;> by_cases h2 : n ≤ hi
  all_goals
    go_enter Try.func26, Try.ntmps26
    go_wp2
    go_ret
    exact ⟨by simp [inB, h1, h2], rfl⟩
/-- An option that may be. -/
def okO (o : Int × List UInt8) : Bool := inB o.1 0 255 && decide (o.2.length ≤ 253)
def encO (o : Int × List UInt8) : List UInt8 := UInt8.ofNat o.1.toNat :: UInt8.ofNat (o.2.length + 2) :: o.2
def encs (L : List (Int × List UInt8)) : List UInt8 := L.flatMap encO
def encR (L : List (Int × List UInt8)) : List UInt8 × Int :=
  if 64 < L.length then ([], 3) else if L.all okO = true then (if 1488 < (encs L).length then ([], 2) else (encs L, 0)) else ([], 80)
/-- What Encode tells: bytes in memory of one's own. -/
def EncP (w : World) (L : List (Int × List UInt8)) (x : Ending) (w' : World) : Prop :=
  ∃ v, x = .returned (.tuple #[v, .int .i64 (encR L).2]) ∧ Below w.heap.size w w' ∧ w'.ownsRow w.heap.size 5 1 v (encR L).1.length ((encR L).1.map bv)
theorem encs_take {L : List (Int × List UInt8)} {k : Nat} (hk : k < L.length) : encs (L.take (k + 1)) = encs (L.take k) ++ encO L[k] := by
  unfold encs
  rw [List.take_succ_eq_append_getElem hk, List.flatMap_append]
  simp only [List.flatMap_cons, List.flatMap_nil, List.append_nil]
theorem all_take {L : List (Int × List UInt8)} {k : Nat} (hk : k < L.length) (h : (L.take k).all okO = true) (h2 : okO L[k] = true) : (L.take (k + 1)).all okO = true := by
  rw [List.take_succ_eq_append_getElem hk, List.all_append, h]; simp [h2]
theorem all_not {L : List (Int × List UInt8)} {k : Nat} (hk : k < L.length) (h2 : okO L[k] = false) : L.all okO = false := by
  rw [List.all_eq_false]
  exact ⟨L[k], List.getElem_mem hk, by rw [h2]; simp⟩
theorem encO_len {o : Int × List UInt8} (h : okO o = true) : (encO o).length ≤ 255 := by
  simp only [okO, Bool.and_eq_true, decide_eq_true_eq] at h
  simp only [encO, List.length_cons]; omega
end Go.Proofs.Ytbdkapmiioiikaa
