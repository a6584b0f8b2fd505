/- slices.Clone of bytes; the iterator's maker. -/
import Derived.Test.YtlkijhcgiilmhaaH0
import Derived.StillTailTactics
import Derived.OneCell
namespace Go.Proofs.Ytlkijhcgiilmhaa
open Go.RowKit
set_option linter.unusedSimpArgs false
set_option linter.unusedVariables false
theorem clone_any (A : Option Addr) (n c : Nat) (l : List UInt8) (w : World) (B : Nat) (hB : B ≤ w.heap.size) (hA : At w B A (l.map bv)) (hn : n = l.length) (hl : n ≤ 400000000) (hc : n ≤ c) :
    Calls Try.prog 47 #[.slice A n c] w fun x w' => ∃ v, x = .returned v ∧ Below w.heap.size w w' ∧ w'.ownsRow w.heap.size 5 1 v n (l.map bv) := by
  have HA := Lib.hid (hA.more hB)
  have HL := Lib.hid hn
  clear hB hn
  cases A with
  | none =>
    have hl0 : l = [] := by
      rcases hA with h | ⟨b, o, h, -⟩
      · simpa using h
      · cases h
    subst hl0
    have h0 := HL.out
    simp only [List.length_nil] at h0
    subst h0
    clear hA
    have q : ∀ w : World, (binOp .eql 40 (.slice none 0 c) (.slice none 0 0)).run Try.prog w = .ok (.bool true) w := fun w => Lib.run_eql_slice_nil w 40 5 none 0 c 0 0 Try.underlying40
    go_enter Try.func47, Try.ntmps47
    go_wp2
    go_ret
    exact ⟨_, rfl, Below.refl _ _, own_nil _ _ _ _⟩
  | some a =>
    clear hA
    have q : ∀ w : World, (binOp .eql 40 (.slice (some a) n c) (.slice none 0 0)).run Try.prog w = .ok (.bool false) w := fun w => Lib.run_eql_slice_nil w 40 5 (some a) n c 0 0 Try.underlying40
    go_enter Try.func47, Try.ntmps47
    go_wp2_with (at_builtin; go_loud (refine wpList_dupb w rfl (.tmp 5) (.tmp 6) 40 rfl 5 Try.underlying40 infoU8 _ rfl rfl w.heap.size _ _ _ l rfl HL.out (by omega) HA.out (Nat.le_refl _) ?_); intro v' ys d hown; have HO := Lib.hid hown; clear hown)
    go_ret
    exact ⟨_, rfl, by exact bel, HO.out⟩
