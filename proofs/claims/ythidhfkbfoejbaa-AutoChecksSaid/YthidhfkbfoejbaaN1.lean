/- Bundle N1. -/
import Derived.Test.YthidhfkbfoejbaaA
import Derived.StillTailTactics
import Derived.OneCell
import Derived.Laws.Rows
namespace Go.Proofs.Ythidhfkbfoejbaa.Ne
open Go.RowKit
set_option linter.unusedSimpArgs false
set_option linter.unusedVariables false
theorem clone_any (A : Option Addr) (n c : Nat) (l : List UInt8) (w : World) (B : Nat) (hB : B ≤ w.heap.size) (hA : At w B A (l.map bv)) (hn : n = l.length) (hl : n ≤ 400000000) (hc : n ≤ c) :
    Calls Try.prog 35 #[.slice A n c] w fun x w' => ∃ v, x = .returned v ∧ Below w.heap.size w w' ∧ w'.ownsRow w.heap.size 5 1 v n (l.map bv) := by
  have HA := Lib.hid (hA.more hB)
  have HL := Lib.hid hn
  clear hB hn
  cases A with
  | none =>
    have hl0 : l = [] := by
      rcases hA with h | ⟨b, o, h, -⟩
      · simpa using h
      · cases h
    subst hl0
    have h0 := HL.out
    simp only [List.length_nil] at h0
    subst h0
    clear hA
    have q : ∀ w : World, (binOp .eql 29 (.slice none 0 c) (.slice none 0 0)).run Try.prog w = .ok (.bool true) w := fun w => Lib.run_eql_slice_nil w 29 5 none 0 c 0 0 Try.underlying29
    go_enter Try.func35, Try.ntmps35
    go_wp2
    go_ret
    exact ⟨_, rfl, Below.refl _ _, own_nil _ _ _ _⟩
  | some a =>
    clear hA
    have q : ∀ w : World, (binOp .eql 29 (.slice (some a) n c) (.slice none 0 0)).run Try.prog w = .ok (.bool false) w := fun w => Lib.run_eql_slice_nil w 29 5 (some a) n c 0 0 Try.underlying29
    go_enter Try.func35, Try.ntmps35
    go_wp2_with (at_builtin; go_loud (refine wpList_dupb w rfl (.tmp 5) (.tmp 6) 29 rfl 5 Try.underlying29 infoU8 _ rfl rfl w.heap.size _ _ _ l rfl HL.out (by omega) HA.out (Nat.le_refl _) ?_); intro v' ys d hown; have HO := Lib.hid hown; clear hown)
    go_ret
    exact ⟨_, rfl, by exact bel, HO.out⟩
end Go.Proofs.Ythidhfkbfoejbaa.Ne
namespace Go.Proofs.Ythidhfkbfoejbaa.Ne
open Go.RowKit
set_option linter.unusedSimpArgs false
set_option linter.unusedVariables false
theorem ent_take {E : List Ent} {k : Nat} (hk : k < E.length) : (E.take (k + 1)).map Ent.o = (E.take k).map Ent.o ++ [E[k].o] := by rw [List.take_succ_eq_append_getElem hk, List.map_append]; rfl
end Go.Proofs.Ythidhfkbfoejbaa.Ne
namespace Go.Proofs.Ythidhfkbfoejbaa.Ne
open Go.RowKit
set_option linter.unusedSimpArgs false
set_option linter.unusedVariables false
abbrev Opt := Int × List UInt8
theorem _root_.Go.Proofs.Ythidhfkbfoejbaa.OptsAt.none {W : World} {B : Nat} {A : Option Addr} {E : List Ent} {j : Nat} (h : E.length ≤ j) : OptsAt W B A (E.drop j) := by
  rw [List.drop_eq_nil_iff.2 h]
  exact ⟨At.nil _ _ _, fun _ h => by cases h⟩
end Go.Proofs.Ythidhfkbfoejbaa.Ne
