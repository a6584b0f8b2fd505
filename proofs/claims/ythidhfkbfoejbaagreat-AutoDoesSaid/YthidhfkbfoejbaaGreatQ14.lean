/- The reference's run: its memory; a packet of its own number. -/
import Derived.Test.YthidhfkbfoejbaaGreatQ13
import Derived.Test.YthidhfkbfoejbaaGreatQ3
namespace Go.Proofs.YthidhfkbfoejbaaGreat
open Go.RowKit
set_option linter.unusedSimpArgs false
set_option linter.unusedVariables false
set_option linter.ambiguousOpen false
open Ne (Rl Opt RulesAt areB)
open Fs (av hasB)
/-- Packets in a row of one's own; their data below it, or of one's own. -/
def RowPks (W : World) (base : Nat) (v : Value) (P : List Pe) : Prop :=
  W.ownsRow base 32 3 v P.length (cellsP P) ∧ ∀ e ∈ P, (At W base e.a (e.d.map bv) ∧ e.d.length ≤ e.c) ∨ W.ownsRow base 5 1 e.v e.d.length (e.d.map bv)
theorem RowPks.below {A C : World} {base : Nat} {v : Value} {P : List Pe} (h : RowPks A base v P) (hb : Below A.heap.size A C) (hB : base ≤ A.heap.size) : RowPks C base v P :=
  ⟨own_below h.1 hb, fun x hx => (h.2 x hx).imp (fun h => ⟨h.1.keep (hb.mono hB), h.2⟩) (fun h => own_below h hb)⟩
theorem RowPks.nil (A : World) (b : Nat) : RowPks A b (.slice none 0 0) [] := ⟨own_nil _ _ _ _, fun _ h => by cases h⟩
theorem RowPks.at {W : World} {base : Nat} {A : Option Addr} {n c : Nat} {P : List Pe} (h : RowPks W base (.slice A n c) P) (hb : base ≤ W.heap.size) : PksAt W W.heap.size A P := by
  refine ⟨?_, fun e he => ?_⟩
  · have := h.1
    obtain ⟨A', c', hv, -, -⟩ := ownsRow_form this
    cases hv
    exact At.of_own this
  · rcases h.2 e he with ⟨h1, h2⟩ | h1
    · exact ⟨h1.more hb, h2⟩
    · obtain ⟨A', c', hv, hc, -⟩ := ownsRow_form h1
      cases hv
      exact ⟨At.of_own h1, hc⟩
/-- Rows stay where a new block, or one of another type, is turned. -/
theorem RowPks.other {A C : World} {base X : Nat} {v : Value} {P : List Pe} {cur : Array Value} {e' : TypeId} (h : RowPks A base v P) (hg : A.grownBy C (some X)) (hX : A.heap[X]? = some (.cells cur e' (0, 0))) (hbX : base ≤ X) (h1 : e' ≠ 32) (h2 : e' ≠ 5) (hB : base ≤ A.heap.size) : RowPks C base v P :=
  ⟨own_stays h.1 hg fun r e => by cases e; exact .inr (.inr ⟨_, _, hX, h1⟩), fun x hx => (h.2 x hx).imp (fun h => ⟨h.1.grown hg hB (fun k e => by cases e; exact hbX), h.2⟩) (fun h => own_stays h hg fun r e => by cases e; exact .inr (.inr ⟨_, _, hX, h2⟩))⟩
theorem RowPks.pushed {W W2 : World} {base : Nat} {v v3 : Value} {P : List Pe} {co id : Int} {A2 : Option Addr} {dd : List UInt8} {c2 : Nat} (h : RowPks W base v P)
    (h2 : (At W base A2 (dd.map bv) ∧ dd.length ≤ c2) ∨ W.ownsRow base 5 1 (.slice A2 dd.length c2) dd.length (dd.map bv)) (h3 : W2.ownsRow base 32 3 v3 (P.length + 1) (cellsP P ++ [.int .i64 co, .int .i64 id, .slice A2 dd.length c2]))
    (hg : W.grownBy W2 v.ownBlock) (hB : base ≤ W.heap.size) : RowPks W2 base v3 (P ++ [⟨co, id, dd, A2, c2⟩]) := by
  have hr : ∀ r, v.ownBlock = some r → r < base ∨ (∃ o : Obj, W.heap[r]? = some o ∧ o.isCells = false) ∨ (∃ cur e', W.heap[r]? = some (.cells cur e' (0, 0)) ∧ e' ≠ 5) := fun r e => by
    obtain ⟨cur, hc⟩ := own_type h.1 e
    exact .inr (.inr ⟨cur, 32, hc, by decide⟩)
  refine ⟨by rw [cellsP_snoc]; simpa [Pe.v] using h3, fun e he => ?_⟩
  rcases List.mem_append.1 he with he | he
  · exact (h.2 e he).imp (fun h1 => ⟨h1.1.grown hg hB (fun k e => own_le h.1 e), h1.2⟩) (fun h1 => own_stays h1 hg hr)
  · simp only [List.mem_singleton] at he
    subst he
    exact h2.imp (fun h1 => ⟨h1.1.grown hg hB (fun k e => own_le h.1 e), h1.2⟩) (fun h1 => own_stays h1 hg hr)
theorem grown_of_below {w w' : World} {r : Option Nat} (h : Below w.heap.size w w') : w.grownBy w' r := ⟨h.os, h.tape, h.output, h.size, fun k hk _ => h.block k hk⟩
/-- The cells of the reference's run. -/
def rcs (vr : Value) (mc mt mf wt st id req : Int) (va : Value) (cnt tim nak : Int) (vo : Value) : Array Value := #[vr, .int .i64 mc, .int .i64 mt, .int .i64 mf, .int .i64 wt, .int .i64 st, .int .i64 id, .int .i64 req, va, .int .i64 cnt, .int .i64 tim, .int .i64 nak, vo]
set_option maxRecDepth 100000 in
set_option maxHeartbeats 4000000 in
theorem row13 {w : World} {X : Nat} {cs : Array Value} {T : TypeId} (h : w.heap[X]? = some (.cells cs T (0, 0))) (hc : cs.size = 13) (a0 a1 a2 a3 a4 a5 a6 a7 a8 a9 a10 a11 a12 : Value) :
    (((((((((((((w.setCell ⟨X, 0, none⟩ a0).setCell ⟨X, 1, none⟩ a1).setCell ⟨X, 2, none⟩ a2).setCell ⟨X, 3, none⟩ a3).setCell ⟨X, 4, none⟩ a4).setCell ⟨X, 5, none⟩ a5).setCell ⟨X, 6, none⟩ a6).setCell ⟨X, 7, none⟩ a7).setCell ⟨X, 8, none⟩ a8).setCell ⟨X, 9, none⟩ a9).setCell ⟨X, 10, none⟩ a10).setCell ⟨X, 11, none⟩ a11).setCell ⟨X, 12, none⟩ a12).heap[X]? = some (.cells #[a0, a1, a2, a3, a4, a5, a6, a7, a8, a9, a10, a11, a12] T (0, 0)) := by
  obtain ⟨l⟩ := cs
  match l, hc with
  | [x0, x1, x2, x3, x4, x5, x6, x7, x8, x9, x10, x11, x12], _ =>
    have e0 := heap_setCell_same w X 0 _ _ a0 h
    simp only [List.setIfInBounds_toArray, List.set_cons_zero, List.set_cons_succ] at e0
    have e1 := heap_setCell_same _ X 1 _ _ a1 e0
    simp only [List.setIfInBounds_toArray, List.set_cons_zero, List.set_cons_succ] at e1
    have e2 := heap_setCell_same _ X 2 _ _ a2 e1
    simp only [List.setIfInBounds_toArray, List.set_cons_zero, List.set_cons_succ] at e2
    have e3 := heap_setCell_same _ X 3 _ _ a3 e2
    simp only [List.setIfInBounds_toArray, List.set_cons_zero, List.set_cons_succ] at e3
    have e4 := heap_setCell_same _ X 4 _ _ a4 e3
    simp only [List.setIfInBounds_toArray, List.set_cons_zero, List.set_cons_succ] at e4
    have e5 := heap_setCell_same _ X 5 _ _ a5 e4
    simp only [List.setIfInBounds_toArray, List.set_cons_zero, List.set_cons_succ] at e5
    have e6 := heap_setCell_same _ X 6 _ _ a6 e5
    simp only [List.setIfInBounds_toArray, List.set_cons_zero, List.set_cons_succ] at e6
    have e7 := heap_setCell_same _ X 7 _ _ a7 e6
    simp only [List.setIfInBounds_toArray, List.set_cons_zero, List.set_cons_succ] at e7
    have e8 := heap_setCell_same _ X 8 _ _ a8 e7
    simp only [List.setIfInBounds_toArray, List.set_cons_zero, List.set_cons_succ] at e8
    have e9 := heap_setCell_same _ X 9 _ _ a9 e8
    simp only [List.setIfInBounds_toArray, List.set_cons_zero, List.set_cons_succ] at e9
    have e10 := heap_setCell_same _ X 10 _ _ a10 e9
    simp only [List.setIfInBounds_toArray, List.set_cons_zero, List.set_cons_succ] at e10
    have e11 := heap_setCell_same _ X 11 _ _ a11 e10
    simp only [List.setIfInBounds_toArray, List.set_cons_zero, List.set_cons_succ] at e11
    have e12 := heap_setCell_same _ X 12 _ _ a12 e11
    simp only [List.setIfInBounds_toArray, List.set_cons_zero, List.set_cons_succ] at e12
    exact e12
/-- A block of the reference's run. -/
def RB (W : World) (X : Nat) (vr : Value) (mc mt mf wt st id req : Int) (va : Value) (cnt tim nak : Int) (vo : Value) : Prop := W.heap[X]? = some (.cells (rcs vr mc mt mf wt st id req va cnt tim nak vo) 82 (0, 0))
section
variable {W W' : World} {X : Nat} {vr va vo : Value} {mc mt mf wt st id req cnt tim nak : Int}
theorem RB.lt (h : RB W X vr mc mt mf wt st id req va cnt tim nak vo) : X < W.heap.size := lt_blk h
theorem RB.cell (h : RB W X vr mc mt mf wt st id req va cnt tim nak vo) (i : Nat) {v : Value} (hv : (rcs vr mc mt mf wt st id req va cnt tim nak vo)[i]? = some v) : W.cell? ⟨X, i, none⟩ = some v := (cell_of_row W X i _ _ _ h).trans hv
theorem RB.cells (h : RB W X vr mc mt mf wt st id req va cnt tim nak vo) : (W.cell? ⟨X, 0, none⟩ = some vr ∧ W.cell? ⟨X, 1, none⟩ = some (.int .i64 mc) ∧ W.cell? ⟨X, 2, none⟩ = some (.int .i64 mt) ∧ W.cell? ⟨X, 3, none⟩ = some (.int .i64 mf) ∧ W.cell? ⟨X, 4, none⟩ = some (.int .i64 wt)) ∧
    (W.cell? ⟨X, 5, none⟩ = some (.int .i64 st) ∧ W.cell? ⟨X, 6, none⟩ = some (.int .i64 id) ∧ W.cell? ⟨X, 7, none⟩ = some (.int .i64 req) ∧ W.cell? ⟨X, 8, none⟩ = some va ∧ W.cell? ⟨X, 9, none⟩ = some (.int .i64 cnt) ∧ W.cell? ⟨X, 10, none⟩ = some (.int .i64 tim) ∧ W.cell? ⟨X, 11, none⟩ = some (.int .i64 nak)) ∧ W.cell? ⟨X, 12, none⟩ = some vo :=
  ⟨⟨h.cell 0 rfl, h.cell 1 rfl, h.cell 2 rfl, h.cell 3 rfl, h.cell 4 rfl⟩, ⟨h.cell 5 rfl, h.cell 6 rfl, h.cell 7 rfl, h.cell 8 rfl, h.cell 9 rfl, h.cell 10 rfl, h.cell 11 rfl⟩, h.cell 12 rfl⟩
theorem RB.free (h : RB W X vr mc mt mf wt st id req va cnt tim nak vo) (i : Nat) : W.frozen? ⟨X, i, none⟩ = false := frozen_of_row W X i _ _ h
theorem RB.keep (h : RB W X vr mc mt mf wt st id req va cnt tim nak vo) (hb : Below W.heap.size W W') : RB W' X vr mc mt mf wt st id req va cnt tim nak vo := (hb.block X h.lt).trans h
theorem RB.apart (h : RB W X vr mc mt mf wt st id req va cnt tim nak vo) {row : Option Nat} (hg : W.grownBy W' row) (hr : row ≠ some X) : RB W' X vr mc mt mf wt st id req va cnt tim nak vo := (hg.block X h.lt (fun e => hr e.symm)).trans h
theorem RB.sid (h : RB W X vr mc mt mf wt st id req va cnt tim nak vo) (x : Int) : RB (W.setCell ⟨X, 6, none⟩ (.int .i64 x)) X vr mc mt mf wt st x req va cnt tim nak vo := heap_setCell_same W X 6 _ _ _ h
theorem RB.sreq (h : RB W X vr mc mt mf wt st id req va cnt tim nak vo) (x : Int) : RB (W.setCell ⟨X, 7, none⟩ (.int .i64 x)) X vr mc mt mf wt st id x va cnt tim nak vo := heap_setCell_same W X 7 _ _ _ h
theorem RB.scnt (h : RB W X vr mc mt mf wt st id req va cnt tim nak vo) (x : Int) : RB (W.setCell ⟨X, 9, none⟩ (.int .i64 x)) X vr mc mt mf wt st id req va x tim nak vo := heap_setCell_same W X 9 _ _ _ h
theorem RB.stim (h : RB W X vr mc mt mf wt st id req va cnt tim nak vo) (x : Int) : RB (W.setCell ⟨X, 10, none⟩ (.int .i64 x)) X vr mc mt mf wt st id req va cnt x nak vo := heap_setCell_same W X 10 _ _ _ h
theorem RB.snak (h : RB W X vr mc mt mf wt st id req va cnt tim nak vo) (x : Int) : RB (W.setCell ⟨X, 11, none⟩ (.int .i64 x)) X vr mc mt mf wt st id req va cnt tim x vo := heap_setCell_same W X 11 _ _ _ h
theorem RB.sout (h : RB W X vr mc mt mf wt st id req va cnt tim nak vo) (x : Value) : RB (W.setCell ⟨X, 12, none⟩ x) X vr mc mt mf wt st id req va cnt tim nak x := heap_setCell_same W X 12 _ _ _ h
end
end Go.Proofs.YthidhfkbfoejbaaGreat
