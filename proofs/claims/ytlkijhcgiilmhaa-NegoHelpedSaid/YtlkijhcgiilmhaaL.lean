/- A world that has grown: new blocks behind the old ones, some draws; nothing that was there has turned. -/
import Derived.Test.YtlkijhcgiilmhaaRows
import Derived.WalkKit
import Derived.WalkSpells
import Derived.WalkLawsBesides
import Derived.Deep.QuietTactic
import Derived.BigQuiet
import Derived.Deep.RegionHeld3
import Derived.Deep.DeepCutAuto
import Derived.Lib.Hide
namespace Go.Proofs.Ytlkijhcgiilmhaa
open Go.RowKit

/-- 'w' with the blocks 'xs' behind its own, and the count of draws at 'd'. -/
def ext (w : World) (xs : List Obj) (d : Nat) : World := { w with heap := w.heap ++ xs.toArray, drawn := d }

/-- The size behind new blocks. -/
def grow (a : Nat) (xs : List Obj) : Nat := a + xs.length
@[go_sem] theorem grow_succ (a : Nat) (xs : List Obj) : grow (a + 1) xs = grow a xs + 1 := by simp only [grow]; omega
@[go_sem] theorem le_grow_1_0 (x : Nat) (l0 : List Obj) : x ≤ (grow x l0) := by simp only [grow]; omega
@[go_sem] theorem le_grow_1_1 (x : Nat) (l0 : List Obj) : x ≤ (grow x l0) + 1 := by simp only [grow]; omega
@[go_sem] theorem lt_grow_1_1 (x : Nat) (l0 : List Obj) : x < (grow x l0) + 1 := by simp only [grow]; omega
@[go_sem] theorem le_grow_1_2 (x : Nat) (l0 : List Obj) : x ≤ (grow x l0) + 1 + 1 := by simp only [grow]; omega
@[go_sem] theorem lt_grow_1_2 (x : Nat) (l0 : List Obj) : x < (grow x l0) + 1 + 1 := by simp only [grow]; omega
@[go_sem] theorem le_grown_1_2 (x : Nat) (l0 : List Obj) : x ≤ (grow x l0) + 2 := by simp only [grow]; omega
@[go_sem] theorem lt_grown_1_2 (x : Nat) (l0 : List Obj) : x < (grow x l0) + 2 := by simp only [grow]; omega
@[go_sem] theorem le_grow_1_3 (x : Nat) (l0 : List Obj) : x ≤ (grow x l0) + 1 + 1 + 1 := by simp only [grow]; omega
@[go_sem] theorem lt_grow_1_3 (x : Nat) (l0 : List Obj) : x < (grow x l0) + 1 + 1 + 1 := by simp only [grow]; omega
@[go_sem] theorem le_grown_1_3 (x : Nat) (l0 : List Obj) : x ≤ (grow x l0) + 3 := by simp only [grow]; omega
@[go_sem] theorem lt_grown_1_3 (x : Nat) (l0 : List Obj) : x < (grow x l0) + 3 := by simp only [grow]; omega
@[go_sem] theorem le_grow_1_4 (x : Nat) (l0 : List Obj) : x ≤ (grow x l0) + 1 + 1 + 1 + 1 := by simp only [grow]; omega
@[go_sem] theorem lt_grow_1_4 (x : Nat) (l0 : List Obj) : x < (grow x l0) + 1 + 1 + 1 + 1 := by simp only [grow]; omega
@[go_sem] theorem le_grown_1_4 (x : Nat) (l0 : List Obj) : x ≤ (grow x l0) + 4 := by simp only [grow]; omega
@[go_sem] theorem lt_grown_1_4 (x : Nat) (l0 : List Obj) : x < (grow x l0) + 4 := by simp only [grow]; omega
@[go_sem] theorem le_grow_1_5 (x : Nat) (l0 : List Obj) : x ≤ (grow x l0) + 1 + 1 + 1 + 1 + 1 := by simp only [grow]; omega
@[go_sem] theorem lt_grow_1_5 (x : Nat) (l0 : List Obj) : x < (grow x l0) + 1 + 1 + 1 + 1 + 1 := by simp only [grow]; omega
@[go_sem] theorem le_grown_1_5 (x : Nat) (l0 : List Obj) : x ≤ (grow x l0) + 5 := by simp only [grow]; omega
@[go_sem] theorem lt_grown_1_5 (x : Nat) (l0 : List Obj) : x < (grow x l0) + 5 := by simp only [grow]; omega
@[go_sem] theorem le_grow_1_6 (x : Nat) (l0 : List Obj) : x ≤ (grow x l0) + 1 + 1 + 1 + 1 + 1 + 1 := by simp only [grow]; omega
@[go_sem] theorem lt_grow_1_6 (x : Nat) (l0 : List Obj) : x < (grow x l0) + 1 + 1 + 1 + 1 + 1 + 1 := by simp only [grow]; omega
@[go_sem] theorem le_grown_1_6 (x : Nat) (l0 : List Obj) : x ≤ (grow x l0) + 6 := by simp only [grow]; omega
@[go_sem] theorem lt_grown_1_6 (x : Nat) (l0 : List Obj) : x < (grow x l0) + 6 := by simp only [grow]; omega
@[go_sem] theorem le_grow_2_0 (x : Nat) (l0 l1 : List Obj) : x ≤ (grow (grow x l0) l1) := by simp only [grow]; omega
@[go_sem] theorem le_grow_2_1 (x : Nat) (l0 l1 : List Obj) : x ≤ (grow (grow x l0) l1) + 1 := by simp only [grow]; omega
@[go_sem] theorem lt_grow_2_1 (x : Nat) (l0 l1 : List Obj) : x < (grow (grow x l0) l1) + 1 := by simp only [grow]; omega
@[go_sem] theorem le_grow_2_2 (x : Nat) (l0 l1 : List Obj) : x ≤ (grow (grow x l0) l1) + 1 + 1 := by simp only [grow]; omega
@[go_sem] theorem lt_grow_2_2 (x : Nat) (l0 l1 : List Obj) : x < (grow (grow x l0) l1) + 1 + 1 := by simp only [grow]; omega
@[go_sem] theorem le_grown_2_2 (x : Nat) (l0 l1 : List Obj) : x ≤ (grow (grow x l0) l1) + 2 := by simp only [grow]; omega
@[go_sem] theorem lt_grown_2_2 (x : Nat) (l0 l1 : List Obj) : x < (grow (grow x l0) l1) + 2 := by simp only [grow]; omega
@[go_sem] theorem le_grow_2_3 (x : Nat) (l0 l1 : List Obj) : x ≤ (grow (grow x l0) l1) + 1 + 1 + 1 := by simp only [grow]; omega
@[go_sem] theorem lt_grow_2_3 (x : Nat) (l0 l1 : List Obj) : x < (grow (grow x l0) l1) + 1 + 1 + 1 := by simp only [grow]; omega
@[go_sem] theorem le_grown_2_3 (x : Nat) (l0 l1 : List Obj) : x ≤ (grow (grow x l0) l1) + 3 := by simp only [grow]; omega
@[go_sem] theorem lt_grown_2_3 (x : Nat) (l0 l1 : List Obj) : x < (grow (grow x l0) l1) + 3 := by simp only [grow]; omega
@[go_sem] theorem le_grow_2_4 (x : Nat) (l0 l1 : List Obj) : x ≤ (grow (grow x l0) l1) + 1 + 1 + 1 + 1 := by simp only [grow]; omega
@[go_sem] theorem lt_grow_2_4 (x : Nat) (l0 l1 : List Obj) : x < (grow (grow x l0) l1) + 1 + 1 + 1 + 1 := by simp only [grow]; omega
@[go_sem] theorem le_grown_2_4 (x : Nat) (l0 l1 : List Obj) : x ≤ (grow (grow x l0) l1) + 4 := by simp only [grow]; omega
@[go_sem] theorem lt_grown_2_4 (x : Nat) (l0 l1 : List Obj) : x < (grow (grow x l0) l1) + 4 := by simp only [grow]; omega
@[go_sem] theorem le_grow_2_5 (x : Nat) (l0 l1 : List Obj) : x ≤ (grow (grow x l0) l1) + 1 + 1 + 1 + 1 + 1 := by simp only [grow]; omega
@[go_sem] theorem lt_grow_2_5 (x : Nat) (l0 l1 : List Obj) : x < (grow (grow x l0) l1) + 1 + 1 + 1 + 1 + 1 := by simp only [grow]; omega
@[go_sem] theorem le_grown_2_5 (x : Nat) (l0 l1 : List Obj) : x ≤ (grow (grow x l0) l1) + 5 := by simp only [grow]; omega
@[go_sem] theorem lt_grown_2_5 (x : Nat) (l0 l1 : List Obj) : x < (grow (grow x l0) l1) + 5 := by simp only [grow]; omega
@[go_sem] theorem le_grow_2_6 (x : Nat) (l0 l1 : List Obj) : x ≤ (grow (grow x l0) l1) + 1 + 1 + 1 + 1 + 1 + 1 := by simp only [grow]; omega
@[go_sem] theorem lt_grow_2_6 (x : Nat) (l0 l1 : List Obj) : x < (grow (grow x l0) l1) + 1 + 1 + 1 + 1 + 1 + 1 := by simp only [grow]; omega
@[go_sem] theorem le_grown_2_6 (x : Nat) (l0 l1 : List Obj) : x ≤ (grow (grow x l0) l1) + 6 := by simp only [grow]; omega
@[go_sem] theorem lt_grown_2_6 (x : Nat) (l0 l1 : List Obj) : x < (grow (grow x l0) l1) + 6 := by simp only [grow]; omega
@[go_sem] theorem le_grow_3_0 (x : Nat) (l0 l1 l2 : List Obj) : x ≤ (grow (grow (grow x l0) l1) l2) := by simp only [grow]; omega
@[go_sem] theorem le_grow_3_1 (x : Nat) (l0 l1 l2 : List Obj) : x ≤ (grow (grow (grow x l0) l1) l2) + 1 := by simp only [grow]; omega
@[go_sem] theorem lt_grow_3_1 (x : Nat) (l0 l1 l2 : List Obj) : x < (grow (grow (grow x l0) l1) l2) + 1 := by simp only [grow]; omega
@[go_sem] theorem le_grow_3_2 (x : Nat) (l0 l1 l2 : List Obj) : x ≤ (grow (grow (grow x l0) l1) l2) + 1 + 1 := by simp only [grow]; omega
@[go_sem] theorem lt_grow_3_2 (x : Nat) (l0 l1 l2 : List Obj) : x < (grow (grow (grow x l0) l1) l2) + 1 + 1 := by simp only [grow]; omega
@[go_sem] theorem le_grown_3_2 (x : Nat) (l0 l1 l2 : List Obj) : x ≤ (grow (grow (grow x l0) l1) l2) + 2 := by simp only [grow]; omega
@[go_sem] theorem lt_grown_3_2 (x : Nat) (l0 l1 l2 : List Obj) : x < (grow (grow (grow x l0) l1) l2) + 2 := by simp only [grow]; omega
@[go_sem] theorem le_grow_3_3 (x : Nat) (l0 l1 l2 : List Obj) : x ≤ (grow (grow (grow x l0) l1) l2) + 1 + 1 + 1 := by simp only [grow]; omega
@[go_sem] theorem lt_grow_3_3 (x : Nat) (l0 l1 l2 : List Obj) : x < (grow (grow (grow x l0) l1) l2) + 1 + 1 + 1 := by simp only [grow]; omega
@[go_sem] theorem le_grown_3_3 (x : Nat) (l0 l1 l2 : List Obj) : x ≤ (grow (grow (grow x l0) l1) l2) + 3 := by simp only [grow]; omega
@[go_sem] theorem lt_grown_3_3 (x : Nat) (l0 l1 l2 : List Obj) : x < (grow (grow (grow x l0) l1) l2) + 3 := by simp only [grow]; omega
@[go_sem] theorem le_grow_3_4 (x : Nat) (l0 l1 l2 : List Obj) : x ≤ (grow (grow (grow x l0) l1) l2) + 1 + 1 + 1 + 1 := by simp only [grow]; omega
@[go_sem] theorem lt_grow_3_4 (x : Nat) (l0 l1 l2 : List Obj) : x < (grow (grow (grow x l0) l1) l2) + 1 + 1 + 1 + 1 := by simp only [grow]; omega
@[go_sem] theorem le_grown_3_4 (x : Nat) (l0 l1 l2 : List Obj) : x ≤ (grow (grow (grow x l0) l1) l2) + 4 := by simp only [grow]; omega
@[go_sem] theorem lt_grown_3_4 (x : Nat) (l0 l1 l2 : List Obj) : x < (grow (grow (grow x l0) l1) l2) + 4 := by simp only [grow]; omega
@[go_sem] theorem le_grow_3_5 (x : Nat) (l0 l1 l2 : List Obj) : x ≤ (grow (grow (grow x l0) l1) l2) + 1 + 1 + 1 + 1 + 1 := by simp only [grow]; omega
@[go_sem] theorem lt_grow_3_5 (x : Nat) (l0 l1 l2 : List Obj) : x < (grow (grow (grow x l0) l1) l2) + 1 + 1 + 1 + 1 + 1 := by simp only [grow]; omega
@[go_sem] theorem le_grown_3_5 (x : Nat) (l0 l1 l2 : List Obj) : x ≤ (grow (grow (grow x l0) l1) l2) + 5 := by simp only [grow]; omega
@[go_sem] theorem lt_grown_3_5 (x : Nat) (l0 l1 l2 : List Obj) : x < (grow (grow (grow x l0) l1) l2) + 5 := by simp only [grow]; omega
@[go_sem] theorem le_grow_3_6 (x : Nat) (l0 l1 l2 : List Obj) : x ≤ (grow (grow (grow x l0) l1) l2) + 1 + 1 + 1 + 1 + 1 + 1 := by simp only [grow]; omega
@[go_sem] theorem lt_grow_3_6 (x : Nat) (l0 l1 l2 : List Obj) : x < (grow (grow (grow x l0) l1) l2) + 1 + 1 + 1 + 1 + 1 + 1 := by simp only [grow]; omega
@[go_sem] theorem le_grown_3_6 (x : Nat) (l0 l1 l2 : List Obj) : x ≤ (grow (grow (grow x l0) l1) l2) + 6 := by simp only [grow]; omega
@[go_sem] theorem lt_grown_3_6 (x : Nat) (l0 l1 l2 : List Obj) : x < (grow (grow (grow x l0) l1) l2) + 6 := by simp only [grow]; omega
@[go_sem] theorem le_grow_4_0 (x : Nat) (l0 l1 l2 l3 : List Obj) : x ≤ (grow (grow (grow (grow x l0) l1) l2) l3) := by simp only [grow]; omega
@[go_sem] theorem le_grow_4_1 (x : Nat) (l0 l1 l2 l3 : List Obj) : x ≤ (grow (grow (grow (grow x l0) l1) l2) l3) + 1 := by simp only [grow]; omega
@[go_sem] theorem lt_grow_4_1 (x : Nat) (l0 l1 l2 l3 : List Obj) : x < (grow (grow (grow (grow x l0) l1) l2) l3) + 1 := by simp only [grow]; omega
@[go_sem] theorem le_grow_4_2 (x : Nat) (l0 l1 l2 l3 : List Obj) : x ≤ (grow (grow (grow (grow x l0) l1) l2) l3) + 1 + 1 := by simp only [grow]; omega
@[go_sem] theorem lt_grow_4_2 (x : Nat) (l0 l1 l2 l3 : List Obj) : x < (grow (grow (grow (grow x l0) l1) l2) l3) + 1 + 1 := by simp only [grow]; omega
@[go_sem] theorem le_grown_4_2 (x : Nat) (l0 l1 l2 l3 : List Obj) : x ≤ (grow (grow (grow (grow x l0) l1) l2) l3) + 2 := by simp only [grow]; omega
@[go_sem] theorem lt_grown_4_2 (x : Nat) (l0 l1 l2 l3 : List Obj) : x < (grow (grow (grow (grow x l0) l1) l2) l3) + 2 := by simp only [grow]; omega
@[go_sem] theorem le_grow_4_3 (x : Nat) (l0 l1 l2 l3 : List Obj) : x ≤ (grow (grow (grow (grow x l0) l1) l2) l3) + 1 + 1 + 1 := by simp only [grow]; omega
@[go_sem] theorem lt_grow_4_3 (x : Nat) (l0 l1 l2 l3 : List Obj) : x < (grow (grow (grow (grow x l0) l1) l2) l3) + 1 + 1 + 1 := by simp only [grow]; omega
@[go_sem] theorem le_grown_4_3 (x : Nat) (l0 l1 l2 l3 : List Obj) : x ≤ (grow (grow (grow (grow x l0) l1) l2) l3) + 3 := by simp only [grow]; omega
@[go_sem] theorem lt_grown_4_3 (x : Nat) (l0 l1 l2 l3 : List Obj) : x < (grow (grow (grow (grow x l0) l1) l2) l3) + 3 := by simp only [grow]; omega
@[go_sem] theorem le_grow_4_4 (x : Nat) (l0 l1 l2 l3 : List Obj) : x ≤ (grow (grow (grow (grow x l0) l1) l2) l3) + 1 + 1 + 1 + 1 := by simp only [grow]; omega
@[go_sem] theorem lt_grow_4_4 (x : Nat) (l0 l1 l2 l3 : List Obj) : x < (grow (grow (grow (grow x l0) l1) l2) l3) + 1 + 1 + 1 + 1 := by simp only [grow]; omega
@[go_sem] theorem le_grown_4_4 (x : Nat) (l0 l1 l2 l3 : List Obj) : x ≤ (grow (grow (grow (grow x l0) l1) l2) l3) + 4 := by simp only [grow]; omega
@[go_sem] theorem lt_grown_4_4 (x : Nat) (l0 l1 l2 l3 : List Obj) : x < (grow (grow (grow (grow x l0) l1) l2) l3) + 4 := by simp only [grow]; omega
@[go_sem] theorem le_grow_4_5 (x : Nat) (l0 l1 l2 l3 : List Obj) : x ≤ (grow (grow (grow (grow x l0) l1) l2) l3) + 1 + 1 + 1 + 1 + 1 := by simp only [grow]; omega
@[go_sem] theorem lt_grow_4_5 (x : Nat) (l0 l1 l2 l3 : List Obj) : x < (grow (grow (grow (grow x l0) l1) l2) l3) + 1 + 1 + 1 + 1 + 1 := by simp only [grow]; omega
@[go_sem] theorem le_grown_4_5 (x : Nat) (l0 l1 l2 l3 : List Obj) : x ≤ (grow (grow (grow (grow x l0) l1) l2) l3) + 5 := by simp only [grow]; omega
@[go_sem] theorem lt_grown_4_5 (x : Nat) (l0 l1 l2 l3 : List Obj) : x < (grow (grow (grow (grow x l0) l1) l2) l3) + 5 := by simp only [grow]; omega
@[go_sem] theorem le_grow_4_6 (x : Nat) (l0 l1 l2 l3 : List Obj) : x ≤ (grow (grow (grow (grow x l0) l1) l2) l3) + 1 + 1 + 1 + 1 + 1 + 1 := by simp only [grow]; omega
@[go_sem] theorem lt_grow_4_6 (x : Nat) (l0 l1 l2 l3 : List Obj) : x < (grow (grow (grow (grow x l0) l1) l2) l3) + 1 + 1 + 1 + 1 + 1 + 1 := by simp only [grow]; omega
@[go_sem] theorem le_grown_4_6 (x : Nat) (l0 l1 l2 l3 : List Obj) : x ≤ (grow (grow (grow (grow x l0) l1) l2) l3) + 6 := by simp only [grow]; omega
@[go_sem] theorem lt_grown_4_6 (x : Nat) (l0 l1 l2 l3 : List Obj) : x < (grow (grow (grow (grow x l0) l1) l2) l3) + 6 := by simp only [grow]; omega
@[go_sem] theorem le_grow_5_0 (x : Nat) (l0 l1 l2 l3 l4 : List Obj) : x ≤ (grow (grow (grow (grow (grow x l0) l1) l2) l3) l4) := by simp only [grow]; omega
@[go_sem] theorem le_grow_5_1 (x : Nat) (l0 l1 l2 l3 l4 : List Obj) : x ≤ (grow (grow (grow (grow (grow x l0) l1) l2) l3) l4) + 1 := by simp only [grow]; omega
@[go_sem] theorem lt_grow_5_1 (x : Nat) (l0 l1 l2 l3 l4 : List Obj) : x < (grow (grow (grow (grow (grow x l0) l1) l2) l3) l4) + 1 := by simp only [grow]; omega
@[go_sem] theorem le_grow_5_2 (x : Nat) (l0 l1 l2 l3 l4 : List Obj) : x ≤ (grow (grow (grow (grow (grow x l0) l1) l2) l3) l4) + 1 + 1 := by simp only [grow]; omega
@[go_sem] theorem lt_grow_5_2 (x : Nat) (l0 l1 l2 l3 l4 : List Obj) : x < (grow (grow (grow (grow (grow x l0) l1) l2) l3) l4) + 1 + 1 := by simp only [grow]; omega
@[go_sem] theorem le_grown_5_2 (x : Nat) (l0 l1 l2 l3 l4 : List Obj) : x ≤ (grow (grow (grow (grow (grow x l0) l1) l2) l3) l4) + 2 := by simp only [grow]; omega
@[go_sem] theorem lt_grown_5_2 (x : Nat) (l0 l1 l2 l3 l4 : List Obj) : x < (grow (grow (grow (grow (grow x l0) l1) l2) l3) l4) + 2 := by simp only [grow]; omega
@[go_sem] theorem le_grow_5_3 (x : Nat) (l0 l1 l2 l3 l4 : List Obj) : x ≤ (grow (grow (grow (grow (grow x l0) l1) l2) l3) l4) + 1 + 1 + 1 := by simp only [grow]; omega
@[go_sem] theorem lt_grow_5_3 (x : Nat) (l0 l1 l2 l3 l4 : List Obj) : x < (grow (grow (grow (grow (grow x l0) l1) l2) l3) l4) + 1 + 1 + 1 := by simp only [grow]; omega
@[go_sem] theorem le_grown_5_3 (x : Nat) (l0 l1 l2 l3 l4 : List Obj) : x ≤ (grow (grow (grow (grow (grow x l0) l1) l2) l3) l4) + 3 := by simp only [grow]; omega
@[go_sem] theorem lt_grown_5_3 (x : Nat) (l0 l1 l2 l3 l4 : List Obj) : x < (grow (grow (grow (grow (grow x l0) l1) l2) l3) l4) + 3 := by simp only [grow]; omega
@[go_sem] theorem le_grow_5_4 (x : Nat) (l0 l1 l2 l3 l4 : List Obj) : x ≤ (grow (grow (grow (grow (grow x l0) l1) l2) l3) l4) + 1 + 1 + 1 + 1 := by simp only [grow]; omega
@[go_sem] theorem lt_grow_5_4 (x : Nat) (l0 l1 l2 l3 l4 : List Obj) : x < (grow (grow (grow (grow (grow x l0) l1) l2) l3) l4) + 1 + 1 + 1 + 1 := by simp only [grow]; omega
@[go_sem] theorem le_grown_5_4 (x : Nat) (l0 l1 l2 l3 l4 : List Obj) : x ≤ (grow (grow (grow (grow (grow x l0) l1) l2) l3) l4) + 4 := by simp only [grow]; omega
@[go_sem] theorem lt_grown_5_4 (x : Nat) (l0 l1 l2 l3 l4 : List Obj) : x < (grow (grow (grow (grow (grow x l0) l1) l2) l3) l4) + 4 := by simp only [grow]; omega
@[go_sem] theorem le_grow_5_5 (x : Nat) (l0 l1 l2 l3 l4 : List Obj) : x ≤ (grow (grow (grow (grow (grow x l0) l1) l2) l3) l4) + 1 + 1 + 1 + 1 + 1 := by simp only [grow]; omega
@[go_sem] theorem lt_grow_5_5 (x : Nat) (l0 l1 l2 l3 l4 : List Obj) : x < (grow (grow (grow (grow (grow x l0) l1) l2) l3) l4) + 1 + 1 + 1 + 1 + 1 := by simp only [grow]; omega
@[go_sem] theorem le_grown_5_5 (x : Nat) (l0 l1 l2 l3 l4 : List Obj) : x ≤ (grow (grow (grow (grow (grow x l0) l1) l2) l3) l4) + 5 := by simp only [grow]; omega
@[go_sem] theorem lt_grown_5_5 (x : Nat) (l0 l1 l2 l3 l4 : List Obj) : x < (grow (grow (grow (grow (grow x l0) l1) l2) l3) l4) + 5 := by simp only [grow]; omega
@[go_sem] theorem le_grow_5_6 (x : Nat) (l0 l1 l2 l3 l4 : List Obj) : x ≤ (grow (grow (grow (grow (grow x l0) l1) l2) l3) l4) + 1 + 1 + 1 + 1 + 1 + 1 := by simp only [grow]; omega
@[go_sem] theorem lt_grow_5_6 (x : Nat) (l0 l1 l2 l3 l4 : List Obj) : x < (grow (grow (grow (grow (grow x l0) l1) l2) l3) l4) + 1 + 1 + 1 + 1 + 1 + 1 := by simp only [grow]; omega
@[go_sem] theorem le_grown_5_6 (x : Nat) (l0 l1 l2 l3 l4 : List Obj) : x ≤ (grow (grow (grow (grow (grow x l0) l1) l2) l3) l4) + 6 := by simp only [grow]; omega
@[go_sem] theorem lt_grown_5_6 (x : Nat) (l0 l1 l2 l3 l4 : List Obj) : x < (grow (grow (grow (grow (grow x l0) l1) l2) l3) l4) + 6 := by simp only [grow]; omega
@[go_sem] theorem le_grow_6_0 (x : Nat) (l0 l1 l2 l3 l4 l5 : List Obj) : x ≤ (grow (grow (grow (grow (grow (grow x l0) l1) l2) l3) l4) l5) := by simp only [grow]; omega
@[go_sem] theorem le_grow_6_1 (x : Nat) (l0 l1 l2 l3 l4 l5 : List Obj) : x ≤ (grow (grow (grow (grow (grow (grow x l0) l1) l2) l3) l4) l5) + 1 := by simp only [grow]; omega
@[go_sem] theorem lt_grow_6_1 (x : Nat) (l0 l1 l2 l3 l4 l5 : List Obj) : x < (grow (grow (grow (grow (grow (grow x l0) l1) l2) l3) l4) l5) + 1 := by simp only [grow]; omega
@[go_sem] theorem le_grow_6_2 (x : Nat) (l0 l1 l2 l3 l4 l5 : List Obj) : x ≤ (grow (grow (grow (grow (grow (grow x l0) l1) l2) l3) l4) l5) + 1 + 1 := by simp only [grow]; omega
@[go_sem] theorem lt_grow_6_2 (x : Nat) (l0 l1 l2 l3 l4 l5 : List Obj) : x < (grow (grow (grow (grow (grow (grow x l0) l1) l2) l3) l4) l5) + 1 + 1 := by simp only [grow]; omega
@[go_sem] theorem le_grown_6_2 (x : Nat) (l0 l1 l2 l3 l4 l5 : List Obj) : x ≤ (grow (grow (grow (grow (grow (grow x l0) l1) l2) l3) l4) l5) + 2 := by simp only [grow]; omega
@[go_sem] theorem lt_grown_6_2 (x : Nat) (l0 l1 l2 l3 l4 l5 : List Obj) : x < (grow (grow (grow (grow (grow (grow x l0) l1) l2) l3) l4) l5) + 2 := by simp only [grow]; omega
@[go_sem] theorem le_grow_6_3 (x : Nat) (l0 l1 l2 l3 l4 l5 : List Obj) : x ≤ (grow (grow (grow (grow (grow (grow x l0) l1) l2) l3) l4) l5) + 1 + 1 + 1 := by simp only [grow]; omega
@[go_sem] theorem lt_grow_6_3 (x : Nat) (l0 l1 l2 l3 l4 l5 : List Obj) : x < (grow (grow (grow (grow (grow (grow x l0) l1) l2) l3) l4) l5) + 1 + 1 + 1 := by simp only [grow]; omega
@[go_sem] theorem le_grown_6_3 (x : Nat) (l0 l1 l2 l3 l4 l5 : List Obj) : x ≤ (grow (grow (grow (grow (grow (grow x l0) l1) l2) l3) l4) l5) + 3 := by simp only [grow]; omega
@[go_sem] theorem lt_grown_6_3 (x : Nat) (l0 l1 l2 l3 l4 l5 : List Obj) : x < (grow (grow (grow (grow (grow (grow x l0) l1) l2) l3) l4) l5) + 3 := by simp only [grow]; omega
@[go_sem] theorem le_grow_6_4 (x : Nat) (l0 l1 l2 l3 l4 l5 : List Obj) : x ≤ (grow (grow (grow (grow (grow (grow x l0) l1) l2) l3) l4) l5) + 1 + 1 + 1 + 1 := by simp only [grow]; omega
@[go_sem] theorem lt_grow_6_4 (x : Nat) (l0 l1 l2 l3 l4 l5 : List Obj) : x < (grow (grow (grow (grow (grow (grow x l0) l1) l2) l3) l4) l5) + 1 + 1 + 1 + 1 := by simp only [grow]; omega
@[go_sem] theorem le_grown_6_4 (x : Nat) (l0 l1 l2 l3 l4 l5 : List Obj) : x ≤ (grow (grow (grow (grow (grow (grow x l0) l1) l2) l3) l4) l5) + 4 := by simp only [grow]; omega
@[go_sem] theorem lt_grown_6_4 (x : Nat) (l0 l1 l2 l3 l4 l5 : List Obj) : x < (grow (grow (grow (grow (grow (grow x l0) l1) l2) l3) l4) l5) + 4 := by simp only [grow]; omega
@[go_sem] theorem le_grow_6_5 (x : Nat) (l0 l1 l2 l3 l4 l5 : List Obj) : x ≤ (grow (grow (grow (grow (grow (grow x l0) l1) l2) l3) l4) l5) + 1 + 1 + 1 + 1 + 1 := by simp only [grow]; omega
@[go_sem] theorem lt_grow_6_5 (x : Nat) (l0 l1 l2 l3 l4 l5 : List Obj) : x < (grow (grow (grow (grow (grow (grow x l0) l1) l2) l3) l4) l5) + 1 + 1 + 1 + 1 + 1 := by simp only [grow]; omega
@[go_sem] theorem le_grown_6_5 (x : Nat) (l0 l1 l2 l3 l4 l5 : List Obj) : x ≤ (grow (grow (grow (grow (grow (grow x l0) l1) l2) l3) l4) l5) + 5 := by simp only [grow]; omega
@[go_sem] theorem lt_grown_6_5 (x : Nat) (l0 l1 l2 l3 l4 l5 : List Obj) : x < (grow (grow (grow (grow (grow (grow x l0) l1) l2) l3) l4) l5) + 5 := by simp only [grow]; omega
@[go_sem] theorem le_grow_6_6 (x : Nat) (l0 l1 l2 l3 l4 l5 : List Obj) : x ≤ (grow (grow (grow (grow (grow (grow x l0) l1) l2) l3) l4) l5) + 1 + 1 + 1 + 1 + 1 + 1 := by simp only [grow]; omega
@[go_sem] theorem lt_grow_6_6 (x : Nat) (l0 l1 l2 l3 l4 l5 : List Obj) : x < (grow (grow (grow (grow (grow (grow x l0) l1) l2) l3) l4) l5) + 1 + 1 + 1 + 1 + 1 + 1 := by simp only [grow]; omega
@[go_sem] theorem le_grown_6_6 (x : Nat) (l0 l1 l2 l3 l4 l5 : List Obj) : x ≤ (grow (grow (grow (grow (grow (grow x l0) l1) l2) l3) l4) l5) + 6 := by simp only [grow]; omega
@[go_sem] theorem lt_grown_6_6 (x : Nat) (l0 l1 l2 l3 l4 l5 : List Obj) : x < (grow (grow (grow (grow (grow (grow x l0) l1) l2) l3) l4) l5) + 6 := by simp only [grow]; omega
@[go_sem] theorem le_grow_7_0 (x : Nat) (l0 l1 l2 l3 l4 l5 l6 : List Obj) : x ≤ (grow (grow (grow (grow (grow (grow (grow x l0) l1) l2) l3) l4) l5) l6) := by simp only [grow]; omega
@[go_sem] theorem le_grow_7_1 (x : Nat) (l0 l1 l2 l3 l4 l5 l6 : List Obj) : x ≤ (grow (grow (grow (grow (grow (grow (grow x l0) l1) l2) l3) l4) l5) l6) + 1 := by simp only [grow]; omega
@[go_sem] theorem lt_grow_7_1 (x : Nat) (l0 l1 l2 l3 l4 l5 l6 : List Obj) : x < (grow (grow (grow (grow (grow (grow (grow x l0) l1) l2) l3) l4) l5) l6) + 1 := by simp only [grow]; omega
@[go_sem] theorem le_grow_7_2 (x : Nat) (l0 l1 l2 l3 l4 l5 l6 : List Obj) : x ≤ (grow (grow (grow (grow (grow (grow (grow x l0) l1) l2) l3) l4) l5) l6) + 1 + 1 := by simp only [grow]; omega
@[go_sem] theorem lt_grow_7_2 (x : Nat) (l0 l1 l2 l3 l4 l5 l6 : List Obj) : x < (grow (grow (grow (grow (grow (grow (grow x l0) l1) l2) l3) l4) l5) l6) + 1 + 1 := by simp only [grow]; omega
@[go_sem] theorem le_grown_7_2 (x : Nat) (l0 l1 l2 l3 l4 l5 l6 : List Obj) : x ≤ (grow (grow (grow (grow (grow (grow (grow x l0) l1) l2) l3) l4) l5) l6) + 2 := by simp only [grow]; omega
@[go_sem] theorem lt_grown_7_2 (x : Nat) (l0 l1 l2 l3 l4 l5 l6 : List Obj) : x < (grow (grow (grow (grow (grow (grow (grow x l0) l1) l2) l3) l4) l5) l6) + 2 := by simp only [grow]; omega
@[go_sem] theorem le_grow_7_3 (x : Nat) (l0 l1 l2 l3 l4 l5 l6 : List Obj) : x ≤ (grow (grow (grow (grow (grow (grow (grow x l0) l1) l2) l3) l4) l5) l6) + 1 + 1 + 1 := by simp only [grow]; omega
@[go_sem] theorem lt_grow_7_3 (x : Nat) (l0 l1 l2 l3 l4 l5 l6 : List Obj) : x < (grow (grow (grow (grow (grow (grow (grow x l0) l1) l2) l3) l4) l5) l6) + 1 + 1 + 1 := by simp only [grow]; omega
@[go_sem] theorem le_grown_7_3 (x : Nat) (l0 l1 l2 l3 l4 l5 l6 : List Obj) : x ≤ (grow (grow (grow (grow (grow (grow (grow x l0) l1) l2) l3) l4) l5) l6) + 3 := by simp only [grow]; omega
@[go_sem] theorem lt_grown_7_3 (x : Nat) (l0 l1 l2 l3 l4 l5 l6 : List Obj) : x < (grow (grow (grow (grow (grow (grow (grow x l0) l1) l2) l3) l4) l5) l6) + 3 := by simp only [grow]; omega
@[go_sem] theorem le_grow_7_4 (x : Nat) (l0 l1 l2 l3 l4 l5 l6 : List Obj) : x ≤ (grow (grow (grow (grow (grow (grow (grow x l0) l1) l2) l3) l4) l5) l6) + 1 + 1 + 1 + 1 := by simp only [grow]; omega
@[go_sem] theorem lt_grow_7_4 (x : Nat) (l0 l1 l2 l3 l4 l5 l6 : List Obj) : x < (grow (grow (grow (grow (grow (grow (grow x l0) l1) l2) l3) l4) l5) l6) + 1 + 1 + 1 + 1 := by simp only [grow]; omega
@[go_sem] theorem le_grown_7_4 (x : Nat) (l0 l1 l2 l3 l4 l5 l6 : List Obj) : x ≤ (grow (grow (grow (grow (grow (grow (grow x l0) l1) l2) l3) l4) l5) l6) + 4 := by simp only [grow]; omega
@[go_sem] theorem lt_grown_7_4 (x : Nat) (l0 l1 l2 l3 l4 l5 l6 : List Obj) : x < (grow (grow (grow (grow (grow (grow (grow x l0) l1) l2) l3) l4) l5) l6) + 4 := by simp only [grow]; omega
@[go_sem] theorem le_grow_7_5 (x : Nat) (l0 l1 l2 l3 l4 l5 l6 : List Obj) : x ≤ (grow (grow (grow (grow (grow (grow (grow x l0) l1) l2) l3) l4) l5) l6) + 1 + 1 + 1 + 1 + 1 := by simp only [grow]; omega
@[go_sem] theorem lt_grow_7_5 (x : Nat) (l0 l1 l2 l3 l4 l5 l6 : List Obj) : x < (grow (grow (grow (grow (grow (grow (grow x l0) l1) l2) l3) l4) l5) l6) + 1 + 1 + 1 + 1 + 1 := by simp only [grow]; omega
@[go_sem] theorem le_grown_7_5 (x : Nat) (l0 l1 l2 l3 l4 l5 l6 : List Obj) : x ≤ (grow (grow (grow (grow (grow (grow (grow x l0) l1) l2) l3) l4) l5) l6) + 5 := by simp only [grow]; omega
@[go_sem] theorem lt_grown_7_5 (x : Nat) (l0 l1 l2 l3 l4 l5 l6 : List Obj) : x < (grow (grow (grow (grow (grow (grow (grow x l0) l1) l2) l3) l4) l5) l6) + 5 := by simp only [grow]; omega
@[go_sem] theorem le_grow_7_6 (x : Nat) (l0 l1 l2 l3 l4 l5 l6 : List Obj) : x ≤ (grow (grow (grow (grow (grow (grow (grow x l0) l1) l2) l3) l4) l5) l6) + 1 + 1 + 1 + 1 + 1 + 1 := by simp only [grow]; omega
@[go_sem] theorem lt_grow_7_6 (x : Nat) (l0 l1 l2 l3 l4 l5 l6 : List Obj) : x < (grow (grow (grow (grow (grow (grow (grow x l0) l1) l2) l3) l4) l5) l6) + 1 + 1 + 1 + 1 + 1 + 1 := by simp only [grow]; omega
@[go_sem] theorem le_grown_7_6 (x : Nat) (l0 l1 l2 l3 l4 l5 l6 : List Obj) : x ≤ (grow (grow (grow (grow (grow (grow (grow x l0) l1) l2) l3) l4) l5) l6) + 6 := by simp only [grow]; omega
@[go_sem] theorem lt_grown_7_6 (x : Nat) (l0 l1 l2 l3 l4 l5 l6 : List Obj) : x < (grow (grow (grow (grow (grow (grow (grow x l0) l1) l2) l3) l4) l5) l6) + 6 := by simp only [grow]; omega
@[go_sem] theorem le_grow_8_0 (x : Nat) (l0 l1 l2 l3 l4 l5 l6 l7 : List Obj) : x ≤ (grow (grow (grow (grow (grow (grow (grow (grow x l0) l1) l2) l3) l4) l5) l6) l7) := by simp only [grow]; omega
@[go_sem] theorem le_grow_8_1 (x : Nat) (l0 l1 l2 l3 l4 l5 l6 l7 : List Obj) : x ≤ (grow (grow (grow (grow (grow (grow (grow (grow x l0) l1) l2) l3) l4) l5) l6) l7) + 1 := by simp only [grow]; omega
@[go_sem] theorem lt_grow_8_1 (x : Nat) (l0 l1 l2 l3 l4 l5 l6 l7 : List Obj) : x < (grow (grow (grow (grow (grow (grow (grow (grow x l0) l1) l2) l3) l4) l5) l6) l7) + 1 := by simp only [grow]; omega
@[go_sem] theorem le_grow_8_2 (x : Nat) (l0 l1 l2 l3 l4 l5 l6 l7 : List Obj) : x ≤ (grow (grow (grow (grow (grow (grow (grow (grow x l0) l1) l2) l3) l4) l5) l6) l7) + 1 + 1 := by simp only [grow]; omega
@[go_sem] theorem lt_grow_8_2 (x : Nat) (l0 l1 l2 l3 l4 l5 l6 l7 : List Obj) : x < (grow (grow (grow (grow (grow (grow (grow (grow x l0) l1) l2) l3) l4) l5) l6) l7) + 1 + 1 := by simp only [grow]; omega
@[go_sem] theorem le_grown_8_2 (x : Nat) (l0 l1 l2 l3 l4 l5 l6 l7 : List Obj) : x ≤ (grow (grow (grow (grow (grow (grow (grow (grow x l0) l1) l2) l3) l4) l5) l6) l7) + 2 := by simp only [grow]; omega
@[go_sem] theorem lt_grown_8_2 (x : Nat) (l0 l1 l2 l3 l4 l5 l6 l7 : List Obj) : x < (grow (grow (grow (grow (grow (grow (grow (grow x l0) l1) l2) l3) l4) l5) l6) l7) + 2 := by simp only [grow]; omega
@[go_sem] theorem le_grow_8_3 (x : Nat) (l0 l1 l2 l3 l4 l5 l6 l7 : List Obj) : x ≤ (grow (grow (grow (grow (grow (grow (grow (grow x l0) l1) l2) l3) l4) l5) l6) l7) + 1 + 1 + 1 := by simp only [grow]; omega
@[go_sem] theorem lt_grow_8_3 (x : Nat) (l0 l1 l2 l3 l4 l5 l6 l7 : List Obj) : x < (grow (grow (grow (grow (grow (grow (grow (grow x l0) l1) l2) l3) l4) l5) l6) l7) + 1 + 1 + 1 := by simp only [grow]; omega
@[go_sem] theorem le_grown_8_3 (x : Nat) (l0 l1 l2 l3 l4 l5 l6 l7 : List Obj) : x ≤ (grow (grow (grow (grow (grow (grow (grow (grow x l0) l1) l2) l3) l4) l5) l6) l7) + 3 := by simp only [grow]; omega
@[go_sem] theorem lt_grown_8_3 (x : Nat) (l0 l1 l2 l3 l4 l5 l6 l7 : List Obj) : x < (grow (grow (grow (grow (grow (grow (grow (grow x l0) l1) l2) l3) l4) l5) l6) l7) + 3 := by simp only [grow]; omega
@[go_sem] theorem le_grow_8_4 (x : Nat) (l0 l1 l2 l3 l4 l5 l6 l7 : List Obj) : x ≤ (grow (grow (grow (grow (grow (grow (grow (grow x l0) l1) l2) l3) l4) l5) l6) l7) + 1 + 1 + 1 + 1 := by simp only [grow]; omega
@[go_sem] theorem lt_grow_8_4 (x : Nat) (l0 l1 l2 l3 l4 l5 l6 l7 : List Obj) : x < (grow (grow (grow (grow (grow (grow (grow (grow x l0) l1) l2) l3) l4) l5) l6) l7) + 1 + 1 + 1 + 1 := by simp only [grow]; omega
@[go_sem] theorem le_grown_8_4 (x : Nat) (l0 l1 l2 l3 l4 l5 l6 l7 : List Obj) : x ≤ (grow (grow (grow (grow (grow (grow (grow (grow x l0) l1) l2) l3) l4) l5) l6) l7) + 4 := by simp only [grow]; omega
@[go_sem] theorem lt_grown_8_4 (x : Nat) (l0 l1 l2 l3 l4 l5 l6 l7 : List Obj) : x < (grow (grow (grow (grow (grow (grow (grow (grow x l0) l1) l2) l3) l4) l5) l6) l7) + 4 := by simp only [grow]; omega
@[go_sem] theorem le_grow_8_5 (x : Nat) (l0 l1 l2 l3 l4 l5 l6 l7 : List Obj) : x ≤ (grow (grow (grow (grow (grow (grow (grow (grow x l0) l1) l2) l3) l4) l5) l6) l7) + 1 + 1 + 1 + 1 + 1 := by simp only [grow]; omega
@[go_sem] theorem lt_grow_8_5 (x : Nat) (l0 l1 l2 l3 l4 l5 l6 l7 : List Obj) : x < (grow (grow (grow (grow (grow (grow (grow (grow x l0) l1) l2) l3) l4) l5) l6) l7) + 1 + 1 + 1 + 1 + 1 := by simp only [grow]; omega
@[go_sem] theorem le_grown_8_5 (x : Nat) (l0 l1 l2 l3 l4 l5 l6 l7 : List Obj) : x ≤ (grow (grow (grow (grow (grow (grow (grow (grow x l0) l1) l2) l3) l4) l5) l6) l7) + 5 := by simp only [grow]; omega
@[go_sem] theorem lt_grown_8_5 (x : Nat) (l0 l1 l2 l3 l4 l5 l6 l7 : List Obj) : x < (grow (grow (grow (grow (grow (grow (grow (grow x l0) l1) l2) l3) l4) l5) l6) l7) + 5 := by simp only [grow]; omega
@[go_sem] theorem le_grow_8_6 (x : Nat) (l0 l1 l2 l3 l4 l5 l6 l7 : List Obj) : x ≤ (grow (grow (grow (grow (grow (grow (grow (grow x l0) l1) l2) l3) l4) l5) l6) l7) + 1 + 1 + 1 + 1 + 1 + 1 := by simp only [grow]; omega
@[go_sem] theorem lt_grow_8_6 (x : Nat) (l0 l1 l2 l3 l4 l5 l6 l7 : List Obj) : x < (grow (grow (grow (grow (grow (grow (grow (grow x l0) l1) l2) l3) l4) l5) l6) l7) + 1 + 1 + 1 + 1 + 1 + 1 := by simp only [grow]; omega
@[go_sem] theorem le_grown_8_6 (x : Nat) (l0 l1 l2 l3 l4 l5 l6 l7 : List Obj) : x ≤ (grow (grow (grow (grow (grow (grow (grow (grow x l0) l1) l2) l3) l4) l5) l6) l7) + 6 := by simp only [grow]; omega
@[go_sem] theorem lt_grown_8_6 (x : Nat) (l0 l1 l2 l3 l4 l5 l6 l7 : List Obj) : x < (grow (grow (grow (grow (grow (grow (grow (grow x l0) l1) l2) l3) l4) l5) l6) l7) + 6 := by simp only [grow]; omega
@[go_sem] theorem le_grow_9_0 (x : Nat) (l0 l1 l2 l3 l4 l5 l6 l7 l8 : List Obj) : x ≤ (grow (grow (grow (grow (grow (grow (grow (grow (grow x l0) l1) l2) l3) l4) l5) l6) l7) l8) := by simp only [grow]; omega
@[go_sem] theorem le_grow_9_1 (x : Nat) (l0 l1 l2 l3 l4 l5 l6 l7 l8 : List Obj) : x ≤ (grow (grow (grow (grow (grow (grow (grow (grow (grow x l0) l1) l2) l3) l4) l5) l6) l7) l8) + 1 := by simp only [grow]; omega
@[go_sem] theorem lt_grow_9_1 (x : Nat) (l0 l1 l2 l3 l4 l5 l6 l7 l8 : List Obj) : x < (grow (grow (grow (grow (grow (grow (grow (grow (grow x l0) l1) l2) l3) l4) l5) l6) l7) l8) + 1 := by simp only [grow]; omega
@[go_sem] theorem le_grow_9_2 (x : Nat) (l0 l1 l2 l3 l4 l5 l6 l7 l8 : List Obj) : x ≤ (grow (grow (grow (grow (grow (grow (grow (grow (grow x l0) l1) l2) l3) l4) l5) l6) l7) l8) + 1 + 1 := by simp only [grow]; omega
@[go_sem] theorem lt_grow_9_2 (x : Nat) (l0 l1 l2 l3 l4 l5 l6 l7 l8 : List Obj) : x < (grow (grow (grow (grow (grow (grow (grow (grow (grow x l0) l1) l2) l3) l4) l5) l6) l7) l8) + 1 + 1 := by simp only [grow]; omega
@[go_sem] theorem le_grown_9_2 (x : Nat) (l0 l1 l2 l3 l4 l5 l6 l7 l8 : List Obj) : x ≤ (grow (grow (grow (grow (grow (grow (grow (grow (grow x l0) l1) l2) l3) l4) l5) l6) l7) l8) + 2 := by simp only [grow]; omega
@[go_sem] theorem lt_grown_9_2 (x : Nat) (l0 l1 l2 l3 l4 l5 l6 l7 l8 : List Obj) : x < (grow (grow (grow (grow (grow (grow (grow (grow (grow x l0) l1) l2) l3) l4) l5) l6) l7) l8) + 2 := by simp only [grow]; omega
@[go_sem] theorem le_grow_9_3 (x : Nat) (l0 l1 l2 l3 l4 l5 l6 l7 l8 : List Obj) : x ≤ (grow (grow (grow (grow (grow (grow (grow (grow (grow x l0) l1) l2) l3) l4) l5) l6) l7) l8) + 1 + 1 + 1 := by simp only [grow]; omega
@[go_sem] theorem lt_grow_9_3 (x : Nat) (l0 l1 l2 l3 l4 l5 l6 l7 l8 : List Obj) : x < (grow (grow (grow (grow (grow (grow (grow (grow (grow x l0) l1) l2) l3) l4) l5) l6) l7) l8) + 1 + 1 + 1 := by simp only [grow]; omega
@[go_sem] theorem le_grown_9_3 (x : Nat) (l0 l1 l2 l3 l4 l5 l6 l7 l8 : List Obj) : x ≤ (grow (grow (grow (grow (grow (grow (grow (grow (grow x l0) l1) l2) l3) l4) l5) l6) l7) l8) + 3 := by simp only [grow]; omega
@[go_sem] theorem lt_grown_9_3 (x : Nat) (l0 l1 l2 l3 l4 l5 l6 l7 l8 : List Obj) : x < (grow (grow (grow (grow (grow (grow (grow (grow (grow x l0) l1) l2) l3) l4) l5) l6) l7) l8) + 3 := by simp only [grow]; omega
@[go_sem] theorem le_grow_9_4 (x : Nat) (l0 l1 l2 l3 l4 l5 l6 l7 l8 : List Obj) : x ≤ (grow (grow (grow (grow (grow (grow (grow (grow (grow x l0) l1) l2) l3) l4) l5) l6) l7) l8) + 1 + 1 + 1 + 1 := by simp only [grow]; omega
@[go_sem] theorem lt_grow_9_4 (x : Nat) (l0 l1 l2 l3 l4 l5 l6 l7 l8 : List Obj) : x < (grow (grow (grow (grow (grow (grow (grow (grow (grow x l0) l1) l2) l3) l4) l5) l6) l7) l8) + 1 + 1 + 1 + 1 := by simp only [grow]; omega
@[go_sem] theorem le_grown_9_4 (x : Nat) (l0 l1 l2 l3 l4 l5 l6 l7 l8 : List Obj) : x ≤ (grow (grow (grow (grow (grow (grow (grow (grow (grow x l0) l1) l2) l3) l4) l5) l6) l7) l8) + 4 := by simp only [grow]; omega
@[go_sem] theorem lt_grown_9_4 (x : Nat) (l0 l1 l2 l3 l4 l5 l6 l7 l8 : List Obj) : x < (grow (grow (grow (grow (grow (grow (grow (grow (grow x l0) l1) l2) l3) l4) l5) l6) l7) l8) + 4 := by simp only [grow]; omega
@[go_sem] theorem le_grow_9_5 (x : Nat) (l0 l1 l2 l3 l4 l5 l6 l7 l8 : List Obj) : x ≤ (grow (grow (grow (grow (grow (grow (grow (grow (grow x l0) l1) l2) l3) l4) l5) l6) l7) l8) + 1 + 1 + 1 + 1 + 1 := by simp only [grow]; omega
@[go_sem] theorem lt_grow_9_5 (x : Nat) (l0 l1 l2 l3 l4 l5 l6 l7 l8 : List Obj) : x < (grow (grow (grow (grow (grow (grow (grow (grow (grow x l0) l1) l2) l3) l4) l5) l6) l7) l8) + 1 + 1 + 1 + 1 + 1 := by simp only [grow]; omega
@[go_sem] theorem le_grown_9_5 (x : Nat) (l0 l1 l2 l3 l4 l5 l6 l7 l8 : List Obj) : x ≤ (grow (grow (grow (grow (grow (grow (grow (grow (grow x l0) l1) l2) l3) l4) l5) l6) l7) l8) + 5 := by simp only [grow]; omega
@[go_sem] theorem lt_grown_9_5 (x : Nat) (l0 l1 l2 l3 l4 l5 l6 l7 l8 : List Obj) : x < (grow (grow (grow (grow (grow (grow (grow (grow (grow x l0) l1) l2) l3) l4) l5) l6) l7) l8) + 5 := by simp only [grow]; omega
@[go_sem] theorem le_grow_9_6 (x : Nat) (l0 l1 l2 l3 l4 l5 l6 l7 l8 : List Obj) : x ≤ (grow (grow (grow (grow (grow (grow (grow (grow (grow x l0) l1) l2) l3) l4) l5) l6) l7) l8) + 1 + 1 + 1 + 1 + 1 + 1 := by simp only [grow]; omega
@[go_sem] theorem lt_grow_9_6 (x : Nat) (l0 l1 l2 l3 l4 l5 l6 l7 l8 : List Obj) : x < (grow (grow (grow (grow (grow (grow (grow (grow (grow x l0) l1) l2) l3) l4) l5) l6) l7) l8) + 1 + 1 + 1 + 1 + 1 + 1 := by simp only [grow]; omega
@[go_sem] theorem le_grown_9_6 (x : Nat) (l0 l1 l2 l3 l4 l5 l6 l7 l8 : List Obj) : x ≤ (grow (grow (grow (grow (grow (grow (grow (grow (grow x l0) l1) l2) l3) l4) l5) l6) l7) l8) + 6 := by simp only [grow]; omega
@[go_sem] theorem lt_grown_9_6 (x : Nat) (l0 l1 l2 l3 l4 l5 l6 l7 l8 : List Obj) : x < (grow (grow (grow (grow (grow (grow (grow (grow (grow x l0) l1) l2) l3) l4) l5) l6) l7) l8) + 6 := by simp only [grow]; omega
@[go_sem] theorem le_grow_10_0 (x : Nat) (l0 l1 l2 l3 l4 l5 l6 l7 l8 l9 : List Obj) : x ≤ (grow (grow (grow (grow (grow (grow (grow (grow (grow (grow x l0) l1) l2) l3) l4) l5) l6) l7) l8) l9) := by simp only [grow]; omega
@[go_sem] theorem le_grow_10_1 (x : Nat) (l0 l1 l2 l3 l4 l5 l6 l7 l8 l9 : List Obj) : x ≤ (grow (grow (grow (grow (grow (grow (grow (grow (grow (grow x l0) l1) l2) l3) l4) l5) l6) l7) l8) l9) + 1 := by simp only [grow]; omega
@[go_sem] theorem lt_grow_10_1 (x : Nat) (l0 l1 l2 l3 l4 l5 l6 l7 l8 l9 : List Obj) : x < (grow (grow (grow (grow (grow (grow (grow (grow (grow (grow x l0) l1) l2) l3) l4) l5) l6) l7) l8) l9) + 1 := by simp only [grow]; omega
@[go_sem] theorem le_grow_10_2 (x : Nat) (l0 l1 l2 l3 l4 l5 l6 l7 l8 l9 : List Obj) : x ≤ (grow (grow (grow (grow (grow (grow (grow (grow (grow (grow x l0) l1) l2) l3) l4) l5) l6) l7) l8) l9) + 1 + 1 := by simp only [grow]; omega
@[go_sem] theorem lt_grow_10_2 (x : Nat) (l0 l1 l2 l3 l4 l5 l6 l7 l8 l9 : List Obj) : x < (grow (grow (grow (grow (grow (grow (grow (grow (grow (grow x l0) l1) l2) l3) l4) l5) l6) l7) l8) l9) + 1 + 1 := by simp only [grow]; omega
@[go_sem] theorem le_grown_10_2 (x : Nat) (l0 l1 l2 l3 l4 l5 l6 l7 l8 l9 : List Obj) : x ≤ (grow (grow (grow (grow (grow (grow (grow (grow (grow (grow x l0) l1) l2) l3) l4) l5) l6) l7) l8) l9) + 2 := by simp only [grow]; omega
@[go_sem] theorem lt_grown_10_2 (x : Nat) (l0 l1 l2 l3 l4 l5 l6 l7 l8 l9 : List Obj) : x < (grow (grow (grow (grow (grow (grow (grow (grow (grow (grow x l0) l1) l2) l3) l4) l5) l6) l7) l8) l9) + 2 := by simp only [grow]; omega
@[go_sem] theorem le_grow_10_3 (x : Nat) (l0 l1 l2 l3 l4 l5 l6 l7 l8 l9 : List Obj) : x ≤ (grow (grow (grow (grow (grow (grow (grow (grow (grow (grow x l0) l1) l2) l3) l4) l5) l6) l7) l8) l9) + 1 + 1 + 1 := by simp only [grow]; omega
@[go_sem] theorem lt_grow_10_3 (x : Nat) (l0 l1 l2 l3 l4 l5 l6 l7 l8 l9 : List Obj) : x < (grow (grow (grow (grow (grow (grow (grow (grow (grow (grow x l0) l1) l2) l3) l4) l5) l6) l7) l8) l9) + 1 + 1 + 1 := by simp only [grow]; omega
@[go_sem] theorem le_grown_10_3 (x : Nat) (l0 l1 l2 l3 l4 l5 l6 l7 l8 l9 : List Obj) : x ≤ (grow (grow (grow (grow (grow (grow (grow (grow (grow (grow x l0) l1) l2) l3) l4) l5) l6) l7) l8) l9) + 3 := by simp only [grow]; omega
@[go_sem] theorem lt_grown_10_3 (x : Nat) (l0 l1 l2 l3 l4 l5 l6 l7 l8 l9 : List Obj) : x < (grow (grow (grow (grow (grow (grow (grow (grow (grow (grow x l0) l1) l2) l3) l4) l5) l6) l7) l8) l9) + 3 := by simp only [grow]; omega
@[go_sem] theorem le_grow_10_4 (x : Nat) (l0 l1 l2 l3 l4 l5 l6 l7 l8 l9 : List Obj) : x ≤ (grow (grow (grow (grow (grow (grow (grow (grow (grow (grow x l0) l1) l2) l3) l4) l5) l6) l7) l8) l9) + 1 + 1 + 1 + 1 := by simp only [grow]; omega
@[go_sem] theorem lt_grow_10_4 (x : Nat) (l0 l1 l2 l3 l4 l5 l6 l7 l8 l9 : List Obj) : x < (grow (grow (grow (grow (grow (grow (grow (grow (grow (grow x l0) l1) l2) l3) l4) l5) l6) l7) l8) l9) + 1 + 1 + 1 + 1 := by simp only [grow]; omega
@[go_sem] theorem le_grown_10_4 (x : Nat) (l0 l1 l2 l3 l4 l5 l6 l7 l8 l9 : List Obj) : x ≤ (grow (grow (grow (grow (grow (grow (grow (grow (grow (grow x l0) l1) l2) l3) l4) l5) l6) l7) l8) l9) + 4 := by simp only [grow]; omega
@[go_sem] theorem lt_grown_10_4 (x : Nat) (l0 l1 l2 l3 l4 l5 l6 l7 l8 l9 : List Obj) : x < (grow (grow (grow (grow (grow (grow (grow (grow (grow (grow x l0) l1) l2) l3) l4) l5) l6) l7) l8) l9) + 4 := by simp only [grow]; omega
@[go_sem] theorem le_grow_10_5 (x : Nat) (l0 l1 l2 l3 l4 l5 l6 l7 l8 l9 : List Obj) : x ≤ (grow (grow (grow (grow (grow (grow (grow (grow (grow (grow x l0) l1) l2) l3) l4) l5) l6) l7) l8) l9) + 1 + 1 + 1 + 1 + 1 := by simp only [grow]; omega
@[go_sem] theorem lt_grow_10_5 (x : Nat) (l0 l1 l2 l3 l4 l5 l6 l7 l8 l9 : List Obj) : x < (grow (grow (grow (grow (grow (grow (grow (grow (grow (grow x l0) l1) l2) l3) l4) l5) l6) l7) l8) l9) + 1 + 1 + 1 + 1 + 1 := by simp only [grow]; omega
@[go_sem] theorem le_grown_10_5 (x : Nat) (l0 l1 l2 l3 l4 l5 l6 l7 l8 l9 : List Obj) : x ≤ (grow (grow (grow (grow (grow (grow (grow (grow (grow (grow x l0) l1) l2) l3) l4) l5) l6) l7) l8) l9) + 5 := by simp only [grow]; omega
@[go_sem] theorem lt_grown_10_5 (x : Nat) (l0 l1 l2 l3 l4 l5 l6 l7 l8 l9 : List Obj) : x < (grow (grow (grow (grow (grow (grow (grow (grow (grow (grow x l0) l1) l2) l3) l4) l5) l6) l7) l8) l9) + 5 := by simp only [grow]; omega
@[go_sem] theorem le_grow_10_6 (x : Nat) (l0 l1 l2 l3 l4 l5 l6 l7 l8 l9 : List Obj) : x ≤ (grow (grow (grow (grow (grow (grow (grow (grow (grow (grow x l0) l1) l2) l3) l4) l5) l6) l7) l8) l9) + 1 + 1 + 1 + 1 + 1 + 1 := by simp only [grow]; omega
@[go_sem] theorem lt_grow_10_6 (x : Nat) (l0 l1 l2 l3 l4 l5 l6 l7 l8 l9 : List Obj) : x < (grow (grow (grow (grow (grow (grow (grow (grow (grow (grow x l0) l1) l2) l3) l4) l5) l6) l7) l8) l9) + 1 + 1 + 1 + 1 + 1 + 1 := by simp only [grow]; omega
@[go_sem] theorem le_grown_10_6 (x : Nat) (l0 l1 l2 l3 l4 l5 l6 l7 l8 l9 : List Obj) : x ≤ (grow (grow (grow (grow (grow (grow (grow (grow (grow (grow x l0) l1) l2) l3) l4) l5) l6) l7) l8) l9) + 6 := by simp only [grow]; omega
@[go_sem] theorem lt_grown_10_6 (x : Nat) (l0 l1 l2 l3 l4 l5 l6 l7 l8 l9 : List Obj) : x < (grow (grow (grow (grow (grow (grow (grow (grow (grow (grow x l0) l1) l2) l3) l4) l5) l6) l7) l8) l9) + 6 := by simp only [grow]; omega
@[go_sem] theorem le_plain_2 (x : Nat) : x ≤ x + 1 + 1 := by omega
@[go_sem] theorem lt_plain_2 (x : Nat) : x < x + 1 + 1 := by omega
@[go_sem] theorem le_plain_3 (x : Nat) : x ≤ x + 1 + 1 + 1 := by omega
@[go_sem] theorem lt_plain_3 (x : Nat) : x < x + 1 + 1 + 1 := by omega
@[go_sem] theorem le_plain_4 (x : Nat) : x ≤ x + 1 + 1 + 1 + 1 := by omega
@[go_sem] theorem lt_plain_4 (x : Nat) : x < x + 1 + 1 + 1 + 1 := by omega
@[go_sem] theorem le_plain_5 (x : Nat) : x ≤ x + 1 + 1 + 1 + 1 + 1 := by omega
@[go_sem] theorem lt_plain_5 (x : Nat) : x < x + 1 + 1 + 1 + 1 + 1 := by omega
@[go_sem] theorem le_plain_6 (x : Nat) : x ≤ x + 1 + 1 + 1 + 1 + 1 + 1 := by omega
@[go_sem] theorem lt_plain_6 (x : Nat) : x < x + 1 + 1 + 1 + 1 + 1 + 1 := by omega
@[go_sem] theorem le_plain_7 (x : Nat) : x ≤ x + 1 + 1 + 1 + 1 + 1 + 1 + 1 := by omega
@[go_sem] theorem lt_plain_7 (x : Nat) : x < x + 1 + 1 + 1 + 1 + 1 + 1 + 1 := by omega
@[go_sem] theorem le_plain_8 (x : Nat) : x ≤ x + 1 + 1 + 1 + 1 + 1 + 1 + 1 + 1 := by omega
@[go_sem] theorem lt_plain_8 (x : Nat) : x < x + 1 + 1 + 1 + 1 + 1 + 1 + 1 + 1 := by omega
theorem ext_block (w : World) (xs : List Obj) (d k : Nat) (h : k < w.heap.size) : (ext w xs d).heap[k]? = w.heap[k]? := by
  simp [ext, Array.getElem?_append, h]

@[go_sem] theorem heap_ext (w : World) (xs : List Obj) (d k : Nat) (h : k < w.heap.size) : (ext w xs d).heap[k]? = w.heap[k]? := ext_block w xs d k h
@[go_sem] theorem heap_alloc_at (w : World) (o : Obj) (k : Nat) (h : k = w.heap.size) : (w.alloc o).heap[k]? = some o := by subst h; exact heap_alloc_new w o
@[go_sem] theorem heap_alloc_past (w : World) (o : Obj) (k : Nat) (h : k < w.heap.size) : (w.alloc o).heap[k]? = w.heap[k]? := Below.heap_alloc w o k h
@[go_sem] theorem heap_drew (w : World) : w.drew.heap = w.heap := rfl
@[go_sem] theorem heap_drewN (w : World) (n : Nat) : (w.drewN n).heap = w.heap := rfl
@[go_sem] theorem size_ext (w : World) (xs : List Obj) (d : Nat) : (ext w xs d).heap.size = grow w.heap.size xs := by simp [ext, grow]
@[go_sem] theorem cell?_ext (w : World) (xs : List Obj) (d n i : Nat) (hn : n < w.heap.size) : (ext w xs d).cell? ⟨n, i, none⟩ = w.cell? ⟨n, i, none⟩ :=
  World.cell?_of_block (w := w) (ext_block w xs d n hn)
@[go_sem] theorem frozen?_ext (w : World) (xs : List Obj) (d n i : Nat) (hn : n < w.heap.size) : (ext w xs d).frozen? ⟨n, i, none⟩ = w.frozen? ⟨n, i, none⟩ :=
  World.frozen?_of_block (w := w) (ext_block w xs d n hn)
@[go_sem] theorem setCell_ext (w : World) (xs : List Obj) (d n i : Nat) (v : Value) (hn : n < w.heap.size) : (ext w xs d).setCell ⟨n, i, none⟩ v = ext (w.setCell ⟨n, i, none⟩ v) xs d := by
  simp only [ext, World.setCell]
  congr 1
  apply Array.ext_getElem?
  intro k
  simp only [Array.getElem?_modify, Array.getElem?_append, Array.size_modify]
  by_cases hk : k < w.heap.size
  · simp [hk]
  · have : n ≠ k := by omega
    simp [hk, this]
@[go_sem] theorem ext_drew (w : World) (xs : List Obj) (d : Nat) : (ext w xs d).drew = ext w xs (d + 1) := rfl
@[go_sem] theorem drew_ext (w : World) (xs : List Obj) (d : Nat) : ext w.drew xs d = ext w xs d := rfl
theorem ext_of {w w' : World} (h : Below w.heap.size w w') : ∃ xs d, w' = ext w xs d := by
  refine ⟨w'.heap.toList.drop w.heap.size, w'.drawn, ?_⟩
  have hh : w'.heap = w.heap ++ (w'.heap.toList.drop w.heap.size).toArray := by
    apply Array.ext_getElem?
    intro k
    rw [Array.getElem?_append]
    by_cases hk : k < w.heap.size
    · rw [if_pos hk, h.block k hk]
    · rw [if_neg hk]
      simp
      congr 1
      omega
  have h1 := h.os
  have h2 := h.tape
  have h3 := h.output
  obtain ⟨hp', tp', dr', os', out'⟩ := w'
  simp only at h1 h2 h3 hh
  subst h1 h2 h3
  show _ = ext w _ dr'
  unfold ext
  rw [← hh]

theorem below_ext {B : Nat} {a w : World} (h : Below B a w) (hB : B ≤ w.heap.size) (xs : List Obj) (d : Nat) : Below B a (ext w xs d) :=
  h.trans ⟨rfl, rfl, rfl, by simp [size_ext, grow], fun k hk => ext_block w xs d k (by omega)⟩

theorem below_drewN {B : Nat} {a w : World} (h : Below B a w) (n : Nat) : Below B a (w.drewN n) := ⟨h.os, h.tape, h.output, h.size, h.block⟩
@[go_sem] theorem ext_drewN (w : World) (xs : List Obj) (d n : Nat) : (ext w xs d).drewN n = ext w xs (d + n) := by simp [ext, World.drewN]
@[go_sem] theorem drewN_ext (w : World) (xs : List Obj) (d n : Nat) : ext (w.drewN n) xs d = ext w xs d := rfl

theorem ret_int {k : IntKind} {a b : Int} (h : a = b) : Ending.returned (.int k a) = .returned (.int k b) := by rw [h]
/-- What has turned lies above: step by step, found by the tactic. -/
theorem bel {B : Nat} {w W : World} (h : Below B w W := by (repeat (first | exact Below.refl _ _ | exact Nat.le_refl _ | (refine below_ext ?_ (by first | (simp [size_ext, grow]; done) | (simp [size_ext, grow]; omega) | omega) _ _) | (refine Below.setCell ?_ (by first | (simp [size_ext, grow]; done) | (simp [size_ext, grow]; omega) | omega) _) | (refine Below.alloc ?_ (by first | (simp [size_ext, grow]; done) | (simp [size_ext, grow]; omega) | omega) _) | refine Below.drew ?_ | refine below_drewN ?_ _ | (refine Below.trans ?_ (Below.mono (by assumption) (by first | (simp [size_ext, grow]; done) | (simp [size_ext, grow]; omega) | omega)))))) : Below B w W := h
end Go.Proofs.Ytlkijhcgiilmhaa
