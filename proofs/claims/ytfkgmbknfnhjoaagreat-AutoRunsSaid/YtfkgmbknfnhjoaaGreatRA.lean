/- Bundle A. -/
import Derived.WalkKit
import Derived.WalkSpells
import Derived.WalkLawsBesides
import Derived.Deep.QuietTactic
import Derived.BigQuiet
import Derived.Deep.RegionHeld3
import Derived.Deep.DeepCutAuto
import Derived.Lib.Hide
import Derived.Maps.AppendAt
import Derived.Laws.BytesString
import Derived.Laws.Cells
import Derived.Laws.BitsAllLaws
import Derived.Laws.BitsLemmas
import Derived.Handy
import Derived.ProofKit
import Derived.OpenShut
import Derived.Lib.SmallJoins
import Derived.Deep.Slices
import Derived.Deep.Fields
import Derived.ChangeSame
import Derived.RangeFuncNested
import Derived.RangeFuncBound
import Derived.RangeFuncCalls
import Derived.RangeFuncLeaves
import Derived.Shelf.Abstract
import Derived.Shelf.RegionOpen
import Derived.OwnWalkIn
import Derived.TacticsInMore
import Derived.LoopNIn
import Derived.LoopIn
import Derived.Laws.OwnMore
import Derived.Deep.SlicePairs
import Derived.Laws.Rows
import Derived.Test.YtfkgmbknfnhjoaaGreatRows
set_option maxHeartbeats 4000000
namespace Go.Proofs.YtfkgmbknfnhjoaaGreat
open Lib (hid)
open Go.RowKit
def ext (w:World) (xs:List Obj) (d:Nat):World:={w with heap:=w.heap++xs.toArray,drawn:=d}
def grow (a:Nat) (xs:List Obj):Nat:=a+xs.length
@[go_sem] theorem grow_succ (a:Nat) (xs:List Obj):grow (a+1) xs=grow a xs+1:=by simp only[grow];omega
@[go_sem] theorem le_grow_1_0 (x:Nat) (l0:List Obj):x≤(grow x l0):=by simp only[grow];omega
@[go_sem] theorem le_grow_1_1 (x:Nat) (l0:List Obj):x≤(grow x l0)+1:=by simp only[grow];omega
@[go_sem] theorem lt_grow_1_1 (x:Nat) (l0:List Obj):x<(grow x l0)+1:=by simp only[grow];omega
@[go_sem] theorem le_grow_1_2 (x:Nat) (l0:List Obj):x≤(grow x l0)+1+1:=by simp only[grow];omega
@[go_sem] theorem lt_grow_1_2 (x:Nat) (l0:List Obj):x<(grow x l0)+1+1:=by simp only[grow];omega
@[go_sem] theorem le_grown_1_2 (x:Nat) (l0:List Obj):x≤(grow x l0)+2:=by simp only[grow];omega
@[go_sem] theorem lt_grown_1_2 (x:Nat) (l0:List Obj):x<(grow x l0)+2:=by simp only[grow];omega
@[go_sem] theorem le_grow_1_3 (x:Nat) (l0:List Obj):x≤(grow x l0)+1+1+1:=by simp only[grow];omega
@[go_sem] theorem lt_grow_1_3 (x:Nat) (l0:List Obj):x<(grow x l0)+1+1+1:=by simp only[grow];omega
@[go_sem] theorem le_grown_1_3 (x:Nat) (l0:List Obj):x≤(grow x l0)+3:=by simp only[grow];omega
@[go_sem] theorem lt_grown_1_3 (x:Nat) (l0:List Obj):x<(grow x l0)+3:=by simp only[grow];omega
@[go_sem] theorem le_grow_1_4 (x:Nat) (l0:List Obj):x≤(grow x l0)+1+1+1+1:=by simp only[grow];omega
@[go_sem] theorem lt_grow_1_4 (x:Nat) (l0:List Obj):x<(grow x l0)+1+1+1+1:=by simp only[grow];omega
@[go_sem] theorem le_grown_1_4 (x:Nat) (l0:List Obj):x≤(grow x l0)+4:=by simp only[grow];omega
@[go_sem] theorem lt_grown_1_4 (x:Nat) (l0:List Obj):x<(grow x l0)+4:=by simp only[grow];omega
@[go_sem] theorem le_grow_1_5 (x:Nat) (l0:List Obj):x≤(grow x l0)+1+1+1+1+1:=by simp only[grow];omega
@[go_sem] theorem lt_grow_1_5 (x:Nat) (l0:List Obj):x<(grow x l0)+1+1+1+1+1:=by simp only[grow];omega
@[go_sem] theorem le_grown_1_5 (x:Nat) (l0:List Obj):x≤(grow x l0)+5:=by simp only[grow];omega
@[go_sem] theorem lt_grown_1_5 (x:Nat) (l0:List Obj):x<(grow x l0)+5:=by simp only[grow];omega
@[go_sem] theorem le_grow_1_6 (x:Nat) (l0:List Obj):x≤(grow x l0)+1+1+1+1+1+1:=by simp only[grow];omega
@[go_sem] theorem lt_grow_1_6 (x:Nat) (l0:List Obj):x<(grow x l0)+1+1+1+1+1+1:=by simp only[grow];omega
@[go_sem] theorem le_grown_1_6 (x:Nat) (l0:List Obj):x≤(grow x l0)+6:=by simp only[grow];omega
@[go_sem] theorem lt_grown_1_6 (x:Nat) (l0:List Obj):x<(grow x l0)+6:=by simp only[grow];omega
@[go_sem] theorem le_grow_2_0 (x:Nat) (l0 l1:List Obj):x≤(grow (grow x l0) l1):=by simp only[grow];omega
@[go_sem] theorem le_grow_2_1 (x:Nat) (l0 l1:List Obj):x≤(grow (grow x l0) l1)+1:=by simp only[grow];omega
@[go_sem] theorem lt_grow_2_1 (x:Nat) (l0 l1:List Obj):x<(grow (grow x l0) l1)+1:=by simp only[grow];omega
@[go_sem] theorem le_grow_2_2 (x:Nat) (l0 l1:List Obj):x≤(grow (grow x l0) l1)+1+1:=by simp only[grow];omega
@[go_sem] theorem lt_grow_2_2 (x:Nat) (l0 l1:List Obj):x<(grow (grow x l0) l1)+1+1:=by simp only[grow];omega
@[go_sem] theorem le_grown_2_2 (x:Nat) (l0 l1:List Obj):x≤(grow (grow x l0) l1)+2:=by simp only[grow];omega
@[go_sem] theorem lt_grown_2_2 (x:Nat) (l0 l1:List Obj):x<(grow (grow x l0) l1)+2:=by simp only[grow];omega
@[go_sem] theorem le_grow_2_3 (x:Nat) (l0 l1:List Obj):x≤(grow (grow x l0) l1)+1+1+1:=by simp only[grow];omega
@[go_sem] theorem lt_grow_2_3 (x:Nat) (l0 l1:List Obj):x<(grow (grow x l0) l1)+1+1+1:=by simp only[grow];omega
@[go_sem] theorem le_grown_2_3 (x:Nat) (l0 l1:List Obj):x≤(grow (grow x l0) l1)+3:=by simp only[grow];omega
@[go_sem] theorem lt_grown_2_3 (x:Nat) (l0 l1:List Obj):x<(grow (grow x l0) l1)+3:=by simp only[grow];omega
@[go_sem] theorem le_grow_2_4 (x:Nat) (l0 l1:List Obj):x≤(grow (grow x l0) l1)+1+1+1+1:=by simp only[grow];omega
@[go_sem] theorem lt_grow_2_4 (x:Nat) (l0 l1:List Obj):x<(grow (grow x l0) l1)+1+1+1+1:=by simp only[grow];omega
@[go_sem] theorem le_grown_2_4 (x:Nat) (l0 l1:List Obj):x≤(grow (grow x l0) l1)+4:=by simp only[grow];omega
@[go_sem] theorem lt_grown_2_4 (x:Nat) (l0 l1:List Obj):x<(grow (grow x l0) l1)+4:=by simp only[grow];omega
@[go_sem] theorem le_grow_2_5 (x:Nat) (l0 l1:List Obj):x≤(grow (grow x l0) l1)+1+1+1+1+1:=by simp only[grow];omega
@[go_sem] theorem lt_grow_2_5 (x:Nat) (l0 l1:List Obj):x<(grow (grow x l0) l1)+1+1+1+1+1:=by simp only[grow];omega
@[go_sem] theorem le_grown_2_5 (x:Nat) (l0 l1:List Obj):x≤(grow (grow x l0) l1)+5:=by simp only[grow];omega
@[go_sem] theorem lt_grown_2_5 (x:Nat) (l0 l1:List Obj):x<(grow (grow x l0) l1)+5:=by simp only[grow];omega
@[go_sem] theorem le_grow_2_6 (x:Nat) (l0 l1:List Obj):x≤(grow (grow x l0) l1)+1+1+1+1+1+1:=by simp only[grow];omega
@[go_sem] theorem lt_grow_2_6 (x:Nat) (l0 l1:List Obj):x<(grow (grow x l0) l1)+1+1+1+1+1+1:=by simp only[grow];omega
@[go_sem] theorem le_grown_2_6 (x:Nat) (l0 l1:List Obj):x≤(grow (grow x l0) l1)+6:=by simp only[grow];omega
@[go_sem] theorem lt_grown_2_6 (x:Nat) (l0 l1:List Obj):x<(grow (grow x l0) l1)+6:=by simp only[grow];omega
@[go_sem] theorem le_grow_3_0 (x:Nat) (l0 l1 l2:List Obj):x≤(grow (grow (grow x l0) l1) l2):=by simp only[grow];omega
@[go_sem] theorem le_grow_3_1 (x:Nat) (l0 l1 l2:List Obj):x≤(grow (grow (grow x l0) l1) l2)+1:=by simp only[grow];omega
@[go_sem] theorem lt_grow_3_1 (x:Nat) (l0 l1 l2:List Obj):x<(grow (grow (grow x l0) l1) l2)+1:=by simp only[grow];omega
@[go_sem] theorem le_grow_3_2 (x:Nat) (l0 l1 l2:List Obj):x≤(grow (grow (grow x l0) l1) l2)+1+1:=by simp only[grow];omega
@[go_sem] theorem lt_grow_3_2 (x:Nat) (l0 l1 l2:List Obj):x<(grow (grow (grow x l0) l1) l2)+1+1:=by simp only[grow];omega
@[go_sem] theorem le_grown_3_2 (x:Nat) (l0 l1 l2:List Obj):x≤(grow (grow (grow x l0) l1) l2)+2:=by simp only[grow];omega
@[go_sem] theorem lt_grown_3_2 (x:Nat) (l0 l1 l2:List Obj):x<(grow (grow (grow x l0) l1) l2)+2:=by simp only[grow];omega
@[go_sem] theorem le_grow_3_3 (x:Nat) (l0 l1 l2:List Obj):x≤(grow (grow (grow x l0) l1) l2)+1+1+1:=by simp only[grow];omega
@[go_sem] theorem lt_grow_3_3 (x:Nat) (l0 l1 l2:List Obj):x<(grow (grow (grow x l0) l1) l2)+1+1+1:=by simp only[grow];omega
@[go_sem] theorem le_grown_3_3 (x:Nat) (l0 l1 l2:List Obj):x≤(grow (grow (grow x l0) l1) l2)+3:=by simp only[grow];omega
@[go_sem] theorem lt_grown_3_3 (x:Nat) (l0 l1 l2:List Obj):x<(grow (grow (grow x l0) l1) l2)+3:=by simp only[grow];omega
@[go_sem] theorem le_grow_3_4 (x:Nat) (l0 l1 l2:List Obj):x≤(grow (grow (grow x l0) l1) l2)+1+1+1+1:=by simp only[grow];omega
@[go_sem] theorem lt_grow_3_4 (x:Nat) (l0 l1 l2:List Obj):x<(grow (grow (grow x l0) l1) l2)+1+1+1+1:=by simp only[grow];omega
@[go_sem] theorem le_grown_3_4 (x:Nat) (l0 l1 l2:List Obj):x≤(grow (grow (grow x l0) l1) l2)+4:=by simp only[grow];omega
@[go_sem] theorem lt_grown_3_4 (x:Nat) (l0 l1 l2:List Obj):x<(grow (grow (grow x l0) l1) l2)+4:=by simp only[grow];omega
@[go_sem] theorem le_grow_3_5 (x:Nat) (l0 l1 l2:List Obj):x≤(grow (grow (grow x l0) l1) l2)+1+1+1+1+1:=by simp only[grow];omega
@[go_sem] theorem lt_grow_3_5 (x:Nat) (l0 l1 l2:List Obj):x<(grow (grow (grow x l0) l1) l2)+1+1+1+1+1:=by simp only[grow];omega
@[go_sem] theorem le_grown_3_5 (x:Nat) (l0 l1 l2:List Obj):x≤(grow (grow (grow x l0) l1) l2)+5:=by simp only[grow];omega
@[go_sem] theorem lt_grown_3_5 (x:Nat) (l0 l1 l2:List Obj):x<(grow (grow (grow x l0) l1) l2)+5:=by simp only[grow];omega
@[go_sem] theorem le_grow_3_6 (x:Nat) (l0 l1 l2:List Obj):x≤(grow (grow (grow x l0) l1) l2)+1+1+1+1+1+1:=by simp only[grow];omega
@[go_sem] theorem lt_grow_3_6 (x:Nat) (l0 l1 l2:List Obj):x<(grow (grow (grow x l0) l1) l2)+1+1+1+1+1+1:=by simp only[grow];omega
@[go_sem] theorem le_grown_3_6 (x:Nat) (l0 l1 l2:List Obj):x≤(grow (grow (grow x l0) l1) l2)+6:=by simp only[grow];omega
@[go_sem] theorem lt_grown_3_6 (x:Nat) (l0 l1 l2:List Obj):x<(grow (grow (grow x l0) l1) l2)+6:=by simp only[grow];omega
@[go_sem] theorem le_grow_4_0 (x:Nat) (l0 l1 l2 l3:List Obj):x≤(grow (grow (grow (grow x l0) l1) l2) l3):=by simp only[grow];omega
@[go_sem] theorem le_grow_4_1 (x:Nat) (l0 l1 l2 l3:List Obj):x≤(grow (grow (grow (grow x l0) l1) l2) l3)+1:=by simp only[grow];omega
@[go_sem] theorem lt_grow_4_1 (x:Nat) (l0 l1 l2 l3:List Obj):x<(grow (grow (grow (grow x l0) l1) l2) l3)+1:=by simp only[grow];omega
@[go_sem] theorem le_grow_4_2 (x:Nat) (l0 l1 l2 l3:List Obj):x≤(grow (grow (grow (grow x l0) l1) l2) l3)+1+1:=by simp only[grow];omega
@[go_sem] theorem lt_grow_4_2 (x:Nat) (l0 l1 l2 l3:List Obj):x<(grow (grow (grow (grow x l0) l1) l2) l3)+1+1:=by simp only[grow];omega
@[go_sem] theorem le_grown_4_2 (x:Nat) (l0 l1 l2 l3:List Obj):x≤(grow (grow (grow (grow x l0) l1) l2) l3)+2:=by simp only[grow];omega
@[go_sem] theorem lt_grown_4_2 (x:Nat) (l0 l1 l2 l3:List Obj):x<(grow (grow (grow (grow x l0) l1) l2) l3)+2:=by simp only[grow];omega
@[go_sem] theorem le_grow_4_3 (x:Nat) (l0 l1 l2 l3:List Obj):x≤(grow (grow (grow (grow x l0) l1) l2) l3)+1+1+1:=by simp only[grow];omega
@[go_sem] theorem lt_grow_4_3 (x:Nat) (l0 l1 l2 l3:List Obj):x<(grow (grow (grow (grow x l0) l1) l2) l3)+1+1+1:=by simp only[grow];omega
@[go_sem] theorem le_grown_4_3 (x:Nat) (l0 l1 l2 l3:List Obj):x≤(grow (grow (grow (grow x l0) l1) l2) l3)+3:=by simp only[grow];omega
@[go_sem] theorem lt_grown_4_3 (x:Nat) (l0 l1 l2 l3:List Obj):x<(grow (grow (grow (grow x l0) l1) l2) l3)+3:=by simp only[grow];omega
@[go_sem] theorem le_grow_4_4 (x:Nat) (l0 l1 l2 l3:List Obj):x≤(grow (grow (grow (grow x l0) l1) l2) l3)+1+1+1+1:=by simp only[grow];omega
@[go_sem] theorem lt_grow_4_4 (x:Nat) (l0 l1 l2 l3:List Obj):x<(grow (grow (grow (grow x l0) l1) l2) l3)+1+1+1+1:=by simp only[grow];omega
@[go_sem] theorem le_grown_4_4 (x:Nat) (l0 l1 l2 l3:List Obj):x≤(grow (grow (grow (grow x l0) l1) l2) l3)+4:=by simp only[grow];omega
@[go_sem] theorem lt_grown_4_4 (x:Nat) (l0 l1 l2 l3:List Obj):x<(grow (grow (grow (grow x l0) l1) l2) l3)+4:=by simp only[grow];omega
@[go_sem] theorem le_grow_4_5 (x:Nat) (l0 l1 l2 l3:List Obj):x≤(grow (grow (grow (grow x l0) l1) l2) l3)+1+1+1+1+1:=by simp only[grow];omega
@[go_sem] theorem lt_grow_4_5 (x:Nat) (l0 l1 l2 l3:List Obj):x<(grow (grow (grow (grow x l0) l1) l2) l3)+1+1+1+1+1:=by simp only[grow];omega
@[go_sem] theorem le_grown_4_5 (x:Nat) (l0 l1 l2 l3:List Obj):x≤(grow (grow (grow (grow x l0) l1) l2) l3)+5:=by simp only[grow];omega
@[go_sem] theorem lt_grown_4_5 (x:Nat) (l0 l1 l2 l3:List Obj):x<(grow (grow (grow (grow x l0) l1) l2) l3)+5:=by simp only[grow];omega
@[go_sem] theorem le_grow_4_6 (x:Nat) (l0 l1 l2 l3:List Obj):x≤(grow (grow (grow (grow x l0) l1) l2) l3)+1+1+1+1+1+1:=by simp only[grow];omega
@[go_sem] theorem lt_grow_4_6 (x:Nat) (l0 l1 l2 l3:List Obj):x<(grow (grow (grow (grow x l0) l1) l2) l3)+1+1+1+1+1+1:=by simp only[grow];omega
@[go_sem] theorem le_grown_4_6 (x:Nat) (l0 l1 l2 l3:List Obj):x≤(grow (grow (grow (grow x l0) l1) l2) l3)+6:=by simp only[grow];omega
@[go_sem] theorem lt_grown_4_6 (x:Nat) (l0 l1 l2 l3:List Obj):x<(grow (grow (grow (grow x l0) l1) l2) l3)+6:=by simp only[grow];omega
@[go_sem] theorem le_grow_5_0 (x:Nat) (l0 l1 l2 l3 l4:List Obj):x≤(grow (grow (grow (grow (grow x l0) l1) l2) l3) l4):=by simp only[grow];omega
@[go_sem] theorem le_grow_5_1 (x:Nat) (l0 l1 l2 l3 l4:List Obj):x≤(grow (grow (grow (grow (grow x l0) l1) l2) l3) l4)+1:=by simp only[grow];omega
@[go_sem] theorem lt_grow_5_1 (x:Nat) (l0 l1 l2 l3 l4:List Obj):x<(grow (grow (grow (grow (grow x l0) l1) l2) l3) l4)+1:=by simp only[grow];omega
@[go_sem] theorem le_grow_5_2 (x:Nat) (l0 l1 l2 l3 l4:List Obj):x≤(grow (grow (grow (grow (grow x l0) l1) l2) l3) l4)+1+1:=by simp only[grow];omega
@[go_sem] theorem lt_grow_5_2 (x:Nat) (l0 l1 l2 l3 l4:List Obj):x<(grow (grow (grow (grow (grow x l0) l1) l2) l3) l4)+1+1:=by simp only[grow];omega
@[go_sem] theorem le_grown_5_2 (x:Nat) (l0 l1 l2 l3 l4:List Obj):x≤(grow (grow (grow (grow (grow x l0) l1) l2) l3) l4)+2:=by simp only[grow];omega
@[go_sem] theorem lt_grown_5_2 (x:Nat) (l0 l1 l2 l3 l4:List Obj):x<(grow (grow (grow (grow (grow x l0) l1) l2) l3) l4)+2:=by simp only[grow];omega
@[go_sem] theorem le_grow_5_3 (x:Nat) (l0 l1 l2 l3 l4:List Obj):x≤(grow (grow (grow (grow (grow x l0) l1) l2) l3) l4)+1+1+1:=by simp only[grow];omega
@[go_sem] theorem lt_grow_5_3 (x:Nat) (l0 l1 l2 l3 l4:List Obj):x<(grow (grow (grow (grow (grow x l0) l1) l2) l3) l4)+1+1+1:=by simp only[grow];omega
@[go_sem] theorem le_grown_5_3 (x:Nat) (l0 l1 l2 l3 l4:List Obj):x≤(grow (grow (grow (grow (grow x l0) l1) l2) l3) l4)+3:=by simp only[grow];omega
@[go_sem] theorem lt_grown_5_3 (x:Nat) (l0 l1 l2 l3 l4:List Obj):x<(grow (grow (grow (grow (grow x l0) l1) l2) l3) l4)+3:=by simp only[grow];omega
@[go_sem] theorem le_grow_5_4 (x:Nat) (l0 l1 l2 l3 l4:List Obj):x≤(grow (grow (grow (grow (grow x l0) l1) l2) l3) l4)+1+1+1+1:=by simp only[grow];omega
@[go_sem] theorem lt_grow_5_4 (x:Nat) (l0 l1 l2 l3 l4:List Obj):x<(grow (grow (grow (grow (grow x l0) l1) l2) l3) l4)+1+1+1+1:=by simp only[grow];omega
@[go_sem] theorem le_grown_5_4 (x:Nat) (l0 l1 l2 l3 l4:List Obj):x≤(grow (grow (grow (grow (grow x l0) l1) l2) l3) l4)+4:=by simp only[grow];omega
@[go_sem] theorem lt_grown_5_4 (x:Nat) (l0 l1 l2 l3 l4:List Obj):x<(grow (grow (grow (grow (grow x l0) l1) l2) l3) l4)+4:=by simp only[grow];omega
@[go_sem] theorem le_grow_5_5 (x:Nat) (l0 l1 l2 l3 l4:List Obj):x≤(grow (grow (grow (grow (grow x l0) l1) l2) l3) l4)+1+1+1+1+1:=by simp only[grow];omega
@[go_sem] theorem lt_grow_5_5 (x:Nat) (l0 l1 l2 l3 l4:List Obj):x<(grow (grow (grow (grow (grow x l0) l1) l2) l3) l4)+1+1+1+1+1:=by simp only[grow];omega
@[go_sem] theorem le_grown_5_5 (x:Nat) (l0 l1 l2 l3 l4:List Obj):x≤(grow (grow (grow (grow (grow x l0) l1) l2) l3) l4)+5:=by simp only[grow];omega
@[go_sem] theorem lt_grown_5_5 (x:Nat) (l0 l1 l2 l3 l4:List Obj):x<(grow (grow (grow (grow (grow x l0) l1) l2) l3) l4)+5:=by simp only[grow];omega
@[go_sem] theorem le_grow_5_6 (x:Nat) (l0 l1 l2 l3 l4:List Obj):x≤(grow (grow (grow (grow (grow x l0) l1) l2) l3) l4)+1+1+1+1+1+1:=by simp only[grow];omega
@[go_sem] theorem lt_grow_5_6 (x:Nat) (l0 l1 l2 l3 l4:List Obj):x<(grow (grow (grow (grow (grow x l0) l1) l2) l3) l4)+1+1+1+1+1+1:=by simp only[grow];omega
@[go_sem] theorem le_grown_5_6 (x:Nat) (l0 l1 l2 l3 l4:List Obj):x≤(grow (grow (grow (grow (grow x l0) l1) l2) l3) l4)+6:=by simp only[grow];omega
@[go_sem] theorem lt_grown_5_6 (x:Nat) (l0 l1 l2 l3 l4:List Obj):x<(grow (grow (grow (grow (grow x l0) l1) l2) l3) l4)+6:=by simp only[grow];omega
@[go_sem] theorem le_grow_6_0 (x:Nat) (l0 l1 l2 l3 l4 l5:List Obj):x≤(grow (grow (grow (grow (grow (grow x l0) l1) l2) l3) l4) l5):=by simp only[grow];omega
@[go_sem] theorem le_grow_6_1 (x:Nat) (l0 l1 l2 l3 l4 l5:List Obj):x≤(grow (grow (grow (grow (grow (grow x l0) l1) l2) l3) l4) l5)+1:=by simp only[grow];omega
@[go_sem] theorem lt_grow_6_1 (x:Nat) (l0 l1 l2 l3 l4 l5:List Obj):x<(grow (grow (grow (grow (grow (grow x l0) l1) l2) l3) l4) l5)+1:=by simp only[grow];omega
@[go_sem] theorem le_grow_6_2 (x:Nat) (l0 l1 l2 l3 l4 l5:List Obj):x≤(grow (grow (grow (grow (grow (grow x l0) l1) l2) l3) l4) l5)+1+1:=by simp only[grow];omega
@[go_sem] theorem lt_grow_6_2 (x:Nat) (l0 l1 l2 l3 l4 l5:List Obj):x<(grow (grow (grow (grow (grow (grow x l0) l1) l2) l3) l4) l5)+1+1:=by simp only[grow];omega
@[go_sem] theorem le_grown_6_2 (x:Nat) (l0 l1 l2 l3 l4 l5:List Obj):x≤(grow (grow (grow (grow (grow (grow x l0) l1) l2) l3) l4) l5)+2:=by simp only[grow];omega
@[go_sem] theorem lt_grown_6_2 (x:Nat) (l0 l1 l2 l3 l4 l5:List Obj):x<(grow (grow (grow (grow (grow (grow x l0) l1) l2) l3) l4) l5)+2:=by simp only[grow];omega
@[go_sem] theorem le_grow_6_3 (x:Nat) (l0 l1 l2 l3 l4 l5:List Obj):x≤(grow (grow (grow (grow (grow (grow x l0) l1) l2) l3) l4) l5)+1+1+1:=by simp only[grow];omega
@[go_sem] theorem lt_grow_6_3 (x:Nat) (l0 l1 l2 l3 l4 l5:List Obj):x<(grow (grow (grow (grow (grow (grow x l0) l1) l2) l3) l4) l5)+1+1+1:=by simp only[grow];omega
@[go_sem] theorem le_grown_6_3 (x:Nat) (l0 l1 l2 l3 l4 l5:List Obj):x≤(grow (grow (grow (grow (grow (grow x l0) l1) l2) l3) l4) l5)+3:=by simp only[grow];omega
@[go_sem] theorem lt_grown_6_3 (x:Nat) (l0 l1 l2 l3 l4 l5:List Obj):x<(grow (grow (grow (grow (grow (grow x l0) l1) l2) l3) l4) l5)+3:=by simp only[grow];omega
@[go_sem] theorem le_grow_6_4 (x:Nat) (l0 l1 l2 l3 l4 l5:List Obj):x≤(grow (grow (grow (grow (grow (grow x l0) l1) l2) l3) l4) l5)+1+1+1+1:=by simp only[grow];omega
@[go_sem] theorem lt_grow_6_4 (x:Nat) (l0 l1 l2 l3 l4 l5:List Obj):x<(grow (grow (grow (grow (grow (grow x l0) l1) l2) l3) l4) l5)+1+1+1+1:=by simp only[grow];omega
@[go_sem] theorem le_grown_6_4 (x:Nat) (l0 l1 l2 l3 l4 l5:List Obj):x≤(grow (grow (grow (grow (grow (grow x l0) l1) l2) l3) l4) l5)+4:=by simp only[grow];omega
@[go_sem] theorem lt_grown_6_4 (x:Nat) (l0 l1 l2 l3 l4 l5:List Obj):x<(grow (grow (grow (grow (grow (grow x l0) l1) l2) l3) l4) l5)+4:=by simp only[grow];omega
@[go_sem] theorem le_grow_6_5 (x:Nat) (l0 l1 l2 l3 l4 l5:List Obj):x≤(grow (grow (grow (grow (grow (grow x l0) l1) l2) l3) l4) l5)+1+1+1+1+1:=by simp only[grow];omega
@[go_sem] theorem lt_grow_6_5 (x:Nat) (l0 l1 l2 l3 l4 l5:List Obj):x<(grow (grow (grow (grow (grow (grow x l0) l1) l2) l3) l4) l5)+1+1+1+1+1:=by simp only[grow];omega
@[go_sem] theorem le_grown_6_5 (x:Nat) (l0 l1 l2 l3 l4 l5:List Obj):x≤(grow (grow (grow (grow (grow (grow x l0) l1) l2) l3) l4) l5)+5:=by simp only[grow];omega
@[go_sem] theorem lt_grown_6_5 (x:Nat) (l0 l1 l2 l3 l4 l5:List Obj):x<(grow (grow (grow (grow (grow (grow x l0) l1) l2) l3) l4) l5)+5:=by simp only[grow];omega
@[go_sem] theorem le_grow_6_6 (x:Nat) (l0 l1 l2 l3 l4 l5:List Obj):x≤(grow (grow (grow (grow (grow (grow x l0) l1) l2) l3) l4) l5)+1+1+1+1+1+1:=by simp only[grow];omega
@[go_sem] theorem lt_grow_6_6 (x:Nat) (l0 l1 l2 l3 l4 l5:List Obj):x<(grow (grow (grow (grow (grow (grow x l0) l1) l2) l3) l4) l5)+1+1+1+1+1+1:=by simp only[grow];omega
@[go_sem] theorem le_grown_6_6 (x:Nat) (l0 l1 l2 l3 l4 l5:List Obj):x≤(grow (grow (grow (grow (grow (grow x l0) l1) l2) l3) l4) l5)+6:=by simp only[grow];omega
@[go_sem] theorem lt_grown_6_6 (x:Nat) (l0 l1 l2 l3 l4 l5:List Obj):x<(grow (grow (grow (grow (grow (grow x l0) l1) l2) l3) l4) l5)+6:=by simp only[grow];omega
@[go_sem] theorem le_grow_7_0 (x:Nat) (l0 l1 l2 l3 l4 l5 l6:List Obj):x≤(grow (grow (grow (grow (grow (grow (grow x l0) l1) l2) l3) l4) l5) l6):=by simp only[grow];omega
@[go_sem] theorem le_grow_7_1 (x:Nat) (l0 l1 l2 l3 l4 l5 l6:List Obj):x≤(grow (grow (grow (grow (grow (grow (grow x l0) l1) l2) l3) l4) l5) l6)+1:=by simp only[grow];omega
@[go_sem] theorem lt_grow_7_1 (x:Nat) (l0 l1 l2 l3 l4 l5 l6:List Obj):x<(grow (grow (grow (grow (grow (grow (grow x l0) l1) l2) l3) l4) l5) l6)+1:=by simp only[grow];omega
@[go_sem] theorem le_grow_7_2 (x:Nat) (l0 l1 l2 l3 l4 l5 l6:List Obj):x≤(grow (grow (grow (grow (grow (grow (grow x l0) l1) l2) l3) l4) l5) l6)+1+1:=by simp only[grow];omega
@[go_sem] theorem lt_grow_7_2 (x:Nat) (l0 l1 l2 l3 l4 l5 l6:List Obj):x<(grow (grow (grow (grow (grow (grow (grow x l0) l1) l2) l3) l4) l5) l6)+1+1:=by simp only[grow];omega
@[go_sem] theorem le_grown_7_2 (x:Nat) (l0 l1 l2 l3 l4 l5 l6:List Obj):x≤(grow (grow (grow (grow (grow (grow (grow x l0) l1) l2) l3) l4) l5) l6)+2:=by simp only[grow];omega
@[go_sem] theorem lt_grown_7_2 (x:Nat) (l0 l1 l2 l3 l4 l5 l6:List Obj):x<(grow (grow (grow (grow (grow (grow (grow x l0) l1) l2) l3) l4) l5) l6)+2:=by simp only[grow];omega
@[go_sem] theorem le_grow_7_3 (x:Nat) (l0 l1 l2 l3 l4 l5 l6:List Obj):x≤(grow (grow (grow (grow (grow (grow (grow x l0) l1) l2) l3) l4) l5) l6)+1+1+1:=by simp only[grow];omega
@[go_sem] theorem lt_grow_7_3 (x:Nat) (l0 l1 l2 l3 l4 l5 l6:List Obj):x<(grow (grow (grow (grow (grow (grow (grow x l0) l1) l2) l3) l4) l5) l6)+1+1+1:=by simp only[grow];omega
@[go_sem] theorem le_grown_7_3 (x:Nat) (l0 l1 l2 l3 l4 l5 l6:List Obj):x≤(grow (grow (grow (grow (grow (grow (grow x l0) l1) l2) l3) l4) l5) l6)+3:=by simp only[grow];omega
@[go_sem] theorem lt_grown_7_3 (x:Nat) (l0 l1 l2 l3 l4 l5 l6:List Obj):x<(grow (grow (grow (grow (grow (grow (grow x l0) l1) l2) l3) l4) l5) l6)+3:=by simp only[grow];omega
@[go_sem] theorem le_grow_7_4 (x:Nat) (l0 l1 l2 l3 l4 l5 l6:List Obj):x≤(grow (grow (grow (grow (grow (grow (grow x l0) l1) l2) l3) l4) l5) l6)+1+1+1+1:=by simp only[grow];omega
@[go_sem] theorem lt_grow_7_4 (x:Nat) (l0 l1 l2 l3 l4 l5 l6:List Obj):x<(grow (grow (grow (grow (grow (grow (grow x l0) l1) l2) l3) l4) l5) l6)+1+1+1+1:=by simp only[grow];omega
@[go_sem] theorem le_grown_7_4 (x:Nat) (l0 l1 l2 l3 l4 l5 l6:List Obj):x≤(grow (grow (grow (grow (grow (grow (grow x l0) l1) l2) l3) l4) l5) l6)+4:=by simp only[grow];omega
@[go_sem] theorem lt_grown_7_4 (x:Nat) (l0 l1 l2 l3 l4 l5 l6:List Obj):x<(grow (grow (grow (grow (grow (grow (grow x l0) l1) l2) l3) l4) l5) l6)+4:=by simp only[grow];omega
@[go_sem] theorem le_grow_7_5 (x:Nat) (l0 l1 l2 l3 l4 l5 l6:List Obj):x≤(grow (grow (grow (grow (grow (grow (grow x l0) l1) l2) l3) l4) l5) l6)+1+1+1+1+1:=by simp only[grow];omega
@[go_sem] theorem lt_grow_7_5 (x:Nat) (l0 l1 l2 l3 l4 l5 l6:List Obj):x<(grow (grow (grow (grow (grow (grow (grow x l0) l1) l2) l3) l4) l5) l6)+1+1+1+1+1:=by simp only[grow];omega
@[go_sem] theorem le_grown_7_5 (x:Nat) (l0 l1 l2 l3 l4 l5 l6:List Obj):x≤(grow (grow (grow (grow (grow (grow (grow x l0) l1) l2) l3) l4) l5) l6)+5:=by simp only[grow];omega
@[go_sem] theorem lt_grown_7_5 (x:Nat) (l0 l1 l2 l3 l4 l5 l6:List Obj):x<(grow (grow (grow (grow (grow (grow (grow x l0) l1) l2) l3) l4) l5) l6)+5:=by simp only[grow];omega
@[go_sem] theorem le_grow_7_6 (x:Nat) (l0 l1 l2 l3 l4 l5 l6:List Obj):x≤(grow (grow (grow (grow (grow (grow (grow x l0) l1) l2) l3) l4) l5) l6)+1+1+1+1+1+1:=by simp only[grow];omega
@[go_sem] theorem lt_grow_7_6 (x:Nat) (l0 l1 l2 l3 l4 l5 l6:List Obj):x<(grow (grow (grow (grow (grow (grow (grow x l0) l1) l2) l3) l4) l5) l6)+1+1+1+1+1+1:=by simp only[grow];omega
@[go_sem] theorem le_grown_7_6 (x:Nat) (l0 l1 l2 l3 l4 l5 l6:List Obj):x≤(grow (grow (grow (grow (grow (grow (grow x l0) l1) l2) l3) l4) l5) l6)+6:=by simp only[grow];omega
@[go_sem] theorem lt_grown_7_6 (x:Nat) (l0 l1 l2 l3 l4 l5 l6:List Obj):x<(grow (grow (grow (grow (grow (grow (grow x l0) l1) l2) l3) l4) l5) l6)+6:=by simp only[grow];omega
@[go_sem] theorem le_grow_8_0 (x:Nat) (l0 l1 l2 l3 l4 l5 l6 l7:List Obj):x≤(grow (grow (grow (grow (grow (grow (grow (grow x l0) l1) l2) l3) l4) l5) l6) l7):=by simp only[grow];omega
@[go_sem] theorem le_grow_8_1 (x:Nat) (l0 l1 l2 l3 l4 l5 l6 l7:List Obj):x≤(grow (grow (grow (grow (grow (grow (grow (grow x l0) l1) l2) l3) l4) l5) l6) l7)+1:=by simp only[grow];omega
@[go_sem] theorem lt_grow_8_1 (x:Nat) (l0 l1 l2 l3 l4 l5 l6 l7:List Obj):x<(grow (grow (grow (grow (grow (grow (grow (grow x l0) l1) l2) l3) l4) l5) l6) l7)+1:=by simp only[grow];omega
@[go_sem] theorem le_grow_8_2 (x:Nat) (l0 l1 l2 l3 l4 l5 l6 l7:List Obj):x≤(grow (grow (grow (grow (grow (grow (grow (grow x l0) l1) l2) l3) l4) l5) l6) l7)+1+1:=by simp only[grow];omega
@[go_sem] theorem lt_grow_8_2 (x:Nat) (l0 l1 l2 l3 l4 l5 l6 l7:List Obj):x<(grow (grow (grow (grow (grow (grow (grow (grow x l0) l1) l2) l3) l4) l5) l6) l7)+1+1:=by simp only[grow];omega
@[go_sem] theorem le_grown_8_2 (x:Nat) (l0 l1 l2 l3 l4 l5 l6 l7:List Obj):x≤(grow (grow (grow (grow (grow (grow (grow (grow x l0) l1) l2) l3) l4) l5) l6) l7)+2:=by simp only[grow];omega
@[go_sem] theorem lt_grown_8_2 (x:Nat) (l0 l1 l2 l3 l4 l5 l6 l7:List Obj):x<(grow (grow (grow (grow (grow (grow (grow (grow x l0) l1) l2) l3) l4) l5) l6) l7)+2:=by simp only[grow];omega
@[go_sem] theorem le_grow_8_3 (x:Nat) (l0 l1 l2 l3 l4 l5 l6 l7:List Obj):x≤(grow (grow (grow (grow (grow (grow (grow (grow x l0) l1) l2) l3) l4) l5) l6) l7)+1+1+1:=by simp only[grow];omega
@[go_sem] theorem lt_grow_8_3 (x:Nat) (l0 l1 l2 l3 l4 l5 l6 l7:List Obj):x<(grow (grow (grow (grow (grow (grow (grow (grow x l0) l1) l2) l3) l4) l5) l6) l7)+1+1+1:=by simp only[grow];omega
@[go_sem] theorem le_grown_8_3 (x:Nat) (l0 l1 l2 l3 l4 l5 l6 l7:List Obj):x≤(grow (grow (grow (grow (grow (grow (grow (grow x l0) l1) l2) l3) l4) l5) l6) l7)+3:=by simp only[grow];omega
@[go_sem] theorem lt_grown_8_3 (x:Nat) (l0 l1 l2 l3 l4 l5 l6 l7:List Obj):x<(grow (grow (grow (grow (grow (grow (grow (grow x l0) l1) l2) l3) l4) l5) l6) l7)+3:=by simp only[grow];omega
@[go_sem] theorem le_grow_8_4 (x:Nat) (l0 l1 l2 l3 l4 l5 l6 l7:List Obj):x≤(grow (grow (grow (grow (grow (grow (grow (grow x l0) l1) l2) l3) l4) l5) l6) l7)+1+1+1+1:=by simp only[grow];omega
@[go_sem] theorem lt_grow_8_4 (x:Nat) (l0 l1 l2 l3 l4 l5 l6 l7:List Obj):x<(grow (grow (grow (grow (grow (grow (grow (grow x l0) l1) l2) l3) l4) l5) l6) l7)+1+1+1+1:=by simp only[grow];omega
@[go_sem] theorem le_grown_8_4 (x:Nat) (l0 l1 l2 l3 l4 l5 l6 l7:List Obj):x≤(grow (grow (grow (grow (grow (grow (grow (grow x l0) l1) l2) l3) l4) l5) l6) l7)+4:=by simp only[grow];omega
@[go_sem] theorem lt_grown_8_4 (x:Nat) (l0 l1 l2 l3 l4 l5 l6 l7:List Obj):x<(grow (grow (grow (grow (grow (grow (grow (grow x l0) l1) l2) l3) l4) l5) l6) l7)+4:=by simp only[grow];omega
@[go_sem] theorem le_grow_8_5 (x:Nat) (l0 l1 l2 l3 l4 l5 l6 l7:List Obj):x≤(grow (grow (grow (grow (grow (grow (grow (grow x l0) l1) l2) l3) l4) l5) l6) l7)+1+1+1+1+1:=by simp only[grow];omega
@[go_sem] theorem lt_grow_8_5 (x:Nat) (l0 l1 l2 l3 l4 l5 l6 l7:List Obj):x<(grow (grow (grow (grow (grow (grow (grow (grow x l0) l1) l2) l3) l4) l5) l6) l7)+1+1+1+1+1:=by simp only[grow];omega
@[go_sem] theorem le_grown_8_5 (x:Nat) (l0 l1 l2 l3 l4 l5 l6 l7:List Obj):x≤(grow (grow (grow (grow (grow (grow (grow (grow x l0) l1) l2) l3) l4) l5) l6) l7)+5:=by simp only[grow];omega
@[go_sem] theorem lt_grown_8_5 (x:Nat) (l0 l1 l2 l3 l4 l5 l6 l7:List Obj):x<(grow (grow (grow (grow (grow (grow (grow (grow x l0) l1) l2) l3) l4) l5) l6) l7)+5:=by simp only[grow];omega
@[go_sem] theorem le_grow_8_6 (x:Nat) (l0 l1 l2 l3 l4 l5 l6 l7:List Obj):x≤(grow (grow (grow (grow (grow (grow (grow (grow x l0) l1) l2) l3) l4) l5) l6) l7)+1+1+1+1+1+1:=by simp only[grow];omega
@[go_sem] theorem lt_grow_8_6 (x:Nat) (l0 l1 l2 l3 l4 l5 l6 l7:List Obj):x<(grow (grow (grow (grow (grow (grow (grow (grow x l0) l1) l2) l3) l4) l5) l6) l7)+1+1+1+1+1+1:=by simp only[grow];omega
@[go_sem] theorem le_grown_8_6 (x:Nat) (l0 l1 l2 l3 l4 l5 l6 l7:List Obj):x≤(grow (grow (grow (grow (grow (grow (grow (grow x l0) l1) l2) l3) l4) l5) l6) l7)+6:=by simp only[grow];omega
@[go_sem] theorem lt_grown_8_6 (x:Nat) (l0 l1 l2 l3 l4 l5 l6 l7:List Obj):x<(grow (grow (grow (grow (grow (grow (grow (grow x l0) l1) l2) l3) l4) l5) l6) l7)+6:=by simp only[grow];omega
@[go_sem] theorem le_grow_9_0 (x:Nat) (l0 l1 l2 l3 l4 l5 l6 l7 l8:List Obj):x≤(grow (grow (grow (grow (grow (grow (grow (grow (grow x l0) l1) l2) l3) l4) l5) l6) l7) l8):=by simp only[grow];omega
@[go_sem] theorem le_grow_9_1 (x:Nat) (l0 l1 l2 l3 l4 l5 l6 l7 l8:List Obj):x≤(grow (grow (grow (grow (grow (grow (grow (grow (grow x l0) l1) l2) l3) l4) l5) l6) l7) l8)+1:=by simp only[grow];omega
@[go_sem] theorem lt_grow_9_1 (x:Nat) (l0 l1 l2 l3 l4 l5 l6 l7 l8:List Obj):x<(grow (grow (grow (grow (grow (grow (grow (grow (grow x l0) l1) l2) l3) l4) l5) l6) l7) l8)+1:=by simp only[grow];omega
@[go_sem] theorem le_grow_9_2 (x:Nat) (l0 l1 l2 l3 l4 l5 l6 l7 l8:List Obj):x≤(grow (grow (grow (grow (grow (grow (grow (grow (grow x l0) l1) l2) l3) l4) l5) l6) l7) l8)+1+1:=by simp only[grow];omega
@[go_sem] theorem lt_grow_9_2 (x:Nat) (l0 l1 l2 l3 l4 l5 l6 l7 l8:List Obj):x<(grow (grow (grow (grow (grow (grow (grow (grow (grow x l0) l1) l2) l3) l4) l5) l6) l7) l8)+1+1:=by simp only[grow];omega
@[go_sem] theorem le_grown_9_2 (x:Nat) (l0 l1 l2 l3 l4 l5 l6 l7 l8:List Obj):x≤(grow (grow (grow (grow (grow (grow (grow (grow (grow x l0) l1) l2) l3) l4) l5) l6) l7) l8)+2:=by simp only[grow];omega
@[go_sem] theorem lt_grown_9_2 (x:Nat) (l0 l1 l2 l3 l4 l5 l6 l7 l8:List Obj):x<(grow (grow (grow (grow (grow (grow (grow (grow (grow x l0) l1) l2) l3) l4) l5) l6) l7) l8)+2:=by simp only[grow];omega
@[go_sem] theorem le_grow_9_3 (x:Nat) (l0 l1 l2 l3 l4 l5 l6 l7 l8:List Obj):x≤(grow (grow (grow (grow (grow (grow (grow (grow (grow x l0) l1) l2) l3) l4) l5) l6) l7) l8)+1+1+1:=by simp only[grow];omega
@[go_sem] theorem lt_grow_9_3 (x:Nat) (l0 l1 l2 l3 l4 l5 l6 l7 l8:List Obj):x<(grow (grow (grow (grow (grow (grow (grow (grow (grow x l0) l1) l2) l3) l4) l5) l6) l7) l8)+1+1+1:=by simp only[grow];omega
@[go_sem] theorem le_grown_9_3 (x:Nat) (l0 l1 l2 l3 l4 l5 l6 l7 l8:List Obj):x≤(grow (grow (grow (grow (grow (grow (grow (grow (grow x l0) l1) l2) l3) l4) l5) l6) l7) l8)+3:=by simp only[grow];omega
@[go_sem] theorem lt_grown_9_3 (x:Nat) (l0 l1 l2 l3 l4 l5 l6 l7 l8:List Obj):x<(grow (grow (grow (grow (grow (grow (grow (grow (grow x l0) l1) l2) l3) l4) l5) l6) l7) l8)+3:=by simp only[grow];omega
@[go_sem] theorem le_grow_9_4 (x:Nat) (l0 l1 l2 l3 l4 l5 l6 l7 l8:List Obj):x≤(grow (grow (grow (grow (grow (grow (grow (grow (grow x l0) l1) l2) l3) l4) l5) l6) l7) l8)+1+1+1+1:=by simp only[grow];omega
@[go_sem] theorem lt_grow_9_4 (x:Nat) (l0 l1 l2 l3 l4 l5 l6 l7 l8:List Obj):x<(grow (grow (grow (grow (grow (grow (grow (grow (grow x l0) l1) l2) l3) l4) l5) l6) l7) l8)+1+1+1+1:=by simp only[grow];omega
@[go_sem] theorem le_grown_9_4 (x:Nat) (l0 l1 l2 l3 l4 l5 l6 l7 l8:List Obj):x≤(grow (grow (grow (grow (grow (grow (grow (grow (grow x l0) l1) l2) l3) l4) l5) l6) l7) l8)+4:=by simp only[grow];omega
@[go_sem] theorem lt_grown_9_4 (x:Nat) (l0 l1 l2 l3 l4 l5 l6 l7 l8:List Obj):x<(grow (grow (grow (grow (grow (grow (grow (grow (grow x l0) l1) l2) l3) l4) l5) l6) l7) l8)+4:=by simp only[grow];omega
@[go_sem] theorem le_grow_9_5 (x:Nat) (l0 l1 l2 l3 l4 l5 l6 l7 l8:List Obj):x≤(grow (grow (grow (grow (grow (grow (grow (grow (grow x l0) l1) l2) l3) l4) l5) l6) l7) l8)+1+1+1+1+1:=by simp only[grow];omega
@[go_sem] theorem lt_grow_9_5 (x:Nat) (l0 l1 l2 l3 l4 l5 l6 l7 l8:List Obj):x<(grow (grow (grow (grow (grow (grow (grow (grow (grow x l0) l1) l2) l3) l4) l5) l6) l7) l8)+1+1+1+1+1:=by simp only[grow];omega
@[go_sem] theorem le_grown_9_5 (x:Nat) (l0 l1 l2 l3 l4 l5 l6 l7 l8:List Obj):x≤(grow (grow (grow (grow (grow (grow (grow (grow (grow x l0) l1) l2) l3) l4) l5) l6) l7) l8)+5:=by simp only[grow];omega
@[go_sem] theorem lt_grown_9_5 (x:Nat) (l0 l1 l2 l3 l4 l5 l6 l7 l8:List Obj):x<(grow (grow (grow (grow (grow (grow (grow (grow (grow x l0) l1) l2) l3) l4) l5) l6) l7) l8)+5:=by simp only[grow];omega
@[go_sem] theorem le_grow_9_6 (x:Nat) (l0 l1 l2 l3 l4 l5 l6 l7 l8:List Obj):x≤(grow (grow (grow (grow (grow (grow (grow (grow (grow x l0) l1) l2) l3) l4) l5) l6) l7) l8)+1+1+1+1+1+1:=by simp only[grow];omega
@[go_sem] theorem lt_grow_9_6 (x:Nat) (l0 l1 l2 l3 l4 l5 l6 l7 l8:List Obj):x<(grow (grow (grow (grow (grow (grow (grow (grow (grow x l0) l1) l2) l3) l4) l5) l6) l7) l8)+1+1+1+1+1+1:=by simp only[grow];omega
@[go_sem] theorem le_grown_9_6 (x:Nat) (l0 l1 l2 l3 l4 l5 l6 l7 l8:List Obj):x≤(grow (grow (grow (grow (grow (grow (grow (grow (grow x l0) l1) l2) l3) l4) l5) l6) l7) l8)+6:=by simp only[grow];omega
@[go_sem] theorem lt_grown_9_6 (x:Nat) (l0 l1 l2 l3 l4 l5 l6 l7 l8:List Obj):x<(grow (grow (grow (grow (grow (grow (grow (grow (grow x l0) l1) l2) l3) l4) l5) l6) l7) l8)+6:=by simp only[grow];omega
@[go_sem] theorem le_grow_10_0 (x:Nat) (l0 l1 l2 l3 l4 l5 l6 l7 l8 l9:List Obj):x≤(grow (grow (grow (grow (grow (grow (grow (grow (grow (grow x l0) l1) l2) l3) l4) l5) l6) l7) l8) l9):=by simp only[grow];omega
@[go_sem] theorem le_grow_10_1 (x:Nat) (l0 l1 l2 l3 l4 l5 l6 l7 l8 l9:List Obj):x≤(grow (grow (grow (grow (grow (grow (grow (grow (grow (grow x l0) l1) l2) l3) l4) l5) l6) l7) l8) l9)+1:=by simp only[grow];omega
@[go_sem] theorem lt_grow_10_1 (x:Nat) (l0 l1 l2 l3 l4 l5 l6 l7 l8 l9:List Obj):x<(grow (grow (grow (grow (grow (grow (grow (grow (grow (grow x l0) l1) l2) l3) l4) l5) l6) l7) l8) l9)+1:=by simp only[grow];omega
@[go_sem] theorem le_grow_10_2 (x:Nat) (l0 l1 l2 l3 l4 l5 l6 l7 l8 l9:List Obj):x≤(grow (grow (grow (grow (grow (grow (grow (grow (grow (grow x l0) l1) l2) l3) l4) l5) l6) l7) l8) l9)+1+1:=by simp only[grow];omega
@[go_sem] theorem lt_grow_10_2 (x:Nat) (l0 l1 l2 l3 l4 l5 l6 l7 l8 l9:List Obj):x<(grow (grow (grow (grow (grow (grow (grow (grow (grow (grow x l0) l1) l2) l3) l4) l5) l6) l7) l8) l9)+1+1:=by simp only[grow];omega
@[go_sem] theorem le_grown_10_2 (x:Nat) (l0 l1 l2 l3 l4 l5 l6 l7 l8 l9:List Obj):x≤(grow (grow (grow (grow (grow (grow (grow (grow (grow (grow x l0) l1) l2) l3) l4) l5) l6) l7) l8) l9)+2:=by simp only[grow];omega
@[go_sem] theorem lt_grown_10_2 (x:Nat) (l0 l1 l2 l3 l4 l5 l6 l7 l8 l9:List Obj):x<(grow (grow (grow (grow (grow (grow (grow (grow (grow (grow x l0) l1) l2) l3) l4) l5) l6) l7) l8) l9)+2:=by simp only[grow];omega
@[go_sem] theorem le_grow_10_3 (x:Nat) (l0 l1 l2 l3 l4 l5 l6 l7 l8 l9:List Obj):x≤(grow (grow (grow (grow (grow (grow (grow (grow (grow (grow x l0) l1) l2) l3) l4) l5) l6) l7) l8) l9)+1+1+1:=by simp only[grow];omega
@[go_sem] theorem lt_grow_10_3 (x:Nat) (l0 l1 l2 l3 l4 l5 l6 l7 l8 l9:List Obj):x<(grow (grow (grow (grow (grow (grow (grow (grow (grow (grow x l0) l1) l2) l3) l4) l5) l6) l7) l8) l9)+1+1+1:=by simp only[grow];omega
@[go_sem] theorem le_grown_10_3 (x:Nat) (l0 l1 l2 l3 l4 l5 l6 l7 l8 l9:List Obj):x≤(grow (grow (grow (grow (grow (grow (grow (grow (grow (grow x l0) l1) l2) l3) l4) l5) l6) l7) l8) l9)+3:=by simp only[grow];omega
@[go_sem] theorem lt_grown_10_3 (x:Nat) (l0 l1 l2 l3 l4 l5 l6 l7 l8 l9:List Obj):x<(grow (grow (grow (grow (grow (grow (grow (grow (grow (grow x l0) l1) l2) l3) l4) l5) l6) l7) l8) l9)+3:=by simp only[grow];omega
@[go_sem] theorem le_grow_10_4 (x:Nat) (l0 l1 l2 l3 l4 l5 l6 l7 l8 l9:List Obj):x≤(grow (grow (grow (grow (grow (grow (grow (grow (grow (grow x l0) l1) l2) l3) l4) l5) l6) l7) l8) l9)+1+1+1+1:=by simp only[grow];omega
@[go_sem] theorem lt_grow_10_4 (x:Nat) (l0 l1 l2 l3 l4 l5 l6 l7 l8 l9:List Obj):x<(grow (grow (grow (grow (grow (grow (grow (grow (grow (grow x l0) l1) l2) l3) l4) l5) l6) l7) l8) l9)+1+1+1+1:=by simp only[grow];omega
@[go_sem] theorem le_grown_10_4 (x:Nat) (l0 l1 l2 l3 l4 l5 l6 l7 l8 l9:List Obj):x≤(grow (grow (grow (grow (grow (grow (grow (grow (grow (grow x l0) l1) l2) l3) l4) l5) l6) l7) l8) l9)+4:=by simp only[grow];omega
@[go_sem] theorem lt_grown_10_4 (x:Nat) (l0 l1 l2 l3 l4 l5 l6 l7 l8 l9:List Obj):x<(grow (grow (grow (grow (grow (grow (grow (grow (grow (grow x l0) l1) l2) l3) l4) l5) l6) l7) l8) l9)+4:=by simp only[grow];omega
@[go_sem] theorem le_grow_10_5 (x:Nat) (l0 l1 l2 l3 l4 l5 l6 l7 l8 l9:List Obj):x≤(grow (grow (grow (grow (grow (grow (grow (grow (grow (grow x l0) l1) l2) l3) l4) l5) l6) l7) l8) l9)+1+1+1+1+1:=by simp only[grow];omega
@[go_sem] theorem lt_grow_10_5 (x:Nat) (l0 l1 l2 l3 l4 l5 l6 l7 l8 l9:List Obj):x<(grow (grow (grow (grow (grow (grow (grow (grow (grow (grow x l0) l1) l2) l3) l4) l5) l6) l7) l8) l9)+1+1+1+1+1:=by simp only[grow];omega
@[go_sem] theorem le_grown_10_5 (x:Nat) (l0 l1 l2 l3 l4 l5 l6 l7 l8 l9:List Obj):x≤(grow (grow (grow (grow (grow (grow (grow (grow (grow (grow x l0) l1) l2) l3) l4) l5) l6) l7) l8) l9)+5:=by simp only[grow];omega
@[go_sem] theorem lt_grown_10_5 (x:Nat) (l0 l1 l2 l3 l4 l5 l6 l7 l8 l9:List Obj):x<(grow (grow (grow (grow (grow (grow (grow (grow (grow (grow x l0) l1) l2) l3) l4) l5) l6) l7) l8) l9)+5:=by simp only[grow];omega
@[go_sem] theorem le_grow_10_6 (x:Nat) (l0 l1 l2 l3 l4 l5 l6 l7 l8 l9:List Obj):x≤(grow (grow (grow (grow (grow (grow (grow (grow (grow (grow x l0) l1) l2) l3) l4) l5) l6) l7) l8) l9)+1+1+1+1+1+1:=by simp only[grow];omega
@[go_sem] theorem lt_grow_10_6 (x:Nat) (l0 l1 l2 l3 l4 l5 l6 l7 l8 l9:List Obj):x<(grow (grow (grow (grow (grow (grow (grow (grow (grow (grow x l0) l1) l2) l3) l4) l5) l6) l7) l8) l9)+1+1+1+1+1+1:=by simp only[grow];omega
@[go_sem] theorem le_grown_10_6 (x:Nat) (l0 l1 l2 l3 l4 l5 l6 l7 l8 l9:List Obj):x≤(grow (grow (grow (grow (grow (grow (grow (grow (grow (grow x l0) l1) l2) l3) l4) l5) l6) l7) l8) l9)+6:=by simp only[grow];omega
@[go_sem] theorem lt_grown_10_6 (x:Nat) (l0 l1 l2 l3 l4 l5 l6 l7 l8 l9:List Obj):x<(grow (grow (grow (grow (grow (grow (grow (grow (grow (grow x l0) l1) l2) l3) l4) l5) l6) l7) l8) l9)+6:=by simp only[grow];omega
@[go_sem] theorem le_plain_2 (x:Nat):x≤x+1+1:=by omega
@[go_sem] theorem lt_plain_2 (x:Nat):x<x+1+1:=by omega
@[go_sem] theorem le_plain_3 (x:Nat):x≤x+1+1+1:=by omega
@[go_sem] theorem lt_plain_3 (x:Nat):x<x+1+1+1:=by omega
@[go_sem] theorem le_plain_4 (x:Nat):x≤x+1+1+1+1:=by omega
@[go_sem] theorem lt_plain_4 (x:Nat):x<x+1+1+1+1:=by omega
@[go_sem] theorem le_plain_5 (x:Nat):x≤x+1+1+1+1+1:=by omega
@[go_sem] theorem lt_plain_5 (x:Nat):x<x+1+1+1+1+1:=by omega
@[go_sem] theorem le_plain_6 (x:Nat):x≤x+1+1+1+1+1+1:=by omega
@[go_sem] theorem lt_plain_6 (x:Nat):x<x+1+1+1+1+1+1:=by omega
@[go_sem] theorem le_plain_7 (x:Nat):x≤x+1+1+1+1+1+1+1:=by omega
@[go_sem] theorem lt_plain_7 (x:Nat):x<x+1+1+1+1+1+1+1:=by omega
@[go_sem] theorem le_plain_8 (x:Nat):x≤x+1+1+1+1+1+1+1+1:=by omega
@[go_sem] theorem lt_plain_8 (x:Nat):x<x+1+1+1+1+1+1+1+1:=by omega
theorem ext_block (w:World) (xs:List Obj) (d k:Nat) (h:k<w.heap.size):(ext w xs d).heap[k]? =w.heap[k]?:=by
 simp[ext,Array.getElem?_append,h]
@[go_sem] theorem heap_ext (w:World) (xs:List Obj) (d k:Nat) (h:k<w.heap.size):(ext w xs d).heap[k]? =w.heap[k]?:=ext_block w xs d k h
@[go_sem] theorem heap_alloc_at (w:World) (o:Obj) (k:Nat) (h:k=w.heap.size):(w.alloc o).heap[k]? =some o:=by subst h;exact heap_alloc_new w o
@[go_sem] theorem heap_alloc_past (w:World) (o:Obj) (k:Nat) (h:k<w.heap.size):(w.alloc o).heap[k]? =w.heap[k]?:=Below.heap_alloc w o k h
@[go_sem] theorem heap_drew (w:World):w.drew.heap=w.heap:=rfl
@[go_sem] theorem heap_drewN (w:World) (n:Nat):(w.drewN n).heap=w.heap:=rfl
@[go_sem] theorem size_ext (w:World) (xs:List Obj) (d:Nat):(ext w xs d).heap.size=grow w.heap.size xs:=by simp[ext,grow]
@[go_sem] theorem cell?_ext (w:World) (xs:List Obj) (d n i:Nat) (hn:n<w.heap.size):(ext w xs d).cell? ⟨n,i,none⟩=w.cell? ⟨n,i,none⟩:=
 World.cell?_of_block (w:=w) (ext_block w xs d n hn)
@[go_sem] theorem frozen?_ext (w:World) (xs:List Obj) (d n i:Nat) (hn:n<w.heap.size):(ext w xs d).frozen? ⟨n,i,none⟩=w.frozen? ⟨n,i,none⟩:=
 World.frozen?_of_block (w:=w) (ext_block w xs d n hn)
@[go_sem] theorem setCell_ext (w:World) (xs:List Obj) (d n i:Nat) (v:Value) (hn:n<w.heap.size):(ext w xs d).setCell ⟨n,i,none⟩ v=ext (w.setCell ⟨n,i,none⟩ v) xs d:=by
 simp only[ext,World.setCell]
 congr 1
 apply Array.ext_getElem?
 intro k
 simp only[Array.getElem?_modify,Array.getElem?_append,Array.size_modify]
 by_cases hk:k<w.heap.size
 ·simp[hk]
 ·have:n≠k:=by omega
  simp[hk,this]
@[go_sem] theorem ext_drew (w:World) (xs:List Obj) (d:Nat):(ext w xs d).drew=ext w xs (d+1):=rfl
@[go_sem] theorem drew_ext (w:World) (xs:List Obj) (d:Nat):ext w.drew xs d=ext w xs d:=rfl
theorem ext_of {w w':World} (h:Below w.heap.size w w'): ∃xs d,w'=ext w xs d:=by
 refine⟨w'.heap.toList.drop w.heap.size,w'.drawn,?_⟩
 have hh:w'.heap=w.heap++(w'.heap.toList.drop w.heap.size).toArray:=by
  apply Array.ext_getElem?
  intro k
  rw[Array.getElem?_append]
  by_cases hk:k<w.heap.size
  ·rw[if_pos hk,h.block k hk]
  ·rw[if_neg hk]
   simp
   congr 1
   omega
 have h1:=h.os
 have h2:=h.tape
 have h3:=h.output
 obtain⟨hp',tp',dr',os',out'⟩:=w'
 simp only at h1 h2 h3 hh
 subst h1 h2 h3
 show _=ext w _ dr'
 unfold ext
 rw[←hh]
theorem below_ext {B:Nat} {a w:World} (h:Below B a w) (hB:B≤w.heap.size) (xs:List Obj) (d:Nat):Below B a (ext w xs d):=
 h.trans ⟨rfl,rfl,rfl,by simp[size_ext,grow],fun k hk=>ext_block w xs d k (by omega)⟩
theorem below_drewN {B:Nat} {a w:World} (h:Below B a w) (n:Nat):Below B a (w.drewN n):=⟨h.os,h.tape,h.output,h.size,h.block⟩
@[go_sem] theorem ext_drewN (w:World) (xs:List Obj) (d n:Nat):(ext w xs d).drewN n=ext w xs (d+n):=by simp[ext,World.drewN]
@[go_sem] theorem drewN_ext (w:World) (xs:List Obj) (d n:Nat):ext (w.drewN n) xs d=ext w xs d:=rfl
theorem ret_int {k:IntKind} {a b:Int} (h:a=b):Ending.returned (.int k a)=.returned (.int k b):=by rw[h]
theorem bel {B:Nat} {w W:World} (h:Below B w W:=by(repeat(first|exact Below.refl _ _|exact Nat.le_refl _|(refine below_ext ?_ (by first|(simp[size_ext,grow];done)|(simp[size_ext,grow];omega)|omega) _ _)|(refine Below.setCell ?_ (by first|(simp[size_ext,grow];done)|(simp[size_ext,grow];omega)|omega) _)|(refine Below.alloc ?_ (by first|(simp[size_ext,grow];done)|(simp[size_ext,grow];omega)|omega) _)|refine Below.drew ?_|refine below_drewN ?_ _|(refine Below.trans ?_ (Below.mono (by assumption) (by first|(simp[size_ext,grow];done)|(simp[size_ext,grow];omega)|omega)))))):Below B w W:=h
end Go.Proofs.YtfkgmbknfnhjoaaGreat
namespace Go.Proofs.YtfkgmbknfnhjoaaGreat
open Lib (hid)
open Go.RowKit
set_option linter.unusedSimpArgs false
set_option linter.unusedVariables false
def At (w:World) (B:Nat) (A:Option Addr) (xs:List Value):Prop:=
 xs=[]∨ ∃b o,A=some ⟨b,o,none⟩∧b<B∧ ∀j u,xs[j]? =some u→w.cell? ⟨b,o+j,none⟩=some u
theorem At.nil (w:World) (B:Nat) (A:Option Addr):At w B A []:=.inl rfl
theorem At.get {w:World} {B:Nat} {A:Option Addr} {xs:List Value} (h:At w B A xs) (hx:0<xs.length):
  ∃b o,A=some ⟨b,o,none⟩∧b<B∧ ∀j u,xs[j]? =some u→w.cell? ⟨b,o+j,none⟩=some u:=by
 rcases h with h|h
 ·subst h;simp at hx
 ·exact h
theorem At.keep {w w':World} {B:Nat} {A:Option Addr} {xs:List Value} (h:At w B A xs) (hb:Below B w w'):At w' B A xs:=by
 rcases h with h|⟨b,o,e,hB,hc⟩
 ·exact .inl h
 ·exact .inr ⟨b,o,e,hB,fun j u hu=>(hb.cell (p:=⟨b,o+j,none⟩) hB).trans (hc j u hu)⟩
theorem At.more {w:World} {B B':Nat} {A:Option Addr} {xs:List Value} (h:At w B A xs) (hB:B≤B'):At w B' A xs:=by
 rcases h with h|⟨b,o,e,hb,hc⟩
 ·exact .inl h
 ·exact .inr ⟨b,o,e,by omega,hc⟩
theorem At.move {w w':World} {B B':Nat} {A:Option Addr} {xs:List Value} (h:At w B A xs) (hb:Below B w w') (hB:B≤B'):At w' B' A xs:=(h.keep hb).more hB
theorem At.take {w:World} {B:Nat} {A:Option Addr} {xs:List Value} (n:Nat) (h:At w B A xs):At w B A (xs.take n):=by
 rcases h with h|⟨b,o,e,hb,hc⟩
 ·exact .inl (by simp[h])
 ·refine .inr ⟨b,o,e,hb,fun j u hu=>hc j u ?_⟩
  rw[List.getElem?_take] at hu
  split at hu
  ·exact hu
  ·cases hu
theorem At.drop {w:World} {B:Nat} {A:Option Addr} {xs:List Value} (n m:Nat) (hm:m=n→xs.drop n=[]) (h:At w B A xs):At w B (if m=n then A else A.map (·.add n)) (xs.drop n):=by
 rcases h with h|⟨b,o,e,hb,hc⟩
 ·exact .inl (by simp[h])
 ·by_cases he:m=n
  ·exact .inl (hm he)
  ·rw[if_neg he,e]
   refine .inr ⟨b,o+n,?_,hb,fun j u hu=>?_⟩
   ·simp only[Option.map_some,Addr.add]
    by_cases h0:n=0<;>simp[h0]
   ·rw[List.getElem?_drop] at hu
    have:=hc _ _ hu
    rwa [←Nat.add_assoc] at this
theorem At.of_own {w:World} {base:Nat} {e:TypeId} {size n c:Nat} {A:Option Addr} {xs:List Value} (h:w.ownsRow base e size (.slice A n c) n xs):At w w.heap.size A xs:=by
 obtain⟨h1,h2⟩:=h
 rcases h2 with⟨hv,rfl⟩|⟨g,cap,cur,hv,hg,hh,hc,hm,hcur,ht⟩
 ·exact .inl (by simpa using h1)
 ·injection hv with hA _ _
  refine .inr ⟨g,0,hA,?_,fun j u hu=>?_⟩
  ·rcases Nat.lt_or_ge g w.heap.size with hlt|hge
   ·exact hlt
   ·rw[Array.getElem?_eq_none hge] at hh;cases hh
  ·rw[←ht,List.getElem?_take] at hu
   split at hu
   ·simp only[World.cell?,hh,Option.isSome_none,Nat.zero_add]
    simpa using hu
   ·cases hu
theorem ownsRow_form {w:World} {base:Nat} {e:TypeId} {size n:Nat} {v:Value} {xs:List Value} (h:w.ownsRow base e size v n xs): ∃A c,v=.slice A n c∧n≤c∧c≤maxLen:=by
 obtain⟨h1,h2⟩:=h
 rcases h2 with⟨hv,rfl⟩|⟨g,cap,cur,hv,hg,hh,hc,hm,hcur,ht⟩
 ·exact⟨none,0,hv,Nat.le_refl _,by simp[maxLen]⟩
 ·exact⟨_,cap,hv,hc,hm⟩
@[go_sem] theorem At_drew (w:World) (B:Nat) (A:Option Addr) (xs:List Value):At w.drew B A xs=At w B A xs:=rfl
@[go_sem] theorem At_drewN (w:World) (n B:Nat) (A:Option Addr) (xs:List Value):At (w.drewN n) B A xs=At w B A xs:=rfl
theorem At_eq {w w':World} {B:Nat} {A:Option Addr} {xs:List Value} (h: ∀k,k<B→w'.heap[k]? =w.heap[k]?):At w' B A xs=At w B A xs:=by
 apply propext
 unfold At
 constructor
 ·rintro (h1|⟨b,o,e,hB,hc⟩)
  ·exact .inl h1
  ·exact .inr ⟨b,o,e,hB,fun j u hu=>(World.cell?_of_block (w:=w) (w':=w') (h b hB)).symm.trans (hc j u hu)⟩
 ·rintro (h1|⟨b,o,e,hB,hc⟩)
  ·exact .inl h1
  ·exact .inr ⟨b,o,e,hB,fun j u hu=>(World.cell?_of_block (w:=w) (w':=w') (h b hB)).trans (hc j u hu)⟩
@[go_sem] theorem At_ext (w:World) (xs:List Obj) (d B:Nat) (A:Option Addr) (l:List Value) (hB:B≤w.heap.size):At (ext w xs d) B A l=At w B A l:=
 At_eq fun k hk=>ext_block w xs d k (by omega)
@[go_sem] theorem At_alloc (w:World) (o:Obj) (B:Nat) (A:Option Addr) (l:List Value) (hB:B≤w.heap.size):At (w.alloc o) B A l=At w B A l:=
 At_eq fun k hk=>Below.heap_alloc w o k (by omega)
@[go_sem] theorem At_setCell (w:World) (p:Addr) (v:Value) (B:Nat) (A:Option Addr) (l:List Value) (hB:B≤p.block):At (w.setCell p v) B A l=At w B A l:=
 At_eq fun k hk=>Below.heap_setCell w p v k (by omega)
def bv (x:UInt8):Value:=.int .u8 (x.toNat:Int)
theorem bv_get {l:List UInt8} {i:Nat} (h:i<l.length):(l.map bv)[i]? =some (.int .u8 ((l[i]).toNat:Int)):=by
 rw[List.getElem?_map,List.getElem?_eq_getElem h];rfl
theorem foldl_push (l:List UInt8): ∀s:ByteArray,(l.map fun x=>(x.toNat:Int)).foldl (fun (r:ByteArray) n=>r.push (UInt8.ofNat n.toNat)) s=⟨(s.data.toList++l).toArray⟩:=by
 induction l with
 |nil=>intro s;simp
 |cons x l ih=>
  intro s
  simp only[List.map_cons,List.foldl_cons]
  rw[ih]
  simp
theorem run_str {P:Program} {w:World} {src dst e:TypeId} (hs:P.underlying src=some (.slice e)) (he:P.underlying e=some (.int .u8)) (hd:P.underlying dst=some .string)
  {B:Nat} {A:Option Addr} {c:Nat} {l:List UInt8} {n:Nat} (hn:n=l.length) (h:At w B A (l.map bv)):(convert src dst (.slice A n c)).run P w=.ok (.string ⟨l.toArray⟩) w:=by
 subst hn
 rw[run_convert_bytes_string w src dst e A l.length c hs he hd]
 rcases h with h|⟨b,o,rfl,hB,hc⟩
 ·have hl:l=[]:=by simpa using h
  subst hl
  cases A with
  |none=>simp[Conv.bytesToString,Sem.run_pure];rfl
  |some a=>
   have hq:=run_loadCells_list (P:=P) w a [] (by intro j v h;simp at h)
   exact(run_bytesToString (P:=P) w a 0 c [] (by simpa using hq))
 ·have hl:(l.map fun x=>(x.toNat:Int)).map (Value.int .u8)=l.map bv:=by simp[bv,Function.comp_def]
  rw[run_bytesToString w _ l.length c (l.map fun x=>(x.toNat:Int)) (by
   rw[hl]
   have:=run_loadCells_list (P:=P) w ⟨b,o,none⟩ (l.map bv) (fun j v hv=>by
    have:=hc j v hv
    simp only[Addr.add]
    by_cases h0:j=0
    ·subst h0;simpa using this
    ·simpa[h0] using this)
   simpa using this)]
  rw[foldl_push]
  simp
theorem wp_app {P:Program} {o:Oper} {a:Act} {K:Act→World→Prop} {Q:Exit→Act→World→Prop} {w:World} (w0:World) (s x:Operand) (t:TypeId)
  (ho:o.op=.call {callee:=.builtin .append,args:=#[s,x],argTypes:=#[t,t]})
  (base:Nat) (e:TypeId) (i:TypeInfo) (z:Value) (size bytes:Nat) (ht:P.underlying t=some (.slice e)) (hi:P.info? e=some i) (hz:i.zero=some z)
  (hsize:i.size=size) (hby:i.bytes=bytes) (hzs:z.cells.size=size) (hsz:0<size)
  (v:Value) (n:Nat) (xs:List Value) (hs:a.eval s=v) (hown:w.ownsRow base e size v n xs)
  (B:Nat) (A:Option Addr) (m c:Nat) (news:List Value) (hx:a.eval x=.slice A m c) (hl:news.length=m*size) (hr:At w B A news) (h1: ∀u∈news,u.oneCell'=true)
  (h63:n+m≤maxLen) (hbytes:(n+m)*bytes≤140737488355328) (hw:Below w0.heap.size w0 w) (hb0:w0.heap.size≤base) (hbase:base≤w.heap.size)
  (h: ∀v' ys d,(ext w0 ys d).ownsRow base e size v' (n+m) (xs++news)→(∀k,k<w.heap.size→some k≠v.ownBlock→(ext w0 ys d).heap[k]? =w.heap[k]?)→w.heap.size≤(ext w0 ys d).heap.size→
   (v'.ownBlock=v.ownBlock∨v'.ownBlock=some w.heap.size)→K (a.put o.dst v') (ext w0 ys d)):o.wp P a w K Q:=by
 have own_le: ∀g,v.ownBlock=some g→base≤g:=by
  intro g hg
  rcases hown.2 with⟨rfl,_⟩|⟨g',cap,cur,rfl,hge,_⟩
  ·cases hg
  ·simp only[Value.ownBlock,Option.some.injEq] at hg;omega
 have hmain: ∃v' w',(Builtin.append_ #[t,t] o.type #[v,.slice A m c]).run P w=.ok v' w'∧w'.ownsRow base e size v' (n+m) (xs++news)∧w.grownBy w' v.ownBlock∧(v'.ownBlock=v.ownBlock∨v'.ownBlock=some w.heap.size):=by
  have key: ∀ad:Addr,A=some ad→(∀j u,news[j]? =some u→w.cell? (ad.add j)=some u)→
    ∃v' w',(Builtin.append_ #[t,t] o.type #[v,.slice A m c]).run P w=.ok v' w'∧w'.ownsRow base e size v' (n+m) (xs++news)∧w.grownBy w' v.ownBlock∧(v'.ownBlock=v.ownBlock∨v'.ownBlock=some w.heap.size):=fun ad hA hc=>by
   obtain⟨v',w',h2,h3,h4,_,h5⟩:=run_append_own_at (P:=P) w base t o.type e i z size bytes ht hi hz hsize hby hzs hsz v n xs hown ad m c news hl hc h1 h63 hbytes hbase
   exact⟨v',w',by rw[hA];exact h2,h3,h4,h5⟩
  rcases hr with hnil|⟨b,off,hA,hB,hc⟩
  ·cases A with
   |some ad=>exact key ad rfl (fun j u hu=>by rw[hnil] at hu;simp at hu)
   |none=>
    subst hnil
    have hm:m=0:=by
     rcases Nat.eq_zero_or_pos m with h0|h0
     ·exact h0
     ·have:=Nat.mul_pos h0 hsz
      simp at hl
      omega
    subst hm
    refine⟨v,w,?_,by simpa using hown,World.grownBy.refl w _,.inl rfl⟩
    rcases hown.2 with⟨rfl,rfl⟩|⟨g,cap,cur,rfl,_,_,hnc,_⟩
    ·simp[Builtin.append_,run_underlying ht,sizeOf,typeInfo,hi,Builtin.lenOf,Builtin.firstCells]
    ·simp[Builtin.append_,run_underlying ht,sizeOf,typeInfo,hi,Builtin.lenOf,Builtin.firstCells,hnc,storeCells]
  ·refine key _ hA (fun j u hu=>?_)
   have:=hc j u hu
   simp only[Addr.add]
   by_cases h0:j=0
   ·subst h0;simpa using this
   ·simpa[h0] using this
 obtain⟨v',w',hrun,h2,h3,h4⟩:=hmain
 have hbel:Below w0.heap.size w0 w':=hw.grown h3 hw.size (fun k hk=>by have:=own_le k hk;omega)
 obtain⟨ys,d,rfl⟩:=ext_of hbel
 unfold Oper.wp execOp
 simp only[ho,resolve,invoke,builtin,Sem.run_bind,Sem.run_pure,Result.andThen_ok,List.map_toArray,List.map_cons,List.map_nil,hs,hx,hrun]
 exact h v' ys d h2 (fun k hk hne=>h3.block k hk hne) h3.size h4
theorem own_empty (w:World) (base:Nat) (e:TypeId) (size:Nat) (hb:base≤w.heap.size):(w.alloc (.cells #[] e)).ownsRow base e size (.slice (some ⟨w.heap.size,0,none⟩) 0 0) 0 []:=
 ⟨by simp,.inr ⟨w.heap.size,0,#[],rfl,hb,heap_alloc_new w _,Nat.le_refl _,Nat.zero_le _,by simp,by simp⟩⟩
theorem own_nil (w:World) (base:Nat) (e:TypeId) (size:Nat):w.ownsRow base e size (.slice none 0 0) 0 []:=⟨by simp,.inl ⟨rfl,rfl⟩⟩
theorem own_keep {w w':World} {base:Nat} {e:TypeId} {size n:Nat} {v:Value} {xs:List Value} (h:w.ownsRow base e size v n xs) (hb: ∀k,v.ownBlock=some k→w'.heap[k]? =w.heap[k]?):w'.ownsRow base e size v n xs:=by
 obtain⟨h1,h2⟩:=h
 refine⟨h1,?_⟩
 rcases h2 with h2|⟨g,cap,cur,rfl,hg,hh,r⟩
 ·exact .inl h2
 ·exact .inr ⟨g,cap,cur,rfl,hg,by rw[hb g rfl];exact hh,r⟩
theorem own_lt {w:World} {base:Nat} {e:TypeId} {size n:Nat} {v:Value} {xs:List Value} (h:w.ownsRow base e size v n xs) {k:Nat} (hk:v.ownBlock=some k):k<w.heap.size:=by
 rcases h.2 with⟨rfl,_⟩|⟨g,cap,cur,rfl,hg,hh,_⟩
 ·cases hk
 ·simp only[Value.ownBlock,Option.some.injEq] at hk
  subst hk
  rcases Nat.lt_or_ge g w.heap.size with hlt|hge
  ·exact hlt
  ·rw[Array.getElem?_eq_none hge] at hh;cases hh
theorem own_le {w:World} {base:Nat} {e:TypeId} {size n:Nat} {v:Value} {xs:List Value} (h:w.ownsRow base e size v n xs) {k:Nat} (hk:v.ownBlock=some k):base≤k:=by
 rcases h.2 with⟨rfl,_⟩|⟨g,cap,cur,rfl,hg,_⟩
 ·cases hk
 ·simp only[Value.ownBlock,Option.some.injEq] at hk;omega
theorem own_base {w:World} {base base':Nat} {e:TypeId} {size n:Nat} {v:Value} {xs:List Value} (h:w.ownsRow base e size v n xs) (hb:base'≤base):w.ownsRow base' e size v n xs:=by
 obtain⟨h1,h2⟩:=h
 refine⟨h1,?_⟩
 rcases h2 with h2|⟨g,cap,cur,hv,hg,r⟩
 ·exact .inl h2
 ·exact .inr ⟨g,cap,cur,hv,by omega,r⟩
theorem own_below {w w':World} {base:Nat} {e:TypeId} {size n:Nat} {v:Value} {xs:List Value} (h:w.ownsRow base e size v n xs) (hb:Below w.heap.size w w'):w'.ownsRow base e size v n xs:=
 own_keep h fun k hk=>hb.block k (own_lt h hk)
theorem ext_high (w w':World) (xs:List Obj) (d d' k:Nat) (hs:w.heap.size=w'.heap.size) (hk:w.heap.size≤k):(ext w' xs d').heap[k]? =(ext w xs d).heap[k]?:=by
 simp only[ext,Array.getElem?_append]
 rw[if_neg (by omega),if_neg (by omega),hs]
theorem own_swap {w w':World} {xs:List Obj} {d d':Nat} {base:Nat} {e:TypeId} {size n:Nat} {v:Value} {l:List Value} (h:(ext w xs d).ownsRow base e size v n l) (hs:w.heap.size=w'.heap.size) (hb:w.heap.size≤base):
  (ext w' xs d').ownsRow base e size v n l:=
 own_keep h fun k hk=>ext_high w w' xs d d' k hs (by have:=own_le h hk;omega)
theorem own_lit {w:World} {base g:Nat} {e:TypeId} {size n:Nat} {cs:Array Value} {xs:List Value} (h:w.heap[g]? =some (.cells cs e (0,0))) (hb:base≤g) (hn:n≤maxLen) (hs:cs.size=n*size) (hx:cs.toList=xs):
  w.ownsRow base e size (.slice (some ⟨g,0,none⟩) n n) n xs:=by
 subst hx
 refine⟨by simpa using hs,.inr ⟨g,n,cs,rfl,hb,h,Nat.le_refl _,hn,hs,?_⟩⟩
 rw[List.take_of_length_le (by simp;omega)]
section
variable {P:Program} {ops:Array Oper} {rest:List Oper} {o:Oper} {a:Act} {K:Act→World→Prop} {Q:Exit→Act→World→Prop} {w:World}
theorem wp_appb (w1:World) (s x:Operand) (t:TypeId)
  (ho:o.op=.call {callee:=.builtin .append,args:=#[s,x],argTypes:=#[t,t]})
  (e:TypeId) (ht:P.underlying t=some (.slice e)) (hinfo:(P.info? e).map (fun i=>(i.zero,i.size,i.bytes))=some (some (.int .u8 0),1,1))
  (v:Value) (n:Nat) (xs:List UInt8) (hs:a.eval s=v) (hown:w.ownsRow w1.heap.size e 1 v n (xs.map bv))
  (B:Nat) (A:Option Addr) (m c:Nat) (l:List UInt8) (hx:a.eval x=.slice A m c) (hl:m=l.length) (hm:n+m≤2000000000) (hr:At w B A (l.map bv)) (hw:Below w1.heap.size w1 w)
  (h: ∀v' ys d,(ext w1 ys d).ownsRow w1.heap.size e 1 v' (n+m) ((xs++l).map bv)→(∀k,k<w.heap.size→some k≠v.ownBlock→(ext w1 ys d).heap[k]? =w.heap[k]?)→w.heap.size≤(ext w1 ys d).heap.size→K (a.put o.dst v') (ext w1 ys d)):
  o.wp P a w K Q:=by
 obtain⟨i0,hi,hz0,hz1,hz2⟩:=info_parts hinfo
 refine wp_app w1 s x t ho w1.heap.size e i0 (.int .u8 0) 1 1 ht hi hz0 hz1 hz2 rfl (by decide) v n (xs.map bv) hs hown B A m c (l.map bv) hx (by simp[hl]) hr ?_ (by unfold maxLen;omega) (by omega)
  hw (Nat.le_refl _) hw.size ?_
 ·intro u hu
  obtain⟨x,_,rfl⟩:=List.mem_map.1 hu
  rfl
 ·intro v' ys d hown hk hsz _
  exact h v' ys d (by rw[List.map_append];exact hown) hk hsz
theorem wpList_appb (w1:World) (hgd:o.guard=none) (s x:Operand) (t:TypeId)
  (ho:o.op=.call {callee:=.builtin .append,args:=#[s,x],argTypes:=#[t,t]})
  (e:TypeId) (ht:P.underlying t=some (.slice e)) (hinfo:(P.info? e).map (fun i=>(i.zero,i.size,i.bytes))=some (some (.int .u8 0),1,1))
  (v:Value) (n:Nat) (xs:List UInt8) (hs:a.eval s=v) (hown:w.ownsRow w1.heap.size e 1 v n (xs.map bv))
  (B:Nat) (A:Option Addr) (m c:Nat) (l:List UInt8) (hx:a.eval x=.slice A m c) (hl:m=l.length) (hm:n+m≤2000000000) (hr:At w B A (l.map bv)) (hw:Below w1.heap.size w1 w)
  (h: ∀v' ys d,(ext w1 ys d).ownsRow w1.heap.size e 1 v' (n+m) ((xs++l).map bv)→(∀k,k<w.heap.size→some k≠v.ownBlock→(ext w1 ys d).heap[k]? =w.heap[k]?)→w.heap.size≤(ext w1 ys d).heap.size→wpList P ops Q rest (a.put o.dst v') (ext w1 ys d)):
  wpList P ops Q (o::rest) a w:=
 wpList_plain hgd fun K hK=>wp_appb w1 s x t ho e ht hinfo v n xs hs hown B A m c l hx hl hm hr hw fun v' ys d h1 h2 h3=>hK _ _ (h v' ys d h1 h2 h3)
theorem step_appb {E:Prop} (w1:World) (hgd:o.guard=none) (s x:Operand) (t:TypeId)
  (ho:o.op=.call {callee:=.builtin .append,args:=#[s,x],argTypes:=#[t,t]})
  (e:TypeId) (ht:P.underlying t=some (.slice e)) (hinfo:(P.info? e).map (fun i=>(i.zero,i.size,i.bytes))=some (some (.int .u8 0),1,1))
  (v:Value) (n:Nat) (xs:List UInt8) (hs:a.eval s=v) (hown:w.ownsRow w1.heap.size e 1 v n (xs.map bv))
  (B:Nat) (A:Option Addr) (m c:Nat) (l:List UInt8) (hx:a.eval x=.slice A m c) (hl:m=l.length) (hm:n+m≤2000000000) (hr:At w B A (l.map bv)) (hw:Below w1.heap.size w1 w)
  (h: ∀v' ys d,(ext w1 ys d).ownsRow w1.heap.size e 1 v' (n+m) ((xs++l).map bv)→(∀k,k<w.heap.size→some k≠v.ownBlock→(ext w1 ys d).heap[k]? =w.heap[k]?)→w.heap.size≤(ext w1 ys d).heap.size→K (a.put o.dst v') (ext w1 ys d)):
  if Region.wanted o (yielded ops a.tmps)=true then Oper.wp P o a w K Q else E:=by
 rw[if_pos (by simp[Region.wanted,hgd])]
 exact wp_appb w1 s x t ho e ht hinfo v n xs hs hown B A m c l hx hl hm hr hw h
end
theorem wpList_dupb {P:Program} {ops:Array Oper} {rest:List Oper} {o:Oper} {a:Act} {Q:Exit→Act→World→Prop} (w1:World) (hgd:o.guard=none) (s x:Operand) (t:TypeId)
  (ho:o.op=.call {callee:=.builtin .append,args:=#[s,x],argTypes:=#[t,t]})
  (e:TypeId) (ht:P.underlying t=some (.slice e)) (hinfo:(P.info? e).map (fun i=>(i.zero,i.size,i.bytes))=some (some (.int .u8 0),1,1))
  (N:Nat) (hN:N=w1.heap.size) (hs:a.eval s=.slice (some ⟨N,0,none⟩) 0 0) (B:Nat) (A:Option Addr) (m c:Nat) (l:List UInt8) (hx:a.eval x=.slice A m c) (hl:m=l.length) (hm:m≤1000000000) (hr:At w1 B A (l.map bv)) (hB:B≤w1.heap.size)
  (h: ∀v' ys d,(ext w1 ys d).ownsRow w1.heap.size e 1 v' m (l.map bv)→wpList P ops Q rest (a.put o.dst v') (ext w1 ys d)):
  wpList P ops Q (o::rest) a (w1.alloc (.cells #[] e)):=by
 subst hN
 refine wpList_appb w1 hgd s x t ho e ht hinfo _ 0 [] hs (own_empty w1 _ e 1 (Nat.le_refl _)) B A m c l hx hl (by omega) ?_ ((Below.refl _ _).alloc (Nat.le_refl _) _) ?_
 ·rw[At_alloc _ _ _ _ _ hB];exact hr
 ·intro v' ys d hown _ _
  exact h v' ys d (by simpa using hown)
end Go.Proofs.YtfkgmbknfnhjoaaGreat
namespace Go.Proofs.YtfkgmbknfnhjoaaGreat
open Lib (hid)
open Go.RowKit
set_option linter.unusedSimpArgs false
set_option linter.unusedVariables false
theorem own_at {w:World} {base:Nat} {e:TypeId} {size n:Nat} {v:Value} {xs:List Value} (h:w.ownsRow base e size v n xs) {g:Nat} (hg:v.ownBlock=some g):
  ∃cap cur,v=.slice (some ⟨g,0,none⟩) n cap∧w.heap[g]? =some (.cells cur e (0,0))∧cur.toList.take (n*size)=xs:=by
 rcases h.2 with⟨rfl,_⟩|⟨g',cap,cur,rfl,_,hh,_,_,_,ht⟩
 ·cases hg
 ·simp only[Value.ownBlock,Option.some.injEq] at hg
  subst hg
  exact⟨cap,cur,rfl,hh,ht⟩
theorem run_app {P:Program} {w:World} (base:Nat) (t ty e:TypeId) (i:TypeInfo) (z:Value) (size bytes:Nat) (ht:P.underlying t=some (.slice e)) (hi:P.info? e=some i) (hz:i.zero=some z)
  (hsize:i.size=size) (hby:i.bytes=bytes) (hzs:z.cells.size=size) (hsz:0<size)
  (v:Value) (n:Nat) (xs:List Value) (hown:w.ownsRow base e size v n xs)
  (B:Nat) (A:Option Addr) (m c:Nat) (news:List Value) (hl:news.length=m*size) (hr:At w B A news) (h1: ∀u∈news,u.oneCell'=true)
  (h63:n+m≤maxLen) (hbytes:(n+m)*bytes≤140737488355328) (hbase:base≤w.heap.size):
  ∃v' w',(Builtin.append_ #[t,t] ty #[v,.slice A m c]).run P w=.ok v' w'∧w'.ownsRow base e size v' (n+m) (xs++news)∧w.grownBy w' v.ownBlock∧
   (v'.ownBlock=v.ownBlock∨(v'.ownBlock=some w.heap.size∧ ∀k,k<w.heap.size→w'.heap[k]? =w.heap[k]?)):=by
 have key: ∀ad:Addr,A=some ad→(∀j u,news[j]? =some u→w.cell? (ad.add j)=some u)→
   ∃v' w',(Builtin.append_ #[t,t] ty #[v,.slice A m c]).run P w=.ok v' w'∧w'.ownsRow base e size v' (n+m) (xs++news)∧w.grownBy w' v.ownBlock∧
    (v'.ownBlock=v.ownBlock∨(v'.ownBlock=some w.heap.size∧ ∀k,k<w.heap.size→w'.heap[k]? =w.heap[k]?)):=fun ad hA hc=>by
  subst hA
  obtain⟨v',w',h2,h3,h4,_,h5⟩:=run_append_own_at (P:=P) w base t ty e i z size bytes ht hi hz hsize hby hzs hsz v n xs hown ad m c news hl hc h1 h63 hbytes hbase
  refine⟨v',w',h2,h3,h4,?_⟩
  rcases h5 with h5|h5
  ·exact .inl h5
  ·cases hb:v.ownBlock with
   |none=>exact .inr ⟨h5,fun k hk=>h4.block k hk (by rw[hb];simp)⟩
   |some g=>
    obtain⟨cap,cur,rfl,hh,htk⟩:=own_at hown hb
    subst hsize hby
    rcases hown.2 with⟨hv,_⟩|⟨g',cap',cur',hv,hbg,hg,hnc,hcm,hcs,htake⟩
    ·cases hv
    ·cases hv
     by_cases hroom:n+m≤cap
     ·have hfit:n*i.size+news.length≤cur'.size:=by rw[hl,hcs,←Nat.add_mul];exact Nat.mul_le_mul_right _ hroom
      have hrr:=run_append_room (P:=P) w t ty e i ht hi g n cap cur' hg ad m c news hl hc h1 hroom hfit
      rw[hrr] at h2
      injection h2 with e1 e2
      subst e1
      simp only[Value.ownBlock,Option.some.injEq] at h5
      have hlt:g<w.heap.size:=own_lt hown hb
      omega
     ·have holds: ∀j u,xs[j]? =some u→w.cell? ((⟨g,0,none⟩:Addr).add j)=some u:=hown.cells (g:=g) rfl
      have hrr:=run_append_grow (P:=P) w t ty e i z ht hi hz ⟨g,0,none⟩ n cap xs hown.1 holds ad m c news hl hc (by omega) (by simp only[maxLen] at h63;omega) (growslice_fits (by omega) hbytes)
      rw[hrr] at h2
      injection h2 with e1 e2
      subst e2
      exact .inr ⟨h5,fun k hk=>Below.heap_alloc w.drew _ k hk⟩
 rcases hr with hnil|⟨b,off,hA,hB,hc⟩
 ·cases A with
  |some ad=>exact key ad rfl (fun j u hu=>by rw[hnil] at hu;simp at hu)
  |none=>
   subst hnil
   have hm:m=0:=by
    rcases Nat.eq_zero_or_pos m with h0|h0
    ·exact h0
    ·have:=Nat.mul_pos h0 hsz
     simp at hl
     omega
   subst hm
   refine⟨v,w,?_,by simpa using hown,World.grownBy.refl w _,.inl rfl⟩
   rcases hown.2 with⟨rfl,rfl⟩|⟨g,cap,cur,rfl,_,_,hnc,_⟩
   ·simp[Builtin.append_,run_underlying ht,sizeOf,typeInfo,hi,Builtin.lenOf,Builtin.firstCells]
   ·simp[Builtin.append_,run_underlying ht,sizeOf,typeInfo,hi,Builtin.lenOf,Builtin.firstCells,hnc,storeCells]
 ·refine key _ hA (fun j u hu=>?_)
  have:=hc j u hu
  simp only[Addr.add]
  by_cases h0:j=0
  ·subst h0;simpa using this
  ·simpa[h0] using this
section
variable {P:Program} {ops:Array Oper} {rest:List Oper} {o:Oper} {a:Act} {K:Act→World→Prop} {Q:Exit→Act→World→Prop} {w:World}
end
end Go.Proofs.YtfkgmbknfnhjoaaGreat
namespace Go.Proofs.YtfkgmbknfnhjoaaGreat
open Lib (hid)
open Go.RowKit
set_option linter.unusedSimpArgs false
set_option linter.unusedVariables false
section
variable {P:Program} {ops:Array Oper} {rest:List Oper} {o:Oper} {a:Act} {K:Act→World→Prop} {Q:Exit→Act→World→Prop} {w:World}
theorem wp_appv (w1:World) (s x:Operand) (t:TypeId)
  (ho:o.op=.call {callee:=.builtin .append,args:=#[s,x],argTypes:=#[t,t]})
  (e:TypeId) (ht:P.underlying t=some (.slice e)) (z:Value) (size bytes:Nat) (hinfo:(P.info? e).map (fun i=>(i.zero,i.size,i.bytes))=some (some z,size,bytes)) (hzs:z.cells.size=size) (hsz:0<size) (hby:bytes≤256)
  (v:Value) (n:Nat) (xs:List Value) (hs:a.eval s=v) (hown:w.ownsRow w1.heap.size e size v n xs)
  (B:Nat) (A:Option Addr) (m c:Nat) (news:List Value) (hx:a.eval x=.slice A m c) (hl:news.length=m*size) (hm:n+m≤500000000) (hr:At w B A news) (h1: ∀u∈news,u.oneCell'=true) (hw:Below w1.heap.size w1 w)
  (h: ∀A' c' w',w'.ownsRow w1.heap.size e size (.slice A' (n+m) c') (n+m) (xs++news)→n+m≤c'→Below w1.heap.size w1 w'→w.grownBy w' v.ownBlock→K (a.put o.dst (.slice A' (n+m) c')) w'):o.wp P a w K Q:=by
 obtain⟨i0,hi,hz0,hz1,hz2⟩:=info_parts hinfo
 obtain⟨v',w',hrun,h2,h3,h4⟩:=run_app (P:=P) w1.heap.size t o.type e i0 z size bytes ht hi hz0 hz1 hz2 hzs hsz _ n xs hown B A m c news hl hr h1 (by unfold maxLen;omega)
  (by have:(n+m)*bytes≤500000000*256:=Nat.mul_le_mul hm hby;omega) hw.size
 have hbel:Below w1.heap.size w1 w':=hw.grown h3 hw.size (fun k hk=>own_le hown hk)
 obtain⟨A',c',rfl,hc',-⟩:=ownsRow_form h2
 unfold Oper.wp execOp
 simp only[ho,resolve,invoke,builtin,Sem.run_bind,Sem.run_pure,Result.andThen_ok,List.map_toArray,List.map_cons,List.map_nil,hs,hx,hrun]
 exact h A' c' w' h2 hc' hbel h3
theorem wpList_appv (w1:World) (hgd:o.guard=none) (s x:Operand) (t:TypeId)
  (ho:o.op=.call {callee:=.builtin .append,args:=#[s,x],argTypes:=#[t,t]})
  (e:TypeId) (ht:P.underlying t=some (.slice e)) (z:Value) (size bytes:Nat) (hinfo:(P.info? e).map (fun i=>(i.zero,i.size,i.bytes))=some (some z,size,bytes)) (hzs:z.cells.size=size) (hsz:0<size) (hby:bytes≤256)
  (v:Value) (n:Nat) (xs:List Value) (hs:a.eval s=v) (hown:w.ownsRow w1.heap.size e size v n xs)
  (B:Nat) (A:Option Addr) (m c:Nat) (news:List Value) (hx:a.eval x=.slice A m c) (hl:news.length=m*size) (hm:n+m≤500000000) (hr:At w B A news) (h1: ∀u∈news,u.oneCell'=true) (hw:Below w1.heap.size w1 w)
  (h: ∀A' c' w',w'.ownsRow w1.heap.size e size (.slice A' (n+m) c') (n+m) (xs++news)→n+m≤c'→Below w1.heap.size w1 w'→w.grownBy w' v.ownBlock→wpList P ops Q rest (a.put o.dst (.slice A' (n+m) c')) w'):
  wpList P ops Q (o::rest) a w:=
 wpList_plain hgd fun K hK=>wp_appv w1 s x t ho e ht z size bytes hinfo hzs hsz hby v n xs hs hown B A m c news hx hl hm hr h1 hw fun A' c' w' h1 h2 h3 h4=>hK _ _ (h A' c' w' h1 h2 h3 h4)
theorem step_appv {E:Prop} (w1:World) (hgd:o.guard=none) (s x:Operand) (t:TypeId)
  (ho:o.op=.call {callee:=.builtin .append,args:=#[s,x],argTypes:=#[t,t]})
  (e:TypeId) (ht:P.underlying t=some (.slice e)) (z:Value) (size bytes:Nat) (hinfo:(P.info? e).map (fun i=>(i.zero,i.size,i.bytes))=some (some z,size,bytes)) (hzs:z.cells.size=size) (hsz:0<size) (hby:bytes≤256)
  (v:Value) (n:Nat) (xs:List Value) (hs:a.eval s=v) (hown:w.ownsRow w1.heap.size e size v n xs)
  (B:Nat) (A:Option Addr) (m c:Nat) (news:List Value) (hx:a.eval x=.slice A m c) (hl:news.length=m*size) (hm:n+m≤500000000) (hr:At w B A news) (h1: ∀u∈news,u.oneCell'=true) (hw:Below w1.heap.size w1 w)
  (h: ∀A' c' w',w'.ownsRow w1.heap.size e size (.slice A' (n+m) c') (n+m) (xs++news)→n+m≤c'→Below w1.heap.size w1 w'→w.grownBy w' v.ownBlock→K (a.put o.dst (.slice A' (n+m) c')) w'):
  if Region.wanted o (yielded ops a.tmps)=true then Oper.wp P o a w K Q else E:=by
 rw[if_pos (by simp[Region.wanted,hgd])]
 exact wp_appv w1 s x t ho e ht z size bytes hinfo hzs hsz hby v n xs hs hown B A m c news hx hl hm hr h1 hw h
end
theorem At.new (w:World) (cs:Array Value) (e:TypeId) (l:List Value) (hl:cs.toList=l):At (w.alloc (.cells cs e)) (w.heap.size+1) (some ⟨w.heap.size,0,none⟩) l:=by
 subst hl
 refine .inr ⟨_,0,rfl,by omega,fun j u hu=>?_⟩
 rw[cell_of_row (w.alloc (.cells cs e)) w.heap.size (0+j) cs e (0,0) (heap_alloc_new w _)]
 simpa using hu
theorem At.newN (w:World) (cs:Array Value) (e:TypeId) (l:List Value) (N:Nat) (hN:N=w.heap.size) (hl:cs.toList=l):At (w.alloc (.cells cs e)) (N+1) (some ⟨N,0,none⟩) l:=by
 subst hN;exact At.new w cs e l hl
theorem At.grown {w w':World} {B:Nat} {A:Option Addr} {xs:List Value} {r:Option Nat} (h:At w B A xs) (hg:w.grownBy w' r) (hB:B≤w.heap.size) (hr: ∀k,r=some k→B≤k):At w' B A xs:=by
 rcases h with h|⟨b,o,e,hb,hc⟩
 ·exact .inl h
 ·refine .inr ⟨b,o,e,hb,fun j u hu=>?_⟩
  rw[World.cell?_of_block (w:=w) (a:=⟨b,o+j,none⟩) (hg.block b (by omega) (fun e=>by have:=hr b e.symm;omega))]
  exact hc j u hu
theorem own_grown {w w':World} {base:Nat} {e:TypeId} {size n:Nat} {v:Value} {xs:List Value} {r:Option Nat} (h:w.ownsRow base e size v n xs) (hg:w.grownBy w' r) (hr: ∀k,v.ownBlock=some k→some k≠r):w'.ownsRow base e size v n xs:=
 own_keep h fun k hk=>hg.block k (own_lt h hk) (hr k hk)
end Go.Proofs.YtfkgmbknfnhjoaaGreat
namespace Go.Proofs.YtfkgmbknfnhjoaaGreat
open Lib (hid)
open Go.RowKit
set_option linter.unusedSimpArgs false
set_option linter.unusedVariables false
def Whither (w w':World) (v v':Value):Prop:=v'.ownBlock=v.ownBlock∨(v'.ownBlock=some w.heap.size∧ ∀k,k<w.heap.size→w'.heap[k]? =w.heap[k]?)
section
variable {P:Program} {ops:Array Oper} {rest:List Oper} {o:Oper} {a:Act} {K:Act→World→Prop} {Q:Exit→Act→World→Prop} {w:World}
theorem wp_appw (w1:World) (s x:Operand) (t:TypeId)
  (ho:o.op=.call {callee:=.builtin .append,args:=#[s,x],argTypes:=#[t,t]})
  (e:TypeId) (ht:P.underlying t=some (.slice e)) (z:Value) (size bytes:Nat) (hinfo:(P.info? e).map (fun i=>(i.zero,i.size,i.bytes))=some (some z,size,bytes)) (hzs:z.cells.size=size) (hsz:0<size) (hby:bytes≤256)
  (v:Value) (n:Nat) (xs:List Value) (hs:a.eval s=v) (hown:w.ownsRow w1.heap.size e size v n xs)
  (B:Nat) (A:Option Addr) (m c:Nat) (news:List Value) (hx:a.eval x=.slice A m c) (hl:news.length=m*size) (hm:n+m≤500000000) (hr:At w B A news) (h1: ∀u∈news,u.oneCell'=true) (hw:Below w1.heap.size w1 w)
  (h: ∀A' c' w',w'.ownsRow w1.heap.size e size (.slice A' (n+m) c') (n+m) (xs++news)→n+m≤c'→Below w1.heap.size w1 w'→w.grownBy w' v.ownBlock→Whither w w' v (.slice A' (n+m) c')→K (a.put o.dst (.slice A' (n+m) c')) w'):o.wp P a w K Q:=by
 obtain⟨i0,hi,hz0,hz1,hz2⟩:=info_parts hinfo
 obtain⟨v',w',hrun,h2,h3,h4⟩:=run_app (P:=P) w1.heap.size t o.type e i0 z size bytes ht hi hz0 hz1 hz2 hzs hsz _ n xs hown B A m c news hl hr h1 (by unfold maxLen;omega)
  (by have:(n+m)*bytes≤500000000*256:=Nat.mul_le_mul hm hby;omega) hw.size
 have hbel:Below w1.heap.size w1 w':=hw.grown h3 hw.size (fun k hk=>own_le hown hk)
 obtain⟨A',c',rfl,hc',-⟩:=ownsRow_form h2
 unfold Oper.wp execOp
 simp only[ho,resolve,invoke,builtin,Sem.run_bind,Sem.run_pure,Result.andThen_ok,List.map_toArray,List.map_cons,List.map_nil,hs,hx,hrun]
 exact h A' c' w' h2 hc' hbel h3 h4
theorem wpList_appw (w1:World) (hgd:o.guard=none) (s x:Operand) (t:TypeId)
  (ho:o.op=.call {callee:=.builtin .append,args:=#[s,x],argTypes:=#[t,t]})
  (e:TypeId) (ht:P.underlying t=some (.slice e)) (z:Value) (size bytes:Nat) (hinfo:(P.info? e).map (fun i=>(i.zero,i.size,i.bytes))=some (some z,size,bytes)) (hzs:z.cells.size=size) (hsz:0<size) (hby:bytes≤256)
  (v:Value) (n:Nat) (xs:List Value) (hs:a.eval s=v) (hown:w.ownsRow w1.heap.size e size v n xs)
  (B:Nat) (A:Option Addr) (m c:Nat) (news:List Value) (hx:a.eval x=.slice A m c) (hl:news.length=m*size) (hm:n+m≤500000000) (hr:At w B A news) (h1: ∀u∈news,u.oneCell'=true) (hw:Below w1.heap.size w1 w)
  (h: ∀A' c' w',w'.ownsRow w1.heap.size e size (.slice A' (n+m) c') (n+m) (xs++news)→n+m≤c'→Below w1.heap.size w1 w'→w.grownBy w' v.ownBlock→Whither w w' v (.slice A' (n+m) c')→wpList P ops Q rest (a.put o.dst (.slice A' (n+m) c')) w'):
  wpList P ops Q (o::rest) a w:=
 wpList_plain hgd fun K hK=>wp_appw w1 s x t ho e ht z size bytes hinfo hzs hsz hby v n xs hs hown B A m c news hx hl hm hr h1 hw fun A' c' w' h1 h2 h3 h4 h5=>hK _ _ (h A' c' w' h1 h2 h3 h4 h5)
theorem step_appw {E:Prop} (w1:World) (hgd:o.guard=none) (s x:Operand) (t:TypeId)
  (ho:o.op=.call {callee:=.builtin .append,args:=#[s,x],argTypes:=#[t,t]})
  (e:TypeId) (ht:P.underlying t=some (.slice e)) (z:Value) (size bytes:Nat) (hinfo:(P.info? e).map (fun i=>(i.zero,i.size,i.bytes))=some (some z,size,bytes)) (hzs:z.cells.size=size) (hsz:0<size) (hby:bytes≤256)
  (v:Value) (n:Nat) (xs:List Value) (hs:a.eval s=v) (hown:w.ownsRow w1.heap.size e size v n xs)
  (B:Nat) (A:Option Addr) (m c:Nat) (news:List Value) (hx:a.eval x=.slice A m c) (hl:news.length=m*size) (hm:n+m≤500000000) (hr:At w B A news) (h1: ∀u∈news,u.oneCell'=true) (hw:Below w1.heap.size w1 w)
  (h: ∀A' c' w',w'.ownsRow w1.heap.size e size (.slice A' (n+m) c') (n+m) (xs++news)→n+m≤c'→Below w1.heap.size w1 w'→w.grownBy w' v.ownBlock→Whither w w' v (.slice A' (n+m) c')→K (a.put o.dst (.slice A' (n+m) c')) w'):
  if Region.wanted o (yielded ops a.tmps)=true then Oper.wp P o a w K Q else E:=by
 rw[if_pos (by simp[Region.wanted,hgd])]
 exact wp_appw w1 s x t ho e ht z size bytes hinfo hzs hsz hby v n xs hs hown B A m c news hx hl hm hr h1 hw h
end
end Go.Proofs.YtfkgmbknfnhjoaaGreat
namespace Go.Proofs.YtfkgmbknfnhjoaaGreat
open Lib (hid)
open Go.RowKit
set_option linter.unusedSimpArgs false
set_option linter.unusedVariables false
section
variable {P:Program} {ops:Array Oper} {o:Oper} {a:Act} {K:Act→World→Prop} {Q:Exit→Act→World→Prop} {w:World}
theorem step_call1 {E:Prop} (hgd:o.guard=none) (f:FuncId) (x:Operand) (ts:Array TypeId) (ho:o.op=.call {callee:=.value (.func f),args:=#[x],argTypes:=ts}) (hcf: ∀args w,(callFunc f args).run P w=.ok (.enter f args) w) (v:Value) (hx:a.eval x=v)
  (hc:Calls P f #[v] w fun e w'=> ∃y,e=.returned y∧K (a.put o.dst y) w'):
  if Region.wanted o (yielded ops a.tmps)=true then Oper.wp P o a w K Q else E:=by
 rw[if_pos (by simp[Region.wanted,hgd])]
 unfold Oper.wp
 have hf:a.eval (.func f)=.func (.func f) #[] #[]:=rfl
 have hr:(execOp a.eval o).run P w=.ok (.enter f #[v]) w:=by
  simp only[execOp,ho,resolve,List.map_toArray,List.map_cons,List.map_nil,hx,hf]
  simp[Sem.run_pure,hcf,Deferred.ofValue,invoke]
 rw[hr]
 show Calls P f #[v] w _
 refine hc.mono ?_
 rintro e w' ⟨y,rfl,h⟩
 exact h
end
end Go.Proofs.YtfkgmbknfnhjoaaGreat
namespace Go.Proofs.YtfkgmbknfnhjoaaGreat
open Lib (hid)
open Go.RowKit
set_option linter.unusedSimpArgs false
set_option linter.unusedVariables false
def inB (n a b:Int):Bool:=decide (a≤n)&&decide (n≤b)
theorem sized_any (n:Int) (w:World):Calls Tryz.prog 137 #[.int .i64 n] w fun e w'=>e=.returned (.bool (inB n 1 8))∧w=w':=by
 by_cases h1:1≤n
 ·by_cases h2:n≤8
  ·have H:=hid (show inB n 1 8=true by simp[inB,h1,h2])
   go_enter Tryz.func137,Tryz.ntmps137
   go_wp2
   go_ret
   rw[H.out]
   exact⟨rfl,rfl⟩
  ·have H:=hid (show inB n 1 8=false by simp[inB,h2])
   go_enter Tryz.func137,Tryz.ntmps137
   go_wp2
   go_ret
   rw[H.out]
   exact⟨rfl,rfl⟩
 ·have H:=hid (show inB n 1 8=false by simp[inB,h1])
  go_enter Tryz.func137,Tryz.ntmps137
  go_wp2
  go_ret
  rw[H.out]
  exact⟨rfl,rfl⟩
def be (l:List UInt8):Nat:=l.foldl (fun n x=>n*256+x.toNat) 0
theorem be_snoc (l:List UInt8) (x:UInt8):be (l++[x])=be l*256+x.toNat:=by simp[be,List.foldl_append]
theorem be_lt (l:List UInt8):be l<256^l.length:=by
 suffices h: ∀r:List UInt8,be r.reverse<256^r.length by simpa using h l.reverse
 intro r
 induction r with
 |nil=>simp[be]
 |cons x r ih=>
  rw[List.reverse_cons,be_snoc,List.length_cons,Nat.pow_succ]
  have:=x.toNat_lt
  omega
theorem be_take_succ (l:List UInt8) (j:Nat) (h:j<l.length):be (l.take (j+1))=be (l.take j)*256+(l.getD j 0).toNat:=by
 rw[List.take_succ_eq_append_getElem h,be_snoc,List.getD_eq_getElem?_getD,List.getElem?_eq_getElem h];rfl
theorem be_take_lt (l:List UInt8) (j:Nat) (h:j≤8):be (l.take j)<256^j:=by
 have h1:=be_lt (l.take j)
 have h2:(l.take j).length≤j:=List.length_take_le _ _
 exact Nat.lt_of_lt_of_le h1 (Nat.pow_le_pow_right (by omega) h2)
theorem or_byte (a y:Nat) (ha:a<72057594037927936) (hy:y<256):bits .or .u64 (IntKind.u64.wrap ((a:Int)*256)) (IntKind.u64.wrap (y:Int))=((a*256+y:Nat):Int):=by
 have e1:IntKind.u64.wrap ((a:Int)*256)=((a*256:Nat):Int):=by rw[IntKind.wrap_u64];omega
 have e2:IntKind.u64.wrap (y:Int)=(y:Int):=by rw[IntKind.wrap_u64];omega
 rw[e1,e2,u64_or_nat _ _ (by omega) (by omega)]
 have:=Nat.shiftLeft_add_eq_or_of_lt (i:=8) (b:=y) (by omega) a
 rw[Nat.shiftLeft_eq] at this
 rw[←this]
theorem infoU8:(Tryz.prog.info? 5).map (fun i=>(i.zero,i.size,i.bytes))=some (some (.int .u8 0),1,1):=by kernel_rfl
def TakeP (w:World) (l:List UInt8) (k:Nat) (e:Ending) (w':World):Prop:=
 ∃v,e=.returned (.tuple #[.int .u64 (be (l.take k):Int),v,.bool true])∧Below w.heap.size w w'∧w'.ownsRow w.heap.size 5 1 v (l.length-k) ((l.drop k).map bv)
theorem take_no (A:Option Addr) (len c:Nat) (n:Int) (w:World) (h:inB n 1 8=false∨(len:Int)<n):
  Calls Tryz.prog 183 #[.slice A len c,.int .i64 n] w fun e w'=>e=.returned (.tuple #[.int .u64 0,.slice none 0 0,.bool false])∧w=w':=by
 cases h0:inB n 1 8
 ·go_enter Tryz.func183,Tryz.ntmps183
  go_wp2_with (go_at_call 137;refine(sized_any _ _).mono ?_;rintro e w' ⟨rfl,rfl⟩)
  go_ret3
  exact⟨rfl,rfl⟩
 ·have h2:(len:Int)<n:=by simpa[h0] using h
  go_enter Tryz.func183,Tryz.ntmps183
  go_wp2_with (go_at_call 137;refine(sized_any _ _).mono ?_;rintro e w' ⟨rfl,rfl⟩)
  go_ret3
  exact⟨rfl,rfl⟩
theorem take_yes (A:Option Addr) (len c:Nat) (l:List UInt8) (n:Int) (w:World) (B0:Nat) (hB0:B0≤w.heap.size) (hA0:At w B0 A (l.map bv)) (hlen:len=l.length) (h1:1≤n) (h8:n≤8) (hn:n≤len) (hl:len≤1000000000) (hlc:len≤c):
  Calls Tryz.prog 183 #[.slice A len c,.int .i64 n] w (TakeP w l n.toNat):=by
 have hA:=hA0.more hB0
 clear hA0 hB0
 obtain⟨k,rfl⟩:=Int.eq_ofNat_of_zero_le (show 0≤n by omega)
 rw[Int.toNat_natCast]
 obtain⟨b,o,rfl,hB,hc⟩:=hA.get (by simp;omega)
 have h0:inB (k:Int) 1 8=true:=by simp[inB];omega
 have hcell: ∀i,i<len→w.cell? ⟨b,o+i,none⟩=some (.int .u8 ((l.getD i 0).toNat:Int)):=fun i hi=>by
  have:=hc i _ (bv_get (show i<l.length by omega))
  rw[this,List.getD_eq_getElem?_getD,List.getElem?_eq_getElem (show i<l.length by omega)]
  rfl
 have HD:Hid (At w w.heap.size (if c=k then some ⟨b,o,none⟩ else(some ⟨b,o,none⟩:Option Addr).map (·.add k)) ((l.drop k).map bv)):=by
  rw[List.map_drop]
  exact hA.drop k c (fun h=>by rw[List.drop_eq_nil_iff];simp;omega)
 have HC:=hid hcell
 have HL:=hid hlen
 have HM:=hid (show len-k=(l.drop k).length by simp;omega)
 have HN:=hid (show len-k≤1000000000 by omega)
 have ek:(some (⟨b,o,none⟩:Addr):Option Addr).map (·.add k)=some ⟨b,o+k,none⟩:=by
  simp only[Option.map_some,Addr.add]
  by_cases h0:k=0<;>simp[h0]
 rw[ek] at HD
 clear hA hc hcell hlen ek
 go_enter Tryz.func183,Tryz.ntmps183
 go_wp2_with (go_at_call 137;refine(sized_any _ _).mono ?_;rintro e w' ⟨rfl,rfl⟩)
 go_loop [7,19] (fun t i=> ∃j:Nat,j≤k∧i=.int .i64 j∧t=.int .u64 (be (l.take j))) (fun _ i=>k-(intOf i).toNat)
 case atStart=>exact⟨0,Nat.zero_le _,rfl,by simp[be]⟩
 case round=>
  obtain⟨j,hj,rfl,rfl⟩:=hrel
  by_cases hlt:j<k
  ·have hcj:=HC.out j (by omega)
   go_wp2
   go_round
   case rel=>
    refine⟨j+1,by omega,by go_num,?_⟩
    have hb:=be_take_lt l j (by omega)
    have h9:256^j≤72057594037927936:=Nat.pow_le_pow_right (n:=256) (by omega) (show j≤7 by omega)
    have e:=or_byte (be (l.take j)) (l.getD j 0).toNat (by omega) (UInt8.toNat_lt _)
    rw[be_take_succ l j (by have:=HL.out;omega)]
    rw[←e,List.getD_eq_getElem?_getD]
   case measure=>simp[intOf];omega
  ·obtain rfl:j=k:=by omega
   by_cases hck:c=j
   ·subst hck
    have HZ:=hid (show l.length-c=0∧l.drop c=[] by have:=HL.out;exact⟨by omega,by rw[List.drop_eq_nil_iff];omega⟩)
    go_wp2_with (at_builtin;refine wpList_dupb w rfl (.tmp 32) (.tmp 35) 30 rfl 5 Tryz.underlying30 infoU8 _ (by simp) rfl w.heap.size _ 0 _ [] rfl rfl (Nat.zero_le _) (At.nil _ _ _) (Nat.le_refl _) ?_;intro v' ys d hown)
    go_ret3
    exact⟨v',rfl,by exact bel,by rw[HZ.out.1,HZ.out.2];exact hown⟩
   ·have HE:=HD.out
    rw[if_neg hck] at HE
    have HF:=hid HE
    clear HE HD
    go_wp2_with (at_builtin;refine wpList_dupb w rfl (.tmp 32) (.tmp 35) 30 rfl 5 Tryz.underlying30 infoU8 _ (by simp) rfl w.heap.size _ (len-j) _ (l.drop j) rfl HM.out HN.out HF.out (Nat.le_refl _) ?_;intro v' ys d hown)
    go_ret3
    exact⟨v',rfl,by exact bel,by rw[←HL.out];exact hown⟩
def putB (n:Nat):Nat→List UInt8
 |0=>[]
 |k+1=>putB (n / 256) k++[UInt8.ofNat n]
def PutP (w:World) (n k:Nat) (e:Ending) (w':World):Prop:=
 ∃v,e=.returned v∧Below w.heap.size w w'∧w'.ownsRow w.heap.size 5 1 v k ((putB n k).map bv)
theorem put_no (n size:Int) (w:World) (h:inB size 1 8=false):
  Calls Tryz.prog 94 #[.int .u64 n,.int .i64 size] w fun e w'=>e=.returned (.slice none 0 0)∧w=w':=by
 go_enter Tryz.func94,Tryz.ntmps94
 go_wp2_with (go_at_call 137;refine(sized_any _ _).mono ?_;rintro e w' ⟨rfl,rfl⟩)
 go_ret
 exact⟨rfl,rfl⟩
theorem putB_length (n k:Nat):(putB n k).length=k:=by
 induction k generalizing n with
 |zero=>rfl
 |succ k ih=>simp[putB,ih]
theorem putB_drop (n k j:Nat) (h:k≤j):putB n k=(putB n j).drop (j-k):=by
 induction k generalizing n j with
 |zero=>rw[Nat.sub_zero,List.drop_of_length_le (by rw[putB_length];omega)];rfl
 |succ k ih=>
  obtain⟨j,rfl⟩: ∃i,j=i+1:=⟨j-1,by omega⟩
  rw[putB,putB,ih (n / 256) j (by omega),List.drop_append_of_le_length (by rw[putB_length];omega)]
  congr 2
  omega
theorem bv_ofNat (n:Nat):bv (UInt8.ofNat n)=.int .u8 ((n:Int)%256):=by
 show Value.int .u8 (((UInt8.ofNat n).toNat:Nat):Int)=_
 rw[show(UInt8.ofNat n).toNat=n%256 from by simp]
 simp
theorem putB8 (n:Nat):(putB n 8).map bv=[.int .u8 ((n:Int) / 72057594037927936%256),.int .u8 ((n:Int) / 281474976710656%256),.int .u8 ((n:Int) / 1099511627776%256),.int .u8 ((n:Int) / 4294967296%256),
  .int .u8 ((n:Int) / 16777216%256),.int .u8 ((n:Int) / 65536%256),.int .u8 ((n:Int) / 256%256),.int .u8 ((n:Int)%256)]:=by
 simp only[putB,List.map_append,List.map_cons,List.map_nil,List.nil_append,List.cons_append,bv_ofNat,Nat.div_div_eq_div_mul]
 simp
theorem put_at (n k:Nat) (w:World) (T:TypeId) (h8:k≤8) (cs:Array Value) (hcs:cs=((putB n 8).map bv).toArray):At (w.alloc (.cells cs T)) (w.heap.size+1) (some ⟨w.heap.size,8-k,none⟩) ((putB n k).map bv):=by
 subst hcs
 refine .inr ⟨w.heap.size,8-k,rfl,by omega,fun j u hu=>?_⟩
 rw[World.cell?_alloc_new]
 rw[putB_drop n k 8 h8,List.map_drop,List.getElem?_drop] at hu
 simpa using hu
theorem put_yes (n k:Nat) (w:World) (hn:n<18446744073709551616) (h1:1≤k) (h8:k≤8):
  Calls Tryz.prog 94 #[.int .u64 (n:Int),.int .i64 (k:Int)] w (PutP w n k):=by
 have h0:inB (k:Int) 1 8=true:=by simp[inB];omega
 have HN:=hid hn
 have HQ:=hid (put_at n k w 171 h8 _ (by rw[putB8 n]))
 have HK:k=1∨k=2∨k=3∨k=4∨k=5∨k=6∨k=7∨k=8:=by omega
 clear hn h1 h8
 rcases HK with rfl|rfl|rfl|rfl|rfl|rfl|rfl|rfl
 ·go_enter Tryz.func94,Tryz.ntmps94
  go_wp2_with (go_at_call 137;refine(sized_any _ _).mono ?_;rintro e w' ⟨rfl,rfl⟩)
  refine wp_loop_rounds 9 ?_
  iterate 8 (rw[rounds_succ];go_wp2_with fail)
  rw[rounds_succ]
  go_wp2_with (at_builtin;refine wpList_dupb _ rfl (.tmp 23) (.tmp 26) 30 rfl 5 Tryz.underlying30 infoU8 _ (by simp) rfl (w.heap.size+1) _ 1 _ (putB n 1) rfl (putB_length n 1).symm (by omega) HQ.out (by simp) ?_;intro v' ys d hown)
  go_ret
  exact⟨v',rfl,by exact bel,own_base hown (by simp)⟩
 ·go_enter Tryz.func94,Tryz.ntmps94
  go_wp2_with (go_at_call 137;refine(sized_any _ _).mono ?_;rintro e w' ⟨rfl,rfl⟩)
  refine wp_loop_rounds 9 ?_
  iterate 8 (rw[rounds_succ];go_wp2_with fail)
  rw[rounds_succ]
  go_wp2_with (at_builtin;refine wpList_dupb _ rfl (.tmp 23) (.tmp 26) 30 rfl 5 Tryz.underlying30 infoU8 _ (by simp) rfl (w.heap.size+1) _ 2 _ (putB n 2) rfl (putB_length n 2).symm (by omega) HQ.out (by simp) ?_;intro v' ys d hown)
  go_ret
  exact⟨v',rfl,by exact bel,own_base hown (by simp)⟩
 ·go_enter Tryz.func94,Tryz.ntmps94
  go_wp2_with (go_at_call 137;refine(sized_any _ _).mono ?_;rintro e w' ⟨rfl,rfl⟩)
  refine wp_loop_rounds 9 ?_
  iterate 8 (rw[rounds_succ];go_wp2_with fail)
  rw[rounds_succ]
  go_wp2_with (at_builtin;refine wpList_dupb _ rfl (.tmp 23) (.tmp 26) 30 rfl 5 Tryz.underlying30 infoU8 _ (by simp) rfl (w.heap.size+1) _ 3 _ (putB n 3) rfl (putB_length n 3).symm (by omega) HQ.out (by simp) ?_;intro v' ys d hown)
  go_ret
  exact⟨v',rfl,by exact bel,own_base hown (by simp)⟩
 ·go_enter Tryz.func94,Tryz.ntmps94
  go_wp2_with (go_at_call 137;refine(sized_any _ _).mono ?_;rintro e w' ⟨rfl,rfl⟩)
  refine wp_loop_rounds 9 ?_
  iterate 8 (rw[rounds_succ];go_wp2_with fail)
  rw[rounds_succ]
  go_wp2_with (at_builtin;refine wpList_dupb _ rfl (.tmp 23) (.tmp 26) 30 rfl 5 Tryz.underlying30 infoU8 _ (by simp) rfl (w.heap.size+1) _ 4 _ (putB n 4) rfl (putB_length n 4).symm (by omega) HQ.out (by simp) ?_;intro v' ys d hown)
  go_ret
  exact⟨v',rfl,by exact bel,own_base hown (by simp)⟩
 ·go_enter Tryz.func94,Tryz.ntmps94
  go_wp2_with (go_at_call 137;refine(sized_any _ _).mono ?_;rintro e w' ⟨rfl,rfl⟩)
  refine wp_loop_rounds 9 ?_
  iterate 8 (rw[rounds_succ];go_wp2_with fail)
  rw[rounds_succ]
  go_wp2_with (at_builtin;refine wpList_dupb _ rfl (.tmp 23) (.tmp 26) 30 rfl 5 Tryz.underlying30 infoU8 _ (by simp) rfl (w.heap.size+1) _ 5 _ (putB n 5) rfl (putB_length n 5).symm (by omega) HQ.out (by simp) ?_;intro v' ys d hown)
  go_ret
  exact⟨v',rfl,by exact bel,own_base hown (by simp)⟩
 ·go_enter Tryz.func94,Tryz.ntmps94
  go_wp2_with (go_at_call 137;refine(sized_any _ _).mono ?_;rintro e w' ⟨rfl,rfl⟩)
  refine wp_loop_rounds 9 ?_
  iterate 8 (rw[rounds_succ];go_wp2_with fail)
  rw[rounds_succ]
  go_wp2_with (at_builtin;refine wpList_dupb _ rfl (.tmp 23) (.tmp 26) 30 rfl 5 Tryz.underlying30 infoU8 _ (by simp) rfl (w.heap.size+1) _ 6 _ (putB n 6) rfl (putB_length n 6).symm (by omega) HQ.out (by simp) ?_;intro v' ys d hown)
  go_ret
  exact⟨v',rfl,by exact bel,own_base hown (by simp)⟩
 ·go_enter Tryz.func94,Tryz.ntmps94
  go_wp2_with (go_at_call 137;refine(sized_any _ _).mono ?_;rintro e w' ⟨rfl,rfl⟩)
  refine wp_loop_rounds 9 ?_
  iterate 8 (rw[rounds_succ];go_wp2_with fail)
  rw[rounds_succ]
  go_wp2_with (at_builtin;refine wpList_dupb _ rfl (.tmp 23) (.tmp 26) 30 rfl 5 Tryz.underlying30 infoU8 _ (by simp) rfl (w.heap.size+1) _ 7 _ (putB n 7) rfl (putB_length n 7).symm (by omega) HQ.out (by simp) ?_;intro v' ys d hown)
  go_ret
  exact⟨v',rfl,by exact bel,own_base hown (by simp)⟩
 ·go_enter Tryz.func94,Tryz.ntmps94
  go_wp2_with (go_at_call 137;refine(sized_any _ _).mono ?_;rintro e w' ⟨rfl,rfl⟩)
  refine wp_loop_rounds 9 ?_
  iterate 8 (rw[rounds_succ];go_wp2_with fail)
  rw[rounds_succ]
  go_wp2_with (at_builtin;refine wpList_dupb _ rfl (.tmp 23) (.tmp 26) 30 rfl 5 Tryz.underlying30 infoU8 _ (by simp) rfl (w.heap.size+1) _ 8 _ (putB n 8) rfl (putB_length n 8).symm (by omega) HQ.out (by simp) ?_;intro v' ys d hown)
  go_ret
  exact⟨v',rfl,by exact bel,own_base hown (by simp)⟩
end Go.Proofs.YtfkgmbknfnhjoaaGreat
namespace Go.Proofs.YtfkgmbknfnhjoaaGreat
open Lib (hid)
open Go.RowKit
set_option linter.unusedSimpArgs false
set_option linter.unusedVariables false
theorem rput_no (n size:Int) (w:World) (h:size<1∨8<size):
  Calls Tryz.prog 29 #[.int .u64 n,.int .i64 size] w fun e w'=>e=.returned (.slice none 0 0)∧w=w':=by
 by_cases h1:size<1
 ·go_enter Tryz.func29,Tryz.ntmps29
  go_wp2
  go_ret
  exact⟨rfl,rfl⟩
 ·have h2:8<size:=by omega
  go_enter Tryz.func29,Tryz.ntmps29
  go_wp2
  go_ret
  exact⟨rfl,rfl⟩
theorem own_new (w:World) (e:TypeId) (l:List UInt8) (n:Nat) (cs:Array Value) (hn:n=l.length) (hm:n≤1000000000) (hcs:cs.toList=l.map bv):(w.alloc (.cells cs e)).ownsRow w.heap.size e 1 (.slice (some ⟨w.heap.size,0,none⟩) n n) n (l.map bv):=by
 subst hn
 have hs:cs.size=l.length:=by rw[←Array.length_toList,hcs];simp
 refine⟨by simp,.inr ⟨w.heap.size,l.length,cs,rfl,Nat.le_refl _,heap_alloc_new w _,Nat.le_refl _,by unfold maxLen;omega,by omega,?_⟩⟩
 rw[hcs,List.take_of_length_le (by simp)]
theorem rput_yes (n k:Nat) (w:World) (hn:n<18446744073709551616) (h1:1≤k) (h8:k≤8):
  Calls Tryz.prog 29 #[.int .u64 (n:Int),.int .i64 (k:Int)] w (PutP w n k):=by
 have HK:k=1∨k=2∨k=3∨k=4∨k=5∨k=6∨k=7∨k=8:=by omega
 clear h1 h8
 rcases HK with rfl|rfl|rfl|rfl|rfl|rfl|rfl|rfl
 ·have hmk: ∀w:World,(Instr.makeSlice 30 (.int .i64 1) (.int .i64 1)).run Tryz.prog w=.ok (.slice (some ⟨w.heap.size,0,none⟩) 1 1) (w.alloc (.cells #[.int .u8 0] 5)):=fun _=>by kernel_rfl
  go_enter Tryz.func29,Tryz.ntmps29
  go_wp2
  refine wp_loop_rounds 2 ?_
  iterate 2 (rw[rounds_succ];go_wp2)
  go_ret
  exact⟨_,rfl,by exact bel,own_new w 5 (putB n 1) 1 _ (putB_length n 1).symm (by omega) (by simp[putB,bv_ofNat])⟩
 ·have hmk: ∀w:World,(Instr.makeSlice 30 (.int .i64 2) (.int .i64 2)).run Tryz.prog w=.ok (.slice (some ⟨w.heap.size,0,none⟩) 2 2) (w.alloc (.cells #[.int .u8 0,.int .u8 0] 5)):=fun _=>by kernel_rfl
  go_enter Tryz.func29,Tryz.ntmps29
  go_wp2
  refine wp_loop_rounds 3 ?_
  iterate 3 (rw[rounds_succ];go_wp2)
  go_ret
  exact⟨_,rfl,by exact bel,own_new w 5 (putB n 2) 2 _ (putB_length n 2).symm (by omega) (by simp[putB,bv_ofNat])⟩
 ·have hmk: ∀w:World,(Instr.makeSlice 30 (.int .i64 3) (.int .i64 3)).run Tryz.prog w=.ok (.slice (some ⟨w.heap.size,0,none⟩) 3 3) (w.alloc (.cells #[.int .u8 0,.int .u8 0,.int .u8 0] 5)):=fun _=>by kernel_rfl
  go_enter Tryz.func29,Tryz.ntmps29
  go_wp2
  refine wp_loop_rounds 4 ?_
  iterate 4 (rw[rounds_succ];go_wp2)
  go_ret
  exact⟨_,rfl,by exact bel,own_new w 5 (putB n 3) 3 _ (putB_length n 3).symm (by omega) (by simp[putB,bv_ofNat])⟩
 ·have hmk: ∀w:World,(Instr.makeSlice 30 (.int .i64 4) (.int .i64 4)).run Tryz.prog w=.ok (.slice (some ⟨w.heap.size,0,none⟩) 4 4) (w.alloc (.cells #[.int .u8 0,.int .u8 0,.int .u8 0,.int .u8 0] 5)):=fun _=>by kernel_rfl
  go_enter Tryz.func29,Tryz.ntmps29
  go_wp2
  refine wp_loop_rounds 5 ?_
  iterate 5 (rw[rounds_succ];go_wp2)
  go_ret
  exact⟨_,rfl,by exact bel,own_new w 5 (putB n 4) 4 _ (putB_length n 4).symm (by omega) (by simp[putB,bv_ofNat])⟩
 ·have hmk: ∀w:World,(Instr.makeSlice 30 (.int .i64 5) (.int .i64 5)).run Tryz.prog w=.ok (.slice (some ⟨w.heap.size,0,none⟩) 5 5) (w.alloc (.cells #[.int .u8 0,.int .u8 0,.int .u8 0,.int .u8 0,.int .u8 0] 5)):=fun _=>by kernel_rfl
  go_enter Tryz.func29,Tryz.ntmps29
  go_wp2
  refine wp_loop_rounds 6 ?_
  iterate 6 (rw[rounds_succ];go_wp2)
  go_ret
  exact⟨_,rfl,by exact bel,own_new w 5 (putB n 5) 5 _ (putB_length n 5).symm (by omega) (by simp[putB,bv_ofNat])⟩
 ·have hmk: ∀w:World,(Instr.makeSlice 30 (.int .i64 6) (.int .i64 6)).run Tryz.prog w=.ok (.slice (some ⟨w.heap.size,0,none⟩) 6 6) (w.alloc (.cells #[.int .u8 0,.int .u8 0,.int .u8 0,.int .u8 0,.int .u8 0,.int .u8 0] 5)):=fun _=>by kernel_rfl
  go_enter Tryz.func29,Tryz.ntmps29
  go_wp2
  refine wp_loop_rounds 7 ?_
  iterate 7 (rw[rounds_succ];go_wp2)
  go_ret
  exact⟨_,rfl,by exact bel,own_new w 5 (putB n 6) 6 _ (putB_length n 6).symm (by omega) (by simp[putB,bv_ofNat])⟩
 ·have hmk: ∀w:World,(Instr.makeSlice 30 (.int .i64 7) (.int .i64 7)).run Tryz.prog w=.ok (.slice (some ⟨w.heap.size,0,none⟩) 7 7) (w.alloc (.cells #[.int .u8 0,.int .u8 0,.int .u8 0,.int .u8 0,.int .u8 0,.int .u8 0,.int .u8 0] 5)):=fun _=>by kernel_rfl
  go_enter Tryz.func29,Tryz.ntmps29
  go_wp2
  refine wp_loop_rounds 8 ?_
  iterate 8 (rw[rounds_succ];go_wp2)
  go_ret
  exact⟨_,rfl,by exact bel,own_new w 5 (putB n 7) 7 _ (putB_length n 7).symm (by omega) (by simp[putB,bv_ofNat])⟩
 ·have hmk: ∀w:World,(Instr.makeSlice 30 (.int .i64 8) (.int .i64 8)).run Tryz.prog w=.ok (.slice (some ⟨w.heap.size,0,none⟩) 8 8) (w.alloc (.cells #[.int .u8 0,.int .u8 0,.int .u8 0,.int .u8 0,.int .u8 0,.int .u8 0,.int .u8 0,.int .u8 0] 5)):=fun _=>by kernel_rfl
  go_enter Tryz.func29,Tryz.ntmps29
  go_wp2
  refine wp_loop_rounds 9 ?_
  iterate 9 (rw[rounds_succ];go_wp2)
  go_ret
  exact⟨_,rfl,by exact bel,own_new w 5 (putB n 8) 8 _ (putB_length n 8).symm (by omega) (by simp[putB,bv_ofNat])⟩
end Go.Proofs.YtfkgmbknfnhjoaaGreat
namespace Go.Proofs.YtfkgmbknfnhjoaaGreat
open Lib (hid)
open Go.ChangeShapes Go.WideShapes Go.ChangeAt Go.RowKit Go.Joins
set_option linter.unusedSimpArgs false
set_option linter.unusedVariables false
set_option maxRecDepth 100000
theorem cellsU8:Tryz.prog.cellsOf 5=1:=by kernel_rfl
theorem open_bytes {H:Type} {enc:TypeId×Value→H} {W:World} {fuel:Nat} {cs:List Value} {x:DataW H×List MemPlace} (h:DataW.trod enc Tryz.prog W 0 (fun _=>true) true fuel 30 cs=some x):
  ∃(A:Option Addr) (len c:Nat) (l:List UInt8),cs=[.slice A len c]∧At W W.heap.size A (l.map bv)∧len=l.length∧len≤c∧(len:Int)≤9223372036854775807:=by
 rcases open_ints Tryz.underlying30 Tryz.underlying5 cellsU8 h with⟨hcs,_⟩|⟨a,len,cap,zs,hcs,_,hl,hm,hz,_,hcell,hwz⟩
 ·exact⟨none,0,0,[],hcs,At.nil _ _ _,rfl,Nat.le_refl _,by omega⟩
 ·have hz':zs.length=cap:=by simpa using hz
  refine⟨some a,len,cap,(zs.take len).map fun z=>UInt8.ofNat z.toNat,hcs,?_,by simp;omega,hl,by unfold maxLen at hm;omega⟩
  have hbv:((zs.take len).map fun z=>UInt8.ofNat z.toNat).map bv=(zs.take len).map (Value.int .u8):=by
   rw[List.map_map]
   apply List.map_congr_left
   intro z hzm
   have hw:=hwz z (List.mem_of_mem_take hzm)
   have hb:0≤z∧z≤255:=by simpa[Lit.wf,IntKind.min,IntKind.max,IntKind.signed,IntKind.bits] using hw
   obtain⟨n,rfl⟩:=Int.eq_ofNat_of_zero_le hb.1
   show Value.int .u8 (((UInt8.ofNat n).toNat:Nat):Int)=_
   rw[show(UInt8.ofNat n).toNat=n%256 from by simp]
   congr 1
   omega
  rw[hbv]
  rcases Nat.eq_zero_or_pos len with h0|h0
  ·left;simp[h0]
  ·right
   have hc0:=hcell 0 (by omega)
   obtain⟨b,off,spot⟩:=a
   have hspot:spot=none:=by simpa[Addr.add] using World.cell?_spot hc0
   subst hspot
   have hlt:b<W.heap.size:=by
    have:=World.block_lt_of_cell? W _ hc0
    simpa[Addr.add] using this
   refine⟨b,off,rfl,hlt,fun j u hu=>?_⟩
   rw[List.getElem?_map,List.getElem?_take] at hu
   have hj:j<len:=by
    by_cases hj:j<len
    ·exact hj
    ·rw[if_neg hj] at hu;cases hu
   rw[if_pos hj,List.getElem?_eq_getElem (by omega)] at hu
   have hc:=hcell j (by omega)
   rw[List.getD_eq_getElem?_getD,List.getElem?_eq_getElem (by omega)] at hc
   have e:(⟨b,off,none⟩:Addr).add j=⟨b,off+j,none⟩:=by
    simp only[Addr.add]
    by_cases h0:j=0<;>simp[h0]
   rw[e] at hc
   rw[hc]
   simpa using hu
end Go.Proofs.YtfkgmbknfnhjoaaGreat
namespace Go.Proofs.YtfkgmbknfnhjoaaGreat
open Lib (hid)
open Go.ChangeShapes Go.WideShapes Go.ChangeAt Go.RowKit Go.Joins Go.Deep
set_option linter.unusedSimpArgs false
set_option linter.unusedVariables false
set_option maxRecDepth 100000
section
variable {H:Type} {enc:TypeId×Value→H} {P:Program} {w:World} {base:Nat} {spare:Nat→Bool} {held:Bool}
theorem open_slice_fields {t e:TypeId} {fs:Array Field} {fuel:Nat} {cs:List Value} {x:DataW H×List MemPlace} (ht:P.underlying t=some (.slice e)) (he:P.underlying e=some (.struct fs))
  (hone:oneCellFields P fs=true) (hC:P.cellsOf e=fs.size) (h:DataW.trod enc P w base spare held fuel t cs=some x):
  (cs=[.slice none 0 0]∧x=(.nil,[]))∨
  ∃(a:Addr) (len cap m:Nat) (D:Nat→DataW H) (Pl:Nat→List MemPlace),cs=[.slice (some a) len cap]∧base≤a.block∧len≤cap∧cap≤maxLen∧m=(if spare a.block then cap else len)∧
   x=(.slice ((List.range len).map D) ((List.range (m-len)).map fun j=>D (len+j)),MemPlace.row a (m*fs.size)++(List.range m).flatMap Pl)∧
   ∀i,i<m→ ∃(ys:List (DataW H×List MemPlace)) (n:Nat),D i=.agg (ys.map (·.1))∧Pl i=ys.flatMap (·.2)∧ys.length=fs.size∧
    ∀(j:Nat) (f:Field),fs[j]? =some f→ ∃(v:Value) (y:DataW H×List MemPlace),w.cell? (a.add (i*fs.size+j))=some v∧ys[j]? =some y∧DataW.trod enc P w base spare held n f.type [v]=some y:=by
 rcases open_slice ht h with h0|⟨a,len,cap,m,n,D,Pl,hcs,hb,hl,hm,hmm,hx,hi⟩
 ·exact .inl h0
 ·refine .inr ⟨a,len,cap,m,D,Pl,hcs,hb,hl,hm,hmm,by rw[hC] at hx;exact hx,fun i him=>?_⟩
  obtain⟨cs',hc,ht'⟩:=hi i him
  rw[hC] at hc
  obtain⟨ys,n',hn',hy,hlen,hyl,hf⟩:=DataW.trod_struct he ht'
  obtain⟨_,hcl,hat⟩:=World.cells?_some hc
  simp only[Prod.mk.injEq] at hy
  refine⟨ys,n',hy.1,hy.2,hyl,fun j f hj=>?_⟩
  obtain⟨ho,hk⟩:=hone_of hone j f hj
  have hjl:j<fs.size:=(Array.getElem?_eq_some_iff.1 hj).1
  have hcell:=hat j hjl
  have hv:cs'[j]? =some (cs'[j]'(by omega)):=List.getElem?_eq_getElem (by omega)
  have h1:=hf j f hj
  rw[ho,hk] at h1
  have hone':(cs'.drop j).take 1=[cs'[j]'(by omega)]:=by
   rw[List.drop_eq_getElem_cons (by omega)]
   rfl
  rw[hone'] at h1
  have hys:ys[j]? =some (ys[j]'(by omega)):=List.getElem?_eq_getElem (by omega)
  refine⟨_,_,?_,hys,h1.trans hys⟩
  rw[←Go.Deep.add_add,hcell,hv]
end
theorem add_none (b o k:Nat):(⟨b,o,none⟩:Addr).add k=⟨b,o+k,none⟩:=by
 simp only[Addr.add]
 by_cases h0:k=0<;>simp[h0]
end Go.Proofs.YtfkgmbknfnhjoaaGreat
namespace Go.Proofs.YtfkgmbknfnhjoaaGreat
open Lib (hid)
open Go.RowKit
set_option linter.unusedVariables false
def Steps (Bn B:Nat) (A:World) (row:Option Nat):Prop:= ∀r,row=some r→r=Bn∨(B≤r∧ ∃o:Obj,A.heap[r]? =some o∧o.isCells=false)
def Stays (Bn B:Nat) (I:World→Prop):Prop:= ∀A C row,I A→A.grownBy C row→Steps Bn B A row→I C
structure RKeep (Bn n0:Nat) (A C:World):Prop where
 below:Below n0 A C
 box:C.heap[Bn]? =A.heap[Bn]?
theorem RKeep.trans {Bn n0:Nat} {A C D:World} (h:RKeep Bn n0 A C) (k:RKeep Bn n0 C D):RKeep Bn n0 A D:=⟨h.below.trans k.below,k.box.trans h.box⟩
theorem RKeep.putObj {Bn n0:Nat} (A:World) (l:Nat) (o:Obj) (h0:n0≤l) (hb:Bn≠l):RKeep Bn n0 A (A.putObj l o):=
 ⟨⟨rfl,rfl,rfl,by simp,fun k hk=>World.putObj_heap_other (by omega)⟩,World.putObj_heap_other hb⟩
def IterOk {σ:Type} (F:Fence) (n:Nat) (P:Program) (g:Nat) (lb:Array Value) (Bn n0 B:Nat) (G:σ→Array Value→σ→World→Prop) (Done:σ→Prop) (s0:σ) (W:World):Prop:=
 ∀(l:Nat) (J:σ→World→Prop) (Jx:World→Prop),(∀s A C row,J s A→A.grownBy C row→(∀r,row=some r→r=Bn)→J s C)→
  (∀s args s' W1,J s W1→G s args s' W1→YieldAt F (n-1) P l args W1 fun e W'=>(e=.returned (.bool true)∧J s' W'∧RKeep Bn n0 W1 W')∨(e=.returned (.bool false)∧Jx W'))→
  J s0 W→CallsIn F n P g (#[.func (.yield l) #[] #[]]++lb) W fun e W'=>(∃v,e=.returned v)∧((∃s,Done s∧J s W')∨Jx W')
def bodyOut {σ:Type} (Bn n0:Nat) (I:σ→World→Prop) (Ix:Code→World→Prop) (s':σ) (W:World):Exit→Act→World→Prop
 | .normal,_,W'=>KeepsOthers W W'∧RKeep Bn n0 W W'∧I s' W'
 | .ret,_,W'=>KeepsOthers W W'∧Ix .ret W'
 | .exit id,_,W'=>KeepsOthers W W'∧Ix (.exit id) W'
 | .goto t,_,W'=>KeepsOthers W W'∧Ix (.goto t) W'
 | .panic _,_,_=>False
 | .outgrown,_,_=>False
theorem wpIn_rangeFunc_cell {σ:Type} {F:Fence} {n:Nat} {P:Program} {g:Operand} {ps:Array Tmp} {assign body:Code} {Q:Exit→Act→World→Prop} {a:Act} {w:World}
  (hro:F.round=none) (h1:1≤n) {gf:Nat} {lb:Array Value} (hg:a.eval g=.func (.func gf) #[] lb) (hFg:F.fn gf) (eg: ∀args w,(callFunc gf args).run P w=.ok (.enter gf args) w)
  {Bn n0:Nat} (hBn:Bn<w.heap.size) (hn0:n0≤w.heap.size) {G:σ→Array Value→σ→World→Prop} {Done:σ→Prop} {s0:σ}
  (hps: ∀s args s' W,G s args s' W→args.size=ps.size)
  (I:σ→World→Prop) (Ix:Code→World→Prop) (hI: ∀s,Stays Bn w.heap.size (I s)) (hIx: ∀c,Stays Bn w.heap.size (Ix c)) (h0:I s0 w)
  (hseq: ∀W1,Below w.heap.size w W1→I s0 W1→IterOk F (n-1) P gf lb Bn n0 w.heap.size G Done s0 W1)
  (Ax:σ→Array Value→σ→Act→World→Prop) (hAx: ∀s args s' a',Stays Bn w.heap.size (Ax s args s' a'))
  (hassign: ∀(l:Nat) s args s' W,w.heap.size≤l→l<W.heap.size→I s W→G s args s' W→
   assign.wpIn (F.inRound l) (n-1-1) P (Exit.then (fun a₁ w₁=>KeepsOthers W w₁∧RKeep Bn n0 W w₁∧Ax s args s' a₁ w₁) (fun _ _ _=>False)) {tmps:=(ps.zip args).foldl (fun t (p,v)=>t.setIfInBounds p v) a.tmps,defers:=[]} W)
  (hbody: ∀(l:Nat) s args s' a₁ W,Ax s args s' a₁ W→body.wpIn (F.inRound l) (n-1-1) P (bodyOut Bn n0 I Ix s' W) a₁ W)
  (hdone: ∀s W,Done s→I s W→W.heap[w.heap.size]? =some (.deferred (some []))→Q .normal {a with defers:={target:=.collected w.heap.size,args:=#[]}::a.defers} W)
  (hstop: ∀c W,Ix c W→W.heap[w.heap.size]? =some (.deferred (some []))→c.wpIn F n P Q {a with defers:={target:=.collected w.heap.size,args:=#[]}::a.defers} W):
  (Code.rangeFunc g ps assign body).wpIn F n P Q a w:=by
 refine wpIn_rangeFunc ?_
 intro fn hfn
 rw[hro]
 -- the two blocks of the loop: D for deferred calls, L for its record
 let rec_:LoopState→Option Code→Loop:=fun st pe=>{state:=st,pending:=pe,fn,tmps:=a.tmps,params:=ps,assign,body,defers:=w.heap.size}
 have hsz1:((w.alloc (.deferred (some []))).alloc (.loop (rec_ .ready none))).heap.size=w.heap.size+1+1:=by simp
 generalize hW1:(w.alloc (.deferred (some []))).alloc (.loop (rec_ .ready none))=W1 at hsz1
 have bel1:Below w.heap.size w W1:=by rw[←hW1];exact((Below.refl _ w).alloc (Nat.le_refl _) _).alloc (by simp) _
 have atL:W1.heap[w.heap.size+1]? =some (.loop (rec_ .ready none)):=by
  rw[←hW1];have:=World.alloc_heap_new (w.alloc (.deferred (some []))) (.loop (rec_ .ready none));rwa [World.size_alloc] at this
 have atD:W1.heap[w.heap.size]? =some (.deferred (some [])):=by
  rw[←hW1];exact(Below.heap_alloc _ _ _ (by simp)).trans (World.alloc_heap_new w _)
 have i1:I s0 W1:=by
  rw[←hW1]
  exact hI s0 _ _ none (hI s0 _ _ none h0 (World.grownBy_alloc w _ none) (fun r e=>by cases e)) (World.grownBy_alloc _ _ none) (fun r e=>by cases e)
 -- a turn of the record leaves what the caller says
 have turn: ∀(K:World→Prop),Stays Bn w.heap.size K→ ∀(W:World) (r:Loop) (o:Obj),K W→W.heap[w.heap.size+1]? =some (.loop r)→K (W.putObj (w.heap.size+1) o):=
  fun K hK W r o hk hr=>hK _ _ (some (w.heap.size+1)) hk (grownBy_putObj' W _ o) (fun q e=>by cases e;exact .inr ⟨by omega,_,hr,rfl⟩)
 refine⟨w.heap.size+1,[{target:=.collected w.heap.size,args:=#[]}],W1,{target:=.fn (.func gf) lb,args:=#[.func (.yield (w.heap.size+1)) #[] #[]]},W1,gf,
  #[.func (.yield (w.heap.size+1)) #[] #[]]++lb,W1,?_,?_,?_,?_,fun _=>h1,?_⟩
 ·rw[←hW1];exact run_enterLoop_outer _ _ _ _ _
 ·simp only[resolve,hg]
  simp[go_sem]
 ·intro f' hf';simp[Target.leads] at hf';subst hf';exact hFg
 ·simp[invoke,go_sem,eg]
 ·let Two:Loop→World→Prop:=fun r W=>W.heap[w.heap.size+1]? =some (.loop r)∧W.heap[w.heap.size]? =some (.deferred (some []))
  have two_step: ∀{r A C row},Two r A→A.grownBy C row→(∀q,row=some q→q=Bn)→Two r C:=fun {r A C row} h hgr hq=>by
   obtain⟨hl,hd⟩:=h
   refine⟨?_,?_⟩
   ·exact(hgr.block _ (Array.getElem?_eq_some_iff.1 hl).1 (fun e=>by have:=hq _ e.symm;omega)).trans hl
   ·exact(hgr.block _ (Array.getElem?_eq_some_iff.1 hd).1 (fun e=>by have:=hq _ e.symm;omega)).trans hd
  refine(hseq W1 bel1 i1 (w.heap.size+1) (fun s W=>I s W∧Two (rec_ .ready none) W) (fun W=> ∃c,Ix c W∧Two (rec_ .done (some c)) W)
   (fun s A C row h hgr hq=>⟨hI s A C row h.1 hgr (fun r e=>.inl (hq r e)),two_step h.2 hgr hq⟩) ?_ ⟨i1,atL,atD⟩).mono ?_
  ·-- one round
   rintro s args s' W ⟨hi,hl,hd⟩ hG
   have hlt:w.heap.size+1<W.heap.size:=(Array.getElem?_eq_some_iff.1 hl).1
   refine⟨fn,_,assign,body,run_yield (P:=P) (args:=args) hl (hps _ _ _ _ hG),roundIn_of_wpIn hfn (wpIn_mono (hassign _ s args s' W (by omega) hlt hi hG) ?_)⟩
   rintro e a1 W2 hp
   cases e with
   |normal=>
    obtain⟨ko,rk,hax⟩:=hp
    have hl2:=ko.same _ _ hl rfl
    have hd2:=ko.same _ _ hd rfl
    refine⟨_,run_beginRound hl2 rfl,?_⟩
    have hlt2:w.heap.size+1<W2.heap.size:=(Array.getElem?_eq_some_iff.1 hl2).1
    have busy:=World.putObj_heap_same (w:=W2) (o:=.loop {rec_ .ready none with state:=.busy}) hlt2
    have dfr:(W2.putObj (w.heap.size+1) (.loop {rec_ .ready none with state:=.busy})).heap[w.heap.size]? =some (.deferred (some [])):=(World.putObj_heap_other (by omega)).trans hd2
    have k2:RKeep Bn n0 W2 (W2.putObj (w.heap.size+1) (.loop {rec_ .ready none with state:=.busy})):=RKeep.putObj _ _ _ (by omega) (by omega)
    refine wpIn_mono (hbody (w.heap.size+1) s args s' a1 _ (turn _ (hAx s args s' a1) _ _ _ hax hl2)) ?_
    have close: ∀(jump:Option Code) (W3:World),KeepsOthers (W2.putObj (w.heap.size+1) (.loop {rec_ .ready none with state:=.busy})) W3→
      (Instr.endRound (w.heap.size+1) jump).run P W3=.ok (.bool jump.isNone) (W3.putObj (w.heap.size+1) (.loop (rec_ (if jump.isNone then .ready else .done) jump)))∧
      W3.heap[w.heap.size+1]? =some (.loop {rec_ .ready none with state:=.busy})∧Two (rec_ (if jump.isNone then .ready else .done) jump) (W3.putObj (w.heap.size+1) (.loop (rec_ (if jump.isNone then .ready else .done) jump))):=fun jump W3 k3=>by
     have hl3:=k3.same _ _ busy rfl
     exact⟨run_endRound (P:=P) jump hl3,hl3,World.putObj_heap_same (Array.getElem?_eq_some_iff.1 hl3).1,(World.putObj_heap_other (by omega)).trans (k3.same _ _ dfr rfl)⟩
    rintro e a3 W3 hp
    cases e with
    |normal=>
     obtain⟨k3,rk3,hi3⟩:=hp
     obtain⟨hr,hl3,ht⟩:=close none W3 k3
     exact⟨_,_,hr,.inl ⟨rfl,⟨turn _ (hI s') _ _ _ hi3 hl3,ht⟩,(rk.trans (k2.trans rk3)).trans (RKeep.putObj _ _ _ (by omega) (by omega))⟩⟩
    |ret=>
     obtain⟨k3,hi3⟩:=hp
     obtain⟨hr,hl3,ht⟩:=close (some .ret) W3 k3
     exact⟨_,_,hr,.inr ⟨rfl,.ret,turn _ (hIx _) _ _ _ hi3 hl3,ht⟩⟩
    |exit id=>
     obtain⟨k3,hi3⟩:=hp
     obtain⟨hr,hl3,ht⟩:=close (some (.exit id)) W3 k3
     exact⟨_,_,hr,.inr ⟨rfl,.exit id,turn _ (hIx _) _ _ _ hi3 hl3,ht⟩⟩
    |goto t=>
     obtain⟨k3,hi3⟩:=hp
     obtain⟨hr,hl3,ht⟩:=close (some (.goto t)) W3 k3
     exact⟨_,_,hr,.inr ⟨rfl,.goto t,turn _ (hIx _) _ _ _ hi3 hl3,ht⟩⟩
    |panic ch=>exact hp.elim
    |outgrown=>exact hp.elim
   |ret=>exact hp.elim
   |exit id=>exact hp.elim
   |goto t=>exact hp.elim
   |panic ch=>exact hp.elim
   |outgrown=>exact hp.elim
  ·rintro e W2 ⟨⟨v,rfl⟩,(⟨s,hD,hi,hl,hd⟩|⟨c,hi,hl,hd⟩)⟩
   ·exact⟨none,_,run_endLoop (P:=P) hl (by simp[rec_]),hdone s _ hD (turn _ (hI s) _ _ _ hi hl) ((World.putObj_heap_other (by omega)).trans hd)⟩
   ·exact⟨some c,_,run_endLoop (P:=P) hl (by simp[rec_]),hstop c _ (turn _ (hIx c) _ _ _ hi hl) ((World.putObj_heap_other (by omega)).trans hd)⟩
end Go.Proofs.YtfkgmbknfnhjoaaGreat
namespace Go.Proofs.YtfkgmbknfnhjoaaGreat
open Lib (hid)
open Go.RowKit
set_option linter.unusedSimpArgs false
set_option linter.unusedVariables false
@[go_sem] theorem lt_grow_of {a x:Nat} {l:List Obj} (h:a<x):a<grow x l:=by simp only[grow];omega
@[go_sem] theorem lt_grow_of1 {a x:Nat} {l:List Obj} (h:a<x):a<grow x l+1:=by simp only[grow];omega
@[go_sem] theorem lt_grow_of2 {a x:Nat} {l:List Obj} (h:a<x):a<grow x l+1+1:=by simp only[grow];omega
@[go_sem] theorem lt_grow_of3 {a x:Nat} {l:List Obj} (h:a<x):a<grow x l+1+1+1:=by simp only[grow];omega
@[go_sem] theorem lt_grow_of4 {a x:Nat} {l:List Obj} (h:a<x):a<grow x l+1+1+1+1:=by simp only[grow];omega
@[go_sem] theorem alloc_drewN (w:World) (n:Nat) (o:Obj):(w.drewN n).alloc o=(w.alloc o).drewN n:=rfl
@[go_sem] theorem setCell_drewN (w:World) (n:Nat) (p:Addr) (v:Value):(w.drewN n).setCell p v=(w.setCell p v).drewN n:=rfl
theorem infoOpt:(Tryz.prog.info? 111).map (fun i=>(i.zero,i.size,i.bytes))=some (some (.agg #[.int .i64 0,.slice none 0 0]),2,32):=by kernel_rfl
structure Ent where
 t:Int
 d:List UInt8
 a:Option Addr
 c:Nat
def Ent.v (e:Ent):Value:=.slice e.a e.d.length e.c
def Ent.o (e:Ent):Int×List UInt8:=(e.t,e.d)
def cellsE (E:List Ent):List Value:=E.flatMap fun e=>[.int .i64 e.t,e.v]
def OwnOpts (W:World) (base:Nat) (v:Value) (E:List Ent):Prop:=
 W.ownsRow base 111 2 v E.length (cellsE E)∧ ∀e∈E,W.ownsRow base 5 1 e.v e.d.length (e.d.map bv)
def OptsAt (W:World) (B:Nat) (A:Option Addr) (E:List Ent):Prop:=
 At W B A (cellsE E)∧ ∀e∈E,At W B e.a (e.d.map bv)∧e.d.length≤e.c
theorem cellsE_len (E:List Ent):(cellsE E).length=2*E.length:=by
 induction E with
 |nil=>rfl
 |cons e E ih=>simp only[cellsE,List.flatMap_cons,List.length_append,List.length_cons,List.length_nil] at*;omega
theorem cellsE_snoc (E:List Ent) (e:Ent):cellsE (E++[e])=cellsE E++[.int .i64 e.t,e.v]:=by simp[cellsE]
theorem cellsE_get: ∀(E:List Ent) (k:Nat) (hk:k<E.length),(cellsE E)[2*k]? =some (.int .i64 E[k].t)∧(cellsE E)[2*k+1]? =some E[k].v
 |e::E,0,_=>⟨rfl,rfl⟩
 |e::E,k+1,hk=>by
  have:=cellsE_get E k (by simpa using hk)
  have e1:cellsE (e::E)=.int .i64 e.t::e.v::cellsE E:=rfl
  rw[e1]
  have h2:2*(k+1)=2*k+1+1:=by omega
  rw[h2]
  simpa using this
theorem bv_all (l:List UInt8): ∀u∈l.map bv,u.oneCell'=true:=by
 intro u hu
 obtain⟨x,_,rfl⟩:=List.mem_map.1 hu
 rfl
theorem OptsAt.keep {W W':World} {B:Nat} {A:Option Addr} {E:List Ent} (h:OptsAt W B A E) (hb:Below B W W'):OptsAt W' B A E:=
 ⟨h.1.keep hb,fun e he=>⟨(h.2 e he).1.keep hb,(h.2 e he).2⟩⟩
theorem OptsAt.more {W:World} {B B':Nat} {A:Option Addr} {E:List Ent} (h:OptsAt W B A E) (hB:B≤B'):OptsAt W B' A E:=
 ⟨h.1.more hB,fun e he=>⟨(h.2 e he).1.more hB,(h.2 e he).2⟩⟩
theorem OwnOpts.at {W:World} {base:Nat} {A:Option Addr} {n c:Nat} {E:List Ent} (h:OwnOpts W base (.slice A n c) E):OptsAt W W.heap.size A E:=by
 refine⟨?_,fun e he=>?_⟩
 ·have:=h.1
  obtain⟨A',c',hv,-,-⟩:=ownsRow_form this
  cases hv
  exact At.of_own this
 ·have:=h.2 e he
  obtain⟨A',c',hv,hc,-⟩:=ownsRow_form this
  cases hv
  exact⟨At.of_own this,hc⟩
theorem OptsAt.get {W:World} {B:Nat} {A:Option Addr} {E:List Ent} (h:OptsAt W B A E) {k:Nat} (hk:k<E.length):
  ∃b o,A=some ⟨b,o,none⟩∧b<B∧W.cell? ⟨b,o+k*2,none⟩=some (.int .i64 E[k].t)∧W.cell? ⟨b,o+k*2+1,none⟩=some E[k].v:=by
 obtain⟨b,o,hA,hB,hc⟩:=h.1.get (by rw[cellsE_len];omega)
 obtain⟨h0,h1⟩:=cellsE_get E k hk
 exact⟨b,o,hA,hB,by have:=hc _ _ h0;rwa [show o+2*k=o+k*2 by omega] at this,by have:=hc _ _ h1;rwa [show o+(2*k+1)=o+k*2+1 by omega] at this⟩
theorem own_type {w:World} {base:Nat} {e:TypeId} {size n:Nat} {v:Value} {xs:List Value} (h:w.ownsRow base e size v n xs) {k:Nat} (hk:v.ownBlock=some k): ∃cur,w.heap[k]? =some (.cells cur e (0,0)):=by
 rcases h.2 with⟨rfl,_⟩|⟨g,cap,cur,rfl,_,hh,_⟩
 ·cases hk
 ·simp only[Value.ownBlock,Option.some.injEq] at hk;subst hk;exact⟨cur,hh⟩
theorem own_stays {A C:World} {base:Nat} {e:TypeId} {size n:Nat} {v:Value} {xs:List Value} {row:Option Nat} (h:A.ownsRow base e size v n xs) (hg:A.grownBy C row)
  (hr: ∀r,row=some r→r<base∨(∃o:Obj,A.heap[r]? =some o∧o.isCells=false)∨(∃cur e',A.heap[r]? =some (.cells cur e' (0,0))∧e'≠e)):C.ownsRow base e size v n xs:=by
 refine own_grown h hg fun k hk hkr=>?_
 obtain⟨cur,hh⟩:=own_type h hk
 have hle:=own_le h hk
 rcases hr k hkr.symm with h1|⟨o,h1,h2⟩|⟨cur',e',h1,h2⟩
 ·omega
 ·rw[hh] at h1;cases h1;cases h2
 ·rw[hh] at h1;cases h1;exact h2 rfl
theorem OwnOpts.stays {A C:World} {base:Nat} {v:Value} {E:List Ent} {row:Option Nat} (h:OwnOpts A base v E) (hg:A.grownBy C row)
  (hr: ∀r,row=some r→r<base∨(∃o:Obj,A.heap[r]? =some o∧o.isCells=false)):OwnOpts C base v E:=
 ⟨own_stays h.1 hg fun r e=>(hr r e).imp id .inl,fun x hx=>own_stays (h.2 x hx) hg fun r e=>(hr r e).imp id .inl⟩
theorem OwnOpts.below {A C:World} {base:Nat} {v:Value} {E:List Ent} (h:OwnOpts A base v E) (hb:Below A.heap.size A C):OwnOpts C base v E:=
 ⟨own_below h.1 hb,fun x hx=>own_below (h.2 x hx) hb⟩
theorem OwnOpts.base {A:World} {b b':Nat} {v:Value} {E:List Ent} (h:OwnOpts A b v E) (hb:b'≤b):OwnOpts A b' v E:=
 ⟨own_base h.1 hb,fun x hx=>own_base (h.2 x hx) hb⟩
theorem OwnOpts.nil (A:World) (b:Nat):OwnOpts A b (.slice none 0 0) []:=⟨own_nil _ _ _ _,fun _ h=>by cases h⟩
section
variable {F:Fence} {n:Nat} {P:Program} {ops:Array Oper} {rest:List Oper} {o:Oper} {a:Act} {Q:Exit→Act→World→Prop} {w:World}
theorem wpListIn_appv (hgd:o.guard=none) (s x:Operand) (t:TypeId)
  (ho:o.op=.call {callee:=.builtin .append,args:=#[s,x],argTypes:=#[t,t]})
  (e:TypeId) (ht:P.underlying t=some (.slice e)) (z:Value) (size bytes:Nat) (hinfo:(P.info? e).map (fun i=>(i.zero,i.size,i.bytes))=some (some z,size,bytes)) (hzs:z.cells.size=size) (hsz:0<size) (hby:bytes≤256)
  (base:Nat) (v:Value) (k:Nat) (xs:List Value) (hs:a.eval s=v) (hown:w.ownsRow base e size v k xs)
  (B:Nat) (A:Option Addr) (m c:Nat) (news:List Value) (hx:a.eval x=.slice A m c) (hl:news.length=m*size) (hm:k+m≤500000000) (hr:At w B A news) (h1: ∀u∈news,u.oneCell'=true) (hbase:base≤w.heap.size)
  (h: ∀A' c' w',w'.ownsRow base e size (.slice A' (k+m) c') (k+m) (xs++news)→k+m≤c'→w.grownBy w' v.ownBlock→wpListIn F n P ops Q rest (a.put o.dst (.slice A' (k+m) c')) w'):
  wpListIn F n P ops Q (o::rest) a w:=by
 obtain⟨i0,hi,hz0,hz1,hz2⟩:=info_parts hinfo
 refine wpListIn_plain hgd fun K hK'=>?_
 obtain⟨v',w',hrun,h2,h3,-⟩:=run_app (P:=P) base t o.type e i0 z size bytes ht hi hz0 hz1 hz2 hzs hsz _ k xs hown B A m c news hl hr h1 (by unfold maxLen;omega)
  (by have:(k+m)*bytes≤500000000*256:=Nat.mul_le_mul hm hby;omega) hbase
 obtain⟨A',c',rfl,hc',-⟩:=ownsRow_form h2
 unfold Oper.wpIn
 refine⟨?_,?_⟩
 ·simp[Oper.about,ho,resolve,Target.leads,Sem.run_pure]
 ·rw[Oper.semAt_plain F _ _ (by rw[ho];intro c hc';cases hc')]
  simp[execOp,ho,resolve,invoke,builtin,hs,hx,hrun,Result.andThen]
  exact hK' _ _ (h A' c' w' h2 hc' h3)
end
end Go.Proofs.YtfkgmbknfnhjoaaGreat
namespace Go.Proofs.YtfkgmbknfnhjoaaGreat
open Lib (hid)
open Go.ChangeShapes Go.WideShapes Go.ChangeAt Go.RowKit Go.Joins Go.Deep
set_option linter.unusedSimpArgs false
set_option linter.unusedVariables false
set_option maxRecDepth 100000
theorem OptsAt.mk {W:World} {B b o:Nat} {E:List Ent} (hb:b<B)
  (h: ∀(k:Nat) (hk:k<E.length),W.cell? ⟨b,o+k*2,none⟩=some (.int .i64 E[k].t)∧W.cell? ⟨b,o+k*2+1,none⟩=some E[k].v)
  (hd: ∀e∈E,At W B e.a (e.d.map bv)∧e.d.length≤e.c):OptsAt W B (some ⟨b,o,none⟩) E:=by
 refine⟨.inr ⟨b,o,rfl,hb,fun j u hu=>?_⟩,hd⟩
 have hj:j<2*E.length:=by
  have:=(List.getElem?_eq_some_iff.1 hu).1
  rwa [cellsE_len] at this
 obtain⟨g0,g1⟩:=cellsE_get E (j / 2) (by omega)
 obtain⟨h0,h1⟩:=h (j / 2) (by omega)
 rcases Nat.mod_two_eq_zero_or_one j with e|e
 ·have e2:2*(j / 2)=j:=by omega
  rw[e2,hu] at g0
  rw[show o+j / 2*2=o+j by omega] at h0
  rw[h0,g0]
 ·have e2:2*(j / 2)+1=j:=by omega
  rw[e2,hu] at g1
  rw[show o+j / 2*2+1=o+j by omega] at h1
  rw[h1,g1]
theorem open_opts_arg {H:Type} {enc:TypeId×Value→H} {W:World} {base:Nat} {v:Value} {d:DataW H} {p:List MemPlace} (o:Value.okWide Tryz.prog W .any base 25 v) (h:DataW.Trod enc Tryz.prog W 0 (fun _=>true) true 25 v d p):
  ∃(A:Option Addr) (n c:Nat) (E:List Ent),v=.slice A n c∧OptsAt W W.heap.size A E∧n=E.length∧n≤c∧(n:Int)≤9223372036854775807∧ ∀e∈E,(e.d.length:Int)≤9223372036854775807:=by
 obtain⟨a,len,cap,rfl⟩:=okWide_slice Tryz.underlying25 o
 obtain⟨fuel,hf⟩:=h
 rcases open_slice_pairs Tryz.underlying25 Tryz.underlying111 (by kernel_rfl) rfl rfl (by kernel_rfl) (by kernel_rfl) hf with⟨hcs,-⟩|⟨a',len',cap',m,n,V0,V1,D0,D1,P0,P1,hcs,-,hl,hm,hmm,-,hi⟩
 ·simp only[Value.cells,List.cons.injEq,and_true,Value.slice.injEq] at hcs
  obtain⟨rfl,rfl,rfl⟩:=hcs
  exact⟨none,0,0,[],rfl,⟨At.nil _ _ _,fun _ h=>by cases h⟩,rfl,Nat.le_refl _,by omega,fun _ h=>by cases h⟩
 ·simp only[Value.cells,List.cons.injEq,and_true,Value.slice.injEq] at hcs
  obtain⟨rfl,rfl,rfl⟩:=hcs
  simp only[if_true] at hmm
  subst hmm
  unfold maxLen at hm
  have each: ∀i,i<m→ ∃e:Ent,V0 i=.int .i64 e.t∧V1 i=e.v∧At W W.heap.size e.a (e.d.map bv)∧e.d.length≤e.c∧(e.d.length:Int)≤9223372036854775807:=by
   intro i him
   obtain⟨-,-,g0,g1⟩:=hi i him
   obtain⟨t,e0,-⟩:=DataW.trod_int Tryz.underlying3 g0
   obtain⟨A,l1,c,l,hcs,hA,hl1,hc,hb⟩:=open_bytes g1
   simp at e0 hcs
   subst hl1
   exact⟨⟨t,l,A,c⟩,e0,hcs,hA,hc,hb⟩
  have:Inhabited Ent:=⟨⟨0,[],none,0⟩⟩
  obtain⟨y,hy⟩:=choose_lt each
  rcases Nat.eq_zero_or_pos len with h0|h0
  ·subst h0
   exact⟨_,0,m,[],rfl,⟨At.nil _ _ _,fun _ h=>by cases h⟩,rfl,Nat.zero_le _,by omega,fun _ h=>by cases h⟩
  ·have hc0:=(hi 0 (by omega)).1
   obtain⟨b,off,spot⟩:=a'
   have hspot:spot=none:=by simpa[Addr.add] using World.cell?_spot hc0
   subst hspot
   have hlt:b<W.heap.size:=by
    have:=World.block_lt_of_cell? W _ hc0
    simpa[Addr.add] using this
   refine⟨some ⟨b,off,none⟩,len,m,(List.range len).map y,rfl,OptsAt.mk hlt (fun k hk=>?_) (fun e he=>?_),by simp,hl,by omega,fun e he=>?_⟩
   ·have hk':k<m:=by simp at hk;omega
    obtain⟨c0,c1,-,-⟩:=hi k hk'
    obtain⟨e0,e1,-⟩:=hy k hk'
    rw[add_none] at c0 c1
    simp only[List.getElem_map,List.getElem_range]
    rw[c0,←Nat.add_assoc] at*
    exact⟨by rw[e0],by rw[c1,e1]⟩
   ·simp only[List.mem_map,List.mem_range] at he
    obtain⟨k,hk,rfl⟩:=he
    exact⟨(hy k (by omega)).2.2.1,(hy k (by omega)).2.2.2.1⟩
   ·simp only[List.mem_map,List.mem_range] at he
    obtain⟨k,hk,rfl⟩:=he
    exact(hy k (by omega)).2.2.2.2
end Go.Proofs.YtfkgmbknfnhjoaaGreat
namespace Go.Proofs.YtfkgmbknfnhjoaaGreat
open Lib (hid)
open Go.RowKit
set_option linter.unusedSimpArgs false
set_option linter.unusedVariables false
structure Mid (B1 B2:Nat) (W W':World):Prop where
 below:Below B1 W W'
 size:W'.heap.size=W.heap.size
 high: ∀k,B2≤k→W'.heap[k]? =W.heap[k]?
def ByteRow (W:World) (base:Nat) (v:Value) (n:Nat):Prop:= ∃l:List UInt8,W.ownsRow base 5 1 v n (l.map bv)
structure SofT (W:World) (base:Nat) (A:Option Addr) (E:List Ent):Prop where
 row:E=[]∨ ∃(g:Nat) (cur:Array Value),A=some ⟨g,0,none⟩∧base≤g∧W.heap[g]? =some (.cells cur 111 (0,0))∧2*E.length≤cur.size∧ ∀k (hk:k<E.length),cur[2*k+1]? =some E[k].v
 data: ∀e∈E,ByteRow W base e.v e.d.length
end Go.Proofs.YtfkgmbknfnhjoaaGreat
