/- A -/
import Derived.WalkKit
import Derived.WalkSpells
import Derived.WalkLawsBesides
import Derived.Deep.QuietTactic
import Derived.BigQuiet
import Derived.Deep.RegionHeld3
import Derived.Deep.DeepCutAuto
import Derived.Lib.Hide
import Derived.Maps.AppendAt
import Derived.Laws.BytesString
import Derived.Laws.Cells
import Derived.Laws.BitsAllLaws
import Derived.Laws.BitsLemmas
import Derived.Handy
import Derived.ProofKit
import Derived.OpenShut
import Derived.Lib.SmallJoins
import Derived.Deep.Slices
import Derived.Deep.Fields
import Derived.ChangeSame
import Derived.RangeFuncNested
import Derived.RangeFuncBound
import Derived.RangeFuncCalls
import Derived.RangeFuncLeaves
import Derived.Shelf.Abstract
import Derived.Shelf.RegionOpen
import Derived.OwnWalkIn
import Derived.TacticsInMore
import Derived.LoopNIn
import Derived.LoopIn
import Derived.Laws.OwnMore
import Derived.Deep.SlicePairs
import Derived.Laws.Rows
import Derived.Test.YtfkgmbknfnhjoaaGreatRows
set_option linter.all false
set_option maxHeartbeats 4000000
namespace Go.Proofs.YtfkgmbknfnhjoaaGreat
theorem aaB {Z} (l:List Z) (i:Nat) (a:Z):l.toArray.setIfInBounds i a=(l.set i a).toArray:=List.setIfInBounds_toArray l i a
theorem aaC {Z} {x a:Z} {l:List Z}:(x::l).set 0 a=a::l:=rfl
theorem aaD {Z} {x a:Z} {l:List Z} {n:Nat}:(x::l).set (n+1) a=x::l.set n a:=rfl
theorem aaE (n:Nat):n≤n:=Nat.le_refl n
theorem aaF {n m k:Nat}:n≤m→m≤k→n≤k:=Nat.le_trans
open Lib (hid)
open Go.RowKit
def ext (w:World) (xs:List Obj) (d:Nat):World:={w with heap:=w.heap++xs.toArray,drawn:=d}
def grow (a:Nat) (xs:List Obj):Nat:=a+xs.length
@[go_sem] theorem Vp (a:Nat) (xs:List Obj):grow (a+1) xs=grow a xs+1:=by simp only[grow];omega
@[go_sem] theorem P7 (x:Nat) (l0:List Obj):x≤(grow x l0):=by simp only[grow];omega
@[go_sem] theorem P9 (x:Nat) (l0:List Obj):x≤(grow x l0)+1:=by simp only[grow];omega
@[go_sem] theorem Rj (x:Nat) (l0:List Obj):x<(grow x l0)+1:=by simp only[grow];omega
@[go_sem] theorem P_ (x:Nat) (l0:List Obj):x≤(grow x l0)+1+1:=by simp only[grow];omega
@[go_sem] theorem Rn (x:Nat) (l0:List Obj):x<(grow x l0)+1+1:=by simp only[grow];omega
@[go_sem] theorem LC (x:Nat) (l0:List Obj):x≤(grow x l0)+2:=by simp only[grow];omega
@[go_sem] theorem MU (x:Nat) (l0:List Obj):x<(grow x l0)+2:=by simp only[grow];omega
@[go_sem] theorem Qa (x:Nat) (l0:List Obj):x≤(grow x l0)+1+1+1:=by simp only[grow];omega
@[go_sem] theorem Ro (x:Nat) (l0:List Obj):x<(grow x l0)+1+1+1:=by simp only[grow];omega
@[go_sem] theorem LD (x:Nat) (l0:List Obj):x≤(grow x l0)+3:=by simp only[grow];omega
@[go_sem] theorem MV (x:Nat) (l0:List Obj):x<(grow x l0)+3:=by simp only[grow];omega
@[go_sem] theorem Qb (x:Nat) (l0:List Obj):x≤(grow x l0)+1+1+1+1:=by simp only[grow];omega
@[go_sem] theorem Rp (x:Nat) (l0:List Obj):x<(grow x l0)+1+1+1+1:=by simp only[grow];omega
@[go_sem] theorem LG (x:Nat) (l0:List Obj):x≤(grow x l0)+4:=by simp only[grow];omega
@[go_sem] theorem MW (x:Nat) (l0:List Obj):x<(grow x l0)+4:=by simp only[grow];omega
@[go_sem] theorem Qc (x:Nat) (l0:List Obj):x≤(grow x l0)+1+1+1+1+1:=by simp only[grow];omega
@[go_sem] theorem Rq (x:Nat) (l0:List Obj):x<(grow x l0)+1+1+1+1+1:=by simp only[grow];omega
@[go_sem] theorem LH (x:Nat) (l0:List Obj):x≤(grow x l0)+5:=by simp only[grow];omega
@[go_sem] theorem MX (x:Nat) (l0:List Obj):x<(grow x l0)+5:=by simp only[grow];omega
@[go_sem] theorem Qd (x:Nat) (l0:List Obj):x≤(grow x l0)+1+1+1+1+1+1:=by simp only[grow];omega
@[go_sem] theorem Rs (x:Nat) (l0:List Obj):x<(grow x l0)+1+1+1+1+1+1:=by simp only[grow];omega
@[go_sem] theorem LJ (x:Nat) (l0:List Obj):x≤(grow x l0)+6:=by simp only[grow];omega
@[go_sem] theorem MZ (x:Nat) (l0:List Obj):x<(grow x l0)+6:=by simp only[grow];omega
@[go_sem] theorem Qe (x:Nat) (l0 l1:List Obj):x≤(grow (grow x l0) l1):=by simp only[grow];omega
@[go_sem] theorem Qf (x:Nat) (l0 l1:List Obj):x≤(grow (grow x l0) l1)+1:=by simp only[grow];omega
@[go_sem] theorem Rt (x:Nat) (l0 l1:List Obj):x<(grow (grow x l0) l1)+1:=by simp only[grow];omega
@[go_sem] theorem Qg (x:Nat) (l0 l1:List Obj):x≤(grow (grow x l0) l1)+1+1:=by simp only[grow];omega
@[go_sem] theorem Ru (x:Nat) (l0 l1:List Obj):x<(grow (grow x l0) l1)+1+1:=by simp only[grow];omega
@[go_sem] theorem LK (x:Nat) (l0 l1:List Obj):x≤(grow (grow x l0) l1)+2:=by simp only[grow];omega
@[go_sem] theorem M0 (x:Nat) (l0 l1:List Obj):x<(grow (grow x l0) l1)+2:=by simp only[grow];omega
@[go_sem] theorem Qh (x:Nat) (l0 l1:List Obj):x≤(grow (grow x l0) l1)+1+1+1:=by simp only[grow];omega
@[go_sem] theorem Rv (x:Nat) (l0 l1:List Obj):x<(grow (grow x l0) l1)+1+1+1:=by simp only[grow];omega
@[go_sem] theorem LM (x:Nat) (l0 l1:List Obj):x≤(grow (grow x l0) l1)+3:=by simp only[grow];omega
@[go_sem] theorem M4 (x:Nat) (l0 l1:List Obj):x<(grow (grow x l0) l1)+3:=by simp only[grow];omega
@[go_sem] theorem Qi (x:Nat) (l0 l1:List Obj):x≤(grow (grow x l0) l1)+1+1+1+1:=by simp only[grow];omega
@[go_sem] theorem Rw (x:Nat) (l0 l1:List Obj):x<(grow (grow x l0) l1)+1+1+1+1:=by simp only[grow];omega
@[go_sem] theorem LP (x:Nat) (l0 l1:List Obj):x≤(grow (grow x l0) l1)+4:=by simp only[grow];omega
@[go_sem] theorem M5 (x:Nat) (l0 l1:List Obj):x<(grow (grow x l0) l1)+4:=by simp only[grow];omega
@[go_sem] theorem Qj (x:Nat) (l0 l1:List Obj):x≤(grow (grow x l0) l1)+1+1+1+1+1:=by simp only[grow];omega
@[go_sem] theorem Rx (x:Nat) (l0 l1:List Obj):x<(grow (grow x l0) l1)+1+1+1+1+1:=by simp only[grow];omega
@[go_sem] theorem LQ (x:Nat) (l0 l1:List Obj):x≤(grow (grow x l0) l1)+5:=by simp only[grow];omega
@[go_sem] theorem M6 (x:Nat) (l0 l1:List Obj):x<(grow (grow x l0) l1)+5:=by simp only[grow];omega
@[go_sem] theorem Qk (x:Nat) (l0 l1:List Obj):x≤(grow (grow x l0) l1)+1+1+1+1+1+1:=by simp only[grow];omega
@[go_sem] theorem Ry (x:Nat) (l0 l1:List Obj):x<(grow (grow x l0) l1)+1+1+1+1+1+1:=by simp only[grow];omega
@[go_sem] theorem LU (x:Nat) (l0 l1:List Obj):x≤(grow (grow x l0) l1)+6:=by simp only[grow];omega
@[go_sem] theorem M7 (x:Nat) (l0 l1:List Obj):x<(grow (grow x l0) l1)+6:=by simp only[grow];omega
@[go_sem] theorem Ql (x:Nat) (l0 l1 l2:List Obj):x≤(grow (grow (grow x l0) l1) l2):=by simp only[grow];omega
@[go_sem] theorem Qm (x:Nat) (l0 l1 l2:List Obj):x≤(grow (grow (grow x l0) l1) l2)+1:=by simp only[grow];omega
@[go_sem] theorem Rz (x:Nat) (l0 l1 l2:List Obj):x<(grow (grow (grow x l0) l1) l2)+1:=by simp only[grow];omega
@[go_sem] theorem Qn (x:Nat) (l0 l1 l2:List Obj):x≤(grow (grow (grow x l0) l1) l2)+1+1:=by simp only[grow];omega
@[go_sem] theorem RA (x:Nat) (l0 l1 l2:List Obj):x<(grow (grow (grow x l0) l1) l2)+1+1:=by simp only[grow];omega
@[go_sem] theorem LV (x:Nat) (l0 l1 l2:List Obj):x≤(grow (grow (grow x l0) l1) l2)+2:=by simp only[grow];omega
@[go_sem] theorem M8 (x:Nat) (l0 l1 l2:List Obj):x<(grow (grow (grow x l0) l1) l2)+2:=by simp only[grow];omega
@[go_sem] theorem Qo (x:Nat) (l0 l1 l2:List Obj):x≤(grow (grow (grow x l0) l1) l2)+1+1+1:=by simp only[grow];omega
@[go_sem] theorem RD (x:Nat) (l0 l1 l2:List Obj):x<(grow (grow (grow x l0) l1) l2)+1+1+1:=by simp only[grow];omega
@[go_sem] theorem LW (x:Nat) (l0 l1 l2:List Obj):x≤(grow (grow (grow x l0) l1) l2)+3:=by simp only[grow];omega
@[go_sem] theorem M9 (x:Nat) (l0 l1 l2:List Obj):x<(grow (grow (grow x l0) l1) l2)+3:=by simp only[grow];omega
@[go_sem] theorem Qp (x:Nat) (l0 l1 l2:List Obj):x≤(grow (grow (grow x l0) l1) l2)+1+1+1+1:=by simp only[grow];omega
@[go_sem] theorem RF (x:Nat) (l0 l1 l2:List Obj):x<(grow (grow (grow x l0) l1) l2)+1+1+1+1:=by simp only[grow];omega
@[go_sem] theorem LX (x:Nat) (l0 l1 l2:List Obj):x≤(grow (grow (grow x l0) l1) l2)+4:=by simp only[grow];omega
@[go_sem] theorem M_ (x:Nat) (l0 l1 l2:List Obj):x<(grow (grow (grow x l0) l1) l2)+4:=by simp only[grow];omega
@[go_sem] theorem Qq (x:Nat) (l0 l1 l2:List Obj):x≤(grow (grow (grow x l0) l1) l2)+1+1+1+1+1:=by simp only[grow];omega
@[go_sem] theorem RG (x:Nat) (l0 l1 l2:List Obj):x<(grow (grow (grow x l0) l1) l2)+1+1+1+1+1:=by simp only[grow];omega
@[go_sem] theorem LY (x:Nat) (l0 l1 l2:List Obj):x≤(grow (grow (grow x l0) l1) l2)+5:=by simp only[grow];omega
@[go_sem] theorem Na (x:Nat) (l0 l1 l2:List Obj):x<(grow (grow (grow x l0) l1) l2)+5:=by simp only[grow];omega
@[go_sem] theorem Qr (x:Nat) (l0 l1 l2:List Obj):x≤(grow (grow (grow x l0) l1) l2)+1+1+1+1+1+1:=by simp only[grow];omega
@[go_sem] theorem RH (x:Nat) (l0 l1 l2:List Obj):x<(grow (grow (grow x l0) l1) l2)+1+1+1+1+1+1:=by simp only[grow];omega
@[go_sem] theorem LZ (x:Nat) (l0 l1 l2:List Obj):x≤(grow (grow (grow x l0) l1) l2)+6:=by simp only[grow];omega
@[go_sem] theorem Nb (x:Nat) (l0 l1 l2:List Obj):x<(grow (grow (grow x l0) l1) l2)+6:=by simp only[grow];omega
@[go_sem] theorem Qs (x:Nat) (l0 l1 l2 l3:List Obj):x≤(grow (grow (grow (grow x l0) l1) l2) l3):=by simp only[grow];omega
@[go_sem] theorem Qt (x:Nat) (l0 l1 l2 l3:List Obj):x≤(grow (grow (grow (grow x l0) l1) l2) l3)+1:=by simp only[grow];omega
@[go_sem] theorem RI (x:Nat) (l0 l1 l2 l3:List Obj):x<(grow (grow (grow (grow x l0) l1) l2) l3)+1:=by simp only[grow];omega
@[go_sem] theorem Qu (x:Nat) (l0 l1 l2 l3:List Obj):x≤(grow (grow (grow (grow x l0) l1) l2) l3)+1+1:=by simp only[grow];omega
@[go_sem] theorem RJ (x:Nat) (l0 l1 l2 l3:List Obj):x<(grow (grow (grow (grow x l0) l1) l2) l3)+1+1:=by simp only[grow];omega
@[go_sem] theorem L6 (x:Nat) (l0 l1 l2 l3:List Obj):x≤(grow (grow (grow (grow x l0) l1) l2) l3)+2:=by simp only[grow];omega
@[go_sem] theorem Nc (x:Nat) (l0 l1 l2 l3:List Obj):x<(grow (grow (grow (grow x l0) l1) l2) l3)+2:=by simp only[grow];omega
@[go_sem] theorem Qv (x:Nat) (l0 l1 l2 l3:List Obj):x≤(grow (grow (grow (grow x l0) l1) l2) l3)+1+1+1:=by simp only[grow];omega
@[go_sem] theorem RL (x:Nat) (l0 l1 l2 l3:List Obj):x<(grow (grow (grow (grow x l0) l1) l2) l3)+1+1+1:=by simp only[grow];omega
@[go_sem] theorem L8 (x:Nat) (l0 l1 l2 l3:List Obj):x≤(grow (grow (grow (grow x l0) l1) l2) l3)+3:=by simp only[grow];omega
@[go_sem] theorem Nf (x:Nat) (l0 l1 l2 l3:List Obj):x<(grow (grow (grow (grow x l0) l1) l2) l3)+3:=by simp only[grow];omega
@[go_sem] theorem Qw (x:Nat) (l0 l1 l2 l3:List Obj):x≤(grow (grow (grow (grow x l0) l1) l2) l3)+1+1+1+1:=by simp only[grow];omega
@[go_sem] theorem RN (x:Nat) (l0 l1 l2 l3:List Obj):x<(grow (grow (grow (grow x l0) l1) l2) l3)+1+1+1+1:=by simp only[grow];omega
@[go_sem] theorem L9 (x:Nat) (l0 l1 l2 l3:List Obj):x≤(grow (grow (grow (grow x l0) l1) l2) l3)+4:=by simp only[grow];omega
@[go_sem] theorem Ng (x:Nat) (l0 l1 l2 l3:List Obj):x<(grow (grow (grow (grow x l0) l1) l2) l3)+4:=by simp only[grow];omega
@[go_sem] theorem Qx (x:Nat) (l0 l1 l2 l3:List Obj):x≤(grow (grow (grow (grow x l0) l1) l2) l3)+1+1+1+1+1:=by simp only[grow];omega
@[go_sem] theorem RO (x:Nat) (l0 l1 l2 l3:List Obj):x<(grow (grow (grow (grow x l0) l1) l2) l3)+1+1+1+1+1:=by simp only[grow];omega
@[go_sem] theorem L_ (x:Nat) (l0 l1 l2 l3:List Obj):x≤(grow (grow (grow (grow x l0) l1) l2) l3)+5:=by simp only[grow];omega
@[go_sem] theorem Nh (x:Nat) (l0 l1 l2 l3:List Obj):x<(grow (grow (grow (grow x l0) l1) l2) l3)+5:=by simp only[grow];omega
@[go_sem] theorem Qy (x:Nat) (l0 l1 l2 l3:List Obj):x≤(grow (grow (grow (grow x l0) l1) l2) l3)+1+1+1+1+1+1:=by simp only[grow];omega
@[go_sem] theorem RP (x:Nat) (l0 l1 l2 l3:List Obj):x<(grow (grow (grow (grow x l0) l1) l2) l3)+1+1+1+1+1+1:=by simp only[grow];omega
@[go_sem] theorem Ma (x:Nat) (l0 l1 l2 l3:List Obj):x≤(grow (grow (grow (grow x l0) l1) l2) l3)+6:=by simp only[grow];omega
@[go_sem] theorem Ni (x:Nat) (l0 l1 l2 l3:List Obj):x<(grow (grow (grow (grow x l0) l1) l2) l3)+6:=by simp only[grow];omega
@[go_sem] theorem Qz (x:Nat) (l0 l1 l2 l3 l4:List Obj):x≤(grow (grow (grow (grow (grow x l0) l1) l2) l3) l4):=by simp only[grow];omega
@[go_sem] theorem QA (x:Nat) (l0 l1 l2 l3 l4:List Obj):x≤(grow (grow (grow (grow (grow x l0) l1) l2) l3) l4)+1:=by simp only[grow];omega
@[go_sem] theorem RQ (x:Nat) (l0 l1 l2 l3 l4:List Obj):x<(grow (grow (grow (grow (grow x l0) l1) l2) l3) l4)+1:=by simp only[grow];omega
@[go_sem] theorem QB (x:Nat) (l0 l1 l2 l3 l4:List Obj):x≤(grow (grow (grow (grow (grow x l0) l1) l2) l3) l4)+1+1:=by simp only[grow];omega
@[go_sem] theorem RS (x:Nat) (l0 l1 l2 l3 l4:List Obj):x<(grow (grow (grow (grow (grow x l0) l1) l2) l3) l4)+1+1:=by simp only[grow];omega
@[go_sem] theorem Mc (x:Nat) (l0 l1 l2 l3 l4:List Obj):x≤(grow (grow (grow (grow (grow x l0) l1) l2) l3) l4)+2:=by simp only[grow];omega
@[go_sem] theorem Nj (x:Nat) (l0 l1 l2 l3 l4:List Obj):x<(grow (grow (grow (grow (grow x l0) l1) l2) l3) l4)+2:=by simp only[grow];omega
@[go_sem] theorem QC (x:Nat) (l0 l1 l2 l3 l4:List Obj):x≤(grow (grow (grow (grow (grow x l0) l1) l2) l3) l4)+1+1+1:=by simp only[grow];omega
@[go_sem] theorem RU (x:Nat) (l0 l1 l2 l3 l4:List Obj):x<(grow (grow (grow (grow (grow x l0) l1) l2) l3) l4)+1+1+1:=by simp only[grow];omega
@[go_sem] theorem Md (x:Nat) (l0 l1 l2 l3 l4:List Obj):x≤(grow (grow (grow (grow (grow x l0) l1) l2) l3) l4)+3:=by simp only[grow];omega
@[go_sem] theorem Nk (x:Nat) (l0 l1 l2 l3 l4:List Obj):x<(grow (grow (grow (grow (grow x l0) l1) l2) l3) l4)+3:=by simp only[grow];omega
@[go_sem] theorem QD (x:Nat) (l0 l1 l2 l3 l4:List Obj):x≤(grow (grow (grow (grow (grow x l0) l1) l2) l3) l4)+1+1+1+1:=by simp only[grow];omega
@[go_sem] theorem RV (x:Nat) (l0 l1 l2 l3 l4:List Obj):x<(grow (grow (grow (grow (grow x l0) l1) l2) l3) l4)+1+1+1+1:=by simp only[grow];omega
@[go_sem] theorem Me (x:Nat) (l0 l1 l2 l3 l4:List Obj):x≤(grow (grow (grow (grow (grow x l0) l1) l2) l3) l4)+4:=by simp only[grow];omega
@[go_sem] theorem Nl (x:Nat) (l0 l1 l2 l3 l4:List Obj):x<(grow (grow (grow (grow (grow x l0) l1) l2) l3) l4)+4:=by simp only[grow];omega
@[go_sem] theorem QE (x:Nat) (l0 l1 l2 l3 l4:List Obj):x≤(grow (grow (grow (grow (grow x l0) l1) l2) l3) l4)+1+1+1+1+1:=by simp only[grow];omega
@[go_sem] theorem RX (x:Nat) (l0 l1 l2 l3 l4:List Obj):x<(grow (grow (grow (grow (grow x l0) l1) l2) l3) l4)+1+1+1+1+1:=by simp only[grow];omega
@[go_sem] theorem Mf (x:Nat) (l0 l1 l2 l3 l4:List Obj):x≤(grow (grow (grow (grow (grow x l0) l1) l2) l3) l4)+5:=by simp only[grow];omega
@[go_sem] theorem Nn (x:Nat) (l0 l1 l2 l3 l4:List Obj):x<(grow (grow (grow (grow (grow x l0) l1) l2) l3) l4)+5:=by simp only[grow];omega
@[go_sem] theorem QF (x:Nat) (l0 l1 l2 l3 l4:List Obj):x≤(grow (grow (grow (grow (grow x l0) l1) l2) l3) l4)+1+1+1+1+1+1:=by simp only[grow];omega
@[go_sem] theorem RY (x:Nat) (l0 l1 l2 l3 l4:List Obj):x<(grow (grow (grow (grow (grow x l0) l1) l2) l3) l4)+1+1+1+1+1+1:=by simp only[grow];omega
@[go_sem] theorem Mg (x:Nat) (l0 l1 l2 l3 l4:List Obj):x≤(grow (grow (grow (grow (grow x l0) l1) l2) l3) l4)+6:=by simp only[grow];omega
@[go_sem] theorem Np (x:Nat) (l0 l1 l2 l3 l4:List Obj):x<(grow (grow (grow (grow (grow x l0) l1) l2) l3) l4)+6:=by simp only[grow];omega
@[go_sem] theorem QG (x:Nat) (l0 l1 l2 l3 l4 l5:List Obj):x≤(grow (grow (grow (grow (grow (grow x l0) l1) l2) l3) l4) l5):=by simp only[grow];omega
@[go_sem] theorem QI (x:Nat) (l0 l1 l2 l3 l4 l5:List Obj):x≤(grow (grow (grow (grow (grow (grow x l0) l1) l2) l3) l4) l5)+1:=by simp only[grow];omega
@[go_sem] theorem RZ (x:Nat) (l0 l1 l2 l3 l4 l5:List Obj):x<(grow (grow (grow (grow (grow (grow x l0) l1) l2) l3) l4) l5)+1:=by simp only[grow];omega
@[go_sem] theorem QJ (x:Nat) (l0 l1 l2 l3 l4 l5:List Obj):x≤(grow (grow (grow (grow (grow (grow x l0) l1) l2) l3) l4) l5)+1+1:=by simp only[grow];omega
@[go_sem] theorem R3 (x:Nat) (l0 l1 l2 l3 l4 l5:List Obj):x<(grow (grow (grow (grow (grow (grow x l0) l1) l2) l3) l4) l5)+1+1:=by simp only[grow];omega
@[go_sem] theorem Mh (x:Nat) (l0 l1 l2 l3 l4 l5:List Obj):x≤(grow (grow (grow (grow (grow (grow x l0) l1) l2) l3) l4) l5)+2:=by simp only[grow];omega
@[go_sem] theorem Nq (x:Nat) (l0 l1 l2 l3 l4 l5:List Obj):x<(grow (grow (grow (grow (grow (grow x l0) l1) l2) l3) l4) l5)+2:=by simp only[grow];omega
@[go_sem] theorem QK (x:Nat) (l0 l1 l2 l3 l4 l5:List Obj):x≤(grow (grow (grow (grow (grow (grow x l0) l1) l2) l3) l4) l5)+1+1+1:=by simp only[grow];omega
@[go_sem] theorem R4 (x:Nat) (l0 l1 l2 l3 l4 l5:List Obj):x<(grow (grow (grow (grow (grow (grow x l0) l1) l2) l3) l4) l5)+1+1+1:=by simp only[grow];omega
@[go_sem] theorem Mi (x:Nat) (l0 l1 l2 l3 l4 l5:List Obj):x≤(grow (grow (grow (grow (grow (grow x l0) l1) l2) l3) l4) l5)+3:=by simp only[grow];omega
@[go_sem] theorem Nr (x:Nat) (l0 l1 l2 l3 l4 l5:List Obj):x<(grow (grow (grow (grow (grow (grow x l0) l1) l2) l3) l4) l5)+3:=by simp only[grow];omega
@[go_sem] theorem QL (x:Nat) (l0 l1 l2 l3 l4 l5:List Obj):x≤(grow (grow (grow (grow (grow (grow x l0) l1) l2) l3) l4) l5)+1+1+1+1:=by simp only[grow];omega
@[go_sem] theorem R5 (x:Nat) (l0 l1 l2 l3 l4 l5:List Obj):x<(grow (grow (grow (grow (grow (grow x l0) l1) l2) l3) l4) l5)+1+1+1+1:=by simp only[grow];omega
@[go_sem] theorem Mj (x:Nat) (l0 l1 l2 l3 l4 l5:List Obj):x≤(grow (grow (grow (grow (grow (grow x l0) l1) l2) l3) l4) l5)+4:=by simp only[grow];omega
@[go_sem] theorem Ns (x:Nat) (l0 l1 l2 l3 l4 l5:List Obj):x<(grow (grow (grow (grow (grow (grow x l0) l1) l2) l3) l4) l5)+4:=by simp only[grow];omega
@[go_sem] theorem QM (x:Nat) (l0 l1 l2 l3 l4 l5:List Obj):x≤(grow (grow (grow (grow (grow (grow x l0) l1) l2) l3) l4) l5)+1+1+1+1+1:=by simp only[grow];omega
@[go_sem] theorem R6 (x:Nat) (l0 l1 l2 l3 l4 l5:List Obj):x<(grow (grow (grow (grow (grow (grow x l0) l1) l2) l3) l4) l5)+1+1+1+1+1:=by simp only[grow];omega
@[go_sem] theorem Mk (x:Nat) (l0 l1 l2 l3 l4 l5:List Obj):x≤(grow (grow (grow (grow (grow (grow x l0) l1) l2) l3) l4) l5)+5:=by simp only[grow];omega
@[go_sem] theorem Nt (x:Nat) (l0 l1 l2 l3 l4 l5:List Obj):x<(grow (grow (grow (grow (grow (grow x l0) l1) l2) l3) l4) l5)+5:=by simp only[grow];omega
@[go_sem] theorem QN (x:Nat) (l0 l1 l2 l3 l4 l5:List Obj):x≤(grow (grow (grow (grow (grow (grow x l0) l1) l2) l3) l4) l5)+1+1+1+1+1+1:=by simp only[grow];omega
@[go_sem] theorem R7 (x:Nat) (l0 l1 l2 l3 l4 l5:List Obj):x<(grow (grow (grow (grow (grow (grow x l0) l1) l2) l3) l4) l5)+1+1+1+1+1+1:=by simp only[grow];omega
@[go_sem] theorem Ml (x:Nat) (l0 l1 l2 l3 l4 l5:List Obj):x≤(grow (grow (grow (grow (grow (grow x l0) l1) l2) l3) l4) l5)+6:=by simp only[grow];omega
@[go_sem] theorem Nu (x:Nat) (l0 l1 l2 l3 l4 l5:List Obj):x<(grow (grow (grow (grow (grow (grow x l0) l1) l2) l3) l4) l5)+6:=by simp only[grow];omega
@[go_sem] theorem QO (x:Nat) (l0 l1 l2 l3 l4 l5 l6:List Obj):x≤(grow (grow (grow (grow (grow (grow (grow x l0) l1) l2) l3) l4) l5) l6):=by simp only[grow];omega
@[go_sem] theorem QS (x:Nat) (l0 l1 l2 l3 l4 l5 l6:List Obj):x≤(grow (grow (grow (grow (grow (grow (grow x l0) l1) l2) l3) l4) l5) l6)+1:=by simp only[grow];omega
@[go_sem] theorem R8 (x:Nat) (l0 l1 l2 l3 l4 l5 l6:List Obj):x<(grow (grow (grow (grow (grow (grow (grow x l0) l1) l2) l3) l4) l5) l6)+1:=by simp only[grow];omega
@[go_sem] theorem QT (x:Nat) (l0 l1 l2 l3 l4 l5 l6:List Obj):x≤(grow (grow (grow (grow (grow (grow (grow x l0) l1) l2) l3) l4) l5) l6)+1+1:=by simp only[grow];omega
@[go_sem] theorem R9 (x:Nat) (l0 l1 l2 l3 l4 l5 l6:List Obj):x<(grow (grow (grow (grow (grow (grow (grow x l0) l1) l2) l3) l4) l5) l6)+1+1:=by simp only[grow];omega
@[go_sem] theorem Mq (x:Nat) (l0 l1 l2 l3 l4 l5 l6:List Obj):x≤(grow (grow (grow (grow (grow (grow (grow x l0) l1) l2) l3) l4) l5) l6)+2:=by simp only[grow];omega
@[go_sem] theorem Nv (x:Nat) (l0 l1 l2 l3 l4 l5 l6:List Obj):x<(grow (grow (grow (grow (grow (grow (grow x l0) l1) l2) l3) l4) l5) l6)+2:=by simp only[grow];omega
@[go_sem] theorem QU (x:Nat) (l0 l1 l2 l3 l4 l5 l6:List Obj):x≤(grow (grow (grow (grow (grow (grow (grow x l0) l1) l2) l3) l4) l5) l6)+1+1+1:=by simp only[grow];omega
@[go_sem] theorem R_ (x:Nat) (l0 l1 l2 l3 l4 l5 l6:List Obj):x<(grow (grow (grow (grow (grow (grow (grow x l0) l1) l2) l3) l4) l5) l6)+1+1+1:=by simp only[grow];omega
@[go_sem] theorem Mr (x:Nat) (l0 l1 l2 l3 l4 l5 l6:List Obj):x≤(grow (grow (grow (grow (grow (grow (grow x l0) l1) l2) l3) l4) l5) l6)+3:=by simp only[grow];omega
@[go_sem] theorem Nw (x:Nat) (l0 l1 l2 l3 l4 l5 l6:List Obj):x<(grow (grow (grow (grow (grow (grow (grow x l0) l1) l2) l3) l4) l5) l6)+3:=by simp only[grow];omega
@[go_sem] theorem QV (x:Nat) (l0 l1 l2 l3 l4 l5 l6:List Obj):x≤(grow (grow (grow (grow (grow (grow (grow x l0) l1) l2) l3) l4) l5) l6)+1+1+1+1:=by simp only[grow];omega
@[go_sem] theorem Sb (x:Nat) (l0 l1 l2 l3 l4 l5 l6:List Obj):x<(grow (grow (grow (grow (grow (grow (grow x l0) l1) l2) l3) l4) l5) l6)+1+1+1+1:=by simp only[grow];omega
@[go_sem] theorem Ms (x:Nat) (l0 l1 l2 l3 l4 l5 l6:List Obj):x≤(grow (grow (grow (grow (grow (grow (grow x l0) l1) l2) l3) l4) l5) l6)+4:=by simp only[grow];omega
@[go_sem] theorem Ny (x:Nat) (l0 l1 l2 l3 l4 l5 l6:List Obj):x<(grow (grow (grow (grow (grow (grow (grow x l0) l1) l2) l3) l4) l5) l6)+4:=by simp only[grow];omega
@[go_sem] theorem QW (x:Nat) (l0 l1 l2 l3 l4 l5 l6:List Obj):x≤(grow (grow (grow (grow (grow (grow (grow x l0) l1) l2) l3) l4) l5) l6)+1+1+1+1+1:=by simp only[grow];omega
@[go_sem] theorem Sc (x:Nat) (l0 l1 l2 l3 l4 l5 l6:List Obj):x<(grow (grow (grow (grow (grow (grow (grow x l0) l1) l2) l3) l4) l5) l6)+1+1+1+1+1:=by simp only[grow];omega
@[go_sem] theorem Mt (x:Nat) (l0 l1 l2 l3 l4 l5 l6:List Obj):x≤(grow (grow (grow (grow (grow (grow (grow x l0) l1) l2) l3) l4) l5) l6)+5:=by simp only[grow];omega
@[go_sem] theorem Nz (x:Nat) (l0 l1 l2 l3 l4 l5 l6:List Obj):x<(grow (grow (grow (grow (grow (grow (grow x l0) l1) l2) l3) l4) l5) l6)+5:=by simp only[grow];omega
@[go_sem] theorem QX (x:Nat) (l0 l1 l2 l3 l4 l5 l6:List Obj):x≤(grow (grow (grow (grow (grow (grow (grow x l0) l1) l2) l3) l4) l5) l6)+1+1+1+1+1+1:=by simp only[grow];omega
@[go_sem] theorem Sd (x:Nat) (l0 l1 l2 l3 l4 l5 l6:List Obj):x<(grow (grow (grow (grow (grow (grow (grow x l0) l1) l2) l3) l4) l5) l6)+1+1+1+1+1+1:=by simp only[grow];omega
@[go_sem] theorem Mv (x:Nat) (l0 l1 l2 l3 l4 l5 l6:List Obj):x≤(grow (grow (grow (grow (grow (grow (grow x l0) l1) l2) l3) l4) l5) l6)+6:=by simp only[grow];omega
@[go_sem] theorem NA (x:Nat) (l0 l1 l2 l3 l4 l5 l6:List Obj):x<(grow (grow (grow (grow (grow (grow (grow x l0) l1) l2) l3) l4) l5) l6)+6:=by simp only[grow];omega
@[go_sem] theorem QY (x:Nat) (l0 l1 l2 l3 l4 l5 l6 l7:List Obj):x≤(grow (grow (grow (grow (grow (grow (grow (grow x l0) l1) l2) l3) l4) l5) l6) l7):=by simp only[grow];omega
@[go_sem] theorem QZ (x:Nat) (l0 l1 l2 l3 l4 l5 l6 l7:List Obj):x≤(grow (grow (grow (grow (grow (grow (grow (grow x l0) l1) l2) l3) l4) l5) l6) l7)+1:=by simp only[grow];omega
@[go_sem] theorem Sg (x:Nat) (l0 l1 l2 l3 l4 l5 l6 l7:List Obj):x<(grow (grow (grow (grow (grow (grow (grow (grow x l0) l1) l2) l3) l4) l5) l6) l7)+1:=by simp only[grow];omega
@[go_sem] theorem Q0 (x:Nat) (l0 l1 l2 l3 l4 l5 l6 l7:List Obj):x≤(grow (grow (grow (grow (grow (grow (grow (grow x l0) l1) l2) l3) l4) l5) l6) l7)+1+1:=by simp only[grow];omega
@[go_sem] theorem Si (x:Nat) (l0 l1 l2 l3 l4 l5 l6 l7:List Obj):x<(grow (grow (grow (grow (grow (grow (grow (grow x l0) l1) l2) l3) l4) l5) l6) l7)+1+1:=by simp only[grow];omega
@[go_sem] theorem Mw (x:Nat) (l0 l1 l2 l3 l4 l5 l6 l7:List Obj):x≤(grow (grow (grow (grow (grow (grow (grow (grow x l0) l1) l2) l3) l4) l5) l6) l7)+2:=by simp only[grow];omega
@[go_sem] theorem NC (x:Nat) (l0 l1 l2 l3 l4 l5 l6 l7:List Obj):x<(grow (grow (grow (grow (grow (grow (grow (grow x l0) l1) l2) l3) l4) l5) l6) l7)+2:=by simp only[grow];omega
@[go_sem] theorem Q5 (x:Nat) (l0 l1 l2 l3 l4 l5 l6 l7:List Obj):x≤(grow (grow (grow (grow (grow (grow (grow (grow x l0) l1) l2) l3) l4) l5) l6) l7)+1+1+1:=by simp only[grow];omega
@[go_sem] theorem Sj (x:Nat) (l0 l1 l2 l3 l4 l5 l6 l7:List Obj):x<(grow (grow (grow (grow (grow (grow (grow (grow x l0) l1) l2) l3) l4) l5) l6) l7)+1+1+1:=by simp only[grow];omega
@[go_sem] theorem Mx (x:Nat) (l0 l1 l2 l3 l4 l5 l6 l7:List Obj):x≤(grow (grow (grow (grow (grow (grow (grow (grow x l0) l1) l2) l3) l4) l5) l6) l7)+3:=by simp only[grow];omega
@[go_sem] theorem ND (x:Nat) (l0 l1 l2 l3 l4 l5 l6 l7:List Obj):x<(grow (grow (grow (grow (grow (grow (grow (grow x l0) l1) l2) l3) l4) l5) l6) l7)+3:=by simp only[grow];omega
@[go_sem] theorem Q6 (x:Nat) (l0 l1 l2 l3 l4 l5 l6 l7:List Obj):x≤(grow (grow (grow (grow (grow (grow (grow (grow x l0) l1) l2) l3) l4) l5) l6) l7)+1+1+1+1:=by simp only[grow];omega
@[go_sem] theorem Sk (x:Nat) (l0 l1 l2 l3 l4 l5 l6 l7:List Obj):x<(grow (grow (grow (grow (grow (grow (grow (grow x l0) l1) l2) l3) l4) l5) l6) l7)+1+1+1+1:=by simp only[grow];omega
@[go_sem] theorem MB (x:Nat) (l0 l1 l2 l3 l4 l5 l6 l7:List Obj):x≤(grow (grow (grow (grow (grow (grow (grow (grow x l0) l1) l2) l3) l4) l5) l6) l7)+4:=by simp only[grow];omega
@[go_sem] theorem NG (x:Nat) (l0 l1 l2 l3 l4 l5 l6 l7:List Obj):x<(grow (grow (grow (grow (grow (grow (grow (grow x l0) l1) l2) l3) l4) l5) l6) l7)+4:=by simp only[grow];omega
@[go_sem] theorem Q7 (x:Nat) (l0 l1 l2 l3 l4 l5 l6 l7:List Obj):x≤(grow (grow (grow (grow (grow (grow (grow (grow x l0) l1) l2) l3) l4) l5) l6) l7)+1+1+1+1+1:=by simp only[grow];omega
@[go_sem] theorem Sl (x:Nat) (l0 l1 l2 l3 l4 l5 l6 l7:List Obj):x<(grow (grow (grow (grow (grow (grow (grow (grow x l0) l1) l2) l3) l4) l5) l6) l7)+1+1+1+1+1:=by simp only[grow];omega
@[go_sem] theorem MC (x:Nat) (l0 l1 l2 l3 l4 l5 l6 l7:List Obj):x≤(grow (grow (grow (grow (grow (grow (grow (grow x l0) l1) l2) l3) l4) l5) l6) l7)+5:=by simp only[grow];omega
@[go_sem] theorem NH (x:Nat) (l0 l1 l2 l3 l4 l5 l6 l7:List Obj):x<(grow (grow (grow (grow (grow (grow (grow (grow x l0) l1) l2) l3) l4) l5) l6) l7)+5:=by simp only[grow];omega
@[go_sem] theorem Q8 (x:Nat) (l0 l1 l2 l3 l4 l5 l6 l7:List Obj):x≤(grow (grow (grow (grow (grow (grow (grow (grow x l0) l1) l2) l3) l4) l5) l6) l7)+1+1+1+1+1+1:=by simp only[grow];omega
@[go_sem] theorem Sm (x:Nat) (l0 l1 l2 l3 l4 l5 l6 l7:List Obj):x<(grow (grow (grow (grow (grow (grow (grow (grow x l0) l1) l2) l3) l4) l5) l6) l7)+1+1+1+1+1+1:=by simp only[grow];omega
@[go_sem] theorem ME (x:Nat) (l0 l1 l2 l3 l4 l5 l6 l7:List Obj):x≤(grow (grow (grow (grow (grow (grow (grow (grow x l0) l1) l2) l3) l4) l5) l6) l7)+6:=by simp only[grow];omega
@[go_sem] theorem NI (x:Nat) (l0 l1 l2 l3 l4 l5 l6 l7:List Obj):x<(grow (grow (grow (grow (grow (grow (grow (grow x l0) l1) l2) l3) l4) l5) l6) l7)+6:=by simp only[grow];omega
@[go_sem] theorem Q9 (x:Nat) (l0 l1 l2 l3 l4 l5 l6 l7 l8:List Obj):x≤(grow (grow (grow (grow (grow (grow (grow (grow (grow x l0) l1) l2) l3) l4) l5) l6) l7) l8):=by simp only[grow];omega
@[go_sem] theorem Q_ (x:Nat) (l0 l1 l2 l3 l4 l5 l6 l7 l8:List Obj):x≤(grow (grow (grow (grow (grow (grow (grow (grow (grow x l0) l1) l2) l3) l4) l5) l6) l7) l8)+1:=by simp only[grow];omega
@[go_sem] theorem Sn (x:Nat) (l0 l1 l2 l3 l4 l5 l6 l7 l8:List Obj):x<(grow (grow (grow (grow (grow (grow (grow (grow (grow x l0) l1) l2) l3) l4) l5) l6) l7) l8)+1:=by simp only[grow];omega
@[go_sem] theorem Ra (x:Nat) (l0 l1 l2 l3 l4 l5 l6 l7 l8:List Obj):x≤(grow (grow (grow (grow (grow (grow (grow (grow (grow x l0) l1) l2) l3) l4) l5) l6) l7) l8)+1+1:=by simp only[grow];omega
@[go_sem] theorem Sq (x:Nat) (l0 l1 l2 l3 l4 l5 l6 l7 l8:List Obj):x<(grow (grow (grow (grow (grow (grow (grow (grow (grow x l0) l1) l2) l3) l4) l5) l6) l7) l8)+1+1:=by simp only[grow];omega
@[go_sem] theorem MF (x:Nat) (l0 l1 l2 l3 l4 l5 l6 l7 l8:List Obj):x≤(grow (grow (grow (grow (grow (grow (grow (grow (grow x l0) l1) l2) l3) l4) l5) l6) l7) l8)+2:=by simp only[grow];omega
@[go_sem] theorem NJ (x:Nat) (l0 l1 l2 l3 l4 l5 l6 l7 l8:List Obj):x<(grow (grow (grow (grow (grow (grow (grow (grow (grow x l0) l1) l2) l3) l4) l5) l6) l7) l8)+2:=by simp only[grow];omega
@[go_sem] theorem Rb (x:Nat) (l0 l1 l2 l3 l4 l5 l6 l7 l8:List Obj):x≤(grow (grow (grow (grow (grow (grow (grow (grow (grow x l0) l1) l2) l3) l4) l5) l6) l7) l8)+1+1+1:=by simp only[grow];omega
@[go_sem] theorem Sr (x:Nat) (l0 l1 l2 l3 l4 l5 l6 l7 l8:List Obj):x<(grow (grow (grow (grow (grow (grow (grow (grow (grow x l0) l1) l2) l3) l4) l5) l6) l7) l8)+1+1+1:=by simp only[grow];omega
@[go_sem] theorem MG (x:Nat) (l0 l1 l2 l3 l4 l5 l6 l7 l8:List Obj):x≤(grow (grow (grow (grow (grow (grow (grow (grow (grow x l0) l1) l2) l3) l4) l5) l6) l7) l8)+3:=by simp only[grow];omega
@[go_sem] theorem NK (x:Nat) (l0 l1 l2 l3 l4 l5 l6 l7 l8:List Obj):x<(grow (grow (grow (grow (grow (grow (grow (grow (grow x l0) l1) l2) l3) l4) l5) l6) l7) l8)+3:=by simp only[grow];omega
@[go_sem] theorem Rf (x:Nat) (l0 l1 l2 l3 l4 l5 l6 l7 l8:List Obj):x≤(grow (grow (grow (grow (grow (grow (grow (grow (grow x l0) l1) l2) l3) l4) l5) l6) l7) l8)+1+1+1+1:=by simp only[grow];omega
@[go_sem] theorem Sv (x:Nat) (l0 l1 l2 l3 l4 l5 l6 l7 l8:List Obj):x<(grow (grow (grow (grow (grow (grow (grow (grow (grow x l0) l1) l2) l3) l4) l5) l6) l7) l8)+1+1+1+1:=by simp only[grow];omega
@[go_sem] theorem MH (x:Nat) (l0 l1 l2 l3 l4 l5 l6 l7 l8:List Obj):x≤(grow (grow (grow (grow (grow (grow (grow (grow (grow x l0) l1) l2) l3) l4) l5) l6) l7) l8)+4:=by simp only[grow];omega
@[go_sem] theorem NM (x:Nat) (l0 l1 l2 l3 l4 l5 l6 l7 l8:List Obj):x<(grow (grow (grow (grow (grow (grow (grow (grow (grow x l0) l1) l2) l3) l4) l5) l6) l7) l8)+4:=by simp only[grow];omega
@[go_sem] theorem Rh (x:Nat) (l0 l1 l2 l3 l4 l5 l6 l7 l8:List Obj):x≤(grow (grow (grow (grow (grow (grow (grow (grow (grow x l0) l1) l2) l3) l4) l5) l6) l7) l8)+1+1+1+1+1:=by simp only[grow];omega
@[go_sem] theorem Sw (x:Nat) (l0 l1 l2 l3 l4 l5 l6 l7 l8:List Obj):x<(grow (grow (grow (grow (grow (grow (grow (grow (grow x l0) l1) l2) l3) l4) l5) l6) l7) l8)+1+1+1+1+1:=by simp only[grow];omega
@[go_sem] theorem MI (x:Nat) (l0 l1 l2 l3 l4 l5 l6 l7 l8:List Obj):x≤(grow (grow (grow (grow (grow (grow (grow (grow (grow x l0) l1) l2) l3) l4) l5) l6) l7) l8)+5:=by simp only[grow];omega
@[go_sem] theorem NP (x:Nat) (l0 l1 l2 l3 l4 l5 l6 l7 l8:List Obj):x<(grow (grow (grow (grow (grow (grow (grow (grow (grow x l0) l1) l2) l3) l4) l5) l6) l7) l8)+5:=by simp only[grow];omega
@[go_sem] theorem Ri (x:Nat) (l0 l1 l2 l3 l4 l5 l6 l7 l8:List Obj):x≤(grow (grow (grow (grow (grow (grow (grow (grow (grow x l0) l1) l2) l3) l4) l5) l6) l7) l8)+1+1+1+1+1+1:=by simp only[grow];omega
@[go_sem] theorem Sy (x:Nat) (l0 l1 l2 l3 l4 l5 l6 l7 l8:List Obj):x<(grow (grow (grow (grow (grow (grow (grow (grow (grow x l0) l1) l2) l3) l4) l5) l6) l7) l8)+1+1+1+1+1+1:=by simp only[grow];omega
@[go_sem] theorem MJ (x:Nat) (l0 l1 l2 l3 l4 l5 l6 l7 l8:List Obj):x≤(grow (grow (grow (grow (grow (grow (grow (grow (grow x l0) l1) l2) l3) l4) l5) l6) l7) l8)+6:=by simp only[grow];omega
@[go_sem] theorem NQ (x:Nat) (l0 l1 l2 l3 l4 l5 l6 l7 l8:List Obj):x<(grow (grow (grow (grow (grow (grow (grow (grow (grow x l0) l1) l2) l3) l4) l5) l6) l7) l8)+6:=by simp only[grow];omega
@[go_sem] theorem Lr (x:Nat) (l0 l1 l2 l3 l4 l5 l6 l7 l8 l9:List Obj):x≤(grow (grow (grow (grow (grow (grow (grow (grow (grow (grow x l0) l1) l2) l3) l4) l5) l6) l7) l8) l9):=by simp only[grow];omega
@[go_sem] theorem Ls (x:Nat) (l0 l1 l2 l3 l4 l5 l6 l7 l8 l9:List Obj):x≤(grow (grow (grow (grow (grow (grow (grow (grow (grow (grow x l0) l1) l2) l3) l4) l5) l6) l7) l8) l9)+1:=by simp only[grow];omega
@[go_sem] theorem MN (x:Nat) (l0 l1 l2 l3 l4 l5 l6 l7 l8 l9:List Obj):x<(grow (grow (grow (grow (grow (grow (grow (grow (grow (grow x l0) l1) l2) l3) l4) l5) l6) l7) l8) l9)+1:=by simp only[grow];omega
@[go_sem] theorem Lu (x:Nat) (l0 l1 l2 l3 l4 l5 l6 l7 l8 l9:List Obj):x≤(grow (grow (grow (grow (grow (grow (grow (grow (grow (grow x l0) l1) l2) l3) l4) l5) l6) l7) l8) l9)+1+1:=by simp only[grow];omega
@[go_sem] theorem MO (x:Nat) (l0 l1 l2 l3 l4 l5 l6 l7 l8 l9:List Obj):x<(grow (grow (grow (grow (grow (grow (grow (grow (grow (grow x l0) l1) l2) l3) l4) l5) l6) l7) l8) l9)+1+1:=by simp only[grow];omega
@[go_sem] theorem Ka (x:Nat) (l0 l1 l2 l3 l4 l5 l6 l7 l8 l9:List Obj):x≤(grow (grow (grow (grow (grow (grow (grow (grow (grow (grow x l0) l1) l2) l3) l4) l5) l6) l7) l8) l9)+2:=by simp only[grow];omega
@[go_sem] theorem Ki (x:Nat) (l0 l1 l2 l3 l4 l5 l6 l7 l8 l9:List Obj):x<(grow (grow (grow (grow (grow (grow (grow (grow (grow (grow x l0) l1) l2) l3) l4) l5) l6) l7) l8) l9)+2:=by simp only[grow];omega
@[go_sem] theorem Lv (x:Nat) (l0 l1 l2 l3 l4 l5 l6 l7 l8 l9:List Obj):x≤(grow (grow (grow (grow (grow (grow (grow (grow (grow (grow x l0) l1) l2) l3) l4) l5) l6) l7) l8) l9)+1+1+1:=by simp only[grow];omega
@[go_sem] theorem MP (x:Nat) (l0 l1 l2 l3 l4 l5 l6 l7 l8 l9:List Obj):x<(grow (grow (grow (grow (grow (grow (grow (grow (grow (grow x l0) l1) l2) l3) l4) l5) l6) l7) l8) l9)+1+1+1:=by simp only[grow];omega
@[go_sem] theorem Kc (x:Nat) (l0 l1 l2 l3 l4 l5 l6 l7 l8 l9:List Obj):x≤(grow (grow (grow (grow (grow (grow (grow (grow (grow (grow x l0) l1) l2) l3) l4) l5) l6) l7) l8) l9)+3:=by simp only[grow];omega
@[go_sem] theorem Kj (x:Nat) (l0 l1 l2 l3 l4 l5 l6 l7 l8 l9:List Obj):x<(grow (grow (grow (grow (grow (grow (grow (grow (grow (grow x l0) l1) l2) l3) l4) l5) l6) l7) l8) l9)+3:=by simp only[grow];omega
@[go_sem] theorem Lx (x:Nat) (l0 l1 l2 l3 l4 l5 l6 l7 l8 l9:List Obj):x≤(grow (grow (grow (grow (grow (grow (grow (grow (grow (grow x l0) l1) l2) l3) l4) l5) l6) l7) l8) l9)+1+1+1+1:=by simp only[grow];omega
@[go_sem] theorem MQ (x:Nat) (l0 l1 l2 l3 l4 l5 l6 l7 l8 l9:List Obj):x<(grow (grow (grow (grow (grow (grow (grow (grow (grow (grow x l0) l1) l2) l3) l4) l5) l6) l7) l8) l9)+1+1+1+1:=by simp only[grow];omega
@[go_sem] theorem Ke (x:Nat) (l0 l1 l2 l3 l4 l5 l6 l7 l8 l9:List Obj):x≤(grow (grow (grow (grow (grow (grow (grow (grow (grow (grow x l0) l1) l2) l3) l4) l5) l6) l7) l8) l9)+4:=by simp only[grow];omega
@[go_sem] theorem Kk (x:Nat) (l0 l1 l2 l3 l4 l5 l6 l7 l8 l9:List Obj):x<(grow (grow (grow (grow (grow (grow (grow (grow (grow (grow x l0) l1) l2) l3) l4) l5) l6) l7) l8) l9)+4:=by simp only[grow];omega
@[go_sem] theorem LA (x:Nat) (l0 l1 l2 l3 l4 l5 l6 l7 l8 l9:List Obj):x≤(grow (grow (grow (grow (grow (grow (grow (grow (grow (grow x l0) l1) l2) l3) l4) l5) l6) l7) l8) l9)+1+1+1+1+1:=by simp only[grow];omega
@[go_sem] theorem MR (x:Nat) (l0 l1 l2 l3 l4 l5 l6 l7 l8 l9:List Obj):x<(grow (grow (grow (grow (grow (grow (grow (grow (grow (grow x l0) l1) l2) l3) l4) l5) l6) l7) l8) l9)+1+1+1+1+1:=by simp only[grow];omega
@[go_sem] theorem Kg (x:Nat) (l0 l1 l2 l3 l4 l5 l6 l7 l8 l9:List Obj):x≤(grow (grow (grow (grow (grow (grow (grow (grow (grow (grow x l0) l1) l2) l3) l4) l5) l6) l7) l8) l9)+5:=by simp only[grow];omega
@[go_sem] theorem Kl (x:Nat) (l0 l1 l2 l3 l4 l5 l6 l7 l8 l9:List Obj):x<(grow (grow (grow (grow (grow (grow (grow (grow (grow (grow x l0) l1) l2) l3) l4) l5) l6) l7) l8) l9)+5:=by simp only[grow];omega
@[go_sem] theorem LB (x:Nat) (l0 l1 l2 l3 l4 l5 l6 l7 l8 l9:List Obj):x≤(grow (grow (grow (grow (grow (grow (grow (grow (grow (grow x l0) l1) l2) l3) l4) l5) l6) l7) l8) l9)+1+1+1+1+1+1:=by simp only[grow];omega
@[go_sem] theorem MS (x:Nat) (l0 l1 l2 l3 l4 l5 l6 l7 l8 l9:List Obj):x<(grow (grow (grow (grow (grow (grow (grow (grow (grow (grow x l0) l1) l2) l3) l4) l5) l6) l7) l8) l9)+1+1+1+1+1+1:=by simp only[grow];omega
@[go_sem] theorem Kh (x:Nat) (l0 l1 l2 l3 l4 l5 l6 l7 l8 l9:List Obj):x≤(grow (grow (grow (grow (grow (grow (grow (grow (grow (grow x l0) l1) l2) l3) l4) l5) l6) l7) l8) l9)+6:=by simp only[grow];omega
@[go_sem] theorem Km (x:Nat) (l0 l1 l2 l3 l4 l5 l6 l7 l8 l9:List Obj):x<(grow (grow (grow (grow (grow (grow (grow (grow (grow (grow x l0) l1) l2) l3) l4) l5) l6) l7) l8) l9)+6:=by simp only[grow];omega
@[go_sem] theorem Uf (x:Nat):x≤x+1+1:=by omega
@[go_sem] theorem Uo (x:Nat):x<x+1+1:=by omega
@[go_sem] theorem Ug (x:Nat):x≤x+1+1+1:=by omega
@[go_sem] theorem Uq (x:Nat):x<x+1+1+1:=by omega
@[go_sem] theorem Uh (x:Nat):x≤x+1+1+1+1:=by omega
@[go_sem] theorem Ur (x:Nat):x<x+1+1+1+1:=by omega
@[go_sem] theorem Ui (x:Nat):x≤x+1+1+1+1+1:=by omega
@[go_sem] theorem Us (x:Nat):x<x+1+1+1+1+1:=by omega
@[go_sem] theorem Uj (x:Nat):x≤x+1+1+1+1+1+1:=by omega
@[go_sem] theorem Ut (x:Nat):x<x+1+1+1+1+1+1:=by omega
@[go_sem] theorem Uk (x:Nat):x≤x+1+1+1+1+1+1+1:=by omega
@[go_sem] theorem Uu (x:Nat):x<x+1+1+1+1+1+1+1:=by omega
@[go_sem] theorem Ul (x:Nat):x≤x+1+1+1+1+1+1+1+1:=by omega
@[go_sem] theorem Uv (x:Nat):x<x+1+1+1+1+1+1+1+1:=by omega
theorem gQ (w:World) (xs:List Obj) (d k:Nat) (h:k<w.heap.size):(ext w xs d).heap[k]? =w.heap[k]?:=by
 simp[ext,Array.getElem?_append,h]
@[go_sem] theorem aO (w:World) (xs:List Obj) (d k:Nat) (h:k<w.heap.size):(ext w xs d).heap[k]? =w.heap[k]?:=gQ w xs d k h
@[go_sem] theorem aF (w:World) (o:Obj) (k:Nat) (h:k=w.heap.size):(w.alloc o).heap[k]? =some o:=by subst h;exact heap_alloc_new w o
@[go_sem] theorem aC (w:World) (o:Obj) (k:Nat) (h:k<w.heap.size):(w.alloc o).heap[k]? =w.heap[k]?:=Below.heap_alloc w o k h
@[go_sem] theorem heap_drew (w:World):w.drew.heap=w.heap:=rfl
@[go_sem] theorem heap_drewN (w:World) (n:Nat):(w.drewN n).heap=w.heap:=rfl
@[go_sem] theorem size_ext (w:World) (xs:List Obj) (d:Nat):(ext w xs d).heap.size=grow w.heap.size xs:=by simp[ext,grow]
@[go_sem] theorem Vk (w:World) (xs:List Obj) (d n i:Nat) (hn:n<w.heap.size):(ext w xs d).cell? ⟨n,i,none⟩=w.cell? ⟨n,i,none⟩:=
 World.cell?_of_block (w:=w) (gQ w xs d n hn)
@[go_sem] theorem Pj (w:World) (xs:List Obj) (d n i:Nat) (hn:n<w.heap.size):(ext w xs d).frozen? ⟨n,i,none⟩=w.frozen? ⟨n,i,none⟩:=
 World.frozen?_of_block (w:=w) (gQ w xs d n hn)
@[go_sem] theorem SN (w:World) (xs:List Obj) (d n i:Nat) (v:Value) (hn:n<w.heap.size):(ext w xs d).setCell ⟨n,i,none⟩ v=ext (w.setCell ⟨n,i,none⟩ v) xs d:=by
 simp only[ext,World.setCell]
 congr 1
 apply Array.ext_getElem?
 intro k
 simp only[Array.getElem?_modify,Array.getElem?_append,Array.size_modify]
 by_cases hk:k<w.heap.size
 ·simp[hk]
 ·have:n≠k:=by omega
  simp[hk,this]
@[go_sem] theorem Wt (w:World) (xs:List Obj) (d:Nat):(ext w xs d).drew=ext w xs (d+1):=rfl
@[go_sem] theorem Wq (w:World) (xs:List Obj) (d:Nat):ext w.drew xs d=ext w xs d:=rfl
theorem aB {w w':World} (h:Below w.heap.size w w'): ∃xs d,w'=ext w xs d:=by
 refine⟨w'.heap.toList.drop w.heap.size,w'.drawn,?_⟩
 have hh:w'.heap=w.heap++(w'.heap.toList.drop w.heap.size).toArray:=by
  apply Array.ext_getElem?
  intro k
  rw[Array.getElem?_append]
  by_cases hk:k<w.heap.size
  ·rw[if_pos hk,h.block k hk]
  ·rw[if_neg hk]
   simp
   congr 1
   omega
 have h1:=h.os
 have h2:=h.tape
 have h3:=h.output
 obtain⟨hp',tp',dr',os',out'⟩:=w'
 simp only at h1 h2 h3 hh
 subst h1 h2 h3
 show _=ext w _ dr'
 unfold ext
 rw[←hh]
theorem ru {B:Nat} {a w:World} (h:Below B a w) (hB:B≤w.heap.size) (xs:List Obj) (d:Nat):Below B a (ext w xs d):=
 h.trans ⟨rfl,rfl,rfl,by simp[size_ext,grow],fun k hk=>gQ w xs d k (by omega)⟩
theorem below_drewN {B:Nat} {a w:World} (h:Below B a w) (n:Nat):Below B a (w.drewN n):=⟨h.os,h.tape,h.output,h.size,h.block⟩
@[go_sem] theorem Vo (w:World) (xs:List Obj) (d n:Nat):(ext w xs d).drewN n=ext w xs (d+n):=by simp[ext,World.drewN]
@[go_sem] theorem Vn (w:World) (xs:List Obj) (d n:Nat):ext (w.drewN n) xs d=ext w xs d:=rfl
theorem Oq {k:IntKind} {a b:Int} (h:a=b):Ending.returned (.int k a)=.returned (.int k b):=by rw[h]
theorem aA {B:Nat} {w W:World} (h:Below B w W:=by(repeat(first|exact Below.refl _ _|exact aaE _|(refine ru ?_ (by first|(simp[size_ext,grow];done)|(simp[size_ext,grow];omega)|omega) _ _)|(refine Below.setCell ?_ (by first|(simp[size_ext,grow];done)|(simp[size_ext,grow];omega)|omega) _)|(refine Below.alloc ?_ (by first|(simp[size_ext,grow];done)|(simp[size_ext,grow];omega)|omega) _)|refine Below.drew ?_|refine below_drewN ?_ _|(refine Below.trans ?_ (Below.mono (by assumption) (by first|(simp[size_ext,grow];done)|(simp[size_ext,grow];omega)|omega)))))):Below B w W:=h
def At (w:World) (B:Nat) (A:Option Addr) (xs:List Value):Prop:=
 xs=[]∨ ∃b o,A=some ⟨b,o,none⟩∧b<B∧ ∀j u,xs[j]? =some u→w.cell? ⟨b,o+j,none⟩=some u
theorem At.nil (w:World) (B:Nat) (A:Option Addr):At w B A []:=.inl rfl
theorem At.get {w:World} {B:Nat} {A:Option Addr} {xs:List Value} (h:At w B A xs) (hx:0<xs.length):
  ∃b o,A=some ⟨b,o,none⟩∧b<B∧ ∀j u,xs[j]? =some u→w.cell? ⟨b,o+j,none⟩=some u:=by
 rcases h with h|h
 ·subst h;simp at hx
 ·exact h
theorem At.keep {w w':World} {B:Nat} {A:Option Addr} {xs:List Value} (h:At w B A xs) (hb:Below B w w'):At w' B A xs:=by
 rcases h with h|⟨b,o,e,hB,hc⟩
 ·exact .inl h
 ·exact .inr ⟨b,o,e,hB,fun j u hu=>(hb.cell (p:=⟨b,o+j,none⟩) hB).trans (hc j u hu)⟩
theorem At.more {w:World} {B B':Nat} {A:Option Addr} {xs:List Value} (h:At w B A xs) (hB:B≤B'):At w B' A xs:=by
 rcases h with h|⟨b,o,e,hb,hc⟩
 ·exact .inl h
 ·exact .inr ⟨b,o,e,by omega,hc⟩
theorem At.move {w w':World} {B B':Nat} {A:Option Addr} {xs:List Value} (h:At w B A xs) (hb:Below B w w') (hB:B≤B'):At w' B' A xs:=(h.keep hb).more hB
theorem At.take {w:World} {B:Nat} {A:Option Addr} {xs:List Value} (n:Nat) (h:At w B A xs):At w B A (xs.take n):=by
 rcases h with h|⟨b,o,e,hb,hc⟩
 ·exact .inl (by simp[h])
 ·refine .inr ⟨b,o,e,hb,fun j u hu=>hc j u ?_⟩
  rw[List.getElem?_take] at hu
  split at hu
  ·exact hu
  ·cases hu
theorem At.drop {w:World} {B:Nat} {A:Option Addr} {xs:List Value} (n m:Nat) (hm:m=n→xs.drop n=[]) (h:At w B A xs):At w B (if m=n then A else A.map (·.add n)) (xs.drop n):=by
 rcases h with h|⟨b,o,e,hb,hc⟩
 ·exact .inl (by simp[h])
 ·by_cases he:m=n
  ·exact .inl (hm he)
  ·rw[if_neg he,e]
   refine .inr ⟨b,o+n,?_,hb,fun j u hu=>?_⟩
   ·simp only[Option.map_some,Addr.add]
    by_cases h0:n=0<;>simp[h0]
   ·rw[List.getElem?_drop] at hu
    have:=hc _ _ hu
    rwa [←Nat.add_assoc] at this
theorem At.bq {w:World} {base:Nat} {e:TypeId} {size n c:Nat} {A:Option Addr} {xs:List Value} (h:w.ownsRow base e size (.slice A n c) n xs):At w w.heap.size A xs:=by
 obtain⟨h1,h2⟩:=h
 rcases h2 with⟨hv,rfl⟩|⟨g,cap,cur,hv,hg,hh,hc,hm,hcur,ht⟩
 ·exact .inl (by simpa using h1)
 ·injection hv with hA _ _
  refine .inr ⟨g,0,hA,?_,fun j u hu=>?_⟩
  ·rcases Nat.lt_or_ge g w.heap.size with hlt|hge
   ·exact hlt
   ·rw[Array.getElem?_eq_none hge] at hh;cases hh
  ·rw[←ht,List.getElem?_take] at hu
   split at hu
   ·simp only[World.cell?,hh,Option.isSome_none,Nat.zero_add]
    simpa using hu
   ·cases hu
theorem ownsRow_form {w:World} {base:Nat} {e:TypeId} {size n:Nat} {v:Value} {xs:List Value} (h:w.ownsRow base e size v n xs): ∃A c,v=.slice A n c∧n≤c∧c≤maxLen:=by
 obtain⟨h1,h2⟩:=h
 rcases h2 with⟨hv,rfl⟩|⟨g,cap,cur,hv,hg,hh,hc,hm,hcur,ht⟩
 ·exact⟨none,0,hv,aaE _,by simp[maxLen]⟩
 ·exact⟨_,cap,hv,hc,hm⟩
@[go_sem] theorem Xt (w:World) (B:Nat) (A:Option Addr) (xs:List Value):At w.drew B A xs=At w B A xs:=rfl
@[go_sem] theorem zA (w:World) (n B:Nat) (A:Option Addr) (xs:List Value):At (w.drewN n) B A xs=At w B A xs:=rfl
theorem Gv {w w':World} {B:Nat} {A:Option Addr} {xs:List Value} (h: ∀k,k<B→w'.heap[k]? =w.heap[k]?):At w' B A xs=At w B A xs:=by
 apply propext
 unfold At
 constructor
 ·rintro (h1|⟨b,o,e,hB,hc⟩)
  ·exact .inl h1
  ·exact .inr ⟨b,o,e,hB,fun j u hu=>(World.cell?_of_block (w:=w) (w':=w') (h b hB)).symm.trans (hc j u hu)⟩
 ·rintro (h1|⟨b,o,e,hB,hc⟩)
  ·exact .inl h1
  ·exact .inr ⟨b,o,e,hB,fun j u hu=>(World.cell?_of_block (w:=w) (w':=w') (h b hB)).trans (hc j u hu)⟩
@[go_sem] theorem Yf (w:World) (xs:List Obj) (d B:Nat) (A:Option Addr) (l:List Value) (hB:B≤w.heap.size):At (ext w xs d) B A l=At w B A l:=
 Gv fun k hk=>gQ w xs d k (by omega)
@[go_sem] theorem Gu (w:World) (o:Obj) (B:Nat) (A:Option Addr) (l:List Value) (hB:B≤w.heap.size):At (w.alloc o) B A l=At w B A l:=
 Gv fun k hk=>Below.heap_alloc w o k (by omega)
@[go_sem] theorem SY (w:World) (p:Addr) (v:Value) (B:Nat) (A:Option Addr) (l:List Value) (hB:B≤p.block):At (w.setCell p v) B A l=At w B A l:=
 Gv fun k hk=>Below.heap_setCell w p v k (by omega)
def bv (x:UInt8):Value:=.int .u8 (x.toNat:Int)
theorem TJ {l:List UInt8} {i:Nat} (h:i<l.length):(l.map bv)[i]? =some (.int .u8 ((l[i]).toNat:Int)):=by
 rw[List.getElem?_map,List.getElem?_eq_getElem h];rfl
theorem foldl_push (l:List UInt8): ∀s:ByteArray,(l.map fun x=>(x.toNat:Int)).foldl (fun (r:ByteArray) n=>r.push (UInt8.ofNat n.toNat)) s=⟨(s.data.toList++l).toArray⟩:=by
 induction l with
 |nil=>intro s;simp
 |cons x l ih=>
  intro s
  simp only[List.map_cons,List.foldl_cons]
  rw[ih]
  simp
theorem gM {P:Program} {w:World} {src dst e:TypeId} (hs:P.underlying src=some (.slice e)) (he:P.underlying e=some (.int .u8)) (hd:P.underlying dst=some .string)
  {B:Nat} {A:Option Addr} {c:Nat} {l:List UInt8} {n:Nat} (hn:n=l.length) (h:At w B A (l.map bv)):(convert src dst (.slice A n c)).run P w=.ok (.string ⟨l.toArray⟩) w:=by
 subst hn
 rw[run_convert_bytes_string w src dst e A l.length c hs he hd]
 rcases h with h|⟨b,o,rfl,hB,hc⟩
 ·have hl:l=[]:=by simpa using h
  subst hl
  cases A with
  |none=>simp[Conv.bytesToString,Sem.run_pure];rfl
  |some a=>
   have hq:=run_loadCells_list (P:=P) w a [] (by intro j v h;simp at h)
   exact(run_bytesToString (P:=P) w a 0 c [] (by simpa using hq))
 ·have hl:(l.map fun x=>(x.toNat:Int)).map (Value.int .u8)=l.map bv:=by simp[bv,Function.comp_def]
  rw[run_bytesToString w _ l.length c (l.map fun x=>(x.toNat:Int)) (by
   rw[hl]
   have:=run_loadCells_list (P:=P) w ⟨b,o,none⟩ (l.map bv) (fun j v hv=>by
    have:=hc j v hv
    simp only[Addr.add]
    by_cases h0:j=0
    ·subst h0;simpa using this
    ·simpa[h0] using this)
   simpa using this)]
  rw[foldl_push]
  simp
theorem U2 {P:Program} {o:Oper} {a:Act} {K:Act→World→Prop} {Q:Exit→Act→World→Prop} {w:World} (w0:World) (s x:Operand) (t:TypeId)
  (ho:o.op=.call {callee:=.builtin .append,args:=#[s,x],argTypes:=#[t,t]})
  (base:Nat) (e:TypeId) (i:TypeInfo) (z:Value) (size bytes:Nat) (ht:P.underlying t=some (.slice e)) (hi:P.info? e=some i) (hz:i.zero=some z)
  (hsize:i.size=size) (hby:i.bytes=bytes) (hzs:z.cells.size=size) (hsz:0<size)
  (v:Value) (n:Nat) (xs:List Value) (hs:a.eval s=v) (hown:w.ownsRow base e size v n xs)
  (B:Nat) (A:Option Addr) (m c:Nat) (news:List Value) (hx:a.eval x=.slice A m c) (hl:news.length=m*size) (hr:At w B A news) (h1: ∀u∈news,u.oneCell'=true)
  (h63:n+m≤maxLen) (hbytes:(n+m)*bytes≤140737488355328) (hw:Below w0.heap.size w0 w) (hb0:w0.heap.size≤base) (hbase:base≤w.heap.size)
  (h: ∀v' ys d,(ext w0 ys d).ownsRow base e size v' (n+m) (xs++news)→(∀k,k<w.heap.size→some k≠v.ownBlock→(ext w0 ys d).heap[k]? =w.heap[k]?)→w.heap.size≤(ext w0 ys d).heap.size→
   (v'.ownBlock=v.ownBlock∨v'.ownBlock=some w.heap.size)→K (a.put o.dst v') (ext w0 ys d)):o.wp P a w K Q:=by
 have eu: ∀g,v.ownBlock=some g→base≤g:=by
  intro g hg
  rcases hown.2 with⟨rfl,_⟩|⟨g',cap,cur,rfl,hge,_⟩
  ·cases hg
  ·simp only[Value.ownBlock,Option.some.injEq] at hg;omega
 have hmain: ∃v' w',(Builtin.append_ #[t,t] o.type #[v,.slice A m c]).run P w=.ok v' w'∧w'.ownsRow base e size v' (n+m) (xs++news)∧w.grownBy w' v.ownBlock∧(v'.ownBlock=v.ownBlock∨v'.ownBlock=some w.heap.size):=by
  have key: ∀ad:Addr,A=some ad→(∀j u,news[j]? =some u→w.cell? (ad.add j)=some u)→
    ∃v' w',(Builtin.append_ #[t,t] o.type #[v,.slice A m c]).run P w=.ok v' w'∧w'.ownsRow base e size v' (n+m) (xs++news)∧w.grownBy w' v.ownBlock∧(v'.ownBlock=v.ownBlock∨v'.ownBlock=some w.heap.size):=fun ad hA hc=>by
   obtain⟨v',w',h2,h3,h4,_,h5⟩:=run_append_own_at (P:=P) w base t o.type e i z size bytes ht hi hz hsize hby hzs hsz v n xs hown ad m c news hl hc h1 h63 hbytes hbase
   exact⟨v',w',by rw[hA];exact h2,h3,h4,h5⟩
  rcases hr with hnil|⟨b,off,hA,hB,hc⟩
  ·cases A with
   |some ad=>exact key ad rfl (fun j u hu=>by rw[hnil] at hu;simp at hu)
   |none=>
    subst hnil
    have hm:m=0:=by
     rcases Nat.eq_zero_or_pos m with h0|h0
     ·exact h0
     ·have:=Nat.mul_pos h0 hsz
      simp at hl
      omega
    subst hm
    refine⟨v,w,?_,by simpa using hown,World.grownBy.refl w _,.inl rfl⟩
    rcases hown.2 with⟨rfl,rfl⟩|⟨g,cap,cur,rfl,_,_,hnc,_⟩
    ·simp[Builtin.append_,run_underlying ht,sizeOf,typeInfo,hi,Builtin.lenOf,Builtin.firstCells]
    ·simp[Builtin.append_,run_underlying ht,sizeOf,typeInfo,hi,Builtin.lenOf,Builtin.firstCells,hnc,storeCells]
  ·refine key _ hA (fun j u hu=>?_)
   have:=hc j u hu
   simp only[Addr.add]
   by_cases h0:j=0
   ·subst h0;simpa using this
   ·simpa[h0] using this
 obtain⟨v',w',hrun,h2,h3,h4⟩:=hmain
 have hbel:Below w0.heap.size w0 w':=hw.grown h3 hw.size (fun k hk=>by have:=eu k hk;omega)
 obtain⟨ys,d,rfl⟩:=aB hbel
 unfold Oper.wp execOp
 simp only[ho,resolve,invoke,builtin,Sem.run_bind,Sem.run_pure,Result.andThen_ok,List.map_toArray,List.map_cons,List.map_nil,hs,hx,hrun]
 exact h v' ys d h2 (fun k hk hne=>h3.block k hk hne) h3.size h4
theorem oz (w:World) (base:Nat) (e:TypeId) (size:Nat) (hb:base≤w.heap.size):(w.alloc (.cells #[] e)).ownsRow base e size (.slice (some ⟨w.heap.size,0,none⟩) 0 0) 0 []:=
 ⟨by simp,.inr ⟨w.heap.size,0,#[],rfl,hb,heap_alloc_new w _,aaE _,Nat.zero_le _,by simp,by simp⟩⟩
theorem aN (w:World) (base:Nat) (e:TypeId) (size:Nat):w.ownsRow base e size (.slice none 0 0) 0 []:=⟨by simp,.inl ⟨rfl,rfl⟩⟩
theorem dx {w w':World} {base:Nat} {e:TypeId} {size n:Nat} {v:Value} {xs:List Value} (h:w.ownsRow base e size v n xs) (hb: ∀k,v.ownBlock=some k→w'.heap[k]? =w.heap[k]?):w'.ownsRow base e size v n xs:=by
 obtain⟨h1,h2⟩:=h
 refine⟨h1,?_⟩
 rcases h2 with h2|⟨g,cap,cur,rfl,hg,hh,r⟩
 ·exact .inl h2
 ·exact .inr ⟨g,cap,cur,rfl,hg,by rw[hb g rfl];exact hh,r⟩
theorem eY {w:World} {base:Nat} {e:TypeId} {size n:Nat} {v:Value} {xs:List Value} (h:w.ownsRow base e size v n xs) {k:Nat} (hk:v.ownBlock=some k):k<w.heap.size:=by
 rcases h.2 with⟨rfl,_⟩|⟨g,cap,cur,rfl,hg,hh,_⟩
 ·cases hk
 ·simp only[Value.ownBlock,Option.some.injEq] at hk
  subst hk
  rcases Nat.lt_or_ge g w.heap.size with hlt|hge
  ·exact hlt
  ·rw[Array.getElem?_eq_none hge] at hh;cases hh
theorem eu {w:World} {base:Nat} {e:TypeId} {size n:Nat} {v:Value} {xs:List Value} (h:w.ownsRow base e size v n xs) {k:Nat} (hk:v.ownBlock=some k):base≤k:=by
 rcases h.2 with⟨rfl,_⟩|⟨g,cap,cur,rfl,hg,_⟩
 ·cases hk
 ·simp only[Value.ownBlock,Option.some.injEq] at hk;omega
theorem aK {w:World} {base base':Nat} {e:TypeId} {size n:Nat} {v:Value} {xs:List Value} (h:w.ownsRow base e size v n xs) (hb:base'≤base):w.ownsRow base' e size v n xs:=by
 obtain⟨h1,h2⟩:=h
 refine⟨h1,?_⟩
 rcases h2 with h2|⟨g,cap,cur,hv,hg,r⟩
 ·exact .inl h2
 ·exact .inr ⟨g,cap,cur,hv,by omega,r⟩
theorem own_below {w w':World} {base:Nat} {e:TypeId} {size n:Nat} {v:Value} {xs:List Value} (h:w.ownsRow base e size v n xs) (hb:Below w.heap.size w w'):w'.ownsRow base e size v n xs:=
 dx h fun k hk=>hb.block k (eY h hk)
theorem nK (w w':World) (xs:List Obj) (d d' k:Nat) (hs:w.heap.size=w'.heap.size) (hk:w.heap.size≤k):(ext w' xs d').heap[k]? =(ext w xs d).heap[k]?:=by
 simp only[ext,Array.getElem?_append]
 rw[if_neg (by omega),if_neg (by omega),hs]
theorem dI {w w':World} {xs:List Obj} {d d':Nat} {base:Nat} {e:TypeId} {size n:Nat} {v:Value} {l:List Value} (h:(ext w xs d).ownsRow base e size v n l) (hs:w.heap.size=w'.heap.size) (hb:w.heap.size≤base):
  (ext w' xs d').ownsRow base e size v n l:=
 dx h fun k hk=>nK w w' xs d d' k hs (by have:=eu h hk;omega)
theorem eO {w:World} {base g:Nat} {e:TypeId} {size n:Nat} {cs:Array Value} {xs:List Value} (h:w.heap[g]? =some (.cells cs e (0,0))) (hb:base≤g) (hn:n≤maxLen) (hs:cs.size=n*size) (hx:cs.toList=xs):
  w.ownsRow base e size (.slice (some ⟨g,0,none⟩) n n) n xs:=by
 subst hx
 refine⟨by simpa using hs,.inr ⟨g,n,cs,rfl,hb,h,aaE _,hn,hs,?_⟩⟩
 rw[List.take_of_length_le (by simp;omega)]
section
variable {P:Program} {ops:Array Oper} {rest:List Oper} {o:Oper} {a:Act} {K:Act→World→Prop} {Q:Exit→Act→World→Prop} {w:World}
theorem Eh (w1:World) (s x:Operand) (t:TypeId)
  (ho:o.op=.call {callee:=.builtin .append,args:=#[s,x],argTypes:=#[t,t]})
  (e:TypeId) (ht:P.underlying t=some (.slice e)) (hinfo:(P.info? e).map (fun i=>(i.zero,i.size,i.bytes))=some (some (.int .u8 0),1,1))
  (v:Value) (n:Nat) (xs:List UInt8) (hs:a.eval s=v) (hown:w.ownsRow w1.heap.size e 1 v n (xs.map bv))
  (B:Nat) (A:Option Addr) (m c:Nat) (l:List UInt8) (hx:a.eval x=.slice A m c) (hl:m=l.length) (hm:n+m≤2000000000) (hr:At w B A (l.map bv)) (hw:Below w1.heap.size w1 w)
  (h: ∀v' ys d,(ext w1 ys d).ownsRow w1.heap.size e 1 v' (n+m) ((xs++l).map bv)→(∀k,k<w.heap.size→some k≠v.ownBlock→(ext w1 ys d).heap[k]? =w.heap[k]?)→w.heap.size≤(ext w1 ys d).heap.size→K (a.put o.dst v') (ext w1 ys d)):
  o.wp P a w K Q:=by
 obtain⟨i0,hi,hz0,hz1,hz2⟩:=info_parts hinfo
 refine U2 w1 s x t ho w1.heap.size e i0 (.int .u8 0) 1 1 ht hi hz0 hz1 hz2 rfl (by decide) v n (xs.map bv) hs hown B A m c (l.map bv) hx (by simp[hl]) hr ?_ (by unfold maxLen;omega) (by omega)
  hw (aaE _) hw.size ?_
 ·intro u hu
  obtain⟨x,_,rfl⟩:=List.mem_map.1 hu
  rfl
 ·intro v' ys d hown hk hsz _
  exact h v' ys d (by rw[List.map_append];exact hown) hk hsz
theorem nY (w1:World) (hgd:o.guard=none) (s x:Operand) (t:TypeId)
  (ho:o.op=.call {callee:=.builtin .append,args:=#[s,x],argTypes:=#[t,t]})
  (e:TypeId) (ht:P.underlying t=some (.slice e)) (hinfo:(P.info? e).map (fun i=>(i.zero,i.size,i.bytes))=some (some (.int .u8 0),1,1))
  (v:Value) (n:Nat) (xs:List UInt8) (hs:a.eval s=v) (hown:w.ownsRow w1.heap.size e 1 v n (xs.map bv))
  (B:Nat) (A:Option Addr) (m c:Nat) (l:List UInt8) (hx:a.eval x=.slice A m c) (hl:m=l.length) (hm:n+m≤2000000000) (hr:At w B A (l.map bv)) (hw:Below w1.heap.size w1 w)
  (h: ∀v' ys d,(ext w1 ys d).ownsRow w1.heap.size e 1 v' (n+m) ((xs++l).map bv)→(∀k,k<w.heap.size→some k≠v.ownBlock→(ext w1 ys d).heap[k]? =w.heap[k]?)→w.heap.size≤(ext w1 ys d).heap.size→wpList P ops Q rest (a.put o.dst v') (ext w1 ys d)):
  wpList P ops Q (o::rest) a w:=
 wpList_plain hgd fun K hK=>Eh w1 s x t ho e ht hinfo v n xs hs hown B A m c l hx hl hm hr hw fun v' ys d h1 h2 h3=>hK _ _ (h v' ys d h1 h2 h3)
theorem xL {E:Prop} (w1:World) (hgd:o.guard=none) (s x:Operand) (t:TypeId)
  (ho:o.op=.call {callee:=.builtin .append,args:=#[s,x],argTypes:=#[t,t]})
  (e:TypeId) (ht:P.underlying t=some (.slice e)) (hinfo:(P.info? e).map (fun i=>(i.zero,i.size,i.bytes))=some (some (.int .u8 0),1,1))
  (v:Value) (n:Nat) (xs:List UInt8) (hs:a.eval s=v) (hown:w.ownsRow w1.heap.size e 1 v n (xs.map bv))
  (B:Nat) (A:Option Addr) (m c:Nat) (l:List UInt8) (hx:a.eval x=.slice A m c) (hl:m=l.length) (hm:n+m≤2000000000) (hr:At w B A (l.map bv)) (hw:Below w1.heap.size w1 w)
  (h: ∀v' ys d,(ext w1 ys d).ownsRow w1.heap.size e 1 v' (n+m) ((xs++l).map bv)→(∀k,k<w.heap.size→some k≠v.ownBlock→(ext w1 ys d).heap[k]? =w.heap[k]?)→w.heap.size≤(ext w1 ys d).heap.size→K (a.put o.dst v') (ext w1 ys d)):
  if Region.wanted o (yielded ops a.tmps)=true then Oper.wp P o a w K Q else E:=by
 rw[if_pos (by simp[Region.wanted,hgd])]
 exact Eh w1 s x t ho e ht hinfo v n xs hs hown B A m c l hx hl hm hr hw h
end
theorem bT {P:Program} {ops:Array Oper} {rest:List Oper} {o:Oper} {a:Act} {Q:Exit→Act→World→Prop} (w1:World) (hgd:o.guard=none) (s x:Operand) (t:TypeId)
  (ho:o.op=.call {callee:=.builtin .append,args:=#[s,x],argTypes:=#[t,t]})
  (e:TypeId) (ht:P.underlying t=some (.slice e)) (hinfo:(P.info? e).map (fun i=>(i.zero,i.size,i.bytes))=some (some (.int .u8 0),1,1))
  (N:Nat) (hN:N=w1.heap.size) (hs:a.eval s=.slice (some ⟨N,0,none⟩) 0 0) (B:Nat) (A:Option Addr) (m c:Nat) (l:List UInt8) (hx:a.eval x=.slice A m c) (hl:m=l.length) (hm:m≤1000000000) (hr:At w1 B A (l.map bv)) (hB:B≤w1.heap.size)
  (h: ∀v' ys d,(ext w1 ys d).ownsRow w1.heap.size e 1 v' m (l.map bv)→wpList P ops Q rest (a.put o.dst v') (ext w1 ys d)):
  wpList P ops Q (o::rest) a (w1.alloc (.cells #[] e)):=by
 subst hN
 refine nY w1 hgd s x t ho e ht hinfo _ 0 [] hs (oz w1 _ e 1 (aaE _)) B A m c l hx hl (by omega) ?_ ((Below.refl _ _).alloc (aaE _) _) ?_
 ·rw[Gu _ _ _ _ _ hB];exact hr
 ·intro v' ys d hown _ _
  exact h v' ys d (by simpa using hown)
theorem UE {w:World} {base:Nat} {e:TypeId} {size n:Nat} {v:Value} {xs:List Value} (h:w.ownsRow base e size v n xs) {g:Nat} (hg:v.ownBlock=some g):
  ∃cap cur,v=.slice (some ⟨g,0,none⟩) n cap∧w.heap[g]? =some (.cells cur e (0,0))∧cur.toList.take (n*size)=xs:=by
 rcases h.2 with⟨rfl,_⟩|⟨g',cap,cur,rfl,_,hh,_,_,_,ht⟩
 ·cases hg
 ·simp only[Value.ownBlock,Option.some.injEq] at hg
  subst hg
  exact⟨cap,cur,rfl,hh,ht⟩
theorem tO {P:Program} {w:World} (base:Nat) (t ty e:TypeId) (i:TypeInfo) (z:Value) (size bytes:Nat) (ht:P.underlying t=some (.slice e)) (hi:P.info? e=some i) (hz:i.zero=some z)
  (hsize:i.size=size) (hby:i.bytes=bytes) (hzs:z.cells.size=size) (hsz:0<size)
  (v:Value) (n:Nat) (xs:List Value) (hown:w.ownsRow base e size v n xs)
  (B:Nat) (A:Option Addr) (m c:Nat) (news:List Value) (hl:news.length=m*size) (hr:At w B A news) (h1: ∀u∈news,u.oneCell'=true)
  (h63:n+m≤maxLen) (hbytes:(n+m)*bytes≤140737488355328) (hbase:base≤w.heap.size):
  ∃v' w',(Builtin.append_ #[t,t] ty #[v,.slice A m c]).run P w=.ok v' w'∧w'.ownsRow base e size v' (n+m) (xs++news)∧w.grownBy w' v.ownBlock∧
   (v'.ownBlock=v.ownBlock∨(v'.ownBlock=some w.heap.size∧ ∀k,k<w.heap.size→w'.heap[k]? =w.heap[k]?)):=by
 have key: ∀ad:Addr,A=some ad→(∀j u,news[j]? =some u→w.cell? (ad.add j)=some u)→
   ∃v' w',(Builtin.append_ #[t,t] ty #[v,.slice A m c]).run P w=.ok v' w'∧w'.ownsRow base e size v' (n+m) (xs++news)∧w.grownBy w' v.ownBlock∧
    (v'.ownBlock=v.ownBlock∨(v'.ownBlock=some w.heap.size∧ ∀k,k<w.heap.size→w'.heap[k]? =w.heap[k]?)):=fun ad hA hc=>by
  subst hA
  obtain⟨v',w',h2,h3,h4,_,h5⟩:=run_append_own_at (P:=P) w base t ty e i z size bytes ht hi hz hsize hby hzs hsz v n xs hown ad m c news hl hc h1 h63 hbytes hbase
  refine⟨v',w',h2,h3,h4,?_⟩
  rcases h5 with h5|h5
  ·exact .inl h5
  ·cases hb:v.ownBlock with
   |none=>exact .inr ⟨h5,fun k hk=>h4.block k hk (by rw[hb];simp)⟩
   |some g=>
    obtain⟨cap,cur,rfl,hh,htk⟩:=UE hown hb
    subst hsize hby
    rcases hown.2 with⟨hv,_⟩|⟨g',cap',cur',hv,hbg,hg,hnc,hcm,hcs,htake⟩
    ·cases hv
    ·cases hv
     by_cases hroom:n+m≤cap
     ·have hfit:n*i.size+news.length≤cur'.size:=by rw[hl,hcs,←Nat.add_mul];exact Nat.mul_le_mul_right _ hroom
      have hrr:=run_append_room (P:=P) w t ty e i ht hi g n cap cur' hg ad m c news hl hc h1 hroom hfit
      rw[hrr] at h2
      injection h2 with e1 e2
      subst e1
      simp only[Value.ownBlock,Option.some.injEq] at h5
      have hlt:g<w.heap.size:=eY hown hb
      omega
     ·have holds: ∀j u,xs[j]? =some u→w.cell? ((⟨g,0,none⟩:Addr).add j)=some u:=hown.cells (g:=g) rfl
      have hrr:=run_append_grow (P:=P) w t ty e i z ht hi hz ⟨g,0,none⟩ n cap xs hown.1 holds ad m c news hl hc (by omega) (by simp only[maxLen] at h63;omega) (growslice_fits (by omega) hbytes)
      rw[hrr] at h2
      injection h2 with e1 e2
      subst e2
      exact .inr ⟨h5,fun k hk=>Below.heap_alloc w.drew _ k hk⟩
 rcases hr with hnil|⟨b,off,hA,hB,hc⟩
 ·cases A with
  |some ad=>exact key ad rfl (fun j u hu=>by rw[hnil] at hu;simp at hu)
  |none=>
   subst hnil
   have hm:m=0:=by
    rcases Nat.eq_zero_or_pos m with h0|h0
    ·exact h0
    ·have:=Nat.mul_pos h0 hsz
     simp at hl
     omega
   subst hm
   refine⟨v,w,?_,by simpa using hown,World.grownBy.refl w _,.inl rfl⟩
   rcases hown.2 with⟨rfl,rfl⟩|⟨g,cap,cur,rfl,_,_,hnc,_⟩
   ·simp[Builtin.append_,run_underlying ht,sizeOf,typeInfo,hi,Builtin.lenOf,Builtin.firstCells]
   ·simp[Builtin.append_,run_underlying ht,sizeOf,typeInfo,hi,Builtin.lenOf,Builtin.firstCells,hnc,storeCells]
 ·refine key _ hA (fun j u hu=>?_)
  have:=hc j u hu
  simp only[Addr.add]
  by_cases h0:j=0
  ·subst h0;simpa using this
  ·simpa[h0] using this
section
variable {P:Program} {ops:Array Oper} {rest:List Oper} {o:Oper} {a:Act} {K:Act→World→Prop} {Q:Exit→Act→World→Prop} {w:World}
end
section
variable {P:Program} {ops:Array Oper} {rest:List Oper} {o:Oper} {a:Act} {K:Act→World→Prop} {Q:Exit→Act→World→Prop} {w:World}
theorem Ej (w1:World) (s x:Operand) (t:TypeId)
  (ho:o.op=.call {callee:=.builtin .append,args:=#[s,x],argTypes:=#[t,t]})
  (e:TypeId) (ht:P.underlying t=some (.slice e)) (z:Value) (size bytes:Nat) (hinfo:(P.info? e).map (fun i=>(i.zero,i.size,i.bytes))=some (some z,size,bytes)) (hzs:z.cells.size=size) (hsz:0<size) (hby:bytes≤256)
  (v:Value) (n:Nat) (xs:List Value) (hs:a.eval s=v) (hown:w.ownsRow w1.heap.size e size v n xs)
  (B:Nat) (A:Option Addr) (m c:Nat) (news:List Value) (hx:a.eval x=.slice A m c) (hl:news.length=m*size) (hm:n+m≤500000000) (hr:At w B A news) (h1: ∀u∈news,u.oneCell'=true) (hw:Below w1.heap.size w1 w)
  (h: ∀A' c' w',w'.ownsRow w1.heap.size e size (.slice A' (n+m) c') (n+m) (xs++news)→n+m≤c'→Below w1.heap.size w1 w'→w.grownBy w' v.ownBlock→K (a.put o.dst (.slice A' (n+m) c')) w'):o.wp P a w K Q:=by
 obtain⟨i0,hi,hz0,hz1,hz2⟩:=info_parts hinfo
 obtain⟨v',w',hrun,h2,h3,h4⟩:=tO (P:=P) w1.heap.size t o.type e i0 z size bytes ht hi hz0 hz1 hz2 hzs hsz _ n xs hown B A m c news hl hr h1 (by unfold maxLen;omega)
  (by have:(n+m)*bytes≤500000000*256:=Nat.mul_le_mul hm hby;omega) hw.size
 have hbel:Below w1.heap.size w1 w':=hw.grown h3 hw.size (fun k hk=>eu hown hk)
 obtain⟨A',c',rfl,hc',-⟩:=ownsRow_form h2
 unfold Oper.wp execOp
 simp only[ho,resolve,invoke,builtin,Sem.run_bind,Sem.run_pure,Result.andThen_ok,List.map_toArray,List.map_cons,List.map_nil,hs,hx,hrun]
 exact h A' c' w' h2 hc' hbel h3
theorem dY (w1:World) (hgd:o.guard=none) (s x:Operand) (t:TypeId)
  (ho:o.op=.call {callee:=.builtin .append,args:=#[s,x],argTypes:=#[t,t]})
  (e:TypeId) (ht:P.underlying t=some (.slice e)) (z:Value) (size bytes:Nat) (hinfo:(P.info? e).map (fun i=>(i.zero,i.size,i.bytes))=some (some z,size,bytes)) (hzs:z.cells.size=size) (hsz:0<size) (hby:bytes≤256)
  (v:Value) (n:Nat) (xs:List Value) (hs:a.eval s=v) (hown:w.ownsRow w1.heap.size e size v n xs)
  (B:Nat) (A:Option Addr) (m c:Nat) (news:List Value) (hx:a.eval x=.slice A m c) (hl:news.length=m*size) (hm:n+m≤500000000) (hr:At w B A news) (h1: ∀u∈news,u.oneCell'=true) (hw:Below w1.heap.size w1 w)
  (h: ∀A' c' w',w'.ownsRow w1.heap.size e size (.slice A' (n+m) c') (n+m) (xs++news)→n+m≤c'→Below w1.heap.size w1 w'→w.grownBy w' v.ownBlock→wpList P ops Q rest (a.put o.dst (.slice A' (n+m) c')) w'):
  wpList P ops Q (o::rest) a w:=
 wpList_plain hgd fun K hK=>Ej w1 s x t ho e ht z size bytes hinfo hzs hsz hby v n xs hs hown B A m c news hx hl hm hr h1 hw fun A' c' w' h1 h2 h3 h4=>hK _ _ (h A' c' w' h1 h2 h3 h4)
theorem gT {E:Prop} (w1:World) (hgd:o.guard=none) (s x:Operand) (t:TypeId)
  (ho:o.op=.call {callee:=.builtin .append,args:=#[s,x],argTypes:=#[t,t]})
  (e:TypeId) (ht:P.underlying t=some (.slice e)) (z:Value) (size bytes:Nat) (hinfo:(P.info? e).map (fun i=>(i.zero,i.size,i.bytes))=some (some z,size,bytes)) (hzs:z.cells.size=size) (hsz:0<size) (hby:bytes≤256)
  (v:Value) (n:Nat) (xs:List Value) (hs:a.eval s=v) (hown:w.ownsRow w1.heap.size e size v n xs)
  (B:Nat) (A:Option Addr) (m c:Nat) (news:List Value) (hx:a.eval x=.slice A m c) (hl:news.length=m*size) (hm:n+m≤500000000) (hr:At w B A news) (h1: ∀u∈news,u.oneCell'=true) (hw:Below w1.heap.size w1 w)
  (h: ∀A' c' w',w'.ownsRow w1.heap.size e size (.slice A' (n+m) c') (n+m) (xs++news)→n+m≤c'→Below w1.heap.size w1 w'→w.grownBy w' v.ownBlock→K (a.put o.dst (.slice A' (n+m) c')) w'):
  if Region.wanted o (yielded ops a.tmps)=true then Oper.wp P o a w K Q else E:=by
 rw[if_pos (by simp[Region.wanted,hgd])]
 exact Ej w1 s x t ho e ht z size bytes hinfo hzs hsz hby v n xs hs hown B A m c news hx hl hm hr h1 hw h
end
theorem At.new (w:World) (cs:Array Value) (e:TypeId) (l:List Value) (hl:cs.toList=l):At (w.alloc (.cells cs e)) (w.heap.size+1) (some ⟨w.heap.size,0,none⟩) l:=by
 subst hl
 refine .inr ⟨_,0,rfl,by omega,fun j u hu=>?_⟩
 rw[cell_of_row (w.alloc (.cells cs e)) w.heap.size (0+j) cs e (0,0) (heap_alloc_new w _)]
 simpa using hu
theorem At.gW (w:World) (cs:Array Value) (e:TypeId) (l:List Value) (N:Nat) (hN:N=w.heap.size) (hl:cs.toList=l):At (w.alloc (.cells cs e)) (N+1) (some ⟨N,0,none⟩) l:=by
 subst hN;exact At.new w cs e l hl
theorem At.grown {w w':World} {B:Nat} {A:Option Addr} {xs:List Value} {r:Option Nat} (h:At w B A xs) (hg:w.grownBy w' r) (hB:B≤w.heap.size) (hr: ∀k,r=some k→B≤k):At w' B A xs:=by
 rcases h with h|⟨b,o,e,hb,hc⟩
 ·exact .inl h
 ·refine .inr ⟨b,o,e,hb,fun j u hu=>?_⟩
  rw[World.cell?_of_block (w:=w) (a:=⟨b,o+j,none⟩) (hg.block b (by omega) (fun e=>by have:=hr b e.symm;omega))]
  exact hc j u hu
theorem eH {w w':World} {base:Nat} {e:TypeId} {size n:Nat} {v:Value} {xs:List Value} {r:Option Nat} (h:w.ownsRow base e size v n xs) (hg:w.grownBy w' r) (hr: ∀k,v.ownBlock=some k→some k≠r):w'.ownsRow base e size v n xs:=
 dx h fun k hk=>hg.block k (eY h hk) (hr k hk)
def iN (w w':World) (v v':Value):Prop:=v'.ownBlock=v.ownBlock∨(v'.ownBlock=some w.heap.size∧ ∀k,k<w.heap.size→w'.heap[k]? =w.heap[k]?)
section
variable {P:Program} {ops:Array Oper} {rest:List Oper} {o:Oper} {a:Act} {K:Act→World→Prop} {Q:Exit→Act→World→Prop} {w:World}
theorem El (w1:World) (s x:Operand) (t:TypeId)
  (ho:o.op=.call {callee:=.builtin .append,args:=#[s,x],argTypes:=#[t,t]})
  (e:TypeId) (ht:P.underlying t=some (.slice e)) (z:Value) (size bytes:Nat) (hinfo:(P.info? e).map (fun i=>(i.zero,i.size,i.bytes))=some (some z,size,bytes)) (hzs:z.cells.size=size) (hsz:0<size) (hby:bytes≤256)
  (v:Value) (n:Nat) (xs:List Value) (hs:a.eval s=v) (hown:w.ownsRow w1.heap.size e size v n xs)
  (B:Nat) (A:Option Addr) (m c:Nat) (news:List Value) (hx:a.eval x=.slice A m c) (hl:news.length=m*size) (hm:n+m≤500000000) (hr:At w B A news) (h1: ∀u∈news,u.oneCell'=true) (hw:Below w1.heap.size w1 w)
  (h: ∀A' c' w',w'.ownsRow w1.heap.size e size (.slice A' (n+m) c') (n+m) (xs++news)→n+m≤c'→Below w1.heap.size w1 w'→w.grownBy w' v.ownBlock→iN w w' v (.slice A' (n+m) c')→K (a.put o.dst (.slice A' (n+m) c')) w'):o.wp P a w K Q:=by
 obtain⟨i0,hi,hz0,hz1,hz2⟩:=info_parts hinfo
 obtain⟨v',w',hrun,h2,h3,h4⟩:=tO (P:=P) w1.heap.size t o.type e i0 z size bytes ht hi hz0 hz1 hz2 hzs hsz _ n xs hown B A m c news hl hr h1 (by unfold maxLen;omega)
  (by have:(n+m)*bytes≤500000000*256:=Nat.mul_le_mul hm hby;omega) hw.size
 have hbel:Below w1.heap.size w1 w':=hw.grown h3 hw.size (fun k hk=>eu hown hk)
 obtain⟨A',c',rfl,hc',-⟩:=ownsRow_form h2
 unfold Oper.wp execOp
 simp only[ho,resolve,invoke,builtin,Sem.run_bind,Sem.run_pure,Result.andThen_ok,List.map_toArray,List.map_cons,List.map_nil,hs,hx,hrun]
 exact h A' c' w' h2 hc' hbel h3 h4
theorem iZ (w1:World) (hgd:o.guard=none) (s x:Operand) (t:TypeId)
  (ho:o.op=.call {callee:=.builtin .append,args:=#[s,x],argTypes:=#[t,t]})
  (e:TypeId) (ht:P.underlying t=some (.slice e)) (z:Value) (size bytes:Nat) (hinfo:(P.info? e).map (fun i=>(i.zero,i.size,i.bytes))=some (some z,size,bytes)) (hzs:z.cells.size=size) (hsz:0<size) (hby:bytes≤256)
  (v:Value) (n:Nat) (xs:List Value) (hs:a.eval s=v) (hown:w.ownsRow w1.heap.size e size v n xs)
  (B:Nat) (A:Option Addr) (m c:Nat) (news:List Value) (hx:a.eval x=.slice A m c) (hl:news.length=m*size) (hm:n+m≤500000000) (hr:At w B A news) (h1: ∀u∈news,u.oneCell'=true) (hw:Below w1.heap.size w1 w)
  (h: ∀A' c' w',w'.ownsRow w1.heap.size e size (.slice A' (n+m) c') (n+m) (xs++news)→n+m≤c'→Below w1.heap.size w1 w'→w.grownBy w' v.ownBlock→iN w w' v (.slice A' (n+m) c')→wpList P ops Q rest (a.put o.dst (.slice A' (n+m) c')) w'):
  wpList P ops Q (o::rest) a w:=
 wpList_plain hgd fun K hK=>El w1 s x t ho e ht z size bytes hinfo hzs hsz hby v n xs hs hown B A m c news hx hl hm hr h1 hw fun A' c' w' h1 h2 h3 h4 h5=>hK _ _ (h A' c' w' h1 h2 h3 h4 h5)
theorem oG {E:Prop} (w1:World) (hgd:o.guard=none) (s x:Operand) (t:TypeId)
  (ho:o.op=.call {callee:=.builtin .append,args:=#[s,x],argTypes:=#[t,t]})
  (e:TypeId) (ht:P.underlying t=some (.slice e)) (z:Value) (size bytes:Nat) (hinfo:(P.info? e).map (fun i=>(i.zero,i.size,i.bytes))=some (some z,size,bytes)) (hzs:z.cells.size=size) (hsz:0<size) (hby:bytes≤256)
  (v:Value) (n:Nat) (xs:List Value) (hs:a.eval s=v) (hown:w.ownsRow w1.heap.size e size v n xs)
  (B:Nat) (A:Option Addr) (m c:Nat) (news:List Value) (hx:a.eval x=.slice A m c) (hl:news.length=m*size) (hm:n+m≤500000000) (hr:At w B A news) (h1: ∀u∈news,u.oneCell'=true) (hw:Below w1.heap.size w1 w)
  (h: ∀A' c' w',w'.ownsRow w1.heap.size e size (.slice A' (n+m) c') (n+m) (xs++news)→n+m≤c'→Below w1.heap.size w1 w'→w.grownBy w' v.ownBlock→iN w w' v (.slice A' (n+m) c')→K (a.put o.dst (.slice A' (n+m) c')) w'):
  if Region.wanted o (yielded ops a.tmps)=true then Oper.wp P o a w K Q else E:=by
 rw[if_pos (by simp[Region.wanted,hgd])]
 exact El w1 s x t ho e ht z size bytes hinfo hzs hsz hby v n xs hs hown B A m c news hx hl hm hr h1 hw h
end
section
variable {P:Program} {ops:Array Oper} {o:Oper} {a:Act} {K:Act→World→Prop} {Q:Exit→Act→World→Prop} {w:World}
theorem mJ {E:Prop} (hgd:o.guard=none) (f:FuncId) (x:Operand) (ts:Array TypeId) (ho:o.op=.call {callee:=.value (.func f),args:=#[x],argTypes:=ts}) (hcf: ∀args w,(callFunc f args).run P w=.ok (.enter f args) w) (v:Value) (hx:a.eval x=v)
  (hc:Calls P f #[v] w fun e w'=> ∃y,e=.returned y∧K (a.put o.dst y) w'):
  if Region.wanted o (yielded ops a.tmps)=true then Oper.wp P o a w K Q else E:=by
 rw[if_pos (by simp[Region.wanted,hgd])]
 unfold Oper.wp
 have hf:a.eval (.func f)=.func (.func f) #[] #[]:=rfl
 have hr:(execOp a.eval o).run P w=.ok (.enter f #[v]) w:=by
  simp only[execOp,ho,resolve,List.map_toArray,List.map_cons,List.map_nil,hx,hf]
  simp[Sem.run_pure,hcf,Deferred.ofValue,invoke]
 rw[hr]
 show Calls P f #[v] w _
 refine hc.mono ?_
 rintro e w' ⟨y,rfl,h⟩
 exact h
end
def bC (n a b:Int):Bool:=decide (a≤n)&&decide (n≤b)
theorem lY (n:Int) (w:World):Calls Tryz.prog 137 #[.int .i64 n] w fun e w'=>e=.returned (.bool (bC n 1 8))∧w=w':=by
 by_cases h1:1≤n
 ·by_cases h2:n≤8
  ·have H:=hid (show bC n 1 8=true by simp[bC,h1,h2])
   go_enter Tryz.func137,Tryz.ntmps137
   go_wp2
   go_ret
   rw[H.out]
   exact⟨rfl,rfl⟩
  ·have H:=hid (show bC n 1 8=false by simp[bC,h2])
   go_enter Tryz.func137,Tryz.ntmps137
   go_wp2
   go_ret
   rw[H.out]
   exact⟨rfl,rfl⟩
 ·have H:=hid (show bC n 1 8=false by simp[bC,h1])
  go_enter Tryz.func137,Tryz.ntmps137
  go_wp2
  go_ret
  rw[H.out]
  exact⟨rfl,rfl⟩
def be (l:List UInt8):Nat:=l.foldl (fun n x=>n*256+x.toNat) 0
theorem yh (l:List UInt8) (x:UInt8):be (l++[x])=be l*256+x.toNat:=by simp[be,List.foldl_append]
theorem Pb (l:List UInt8):be l<256^l.length:=by
 suffices h: ∀r:List UInt8,be r.reverse<256^r.length by simpa using h l.reverse
 intro r
 induction r with
 |nil=>simp[be]
 |cons x r ih=>
  rw[List.reverse_cons,yh,List.length_cons,Nat.pow_succ]
  have:=x.toNat_lt
  omega
theorem yj (l:List UInt8) (j:Nat) (h:j<l.length):be (l.take (j+1))=be (l.take j)*256+(l.getD j 0).toNat:=by
 rw[List.take_succ_eq_append_getElem h,yh,List.getD_eq_getElem?_getD,List.getElem?_eq_getElem h];rfl
theorem Cg (l:List UInt8) (j:Nat) (h:j≤8):be (l.take j)<256^j:=by
 have h1:=Pb (l.take j)
 have h2:(l.take j).length≤j:=List.length_take_le _ _
 exact Nat.lt_of_lt_of_le h1 (Nat.pow_le_pow_right (by omega) h2)
theorem N9 (a y:Nat) (ha:a<72057594037927936) (hy:y<256):bits .or .u64 (IntKind.u64.wrap ((a:Int)*256)) (IntKind.u64.wrap (y:Int))=((a*256+y:Nat):Int):=by
 have e1:IntKind.u64.wrap ((a:Int)*256)=((a*256:Nat):Int):=by rw[IntKind.wrap_u64];omega
 have e2:IntKind.u64.wrap (y:Int)=(y:Int):=by rw[IntKind.wrap_u64];omega
 rw[e1,e2,u64_or_nat _ _ (by omega) (by omega)]
 have:=Nat.shiftLeft_add_eq_or_of_lt (i:=8) (b:=y) (by omega) a
 rw[Nat.shiftLeft_eq] at this
 rw[←this]
theorem dW:(Tryz.prog.info? 5).map (fun i=>(i.zero,i.size,i.bytes))=some (some (.int .u8 0),1,1):=by kernel_rfl
def Wm (w:World) (l:List UInt8) (k:Nat) (e:Ending) (w':World):Prop:=
 ∃v,e=.returned (.tuple #[.int .u64 (be (l.take k):Int),v,.bool true])∧Below w.heap.size w w'∧w'.ownsRow w.heap.size 5 1 v (l.length-k) ((l.drop k).map bv)
theorem Oz (A:Option Addr) (len c:Nat) (n:Int) (w:World) (h:bC n 1 8=false∨(len:Int)<n):
  Calls Tryz.prog 183 #[.slice A len c,.int .i64 n] w fun e w'=>e=.returned (.tuple #[.int .u64 0,.slice none 0 0,.bool false])∧w=w':=by
 cases h0:bC n 1 8
 ·go_enter Tryz.func183,Tryz.ntmps183
  go_wp2_with (go_at_call 137;refine(lY _ _).mono ?_;rintro e w' ⟨rfl,rfl⟩)
  go_ret3
  exact⟨rfl,rfl⟩
 ·have h2:(len:Int)<n:=by simpa[h0] using h
  go_enter Tryz.func183,Tryz.ntmps183
  go_wp2_with (go_at_call 137;refine(lY _ _).mono ?_;rintro e w' ⟨rfl,rfl⟩)
  go_ret3
  exact⟨rfl,rfl⟩
theorem JO (A:Option Addr) (len c:Nat) (l:List UInt8) (n:Int) (w:World) (B0:Nat) (hB0:B0≤w.heap.size) (Io:At w B0 A (l.map bv)) (hlen:len=l.length) (h1:1≤n) (h8:n≤8) (hn:n≤len) (hl:len≤1000000000) (hlc:len≤c):
  Calls Tryz.prog 183 #[.slice A len c,.int .i64 n] w (Wm w l n.toNat):=by
 have hA:=Io.more hB0
 clear Io hB0
 obtain⟨k,rfl⟩:=Int.eq_ofNat_of_zero_le (show 0≤n by omega)
 rw[Int.toNat_natCast]
 obtain⟨b,o,rfl,hB,hc⟩:=hA.get (by simp;omega)
 have h0:bC (k:Int) 1 8=true:=by simp[bC];omega
 have hcell: ∀i,i<len→w.cell? ⟨b,o+i,none⟩=some (.int .u8 ((l.getD i 0).toNat:Int)):=fun i hi=>by
  have:=hc i _ (TJ (show i<l.length by omega))
  rw[this,List.getD_eq_getElem?_getD,List.getElem?_eq_getElem (show i<l.length by omega)]
  rfl
 have HD:Hid (At w w.heap.size (if c=k then some ⟨b,o,none⟩ else(some ⟨b,o,none⟩:Option Addr).map (·.add k)) ((l.drop k).map bv)):=by
  rw[List.map_drop]
  exact hA.drop k c (fun h=>by rw[List.drop_eq_nil_iff];simp;omega)
 have HC:=hid hcell
 have HL:=hid hlen
 have HM:=hid (show len-k=(l.drop k).length by simp;omega)
 have HN:=hid (show len-k≤1000000000 by omega)
 have ek:(some (⟨b,o,none⟩:Addr):Option Addr).map (·.add k)=some ⟨b,o+k,none⟩:=by
  simp only[Option.map_some,Addr.add]
  by_cases h0:k=0<;>simp[h0]
 rw[ek] at HD
 clear hA hc hcell hlen ek
 go_enter Tryz.func183,Tryz.ntmps183
 go_wp2_with (go_at_call 137;refine(lY _ _).mono ?_;rintro e w' ⟨rfl,rfl⟩)
 go_loop [7,19] (fun t i=> ∃j:Nat,j≤k∧i=.int .i64 j∧t=.int .u64 (be (l.take j))) (fun _ i=>k-(intOf i).toNat)
 case atStart=>exact⟨0,Nat.zero_le _,rfl,by simp[be]⟩
 case round=>
  obtain⟨j,hj,rfl,rfl⟩:=hrel
  by_cases hlt:j<k
  ·have hcj:=HC.out j (by omega)
   go_wp2
   go_round
   case rel=>
    refine⟨j+1,by omega,by go_num,?_⟩
    have hb:=Cg l j (by omega)
    have h9:256^j≤72057594037927936:=Nat.pow_le_pow_right (n:=256) (by omega) (show j≤7 by omega)
    have e:=N9 (be (l.take j)) (l.getD j 0).toNat (by omega) (UInt8.toNat_lt _)
    rw[yj l j (by have:=HL.out;omega)]
    rw[←e,List.getD_eq_getElem?_getD]
   case measure=>simp[intOf];omega
  ·obtain rfl:j=k:=by omega
   by_cases hck:c=j
   ·subst hck
    have HZ:=hid (show l.length-c=0∧l.drop c=[] by have:=HL.out;exact⟨by omega,by rw[List.drop_eq_nil_iff];omega⟩)
    go_wp2_with (at_builtin;refine bT w rfl (.tmp 32) (.tmp 35) 30 rfl 5 Tryz.underlying30 dW _ (by simp) rfl w.heap.size _ 0 _ [] rfl rfl (Nat.zero_le _) (At.nil _ _ _) (aaE _) ?_;intro v' ys d hown)
    go_ret3
    exact⟨v',rfl,by exact aA,by rw[HZ.out.1,HZ.out.2];exact hown⟩
   ·have HE:=HD.out
    rw[if_neg hck] at HE
    have HF:=hid HE
    clear HE HD
    go_wp2_with (at_builtin;refine bT w rfl (.tmp 32) (.tmp 35) 30 rfl 5 Tryz.underlying30 dW _ (by simp) rfl w.heap.size _ (len-j) _ (l.drop j) rfl HM.out HN.out HF.out (aaE _) ?_;intro v' ys d hown)
    go_ret3
    exact⟨v',rfl,by exact aA,by rw[←HL.out];exact hown⟩
def bX (n:Nat):Nat→List UInt8
 |0=>[]
 |k+1=>bX (n / 256) k++[UInt8.ofNat n]
def TD (w:World) (n k:Nat) (e:Ending) (w':World):Prop:=
 ∃v,e=.returned v∧Below w.heap.size w w'∧w'.ownsRow w.heap.size 5 1 v k ((bX n k).map bv)
theorem UH (n size:Int) (w:World) (h:bC size 1 8=false):
  Calls Tryz.prog 94 #[.int .u64 n,.int .i64 size] w fun e w'=>e=.returned (.slice none 0 0)∧w=w':=by
 go_enter Tryz.func94,Tryz.ntmps94
 go_wp2_with (go_at_call 137;refine(lY _ _).mono ?_;rintro e w' ⟨rfl,rfl⟩)
 go_ret
 exact⟨rfl,rfl⟩
theorem aP (n k:Nat):(bX n k).length=k:=by
 induction k generalizing n with
 |zero=>rfl
 |succ k ih=>simp[bX,ih]
theorem FL (n k j:Nat) (h:k≤j):bX n k=(bX n j).drop (j-k):=by
 induction k generalizing n j with
 |zero=>rw[Nat.sub_zero,List.drop_of_length_le (by rw[aP];omega)];rfl
 |succ k ih=>
  obtain⟨j,rfl⟩: ∃i,j=i+1:=⟨j-1,by omega⟩
  rw[bX,bX,ih (n / 256) j (by omega),List.drop_append_of_le_length (by rw[aP];omega)]
  congr 2
  omega
theorem jg (n:Nat):bv (UInt8.ofNat n)=.int .u8 ((n:Int)%256):=by
 show Value.int .u8 (((UInt8.ofNat n).toNat:Nat):Int)=_
 rw[show(UInt8.ofNat n).toNat=n%256 from by simp]
 simp
theorem Xg (n:Nat):(bX n 8).map bv=[.int .u8 ((n:Int) / 72057594037927936%256),.int .u8 ((n:Int) / 281474976710656%256),.int .u8 ((n:Int) / 1099511627776%256),.int .u8 ((n:Int) / 4294967296%256),
  .int .u8 ((n:Int) / 16777216%256),.int .u8 ((n:Int) / 65536%256),.int .u8 ((n:Int) / 256%256),.int .u8 ((n:Int)%256)]:=by
 simp only[bX,List.map_append,List.map_cons,List.map_nil,List.nil_append,List.cons_append,jg,Nat.div_div_eq_div_mul]
 simp
theorem UG (n k:Nat) (w:World) (T:TypeId) (h8:k≤8) (cs:Array Value) (hcs:cs=((bX n 8).map bv).toArray):At (w.alloc (.cells cs T)) (w.heap.size+1) (some ⟨w.heap.size,8-k,none⟩) ((bX n k).map bv):=by
 subst hcs
 refine .inr ⟨w.heap.size,8-k,rfl,by omega,fun j u hu=>?_⟩
 rw[World.cell?_alloc_new]
 rw[FL n k 8 h8,List.map_drop,List.getElem?_drop] at hu
 simpa using hu
theorem oC (n k:Nat) (w:World) (hn:n<18446744073709551616) (h1:1≤k) (h8:k≤8):
  Calls Tryz.prog 94 #[.int .u64 (n:Int),.int .i64 (k:Int)] w (TD w n k):=by
 have h0:bC (k:Int) 1 8=true:=by simp[bC];omega
 have HN:=hid hn
 have HQ:=hid (UG n k w 171 h8 _ (by rw[Xg n]))
 have HK:k=1∨k=2∨k=3∨k=4∨k=5∨k=6∨k=7∨k=8:=by omega
 clear hn h1 h8
 rcases HK with rfl|rfl|rfl|rfl|rfl|rfl|rfl|rfl
 all_goals
  go_enter Tryz.func94,Tryz.ntmps94
  go_wp2_with (go_at_call 137;refine(lY _ _).mono ?_;rintro e w' ⟨rfl,rfl⟩)
  refine wp_loop_rounds 9 ?_
  iterate 8 (rw[rounds_succ];go_wp2_with fail)
  rw[rounds_succ]
 ·go_wp2_with (at_builtin;refine bT _ rfl (.tmp 23) (.tmp 26) 30 rfl 5 Tryz.underlying30 dW _ (by simp) rfl (w.heap.size+1) _ 1 _ (bX n 1) rfl (aP n 1).symm (by omega) HQ.out (by simp) ?_;intro v' ys d hown)
  go_ret
  exact⟨v',rfl,by exact aA,aK hown (by simp)⟩
 ·go_wp2_with (at_builtin;refine bT _ rfl (.tmp 23) (.tmp 26) 30 rfl 5 Tryz.underlying30 dW _ (by simp) rfl (w.heap.size+1) _ 2 _ (bX n 2) rfl (aP n 2).symm (by omega) HQ.out (by simp) ?_;intro v' ys d hown)
  go_ret
  exact⟨v',rfl,by exact aA,aK hown (by simp)⟩
 ·go_wp2_with (at_builtin;refine bT _ rfl (.tmp 23) (.tmp 26) 30 rfl 5 Tryz.underlying30 dW _ (by simp) rfl (w.heap.size+1) _ 3 _ (bX n 3) rfl (aP n 3).symm (by omega) HQ.out (by simp) ?_;intro v' ys d hown)
  go_ret
  exact⟨v',rfl,by exact aA,aK hown (by simp)⟩
 ·go_wp2_with (at_builtin;refine bT _ rfl (.tmp 23) (.tmp 26) 30 rfl 5 Tryz.underlying30 dW _ (by simp) rfl (w.heap.size+1) _ 4 _ (bX n 4) rfl (aP n 4).symm (by omega) HQ.out (by simp) ?_;intro v' ys d hown)
  go_ret
  exact⟨v',rfl,by exact aA,aK hown (by simp)⟩
 ·go_wp2_with (at_builtin;refine bT _ rfl (.tmp 23) (.tmp 26) 30 rfl 5 Tryz.underlying30 dW _ (by simp) rfl (w.heap.size+1) _ 5 _ (bX n 5) rfl (aP n 5).symm (by omega) HQ.out (by simp) ?_;intro v' ys d hown)
  go_ret
  exact⟨v',rfl,by exact aA,aK hown (by simp)⟩
 ·go_wp2_with (at_builtin;refine bT _ rfl (.tmp 23) (.tmp 26) 30 rfl 5 Tryz.underlying30 dW _ (by simp) rfl (w.heap.size+1) _ 6 _ (bX n 6) rfl (aP n 6).symm (by omega) HQ.out (by simp) ?_;intro v' ys d hown)
  go_ret
  exact⟨v',rfl,by exact aA,aK hown (by simp)⟩
 ·go_wp2_with (at_builtin;refine bT _ rfl (.tmp 23) (.tmp 26) 30 rfl 5 Tryz.underlying30 dW _ (by simp) rfl (w.heap.size+1) _ 7 _ (bX n 7) rfl (aP n 7).symm (by omega) HQ.out (by simp) ?_;intro v' ys d hown)
  go_ret
  exact⟨v',rfl,by exact aA,aK hown (by simp)⟩
 ·go_wp2_with (at_builtin;refine bT _ rfl (.tmp 23) (.tmp 26) 30 rfl 5 Tryz.underlying30 dW _ (by simp) rfl (w.heap.size+1) _ 8 _ (bX n 8) rfl (aP n 8).symm (by omega) HQ.out (by simp) ?_;intro v' ys d hown)
  go_ret
  exact⟨v',rfl,by exact aA,aK hown (by simp)⟩
theorem Ou (n size:Int) (w:World) (h:size<1∨8<size):
  Calls Tryz.prog 29 #[.int .u64 n,.int .i64 size] w fun e w'=>e=.returned (.slice none 0 0)∧w=w':=by
 by_cases h1:size<1
 ·go_enter Tryz.func29,Tryz.ntmps29
  go_wp2
  go_ret
  exact⟨rfl,rfl⟩
 ·have h2:8<size:=by omega
  go_enter Tryz.func29,Tryz.ntmps29
  go_wp2
  go_ret
  exact⟨rfl,rfl⟩
theorem kW (w:World) (e:TypeId) (l:List UInt8) (n:Nat) (cs:Array Value) (hn:n=l.length) (hm:n≤1000000000) (hcs:cs.toList=l.map bv):(w.alloc (.cells cs e)).ownsRow w.heap.size e 1 (.slice (some ⟨w.heap.size,0,none⟩) n n) n (l.map bv):=by
 subst hn
 have hs:cs.size=l.length:=by rw[←Array.length_toList,hcs];simp
 refine⟨by simp,.inr ⟨w.heap.size,l.length,cs,rfl,aaE _,heap_alloc_new w _,aaE _,by unfold maxLen;omega,by omega,?_⟩⟩
 rw[hcs,List.take_of_length_le (by simp)]
theorem vH (n k:Nat) (w:World) (hn:n<18446744073709551616) (h1:1≤k) (h8:k≤8):
  Calls Tryz.prog 29 #[.int .u64 (n:Int),.int .i64 (k:Int)] w (TD w n k):=by
 have HK:k=1∨k=2∨k=3∨k=4∨k=5∨k=6∨k=7∨k=8:=by omega
 clear h1 h8
 rcases HK with rfl|rfl|rfl|rfl|rfl|rfl|rfl|rfl
 ·have hmk: ∀w:World,(Instr.makeSlice 30 (.int .i64 1) (.int .i64 1)).run Tryz.prog w=.ok (.slice (some ⟨w.heap.size,0,none⟩) 1 1) (w.alloc (.cells #[.int .u8 0] 5)):=fun _=>by kernel_rfl
  go_enter Tryz.func29,Tryz.ntmps29
  go_wp2
  refine wp_loop_rounds 2 ?_
  iterate 2 (rw[rounds_succ];go_wp2)
  go_ret
  exact⟨_,rfl,by exact aA,kW w 5 (bX n 1) 1 _ (aP n 1).symm (by omega) (by simp[bX,jg])⟩
 ·have hmk: ∀w:World,(Instr.makeSlice 30 (.int .i64 2) (.int .i64 2)).run Tryz.prog w=.ok (.slice (some ⟨w.heap.size,0,none⟩) 2 2) (w.alloc (.cells #[.int .u8 0,.int .u8 0] 5)):=fun _=>by kernel_rfl
  go_enter Tryz.func29,Tryz.ntmps29
  go_wp2
  refine wp_loop_rounds 3 ?_
  iterate 3 (rw[rounds_succ];go_wp2)
  go_ret
  exact⟨_,rfl,by exact aA,kW w 5 (bX n 2) 2 _ (aP n 2).symm (by omega) (by simp[bX,jg])⟩
 ·have hmk: ∀w:World,(Instr.makeSlice 30 (.int .i64 3) (.int .i64 3)).run Tryz.prog w=.ok (.slice (some ⟨w.heap.size,0,none⟩) 3 3) (w.alloc (.cells #[.int .u8 0,.int .u8 0,.int .u8 0] 5)):=fun _=>by kernel_rfl
  go_enter Tryz.func29,Tryz.ntmps29
  go_wp2
  refine wp_loop_rounds 4 ?_
  iterate 4 (rw[rounds_succ];go_wp2)
  go_ret
  exact⟨_,rfl,by exact aA,kW w 5 (bX n 3) 3 _ (aP n 3).symm (by omega) (by simp[bX,jg])⟩
 ·have hmk: ∀w:World,(Instr.makeSlice 30 (.int .i64 4) (.int .i64 4)).run Tryz.prog w=.ok (.slice (some ⟨w.heap.size,0,none⟩) 4 4) (w.alloc (.cells #[.int .u8 0,.int .u8 0,.int .u8 0,.int .u8 0] 5)):=fun _=>by kernel_rfl
  go_enter Tryz.func29,Tryz.ntmps29
  go_wp2
  refine wp_loop_rounds 5 ?_
  iterate 5 (rw[rounds_succ];go_wp2)
  go_ret
  exact⟨_,rfl,by exact aA,kW w 5 (bX n 4) 4 _ (aP n 4).symm (by omega) (by simp[bX,jg])⟩
 ·have hmk: ∀w:World,(Instr.makeSlice 30 (.int .i64 5) (.int .i64 5)).run Tryz.prog w=.ok (.slice (some ⟨w.heap.size,0,none⟩) 5 5) (w.alloc (.cells #[.int .u8 0,.int .u8 0,.int .u8 0,.int .u8 0,.int .u8 0] 5)):=fun _=>by kernel_rfl
  go_enter Tryz.func29,Tryz.ntmps29
  go_wp2
  refine wp_loop_rounds 6 ?_
  iterate 6 (rw[rounds_succ];go_wp2)
  go_ret
  exact⟨_,rfl,by exact aA,kW w 5 (bX n 5) 5 _ (aP n 5).symm (by omega) (by simp[bX,jg])⟩
 ·have hmk: ∀w:World,(Instr.makeSlice 30 (.int .i64 6) (.int .i64 6)).run Tryz.prog w=.ok (.slice (some ⟨w.heap.size,0,none⟩) 6 6) (w.alloc (.cells #[.int .u8 0,.int .u8 0,.int .u8 0,.int .u8 0,.int .u8 0,.int .u8 0] 5)):=fun _=>by kernel_rfl
  go_enter Tryz.func29,Tryz.ntmps29
  go_wp2
  refine wp_loop_rounds 7 ?_
  iterate 7 (rw[rounds_succ];go_wp2)
  go_ret
  exact⟨_,rfl,by exact aA,kW w 5 (bX n 6) 6 _ (aP n 6).symm (by omega) (by simp[bX,jg])⟩
 ·have hmk: ∀w:World,(Instr.makeSlice 30 (.int .i64 7) (.int .i64 7)).run Tryz.prog w=.ok (.slice (some ⟨w.heap.size,0,none⟩) 7 7) (w.alloc (.cells #[.int .u8 0,.int .u8 0,.int .u8 0,.int .u8 0,.int .u8 0,.int .u8 0,.int .u8 0] 5)):=fun _=>by kernel_rfl
  go_enter Tryz.func29,Tryz.ntmps29
  go_wp2
  refine wp_loop_rounds 8 ?_
  iterate 8 (rw[rounds_succ];go_wp2)
  go_ret
  exact⟨_,rfl,by exact aA,kW w 5 (bX n 7) 7 _ (aP n 7).symm (by omega) (by simp[bX,jg])⟩
 ·have hmk: ∀w:World,(Instr.makeSlice 30 (.int .i64 8) (.int .i64 8)).run Tryz.prog w=.ok (.slice (some ⟨w.heap.size,0,none⟩) 8 8) (w.alloc (.cells #[.int .u8 0,.int .u8 0,.int .u8 0,.int .u8 0,.int .u8 0,.int .u8 0,.int .u8 0,.int .u8 0] 5)):=fun _=>by kernel_rfl
  go_enter Tryz.func29,Tryz.ntmps29
  go_wp2
  refine wp_loop_rounds 9 ?_
  iterate 9 (rw[rounds_succ];go_wp2)
  go_ret
  exact⟨_,rfl,by exact aA,kW w 5 (bX n 8) 8 _ (aP n 8).symm (by omega) (by simp[bX,jg])⟩
open Go.ChangeShapes Go.WideShapes Go.ChangeAt Go.RowKit Go.Joins
set_option maxRecDepth 100000
theorem K3:Tryz.prog.cellsOf 5=1:=by kernel_rfl
theorem pR {H:Type} {enc:TypeId×Value→H} {W:World} {fuel:Nat} {cs:List Value} {x:DataW H×List MemPlace} (h:DataW.trod enc Tryz.prog W 0 (fun _=>true) true fuel 30 cs=some x):
  ∃(A:Option Addr) (len c:Nat) (l:List UInt8),cs=[.slice A len c]∧At W W.heap.size A (l.map bv)∧len=l.length∧len≤c∧(len:Int)≤9223372036854775807:=by
 rcases open_ints Tryz.underlying30 Tryz.underlying5 K3 h with⟨hcs,_⟩|⟨a,len,cap,zs,hcs,_,hl,hm,hz,_,hcell,hwz⟩
 ·exact⟨none,0,0,[],hcs,At.nil _ _ _,rfl,aaE _,by omega⟩
 ·have hz':zs.length=cap:=by simpa using hz
  refine⟨some a,len,cap,(zs.take len).map fun z=>UInt8.ofNat z.toNat,hcs,?_,by simp;omega,hl,by unfold maxLen at hm;omega⟩
  have hbv:((zs.take len).map fun z=>UInt8.ofNat z.toNat).map bv=(zs.take len).map (Value.int .u8):=by
   rw[List.map_map]
   apply List.map_congr_left
   intro z hzm
   have hw:=hwz z (List.mem_of_mem_take hzm)
   have hb:0≤z∧z≤255:=by simpa[Lit.wf,IntKind.min,IntKind.max,IntKind.signed,IntKind.bits] using hw
   obtain⟨n,rfl⟩:=Int.eq_ofNat_of_zero_le hb.1
   show Value.int .u8 (((UInt8.ofNat n).toNat:Nat):Int)=_
   rw[show(UInt8.ofNat n).toNat=n%256 from by simp]
   congr 1
   omega
  rw[hbv]
  rcases Nat.eq_zero_or_pos len with h0|h0
  ·left;simp[h0]
  ·right
   have hc0:=hcell 0 (by omega)
   obtain⟨b,off,spot⟩:=a
   have hspot:spot=none:=by simpa[Addr.add] using World.cell?_spot hc0
   subst hspot
   have hlt:b<W.heap.size:=by
    have:=World.block_lt_of_cell? W _ hc0
    simpa[Addr.add] using this
   refine⟨b,off,rfl,hlt,fun j u hu=>?_⟩
   rw[List.getElem?_map,List.getElem?_take] at hu
   have hj:j<len:=by
    by_cases hj:j<len
    ·exact hj
    ·rw[if_neg hj] at hu;cases hu
   rw[if_pos hj,List.getElem?_eq_getElem (by omega)] at hu
   have hc:=hcell j (by omega)
   rw[List.getD_eq_getElem?_getD,List.getElem?_eq_getElem (by omega)] at hc
   have e:(⟨b,off,none⟩:Addr).add j=⟨b,off+j,none⟩:=by
    simp only[Addr.add]
    by_cases h0:j=0<;>simp[h0]
   rw[e] at hc
   rw[hc]
   simpa using hu
open Go.ChangeShapes Go.WideShapes Go.ChangeAt Go.RowKit Go.Joins Go.Deep
set_option maxRecDepth 100000
section
variable {H:Type} {enc:TypeId×Value→H} {P:Program} {w:World} {base:Nat} {spare:Nat→Bool} {held:Bool}
end
theorem zV (b o k:Nat):(⟨b,o,none⟩:Addr).add k=⟨b,o+k,none⟩:=by
 simp only[Addr.add]
 by_cases h0:k=0<;>simp[h0]
def Steps (Bn B:Nat) (A:World) (row:Option Nat):Prop:= ∀r,row=some r→r=Bn∨(B≤r∧ ∃o:Obj,A.heap[r]? =some o∧o.isCells=false)
def uz (Bn B:Nat) (I:World→Prop):Prop:= ∀A C row,I A→A.grownBy C row→Steps Bn B A row→I C
structure kF (Bn n0:Nat) (A C:World):Prop where
 below:Below n0 A C
 box:C.heap[Bn]? =A.heap[Bn]?
theorem kF.trans {Bn n0:Nat} {A C D:World} (h:kF Bn n0 A C) (k:kF Bn n0 C D):kF Bn n0 A D:=⟨h.below.trans k.below,k.box.trans h.box⟩
theorem kF.putObj {Bn n0:Nat} (A:World) (l:Nat) (o:Obj) (h0:n0≤l) (hb:Bn≠l):kF Bn n0 A (A.putObj l o):=
 ⟨⟨rfl,rfl,rfl,by simp,fun k hk=>World.putObj_heap_other (by omega)⟩,World.putObj_heap_other hb⟩
def GY {σ:Type} (F:Fence) (n:Nat) (P:Program) (g:Nat) (lb:Array Value) (Bn n0 B:Nat) (G:σ→Array Value→σ→World→Prop) (Done:σ→Prop) (s0:σ) (W:World):Prop:=
 ∀(l:Nat) (J:σ→World→Prop) (Jx:World→Prop),(∀s A C row,J s A→A.grownBy C row→(∀r,row=some r→r=Bn)→J s C)→
  (∀s args s' W1,J s W1→G s args s' W1→YieldAt F (n-1) P l args W1 fun e W'=>(e=.returned (.bool true)∧J s' W'∧kF Bn n0 W1 W')∨(e=.returned (.bool false)∧Jx W'))→
  J s0 W→CallsIn F n P g (#[.func (.yield l) #[] #[]]++lb) W fun e W'=>(∃v,e=.returned v)∧((∃s,Done s∧J s W')∨Jx W')
def KY {σ:Type} (Bn n0:Nat) (I:σ→World→Prop) (Ix:Code→World→Prop) (s':σ) (W:World):Exit→Act→World→Prop
 | .normal,_,W'=>KeepsOthers W W'∧kF Bn n0 W W'∧I s' W'
 | .ret,_,W'=>KeepsOthers W W'∧Ix .ret W'
 | .exit id,_,W'=>KeepsOthers W W'∧Ix (.exit id) W'
 | .goto t,_,W'=>KeepsOthers W W'∧Ix (.goto t) W'
 | .panic _,_,_=>False
 | .outgrown,_,_=>False
theorem oO {σ:Type} {F:Fence} {n:Nat} {P:Program} {g:Operand} {ps:Array Tmp} {assign body:Code} {Q:Exit→Act→World→Prop} {a:Act} {w:World}
  (hro:F.round=none) (h1:1≤n) {gf:Nat} {lb:Array Value} (hg:a.eval g=.func (.func gf) #[] lb) (hFg:F.fn gf) (eg: ∀args w,(callFunc gf args).run P w=.ok (.enter gf args) w)
  {Bn n0:Nat} (Zc:Bn<w.heap.size) (hn0:n0≤w.heap.size) {G:σ→Array Value→σ→World→Prop} {Done:σ→Prop} {s0:σ}
  (hps: ∀s args s' W,G s args s' W→args.size=ps.size)
  (I:σ→World→Prop) (Ix:Code→World→Prop) (hI: ∀s,uz Bn w.heap.size (I s)) (hIx: ∀c,uz Bn w.heap.size (Ix c)) (h0:I s0 w)
  (hseq: ∀W1,Below w.heap.size w W1→I s0 W1→GY F (n-1) P gf lb Bn n0 w.heap.size G Done s0 W1)
  (Ax:σ→Array Value→σ→Act→World→Prop) (hAx: ∀s args s' a',uz Bn w.heap.size (Ax s args s' a'))
  (hassign: ∀(l:Nat) s args s' W,w.heap.size≤l→l<W.heap.size→I s W→G s args s' W→
   assign.wpIn (F.inRound l) (n-1-1) P (Exit.then (fun a₁ w₁=>KeepsOthers W w₁∧kF Bn n0 W w₁∧Ax s args s' a₁ w₁) (fun _ _ _=>False)) {tmps:=(ps.zip args).foldl (fun t (p,v)=>t.setIfInBounds p v) a.tmps,defers:=[]} W)
  (hbody: ∀(l:Nat) s args s' a₁ W,Ax s args s' a₁ W→body.wpIn (F.inRound l) (n-1-1) P (KY Bn n0 I Ix s' W) a₁ W)
  (hdone: ∀s W,Done s→I s W→W.heap[w.heap.size]? =some (.deferred (some []))→Q .normal {a with defers:={target:=.collected w.heap.size,args:=#[]}::a.defers} W)
  (hstop: ∀c W,Ix c W→W.heap[w.heap.size]? =some (.deferred (some []))→c.wpIn F n P Q {a with defers:={target:=.collected w.heap.size,args:=#[]}::a.defers} W):
  (Code.rangeFunc g ps assign body).wpIn F n P Q a w:=by
 refine wpIn_rangeFunc ?_
 intro fn hfn
 rw[hro]
 -- the two blocks of the loop: D for deferred calls, L for its record
 let oL:LoopState→Option Code→Loop:=fun st pe=>{state:=st,pending:=pe,fn,tmps:=a.tmps,params:=ps,assign,body,defers:=w.heap.size}
 have hsz1:((w.alloc (.deferred (some []))).alloc (.loop (oL .ready none))).heap.size=w.heap.size+1+1:=by simp
 generalize hW1:(w.alloc (.deferred (some []))).alloc (.loop (oL .ready none))=W1 at hsz1
 have YV:Below w.heap.size w W1:=by rw[←hW1];exact((Below.refl _ w).alloc (aaE _) _).alloc (by simp) _
 have atL:W1.heap[w.heap.size+1]? =some (.loop (oL .ready none)):=by
  rw[←hW1];have:=World.alloc_heap_new (w.alloc (.deferred (some []))) (.loop (oL .ready none));rwa [World.size_alloc] at this
 have atD:W1.heap[w.heap.size]? =some (.deferred (some [])):=by
  rw[←hW1];exact(Below.heap_alloc _ _ _ (by simp)).trans (World.alloc_heap_new w _)
 have i1:I s0 W1:=by
  rw[←hW1]
  exact hI s0 _ _ none (hI s0 _ _ none h0 (World.grownBy_alloc w _ none) (fun r e=>by cases e)) (World.grownBy_alloc _ _ none) (fun r e=>by cases e)
 -- a turn of the record leaves what the caller says
 have turn: ∀(K:World→Prop),uz Bn w.heap.size K→ ∀(W:World) (r:Loop) (o:Obj),K W→W.heap[w.heap.size+1]? =some (.loop r)→K (W.putObj (w.heap.size+1) o):=
  fun K hK W r o hk hr=>hK _ _ (some (w.heap.size+1)) hk (grownBy_putObj' W _ o) (fun q e=>by cases e;exact .inr ⟨by omega,_,hr,rfl⟩)
 refine⟨w.heap.size+1,[{target:=.collected w.heap.size,args:=#[]}],W1,{target:=.fn (.func gf) lb,args:=#[.func (.yield (w.heap.size+1)) #[] #[]]},W1,gf,
  #[.func (.yield (w.heap.size+1)) #[] #[]]++lb,W1,?_,?_,?_,?_,fun _=>h1,?_⟩
 ·rw[←hW1];exact run_enterLoop_outer _ _ _ _ _
 ·simp only[resolve,hg]
  simp[go_sem]
 ·intro f' hf';simp[Target.leads] at hf';subst hf';exact hFg
 ·simp[invoke,go_sem,eg]
 ·let Two:Loop→World→Prop:=fun r W=>W.heap[w.heap.size+1]? =some (.loop r)∧W.heap[w.heap.size]? =some (.deferred (some []))
  have JR: ∀{r A C row},Two r A→A.grownBy C row→(∀q,row=some q→q=Bn)→Two r C:=fun {r A C row} h hgr hq=>by
   obtain⟨hl,hd⟩:=h
   refine⟨?_,?_⟩
   ·exact(hgr.block _ (Array.getElem?_eq_some_iff.1 hl).1 (fun e=>by have:=hq _ e.symm;omega)).trans hl
   ·exact(hgr.block _ (Array.getElem?_eq_some_iff.1 hd).1 (fun e=>by have:=hq _ e.symm;omega)).trans hd
  refine(hseq W1 YV i1 (w.heap.size+1) (fun s W=>I s W∧Two (oL .ready none) W) (fun W=> ∃c,Ix c W∧Two (oL .done (some c)) W)
   (fun s A C row h hgr hq=>⟨hI s A C row h.1 hgr (fun r e=>.inl (hq r e)),JR h.2 hgr hq⟩) ?_ ⟨i1,atL,atD⟩).mono ?_
  ·-- one round
   rintro s args s' W ⟨hi,hl,hd⟩ hG
   have hlt:w.heap.size+1<W.heap.size:=(Array.getElem?_eq_some_iff.1 hl).1
   refine⟨fn,_,assign,body,run_yield (P:=P) (args:=args) hl (hps _ _ _ _ hG),roundIn_of_wpIn hfn (wpIn_mono (hassign _ s args s' W (by omega) hlt hi hG) ?_)⟩
   rintro e a1 W2 hp
   cases e with
   |normal=>
    obtain⟨ko,rk,hax⟩:=hp
    have hl2:=ko.same _ _ hl rfl
    have hd2:=ko.same _ _ hd rfl
    refine⟨_,run_beginRound hl2 rfl,?_⟩
    have hlt2:w.heap.size+1<W2.heap.size:=(Array.getElem?_eq_some_iff.1 hl2).1
    have busy:=World.putObj_heap_same (w:=W2) (o:=.loop {oL .ready none with state:=.busy}) hlt2
    have dfr:(W2.putObj (w.heap.size+1) (.loop {oL .ready none with state:=.busy})).heap[w.heap.size]? =some (.deferred (some [])):=(World.putObj_heap_other (by omega)).trans hd2
    have k2:kF Bn n0 W2 (W2.putObj (w.heap.size+1) (.loop {oL .ready none with state:=.busy})):=kF.putObj _ _ _ (by omega) (by omega)
    refine wpIn_mono (hbody (w.heap.size+1) s args s' a1 _ (turn _ (hAx s args s' a1) _ _ _ hax hl2)) ?_
    have close: ∀(jump:Option Code) (W3:World),KeepsOthers (W2.putObj (w.heap.size+1) (.loop {oL .ready none with state:=.busy})) W3→
      (Instr.endRound (w.heap.size+1) jump).run P W3=.ok (.bool jump.isNone) (W3.putObj (w.heap.size+1) (.loop (oL (if jump.isNone then .ready else .done) jump)))∧
      W3.heap[w.heap.size+1]? =some (.loop {oL .ready none with state:=.busy})∧Two (oL (if jump.isNone then .ready else .done) jump) (W3.putObj (w.heap.size+1) (.loop (oL (if jump.isNone then .ready else .done) jump))):=fun jump W3 k3=>by
     have hl3:=k3.same _ _ busy rfl
     exact⟨run_endRound (P:=P) jump hl3,hl3,World.putObj_heap_same (Array.getElem?_eq_some_iff.1 hl3).1,(World.putObj_heap_other (by omega)).trans (k3.same _ _ dfr rfl)⟩
    rintro e a3 W3 hp
    cases e with
    |normal=>
     obtain⟨k3,rk3,hi3⟩:=hp
     obtain⟨hr,hl3,ht⟩:=close none W3 k3
     exact⟨_,_,hr,.inl ⟨rfl,⟨turn _ (hI s') _ _ _ hi3 hl3,ht⟩,(rk.trans (k2.trans rk3)).trans (kF.putObj _ _ _ (by omega) (by omega))⟩⟩
    |ret=>
     obtain⟨k3,hi3⟩:=hp
     obtain⟨hr,hl3,ht⟩:=close (some .ret) W3 k3
     exact⟨_,_,hr,.inr ⟨rfl,.ret,turn _ (hIx _) _ _ _ hi3 hl3,ht⟩⟩
    |exit id=>
     obtain⟨k3,hi3⟩:=hp
     obtain⟨hr,hl3,ht⟩:=close (some (.exit id)) W3 k3
     exact⟨_,_,hr,.inr ⟨rfl,.exit id,turn _ (hIx _) _ _ _ hi3 hl3,ht⟩⟩
    |goto t=>
     obtain⟨k3,hi3⟩:=hp
     obtain⟨hr,hl3,ht⟩:=close (some (.goto t)) W3 k3
     exact⟨_,_,hr,.inr ⟨rfl,.goto t,turn _ (hIx _) _ _ _ hi3 hl3,ht⟩⟩
    |panic ch=>exact hp.elim
    |outgrown=>exact hp.elim
   |ret=>exact hp.elim
   |exit id=>exact hp.elim
   |goto t=>exact hp.elim
   |panic ch=>exact hp.elim
   |outgrown=>exact hp.elim
  ·rintro e W2 ⟨⟨v,rfl⟩,(⟨s,hD,hi,hl,hd⟩|⟨c,hi,hl,hd⟩)⟩
   ·exact⟨none,_,run_endLoop (P:=P) hl (by simp[oL]),hdone s _ hD (turn _ (hI s) _ _ _ hi hl) ((World.putObj_heap_other (by omega)).trans hd)⟩
   ·exact⟨some c,_,run_endLoop (P:=P) hl (by simp[oL]),hstop c _ (turn _ (hIx c) _ _ _ hi hl) ((World.putObj_heap_other (by omega)).trans hd)⟩
@[go_sem] theorem Un {a x:Nat} {l:List Obj} (h:a<x):a<grow x l:=by simp only[grow];omega
@[go_sem] theorem Sz {a x:Nat} {l:List Obj} (h:a<x):a<grow x l+1:=by simp only[grow];omega
@[go_sem] theorem SA {a x:Nat} {l:List Obj} (h:a<x):a<grow x l+1+1:=by simp only[grow];omega
@[go_sem] theorem SB {a x:Nat} {l:List Obj} (h:a<x):a<grow x l+1+1+1:=by simp only[grow];omega
@[go_sem] theorem SE {a x:Nat} {l:List Obj} (h:a<x):a<grow x l+1+1+1+1:=by simp only[grow];omega
@[go_sem] theorem O_ (w:World) (n:Nat) (o:Obj):(w.drewN n).alloc o=(w.alloc o).drewN n:=rfl
@[go_sem] theorem Kn (w:World) (n:Nat) (p:Addr) (v:Value):(w.drewN n).setCell p v=(w.setCell p v).drewN n:=rfl
theorem dV:(Tryz.prog.info? 111).map (fun i=>(i.zero,i.size,i.bytes))=some (some (.agg #[.int .i64 0,.slice none 0 0]),2,32):=by kernel_rfl
structure aH where
 t:Int
 d:List UInt8
 a:Option Addr
 c:Nat
def aH.v (e:aH):Value:=.slice e.a e.d.length e.c
def aH.o (e:aH):Int×List UInt8:=(e.t,e.d)
def cellsE (E:List aH):List Value:=E.flatMap fun e=>[.int .i64 e.t,e.v]
def aI (W:World) (base:Nat) (v:Value) (E:List aH):Prop:=
 W.ownsRow base 111 2 v E.length (cellsE E)∧ ∀e∈E,W.ownsRow base 5 1 e.v e.d.length (e.d.map bv)
def aJ (W:World) (B:Nat) (A:Option Addr) (E:List aH):Prop:=
 At W B A (cellsE E)∧ ∀e∈E,At W B e.a (e.d.map bv)∧e.d.length≤e.c
theorem pq (E:List aH):(cellsE E).length=2*E.length:=by
 induction E with
 |nil=>rfl
 |cons e E ih=>simp only[cellsE,List.flatMap_cons,List.length_append,List.length_cons,List.length_nil] at*;omega
theorem fJ (E:List aH) (e:aH):cellsE (E++[e])=cellsE E++[.int .i64 e.t,e.v]:=by simp[cellsE]
theorem mE: ∀(E:List aH) (k:Nat) (hk:k<E.length),(cellsE E)[2*k]? =some (.int .i64 E[k].t)∧(cellsE E)[2*k+1]? =some E[k].v
 |e::E,0,_=>⟨rfl,rfl⟩
 |e::E,k+1,hk=>by
  have:=mE E k (by simpa using hk)
  have e1:cellsE (e::E)=.int .i64 e.t::e.v::cellsE E:=rfl
  rw[e1]
  have h2:2*(k+1)=2*k+1+1:=by omega
  rw[h2]
  simpa using this
theorem yw (l:List UInt8): ∀u∈l.map bv,u.oneCell'=true:=by
 intro u hu
 obtain⟨x,_,rfl⟩:=List.mem_map.1 hu
 rfl
theorem aJ.keep {W W':World} {B:Nat} {A:Option Addr} {E:List aH} (h:aJ W B A E) (hb:Below B W W'):aJ W' B A E:=
 ⟨h.1.keep hb,fun e he=>⟨(h.2 e he).1.keep hb,(h.2 e he).2⟩⟩
theorem aJ.more {W:World} {B B':Nat} {A:Option Addr} {E:List aH} (h:aJ W B A E) (hB:B≤B'):aJ W B' A E:=
 ⟨h.1.more hB,fun e he=>⟨(h.2 e he).1.more hB,(h.2 e he).2⟩⟩
theorem aI.at {W:World} {base:Nat} {A:Option Addr} {n c:Nat} {E:List aH} (h:aI W base (.slice A n c) E):aJ W W.heap.size A E:=by
 refine⟨?_,fun e he=>?_⟩
 ·have:=h.1
  obtain⟨A',c',hv,-,-⟩:=ownsRow_form this
  cases hv
  exact At.bq this
 ·have:=h.2 e he
  obtain⟨A',c',hv,hc,-⟩:=ownsRow_form this
  cases hv
  exact⟨At.bq this,hc⟩
theorem aJ.get {W:World} {B:Nat} {A:Option Addr} {E:List aH} (h:aJ W B A E) {k:Nat} (hk:k<E.length):
  ∃b o,A=some ⟨b,o,none⟩∧b<B∧W.cell? ⟨b,o+k*2,none⟩=some (.int .i64 E[k].t)∧W.cell? ⟨b,o+k*2+1,none⟩=some E[k].v:=by
 obtain⟨b,o,hA,hB,hc⟩:=h.1.get (by rw[pq];omega)
 obtain⟨h0,h1⟩:=mE E k hk
 exact⟨b,o,hA,hB,by have:=hc _ _ h0;rwa [show o+2*k=o+k*2 by omega] at this,by have:=hc _ _ h1;rwa [show o+(2*k+1)=o+k*2+1 by omega] at this⟩
theorem bL {w:World} {base:Nat} {e:TypeId} {size n:Nat} {v:Value} {xs:List Value} (h:w.ownsRow base e size v n xs) {k:Nat} (hk:v.ownBlock=some k): ∃cur,w.heap[k]? =some (.cells cur e (0,0)):=by
 rcases h.2 with⟨rfl,_⟩|⟨g,cap,cur,rfl,_,hh,_⟩
 ·cases hk
 ·simp only[Value.ownBlock,Option.some.injEq] at hk;subst hk;exact⟨cur,hh⟩
theorem aW {A C:World} {base:Nat} {e:TypeId} {size n:Nat} {v:Value} {xs:List Value} {row:Option Nat} (h:A.ownsRow base e size v n xs) (hg:A.grownBy C row)
  (hr: ∀r,row=some r→r<base∨(∃o:Obj,A.heap[r]? =some o∧o.isCells=false)∨(∃cur e',A.heap[r]? =some (.cells cur e' (0,0))∧e'≠e)):C.ownsRow base e size v n xs:=by
 refine eH h hg fun k hk hkr=>?_
 obtain⟨cur,hh⟩:=bL h hk
 have hle:=eu h hk
 rcases hr k hkr.symm with h1|⟨o,h1,h2⟩|⟨cur',e',h1,h2⟩
 ·omega
 ·rw[hh] at h1;cases h1;cases h2
 ·rw[hh] at h1;cases h1;exact h2 rfl
theorem aI.stays {A C:World} {base:Nat} {v:Value} {E:List aH} {row:Option Nat} (h:aI A base v E) (hg:A.grownBy C row)
  (hr: ∀r,row=some r→r<base∨(∃o:Obj,A.heap[r]? =some o∧o.isCells=false)):aI C base v E:=
 ⟨aW h.1 hg fun r e=>(hr r e).imp id .inl,fun x hx=>aW (h.2 x hx) hg fun r e=>(hr r e).imp id .inl⟩
theorem aI.below {A C:World} {base:Nat} {v:Value} {E:List aH} (h:aI A base v E) (hb:Below A.heap.size A C):aI C base v E:=
 ⟨own_below h.1 hb,fun x hx=>own_below (h.2 x hx) hb⟩
theorem aI.base {A:World} {b b':Nat} {v:Value} {E:List aH} (h:aI A b v E) (hb:b'≤b):aI A b' v E:=
 ⟨aK h.1 hb,fun x hx=>aK (h.2 x hx) hb⟩
theorem aI.nil (A:World) (b:Nat):aI A b (.slice none 0 0) []:=⟨aN _ _ _ _,fun _ h=>by cases h⟩
section
variable {F:Fence} {n:Nat} {P:Program} {ops:Array Oper} {rest:List Oper} {o:Oper} {a:Act} {Q:Exit→Act→World→Prop} {w:World}
theorem wI (hgd:o.guard=none) (s x:Operand) (t:TypeId)
  (ho:o.op=.call {callee:=.builtin .append,args:=#[s,x],argTypes:=#[t,t]})
  (e:TypeId) (ht:P.underlying t=some (.slice e)) (z:Value) (size bytes:Nat) (hinfo:(P.info? e).map (fun i=>(i.zero,i.size,i.bytes))=some (some z,size,bytes)) (hzs:z.cells.size=size) (hsz:0<size) (hby:bytes≤256)
  (base:Nat) (v:Value) (k:Nat) (xs:List Value) (hs:a.eval s=v) (hown:w.ownsRow base e size v k xs)
  (B:Nat) (A:Option Addr) (m c:Nat) (news:List Value) (hx:a.eval x=.slice A m c) (hl:news.length=m*size) (hm:k+m≤500000000) (hr:At w B A news) (h1: ∀u∈news,u.oneCell'=true) (hbase:base≤w.heap.size)
  (h: ∀A' c' w',w'.ownsRow base e size (.slice A' (k+m) c') (k+m) (xs++news)→k+m≤c'→w.grownBy w' v.ownBlock→wpListIn F n P ops Q rest (a.put o.dst (.slice A' (k+m) c')) w'):
  wpListIn F n P ops Q (o::rest) a w:=by
 obtain⟨i0,hi,hz0,hz1,hz2⟩:=info_parts hinfo
 refine wpListIn_plain hgd fun K hK'=>?_
 obtain⟨v',w',hrun,h2,h3,-⟩:=tO (P:=P) base t o.type e i0 z size bytes ht hi hz0 hz1 hz2 hzs hsz _ k xs hown B A m c news hl hr h1 (by unfold maxLen;omega)
  (by have:(k+m)*bytes≤500000000*256:=Nat.mul_le_mul hm hby;omega) hbase
 obtain⟨A',c',rfl,hc',-⟩:=ownsRow_form h2
 unfold Oper.wpIn
 refine⟨?_,?_⟩
 ·simp[Oper.about,ho,resolve,Target.leads,Sem.run_pure]
 ·rw[Oper.semAt_plain F _ _ (by rw[ho];intro c hc';cases hc')]
  simp[execOp,ho,resolve,invoke,builtin,hs,hx,hrun,Result.andThen]
  exact hK' _ _ (h A' c' w' h2 hc' h3)
end
set_option maxRecDepth 100000
theorem aJ.mk {W:World} {B b o:Nat} {E:List aH} (hb:b<B)
  (h: ∀(k:Nat) (hk:k<E.length),W.cell? ⟨b,o+k*2,none⟩=some (.int .i64 E[k].t)∧W.cell? ⟨b,o+k*2+1,none⟩=some E[k].v)
  (hd: ∀e∈E,At W B e.a (e.d.map bv)∧e.d.length≤e.c):aJ W B (some ⟨b,o,none⟩) E:=by
 refine⟨.inr ⟨b,o,rfl,hb,fun j u hu=>?_⟩,hd⟩
 have hj:j<2*E.length:=by
  have:=(List.getElem?_eq_some_iff.1 hu).1
  rwa [pq] at this
 obtain⟨g0,g1⟩:=mE E (j / 2) (by omega)
 obtain⟨h0,h1⟩:=h (j / 2) (by omega)
 rcases Nat.mod_two_eq_zero_or_one j with e|e
 ·have e2:2*(j / 2)=j:=by omega
  rw[e2,hu] at g0
  rw[show o+j / 2*2=o+j by omega] at h0
  rw[h0,g0]
 ·have e2:2*(j / 2)+1=j:=by omega
  rw[e2,hu] at g1
  rw[show o+j / 2*2+1=o+j by omega] at h1
  rw[h1,g1]
structure Mid (B1 B2:Nat) (W W':World):Prop where
 below:Below B1 W W'
 size:W'.heap.size=W.heap.size
 high: ∀k,B2≤k→W'.heap[k]? =W.heap[k]?
def Kq (W:World) (base:Nat) (v:Value) (n:Nat):Prop:= ∃l:List UInt8,W.ownsRow base 5 1 v n (l.map bv)
structure aai (W:World) (base:Nat) (A:Option Addr) (E:List aH):Prop where
 row:E=[]∨ ∃(g:Nat) (cur:Array Value),A=some ⟨g,0,none⟩∧base≤g∧W.heap[g]? =some (.cells cur 111 (0,0))∧2*E.length≤cur.size∧ ∀k (hk:k<E.length),cur[2*k+1]? =some E[k].v
 data: ∀e∈E,Kq W base e.v e.d.length
end Go.Proofs.YtfkgmbknfnhjoaaGreat
