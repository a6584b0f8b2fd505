/- lease, Take, Want. -/
import Derived.Test.YtoilghhclpgfaaaDoorP5
namespace Go.Proofs.YtoilghhclpgfaaaDoor
open Go.RowKit
set_option linter.unusedSimpArgs false
set_option linter.unusedVariables false
theorem Two.store2 {l bm j : Nat} {A B : World} (h : Two l bm A B) (v : Value) : Two l bm A (B.setCell ⟨bm, j, none⟩ v) :=
  ⟨h.os, h.tape, h.output, by simpa using h.size, fun k hk h1 h2 => (Below.heap_setCell B ⟨bm, j, none⟩ v k h2).trans (h.block k hk h1 h2)⟩
def leased (S : PoolS) (i : Nat) : PoolS := { S with fw := setW S.fw i false, left := S.left - 1 }
def LeaseNo (S : PoolS) (p : Nat) (r er : Int) (w : World) (e : Ending) (w' : World) : Prop := e = .returned (.tuple #[.int .i64 r, .int .i64 er]) ∧ Below w.heap.size w w'
def LeaseYes (S : PoolS) (p i : Nat) (w : World) (e : Ending) (w' : World) : Prop :=
  e = .returned (.tuple #[.int .i64 (S.b + (i : Int)), .int .i64 0]) ∧ PoolAt w' p (leased S i) ∧ Two p S.af w w'
set_option maxHeartbeats 1000000 in
theorem lease_low_no (p : Nat) (S : PoolS) (w : World) (h : PoolAt w p S) (hs : Sound S) (hT : TabAt w) (hl : lowO S.fw = none) :
    Calls Tryd.prog 30 #[.pointer (some ⟨p, 0, none⟩), .func (.func 31) #[.pointer (some ⟨p, 0, none⟩)] #[]] w (LeaseNo S p 0 121 w) := by
  have c0 : w.cell? ⟨p, 0, none⟩ = some (.int .i64 S.b) := (cell_of_row w p 0 _ _ (0, 0) h.st).trans rfl
  have c2 : w.cell? ⟨p, 2, none⟩ = some (.slice (some ⟨S.af, 0, none⟩) S.nw S.cf) := (cell_of_row w p 2 _ _ (0, 0) h.st).trans rfl
  have c4 : w.cell? ⟨p, 4, none⟩ = some (.int .i64 S.left) := (cell_of_row w p 4 _ _ (0, 0) h.st).trans rfl
  have c5 : w.cell? ⟨p, 5, none⟩ = some (.bool true) := (cell_of_row w p 5 _ _ (0, 0) h.st).trans rfl
  have hz : p < w.heap.size := lt_of_block h.st
  have HP := Lib.hid h
  have HS := Lib.hid hs
  have HT := Lib.hid hT
  have HLI := Lib.hid (show lowI S.fw = 0 ∧ lowE S.fw = 121 by unfold lowI lowE; rw [hl]; exact ⟨rfl, rfl⟩)
  clear h hs hT hl
  go_enter Tryd.func30, Tryd.ntmps30
  go_wp2_with (go_at_call 32; refine (none_no p w c5).mono ?_; rintro e w1 ⟨rfl, rfl⟩)
  refine (lowest_any p S w HP.out HT.out HS.out.s).mono ?_
  rw [HLI.out.1, HLI.out.2]
  rintro e w1 ⟨rfl, rfl⟩
  go_wp2_with fail
  go_ret2
  exact ⟨rfl, by (repeat (first | exact Below.refl _ _ | exact Nat.le_refl _ | (refine below_ext ?_ (by first | (simp [size_ext, grow]; done) | (simp [size_ext, grow]; omega) | omega) _ _) | (refine Below.setCell ?_ (by first | (simp [size_ext, grow]; done) | (simp [size_ext, grow]; omega) | omega) _) | (refine Below.alloc ?_ (by first | (simp [size_ext, grow]; done) | (simp [size_ext, grow]; omega) | omega) _) | refine Below.drew ?_ | refine below_drewN ?_ _ | (refine Below.trans ?_ (Below.mono (by assumption) (by first | (simp [size_ext, grow]; done) | (simp [size_ext, grow]; omega) | omega)))))⟩
set_option maxHeartbeats 1000000 in
theorem lease_low_yes (p : Nat) (S : PoolS) (i : Nat) (w : World) (h : PoolAt w p S) (hs : Sound S) (hT : TabAt w) (hl : lowO S.fw = some i) (hb : 0 ≤ S.left ∧ S.left ≤ 65536) :
    Calls Tryd.prog 30 #[.pointer (some ⟨p, 0, none⟩), .func (.func 31) #[.pointer (some ⟨p, 0, none⟩)] #[]] w (LeaseYes S p i w) := by
  have c0 : w.cell? ⟨p, 0, none⟩ = some (.int .i64 S.b) := (cell_of_row w p 0 _ _ (0, 0) h.st).trans rfl
  have c2 : w.cell? ⟨p, 2, none⟩ = some (.slice (some ⟨S.af, 0, none⟩) S.nw S.cf) := (cell_of_row w p 2 _ _ (0, 0) h.st).trans rfl
  have c4 : w.cell? ⟨p, 4, none⟩ = some (.int .i64 S.left) := (cell_of_row w p 4 _ _ (0, 0) h.st).trans rfl
  have c5 : w.cell? ⟨p, 5, none⟩ = some (.bool true) := (cell_of_row w p 5 _ _ (0, 0) h.st).trans rfl
  have hz : p < w.heap.size := lt_of_block h.st
  have HP := Lib.hid h
  have HS := Lib.hid hs
  have HT := Lib.hid hT
  have HI := Lib.hid (lowO_some h.free.wide hl).1
  have HLI := Lib.hid (show lowI S.fw = (i : Int) ∧ lowE S.fw = 0 by unfold lowI lowE; rw [hl]; exact ⟨rfl, rfl⟩)
  have HL := Lib.hid (show S.fw.length ≤ 1000000 by have := hs.s; rw [← h.free.n]; unfold PoolS.nw; omega)
  have hi1 : i ≤ 70000 := by have h1 := HI.out; have h2 := h.free.n; have := hs.s; unfold PoolS.nw at h2; omega
  have hb1 := hs.b1
  have hb2 := hs.b2
  obtain ⟨hb3, hb4⟩ := hb
  have hfz : w.frozen? ⟨p, 4, none⟩ = false := frozen_of_row w p 4 _ 60 h.st
  obtain ⟨cs, hcs⟩ := h.free.block (by intro e; have := HI.out; rw [e] at this; simp at this)
  have hpa : p ≠ S.af := h.p_ne hcs
  clear h hs hT hl hcs
  go_enter Tryd.func30, Tryd.ntmps30
  go_wp2_with (go_at_call 32; refine (none_no p w c5).mono ?_; rintro e w1 ⟨rfl, rfl⟩)
  refine (lowest_any p S w HP.out HT.out HS.out.s).mono ?_
  rw [HLI.out.1, HLI.out.2]
  rintro e w1 ⟨rfl, rfl⟩
  go_wp2_with fail
  refine (set_on (some ⟨S.af, 0, none⟩) _ S.cf S.fw i false _ HP.out.free HI.out HL.out).mono ?_
  rintro e w2 ⟨rfl, af', haf, rfl⟩
  cases haf
  go_upto_region 7 with (fail)
  refine wp_world (fun W2 => PoolAt W2 p { S with fw := setW S.fw i false } ∧ Two p S.af w W2) ⟨HP.out.setFree HI.out false, (Two.refl p S.af w).store2 _⟩ ?_
  intro W2 ⟨h2, ht2⟩
  clear c0 c2 c4 c5 hz hfz
  have c0 : W2.cell? ⟨p, 0, none⟩ = some (.int .i64 S.b) := (cell_of_row W2 p 0 _ _ (0, 0) h2.st).trans rfl
  have c4 : W2.cell? ⟨p, 4, none⟩ = some (.int .i64 S.left) := (cell_of_row W2 p 4 _ _ (0, 0) h2.st).trans rfl
  have hz : p < W2.heap.size := lt_of_block h2.st
  have hfz : W2.frozen? ⟨p, 4, none⟩ = false := frozen_of_row W2 p 4 _ 60 h2.st
  have H2 := Lib.hid h2
  have HT2 := Lib.hid ht2
  clear h2 ht2
  go_wp2_with fail
  go_ret2
  exact ⟨rfl, H2.out.setLeft (S.left - 1), HT2.out.store _⟩
def taken (S : PoolS) (i : Nat) : PoolS := leased S i
theorem Take_no (p : Nat) (S : PoolS) (w : World) (h : PoolAt w p S) (hs : Sound S) (hT : TabAt w) (hl : lowO S.fw = none) :
    Calls Tryd.prog 14 #[.pointer (some ⟨p, 0, none⟩)] w (LeaseNo S p 0 121 w) := by
  have H := Lib.hid (lease_low_no p S w h hs hT hl)
  clear h hs hT hl
  go_enter Tryd.func14, Tryd.ntmps14
  go_wp2_with fail
  refine H.out.mono ?_
  rintro e w1 ⟨rfl, hb⟩
  obtain ⟨xs, d, rfl⟩ := ext_of hb
  clear hb
  go_wp2_with fail
  go_ret2
  exact ⟨rfl, by (repeat (first | exact Below.refl _ _ | exact Nat.le_refl _ | (refine below_ext ?_ (by first | (simp [size_ext, grow]; done) | (simp [size_ext, grow]; omega) | omega) _ _) | (refine Below.setCell ?_ (by first | (simp [size_ext, grow]; done) | (simp [size_ext, grow]; omega) | omega) _) | (refine Below.alloc ?_ (by first | (simp [size_ext, grow]; done) | (simp [size_ext, grow]; omega) | omega) _) | refine Below.drew ?_ | refine below_drewN ?_ _ | (refine Below.trans ?_ (Below.mono (by assumption) (by first | (simp [size_ext, grow]; done) | (simp [size_ext, grow]; omega) | omega)))))⟩
theorem Take_yes (p : Nat) (S : PoolS) (i : Nat) (w : World) (h : PoolAt w p S) (hs : Sound S) (hT : TabAt w) (hl : lowO S.fw = some i) (hb : 0 ≤ S.left ∧ S.left ≤ 65536) :
    Calls Tryd.prog 14 #[.pointer (some ⟨p, 0, none⟩)] w (LeaseYes S p i w) := by
  have H := Lib.hid (lease_low_yes p S i w h hs hT hl hb)
  clear h hs hT hl hb
  go_enter Tryd.func14, Tryd.ntmps14
  go_wp2_with fail
  refine H.out.mono ?_
  rintro e w1 ⟨rfl, hp, ht⟩
  have HP := Lib.hid (And.intro hp ht)
  clear hp ht
  go_wp2_with fail
  go_ret2
  exact ⟨rfl, HP.out.1, HP.out.2⟩
end Go.Proofs.YtoilghhclpgfaaaDoor
