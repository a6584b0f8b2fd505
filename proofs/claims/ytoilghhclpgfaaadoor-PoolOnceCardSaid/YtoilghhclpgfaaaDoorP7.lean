/- Want, Give, Free, the pool that nobody made. -/
import Derived.Test.YtoilghhclpgfaaaDoorP6
namespace Go.Proofs.YtoilghhclpgfaaaDoor
open Go.RowKit
set_option linter.unusedSimpArgs false
set_option linter.unusedVariables false
theorem Two.grown {l bm : Nat} {A B C : World} (hb : Below A.heap.size A B) (h : Two l bm B C) : Two l bm A C := (Two.of_below hb).trans h
set_option maxHeartbeats 1000000 in
theorem lease_place_no (p : Nat) (S : PoolS) (a : Int) (w : World) (h : PoolAt w p S) (hs : Sound S) (hl : plE S a ≠ 0) :
    Calls Tryd.prog 30 #[.pointer (some ⟨p, 0, none⟩), .func (.func 34) #[.agg #[.pointer (some ⟨p, 0, none⟩), .int .i64 a]] #[]] w (LeaseNo S p 0 (plE S a) w) := by
  have c0 : w.cell? ⟨p, 0, none⟩ = some (.int .i64 S.b) := (cell_of_row w p 0 _ _ (0, 0) h.st).trans rfl
  have c2 : w.cell? ⟨p, 2, none⟩ = some (.slice (some ⟨S.af, 0, none⟩) S.nw S.cf) := (cell_of_row w p 2 _ _ (0, 0) h.st).trans rfl
  have c4 : w.cell? ⟨p, 4, none⟩ = some (.int .i64 S.left) := (cell_of_row w p 4 _ _ (0, 0) h.st).trans rfl
  have c5 : w.cell? ⟨p, 5, none⟩ = some (.bool true) := (cell_of_row w p 5 _ _ (0, 0) h.st).trans rfl
  have hz : p < w.heap.size := lt_of_block h.st
  have HP := Lib.hid h
  have HS := Lib.hid hs
  obtain ⟨er, her⟩ : ∃ er, plE S a = er := ⟨_, rfl⟩
  rw [her] at hl ⊢
  have HER := Lib.hid her
  have e1 : (er == 0) = false := by simpa using hl
  have e2 : (er != 0) = true := by simpa using hl
  clear h hs hl her
  go_enter Tryd.func30, Tryd.ntmps30
  go_wp2_with (go_at_call 32; refine (none_no p w c5).mono ?_; rintro e w1 ⟨rfl, rfl⟩)
  refine (place_any p S a w HP.out HS.out).mono ?_
  rw [HER.out]
  rintro e w1 ⟨rfl, hb⟩
  obtain ⟨xs, d, rfl⟩ := ext_of hb
  clear hb
  go_wp2_with fail
  go_ret2
  exact ⟨rfl, by (repeat (first | exact Below.refl _ _ | exact Nat.le_refl _ | (refine below_ext ?_ (by first | (simp [size_ext, grow]; done) | (simp [size_ext, grow]; omega) | omega) _ _) | (refine Below.setCell ?_ (by first | (simp [size_ext, grow]; done) | (simp [size_ext, grow]; omega) | omega) _) | (refine Below.alloc ?_ (by first | (simp [size_ext, grow]; done) | (simp [size_ext, grow]; omega) | omega) _) | refine Below.drew ?_ | refine below_drewN ?_ _ | (refine Below.trans ?_ (Below.mono (by assumption) (by first | (simp [size_ext, grow]; done) | (simp [size_ext, grow]; omega) | omega)))))⟩
set_option maxHeartbeats 1000000 in
theorem lease_place_yes (p : Nat) (S : PoolS) (a : Int) (i : Nat) (w : World) (h : PoolAt w p S) (hs : Sound S) (hl : plE S a = 0) (hi : a - S.b = (i : Int)) (hb : 0 ≤ S.left ∧ S.left ≤ 65536) :
    Calls Tryd.prog 30 #[.pointer (some ⟨p, 0, none⟩), .func (.func 34) #[.agg #[.pointer (some ⟨p, 0, none⟩), .int .i64 a]] #[]] w (LeaseYes S p i w) := by
  have hh : hasB S a = true ∧ freeB S a = true := by
    unfold plE at hl
    cases h1 : hasB S a <;> cases h2 : freeB S a <;> simp [h1, h2] at hl ⊢
  obtain ⟨h1, h2, i', hi', him⟩ := hasB_in hh.1
  have hii : i' = i := by omega
  subst hii
  have c0 : w.cell? ⟨p, 0, none⟩ = some (.int .i64 S.b) := (cell_of_row w p 0 _ _ (0, 0) h.st).trans rfl
  have c2 : w.cell? ⟨p, 2, none⟩ = some (.slice (some ⟨S.af, 0, none⟩) S.nw S.cf) := (cell_of_row w p 2 _ _ (0, 0) h.st).trans rfl
  have c4 : w.cell? ⟨p, 4, none⟩ = some (.int .i64 S.left) := (cell_of_row w p 4 _ _ (0, 0) h.st).trans rfl
  have c5 : w.cell? ⟨p, 5, none⟩ = some (.bool true) := (cell_of_row w p 5 _ _ (0, 0) h.st).trans rfl
  have hz : p < w.heap.size := lt_of_block h.st
  have HP := Lib.hid h
  have HS := Lib.hid hs
  have HI := Lib.hid (show i' / 64 < S.fw.length by rw [← h.free.n]; unfold PoolS.nw; omega)
  have HPL := Lib.hid (show plI S a = (i' : Int) ∧ plE S a = 0 by refine ⟨?_, hl⟩; unfold plI; rw [if_pos hh]; exact hi)
  have HL := Lib.hid (show S.fw.length ≤ 1000000 by have := hs.s; rw [← h.free.n]; unfold PoolS.nw; omega)
  have hi1 : i' ≤ 70000 := by have := hs.s; omega
  have hb1 := hs.b1
  have hb2 := hs.b2
  obtain ⟨hb3, hb4⟩ := hb
  obtain ⟨cs, hcs⟩ := h.free.block (by intro e; have := HI.out; rw [e] at this; simp at this)
  have hpa : p ≠ S.af := h.p_ne hcs
  have hz2 : S.af < w.heap.size := lt_of_block hcs
  clear h hs hl hi hi' hh h1 h2 him hcs
  go_enter Tryd.func30, Tryd.ntmps30
  go_wp2_with (go_at_call 32; refine (none_no p w c5).mono ?_; rintro e w1 ⟨rfl, rfl⟩)
  refine (place_any p S a w HP.out HS.out).mono ?_
  rw [HPL.out.1, HPL.out.2]
  rintro e w1 ⟨rfl, hb⟩
  have HP1 := Lib.hid (HP.out.keep hb)
  have HB1 := Lib.hid hb
  have d2 := (hb.cell (p := ⟨p, 2, none⟩) hz).trans c2
  have dz : p < w1.heap.size := by have := hb.size; omega
  clear hb c0 c2 c4 c5 hz
  go_wp2_with fail
  refine (set_on (some ⟨S.af, 0, none⟩) _ S.cf S.fw i' false _ HP1.out.free HI.out HL.out).mono ?_
  rintro e w2 ⟨rfl, af', haf, rfl⟩
  cases haf
  go_upto_region 7 with (fail)
  refine wp_world (fun W2 => PoolAt W2 p { S with fw := setW S.fw i' false } ∧ Two p S.af w W2) ⟨HP1.out.setFree HI.out false, (Two.grown HB1.out (Two.refl p S.af w1)).store2 _⟩ ?_
  intro W2 ⟨h2, ht2⟩
  clear d2 dz
  have c0 : W2.cell? ⟨p, 0, none⟩ = some (.int .i64 S.b) := (cell_of_row W2 p 0 _ _ (0, 0) h2.st).trans rfl
  have c4 : W2.cell? ⟨p, 4, none⟩ = some (.int .i64 S.left) := (cell_of_row W2 p 4 _ _ (0, 0) h2.st).trans rfl
  have hz : p < W2.heap.size := lt_of_block h2.st
  have hfz : W2.frozen? ⟨p, 4, none⟩ = false := frozen_of_row W2 p 4 _ 60 h2.st
  have H2 := Lib.hid h2
  have HT2 := Lib.hid ht2
  clear h2 ht2
  go_wp2_with fail
  go_ret2
  exact ⟨rfl, H2.out.setLeft (S.left - 1), HT2.out.store _⟩
def ErrP (er : Int) (w : World) (e : Ending) (w' : World) : Prop := e = .returned (.int .i64 er) ∧ Below w.heap.size w w'
def TurnP (S' : PoolS) (p af : Nat) (w : World) (e : Ending) (w' : World) : Prop := e = .returned (.int .i64 0) ∧ PoolAt w' p S' ∧ Two p af w w'
theorem Want_no (p : Nat) (S : PoolS) (a : Int) (w : World) (h : PoolAt w p S) (hs : Sound S) (hl : plE S a ≠ 0) :
    Calls Tryd.prog 17 #[.pointer (some ⟨p, 0, none⟩), .int .i64 a] w (ErrP (plE S a) w) := by
  have H := Lib.hid (lease_place_no p S a w h hs hl)
  clear h hs hl
  obtain ⟨er, her⟩ : ∃ er, plE S a = er := ⟨_, rfl⟩
  rw [her] at H ⊢
  clear her
  go_enter Tryd.func17, Tryd.ntmps17
  go_wp2_with fail
  refine H.out.mono ?_
  rintro e w1 ⟨rfl, hb⟩
  obtain ⟨xs, d, rfl⟩ := ext_of hb
  clear hb
  go_wp2_with fail
  go_ret
  exact ⟨rfl, by (repeat (first | exact Below.refl _ _ | exact Nat.le_refl _ | (refine below_ext ?_ (by first | (simp [size_ext, grow]; done) | (simp [size_ext, grow]; omega) | omega) _ _) | (refine Below.setCell ?_ (by first | (simp [size_ext, grow]; done) | (simp [size_ext, grow]; omega) | omega) _) | (refine Below.alloc ?_ (by first | (simp [size_ext, grow]; done) | (simp [size_ext, grow]; omega) | omega) _) | refine Below.drew ?_ | refine below_drewN ?_ _ | (refine Below.trans ?_ (Below.mono (by assumption) (by first | (simp [size_ext, grow]; done) | (simp [size_ext, grow]; omega) | omega)))))⟩
theorem Want_yes (p : Nat) (S : PoolS) (a : Int) (i : Nat) (w : World) (h : PoolAt w p S) (hs : Sound S) (hl : plE S a = 0) (hi : a - S.b = (i : Int)) (hb : 0 ≤ S.left ∧ S.left ≤ 65536) :
    Calls Tryd.prog 17 #[.pointer (some ⟨p, 0, none⟩), .int .i64 a] w (TurnP (leased S i) p S.af w) := by
  have H := Lib.hid (lease_place_yes p S a i w h hs hl hi hb)
  clear h hs hl hb hi
  go_enter Tryd.func17, Tryd.ntmps17
  go_wp2_with fail
  refine H.out.mono ?_
  rintro e w1 ⟨rfl, hp, ht⟩
  have HP := Lib.hid (And.intro hp ht)
  clear hp ht
  go_wp2_with fail
  go_ret
  exact ⟨rfl, HP.out.1, HP.out.2⟩
def gvE (S : PoolS) (a : Int) : Int := if hasB S a = true then (if freeB S a = true then 112 else 0) else 5
def given (S : PoolS) (i : Nat) : PoolS := { S with fw := setW S.fw i true, left := S.left + 1 }
set_option maxHeartbeats 1000000 in
theorem Give_no (p : Nat) (S : PoolS) (a : Int) (w : World) (h : PoolAt w p S) (hs : Sound S) (hl : gvE S a ≠ 0) :
    Calls Tryd.prog 15 #[.pointer (some ⟨p, 0, none⟩), .int .i64 a] w (ErrP (gvE S a) w) := by
  have c0 : w.cell? ⟨p, 0, none⟩ = some (.int .i64 S.b) := (cell_of_row w p 0 _ _ (0, 0) h.st).trans rfl
  have c2 : w.cell? ⟨p, 2, none⟩ = some (.slice (some ⟨S.af, 0, none⟩) S.nw S.cf) := (cell_of_row w p 2 _ _ (0, 0) h.st).trans rfl
  have c4 : w.cell? ⟨p, 4, none⟩ = some (.int .i64 S.left) := (cell_of_row w p 4 _ _ (0, 0) h.st).trans rfl
  have c5 : w.cell? ⟨p, 5, none⟩ = some (.bool true) := (cell_of_row w p 5 _ _ (0, 0) h.st).trans rfl
  have hz : p < w.heap.size := lt_of_block h.st
  have HP := Lib.hid h
  have HS := Lib.hid hs
  cases hh : hasB S a
  · have HE := Lib.hid (show gvE S a = 5 by unfold gvE; rw [hh]; simp)
    have HH := Lib.hid hh
    rw [HE.out]
    clear h hs hl hh
    go_enter Tryd.func15, Tryd.ntmps15
    go_wp2_with (go_at_call 32; refine (none_no p w c5).mono ?_; rintro e w1 ⟨rfl, rfl⟩)
    refine (Has_any p S a _ HP.out HS.out).mono ?_
    rw [HH.out]
    rintro e w1 ⟨rfl, m, rfl⟩
    go_wp2_with fail
    go_ret
    exact ⟨rfl, by (repeat (first | exact Below.refl _ _ | exact Nat.le_refl _ | (refine below_ext ?_ (by first | (simp [size_ext, grow]; done) | (simp [size_ext, grow]; omega) | omega) _ _) | (refine Below.setCell ?_ (by first | (simp [size_ext, grow]; done) | (simp [size_ext, grow]; omega) | omega) _) | (refine Below.alloc ?_ (by first | (simp [size_ext, grow]; done) | (simp [size_ext, grow]; omega) | omega) _) | refine Below.drew ?_ | refine below_drewN ?_ _ | (refine Below.trans ?_ (Below.mono (by assumption) (by first | (simp [size_ext, grow]; done) | (simp [size_ext, grow]; omega) | omega)))))⟩
  · obtain ⟨h1, h2, i, hi, him⟩ := hasB_in hh
    have hfb : freeB S a = true := by
      unfold gvE at hl; rw [hh] at hl
      cases hf : freeB S a
      · rw [hf] at hl; simp at hl
      · rfl
    have HE := Lib.hid (show gvE S a = 112 by unfold gvE; rw [hh, hfb]; simp)
    have HF := Lib.hid (show bitW S.fw i = true by unfold freeB at hfb; rw [hi] at hfb; exact hfb)
    have HI := Lib.hid (show i / 64 < S.fw.length by rw [← h.free.n]; unfold PoolS.nw; have := hs.s; omega)
    have HL := Lib.hid (show S.fw.length ≤ 1000000 by have := hs.s; rw [← h.free.n]; unfold PoolS.nw; omega)
    have hdif : IntKind.i64.wrap (a - S.b) = (i : Int) := by rw [hi]; exact IntWalk.i64_in _ (by have := hs.s; omega)
    have HH := Lib.hid hh
    rw [HE.out]
    clear h hs hl hh hfb h1 h2 hi
    go_enter Tryd.func15, Tryd.ntmps15
    go_wp2_with (go_at_call 32; refine (none_no p w c5).mono ?_; rintro e w1 ⟨rfl, rfl⟩)
    refine (Has_any p S a _ HP.out HS.out).mono ?_
    rw [HH.out]
    rintro e w1 ⟨rfl, m, rfl⟩
    go_upto_region 5 with (fail)
    refine wp_world (fun W2 => Below w.heap.size w W2) (by (repeat (first | exact Below.refl _ _ | exact Nat.le_refl _ | (refine below_ext ?_ (by first | (simp [size_ext, grow]; done) | (simp [size_ext, grow]; omega) | omega) _ _) | (refine Below.setCell ?_ (by first | (simp [size_ext, grow]; done) | (simp [size_ext, grow]; omega) | omega) _) | (refine Below.alloc ?_ (by first | (simp [size_ext, grow]; done) | (simp [size_ext, grow]; omega) | omega) _) | refine Below.drew ?_ | refine below_drewN ?_ _ | (refine Below.trans ?_ (Below.mono (by assumption) (by first | (simp [size_ext, grow]; done) | (simp [size_ext, grow]; omega) | omega)))))) ?_
    intro W2 hb2
    have f0 := (hb2.cell (p := ⟨p, 0, none⟩) hz).trans c0
    have f2 := (hb2.cell (p := ⟨p, 2, none⟩) hz).trans c2
    have fz : p < W2.heap.size := by have := hb2.size; omega
    have HB2 := Lib.hid hb2
    have HF2 := Lib.hid (HP.out.free.keep hb2)
    clear hb2 c0 c2 c4 c5 hz
    go_quiet ((go_at_call 33; exact has_v _ _ _ _ _ HF.out HF2.out HI.out HL.out _))
    go_wp2_with fail
    go_ret
    exact ⟨rfl, by have := HB2.out; (repeat (first | exact Below.refl _ _ | exact Nat.le_refl _ | (refine below_ext ?_ (by first | (simp [size_ext, grow]; done) | (simp [size_ext, grow]; omega) | omega) _ _) | (refine Below.setCell ?_ (by first | (simp [size_ext, grow]; done) | (simp [size_ext, grow]; omega) | omega) _) | (refine Below.alloc ?_ (by first | (simp [size_ext, grow]; done) | (simp [size_ext, grow]; omega) | omega) _) | refine Below.drew ?_ | refine below_drewN ?_ _ | (refine Below.trans ?_ (Below.mono (by assumption) (by first | (simp [size_ext, grow]; done) | (simp [size_ext, grow]; omega) | omega)))))⟩
set_option maxHeartbeats 1000000 in
theorem Give_yes (p : Nat) (S : PoolS) (a : Int) (i : Nat) (w : World) (h : PoolAt w p S) (hs : Sound S) (hl : gvE S a = 0) (hi : a - S.b = (i : Int)) (hb : 0 ≤ S.left ∧ S.left ≤ 65536) :
    Calls Tryd.prog 15 #[.pointer (some ⟨p, 0, none⟩), .int .i64 a] w (TurnP (given S i) p S.af w) := by
  have hh : hasB S a = true ∧ freeB S a = false := by
    unfold gvE at hl
    cases h1 : hasB S a <;> cases h2 : freeB S a <;> simp [h1, h2] at hl ⊢
  obtain ⟨h1, h2, i', hi', him⟩ := hasB_in hh.1
  have hii : i' = i := by omega
  subst hii
  have c0 : w.cell? ⟨p, 0, none⟩ = some (.int .i64 S.b) := (cell_of_row w p 0 _ _ (0, 0) h.st).trans rfl
  have c2 : w.cell? ⟨p, 2, none⟩ = some (.slice (some ⟨S.af, 0, none⟩) S.nw S.cf) := (cell_of_row w p 2 _ _ (0, 0) h.st).trans rfl
  have c4 : w.cell? ⟨p, 4, none⟩ = some (.int .i64 S.left) := (cell_of_row w p 4 _ _ (0, 0) h.st).trans rfl
  have c5 : w.cell? ⟨p, 5, none⟩ = some (.bool true) := (cell_of_row w p 5 _ _ (0, 0) h.st).trans rfl
  have hz : p < w.heap.size := lt_of_block h.st
  have HP := Lib.hid h
  have HS := Lib.hid hs
  have HI := Lib.hid (show i' / 64 < S.fw.length by rw [← h.free.n]; unfold PoolS.nw; omega)
  have HL := Lib.hid (show S.fw.length ≤ 1000000 by have := hs.s; rw [← h.free.n]; unfold PoolS.nw; omega)
  have HF := Lib.hid (show bitW S.fw i' = false by have := hh.2; unfold freeB at this; rw [hi] at this; exact this)
  have hdif : IntKind.i64.wrap (a - S.b) = (i' : Int) := by rw [hi]; exact IntWalk.i64_in _ (by have := hs.s; omega)
  have HH := Lib.hid hh.1
  obtain ⟨hb3, hb4⟩ := hb
  obtain ⟨cs, hcs⟩ := h.free.block (by intro e; have := HI.out; rw [e] at this; simp at this)
  have hpa : p ≠ S.af := h.p_ne hcs
  clear h hs hl hi hi' hh h1 h2 him hcs
  go_enter Tryd.func15, Tryd.ntmps15
  go_wp2_with (go_at_call 32; refine (none_no p w c5).mono ?_; rintro e w1 ⟨rfl, rfl⟩)
  refine (Has_any p S a _ HP.out HS.out).mono ?_
  rw [HH.out]
  rintro e w1 ⟨rfl, m, rfl⟩
  go_upto_region 5 with (fail)
  refine wp_world (fun W2 => Below w.heap.size w W2) (by (repeat (first | exact Below.refl _ _ | exact Nat.le_refl _ | (refine below_ext ?_ (by first | (simp [size_ext, grow]; done) | (simp [size_ext, grow]; omega) | omega) _ _) | (refine Below.setCell ?_ (by first | (simp [size_ext, grow]; done) | (simp [size_ext, grow]; omega) | omega) _) | (refine Below.alloc ?_ (by first | (simp [size_ext, grow]; done) | (simp [size_ext, grow]; omega) | omega) _) | refine Below.drew ?_ | refine below_drewN ?_ _ | (refine Below.trans ?_ (Below.mono (by assumption) (by first | (simp [size_ext, grow]; done) | (simp [size_ext, grow]; omega) | omega)))))) ?_
  intro W2 hb2
  have f0 := (hb2.cell (p := ⟨p, 0, none⟩) hz).trans c0
  have f2 := (hb2.cell (p := ⟨p, 2, none⟩) hz).trans c2
  have fz : p < W2.heap.size := by have := hb2.size; omega
  have HB2 := Lib.hid hb2
  have HF2 := Lib.hid (HP.out.free.keep hb2)
  clear hb2 c0 c2 c4 c5 hz
  go_quiet ((go_at_call 33; exact has_v _ _ _ _ _ HF.out HF2.out HI.out HL.out _))
  go_upto_region 7 with (fail)
  refine wp_world (fun W3 => Below w.heap.size w W3) (by have := HB2.out; (repeat (first | exact Below.refl _ _ | exact Nat.le_refl _ | (refine below_ext ?_ (by first | (simp [size_ext, grow]; done) | (simp [size_ext, grow]; omega) | omega) _ _) | (refine Below.setCell ?_ (by first | (simp [size_ext, grow]; done) | (simp [size_ext, grow]; omega) | omega) _) | (refine Below.alloc ?_ (by first | (simp [size_ext, grow]; done) | (simp [size_ext, grow]; omega) | omega) _) | refine Below.drew ?_ | refine below_drewN ?_ _ | (refine Below.trans ?_ (Below.mono (by assumption) (by first | (simp [size_ext, grow]; done) | (simp [size_ext, grow]; omega) | omega)))))) ?_
  intro W3 hb3'
  clear f0 f2 fz HB2 HF2
  have H3 := Lib.hid (HP.out.keep hb3')
  have HB3 := Lib.hid hb3'
  have f0 : W3.cell? ⟨p, 0, none⟩ = some (.int .i64 S.b) := (cell_of_row W3 p 0 _ _ (0, 0) H3.out.st).trans rfl
  have f2 : W3.cell? ⟨p, 2, none⟩ = some (.slice (some ⟨S.af, 0, none⟩) S.nw S.cf) := (cell_of_row W3 p 2 _ _ (0, 0) H3.out.st).trans rfl
  have fz : p < W3.heap.size := lt_of_block H3.out.st
  clear hb3'
  go_still_tail 10, (by kernel_rfl)
  go_wp2_with fail
  have HFD := Lib.hid (show RowAt W3.drew (some ⟨S.af, 0, none⟩) S.nw S.fw from H3.out.free.kept fun _ _ _ => rfl)
  refine (set_on (some ⟨S.af, 0, none⟩) _ S.cf S.fw i' true _ HFD.out HI.out HL.out).mono ?_
  rintro e w2 ⟨rfl, af', haf, rfl⟩
  cases haf
  go_upto_region 8 with (fail)
  refine wp_world (fun W2 => PoolAt W2 p { S with fw := setW S.fw i' true } ∧ Two p S.af w W2) ⟨PoolAt.setFree (w := W3.drew) (H3.out.keep (by (repeat (first | exact Below.refl _ _ | exact Nat.le_refl _ | (refine below_ext ?_ (by first | (simp [size_ext, grow]; done) | (simp [size_ext, grow]; omega) | omega) _ _) | (refine Below.setCell ?_ (by first | (simp [size_ext, grow]; done) | (simp [size_ext, grow]; omega) | omega) _) | (refine Below.alloc ?_ (by first | (simp [size_ext, grow]; done) | (simp [size_ext, grow]; omega) | omega) _) | refine Below.drew ?_ | refine below_drewN ?_ _ | (refine Below.trans ?_ (Below.mono (by assumption) (by first | (simp [size_ext, grow]; done) | (simp [size_ext, grow]; omega) | omega))))))) HI.out true, (Two.of_below HB3.out.drew).store2 _⟩ ?_
  intro W2 ⟨h2, ht2⟩
  clear f0 f2 fz HFD
  have c4 : W2.cell? ⟨p, 4, none⟩ = some (.int .i64 S.left) := (cell_of_row W2 p 4 _ _ (0, 0) h2.st).trans rfl
  have hz : p < W2.heap.size := lt_of_block h2.st
  have hfz : W2.frozen? ⟨p, 4, none⟩ = false := frozen_of_row W2 p 4 _ 60 h2.st
  have H2 := Lib.hid h2
  have HT2 := Lib.hid ht2
  clear h2 ht2
  go_wp2_with fail
  go_ret
  exact ⟨rfl, H2.out.setLeft (S.left + 1), HT2.out.store _⟩
theorem Free_any (p : Nat) (S : PoolS) (w : World) (h : PoolAt w p S) : Calls Tryd.prog 20 #[.pointer (some ⟨p, 0, none⟩)] w fun e w' => e = .returned (.int .i64 S.left) ∧ w = w' := by
  have c0 : w.cell? ⟨p, 0, none⟩ = some (.int .i64 S.b) := (cell_of_row w p 0 _ _ (0, 0) h.st).trans rfl
  have c2 : w.cell? ⟨p, 2, none⟩ = some (.slice (some ⟨S.af, 0, none⟩) S.nw S.cf) := (cell_of_row w p 2 _ _ (0, 0) h.st).trans rfl
  have c4 : w.cell? ⟨p, 4, none⟩ = some (.int .i64 S.left) := (cell_of_row w p 4 _ _ (0, 0) h.st).trans rfl
  have c5 : w.cell? ⟨p, 5, none⟩ = some (.bool true) := (cell_of_row w p 5 _ _ (0, 0) h.st).trans rfl
  have hz : p < w.heap.size := lt_of_block h.st
  clear h c0 c2
  go_enter Tryd.func20, Tryd.ntmps20
  go_wp2_with (go_at_call 32; refine (none_no p w c5).mono ?_; rintro e w1 ⟨rfl, rfl⟩)
  go_ret
  exact ⟨rfl, rfl⟩
end Go.Proofs.YtoilghhclpgfaaaDoor
