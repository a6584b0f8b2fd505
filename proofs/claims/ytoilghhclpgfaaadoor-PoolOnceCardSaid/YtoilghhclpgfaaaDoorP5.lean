/- Has, place, lease, Take, Want, Give, Free. -/
import Derived.Test.YtoilghhclpgfaaaDoorP4
namespace Go.Proofs.YtoilghhclpgfaaaDoor
open Go.RowKit
set_option linter.unusedSimpArgs false
set_option linter.unusedVariables false
structure Sound (S : PoolS) : Prop where
  b1 : 1 ≤ S.b
  b2 : S.b ≤ 4294967294
  s : S.s ≤ 65536
def hasB (S : PoolS) (a : Int) : Bool := decide (S.b ≤ a) && (decide (a < S.b + (S.s : Int)) && bitW S.ow (a - S.b).toNat)
theorem has_q (A : Option Addr) (n c : Nat) (ws : List Nat) (i : Nat) {w : World} (h : RowAt w A n ws) (hi : i / 64 < ws.length) (hl : ws.length ≤ 1000000) (q : Nat) :
    Calls Tryd.prog 33 #[.slice A n c, .int .i64 (i : Int)] (w.drewN q) fun e w' => e = .returned (.bool (bitW ws i)) ∧ ∃ m, w' = w.drewN m :=
  (has_any A n c ws i (w.drewN q) (h.kept fun _ _ _ => rfl) hi hl).mono fun _ _ ⟨he, hw⟩ => ⟨he, q, hw.symm⟩
theorem has_v (A : Option Addr) (n c : Nat) (ws : List Nat) (i : Nat) {w : World} {v : Bool} (hv : bitW ws i = v) (h : RowAt w A n ws) (hi : i / 64 < ws.length) (hl : ws.length ≤ 1000000) (q : Nat) :
    Calls Tryd.prog 33 #[.slice A n c, .int .i64 (i : Int)] (w.drewN q) fun e w' => e = .returned (.bool v) ∧ ∃ m, w' = w.drewN m := by
  subst hv; exact has_q A n c ws i h hi hl q
theorem none_q (p : Nat) {w : World} (h5 : w.cell? ⟨p, 5, none⟩ = some (.bool true)) (q : Nat) : Calls Tryd.prog 32 #[.pointer (some ⟨p, 0, none⟩)] (w.drewN q) fun e w' => e = .returned (.bool false) ∧ ∃ m, w' = w.drewN m :=
  (none_no p (w.drewN q) h5).mono fun _ _ ⟨he, hw⟩ => ⟨he, q, hw.symm⟩
set_option maxHeartbeats 1000000 in
theorem Has_any (p : Nat) (S : PoolS) (a : Int) (w : World) (h : PoolAt w p S) (hs : Sound S) :
    Calls Tryd.prog 19 #[.pointer (some ⟨p, 0, none⟩), .int .i64 a] w fun e w' => e = .returned (.bool (hasB S a)) ∧ ∃ m, w' = w.drewN m := by
  have c0 : w.cell? ⟨p, 0, none⟩ = some (.int .i64 S.b) := (cell_of_row w p 0 _ _ (0, 0) h.st).trans rfl
  have c1 : w.cell? ⟨p, 1, none⟩ = some (.int .i64 (S.s : Int)) := (cell_of_row w p 1 _ _ (0, 0) h.st).trans rfl
  have c2 : w.cell? ⟨p, 2, none⟩ = some (.slice (some ⟨S.af, 0, none⟩) S.nw S.cf) := (cell_of_row w p 2 _ _ (0, 0) h.st).trans rfl
  have c3 : w.cell? ⟨p, 3, none⟩ = some (.slice (some ⟨S.ao, 0, none⟩) S.nw S.co) := (cell_of_row w p 3 _ _ (0, 0) h.st).trans rfl
  have c4 : w.cell? ⟨p, 4, none⟩ = some (.int .i64 S.left) := (cell_of_row w p 4 _ _ (0, 0) h.st).trans rfl
  have c5 : w.cell? ⟨p, 5, none⟩ = some (.bool true) := (cell_of_row w p 5 _ _ (0, 0) h.st).trans rfl
  have hz : p < w.heap.size := lt_of_block h.st
  obtain ⟨b1, b2, b3⟩ := hs
  have HO := Lib.hid h.own
  have hnw : S.ow.length ≤ 1000000 := by rw [← h.own.n]; unfold PoolS.nw; omega
  have HL := Lib.hid hnw
  clear hnw
  by_cases h1 : S.b ≤ a
  · by_cases h2 : a < S.b + (S.s : Int)
    · obtain ⟨i, hi⟩ : ∃ i : Nat, a - S.b = (i : Int) := ⟨(a - S.b).toNat, by omega⟩
      have HI := Lib.hid (show i / 64 < S.ow.length by rw [← h.own.n]; unfold PoolS.nw; omega)
      have HB := Lib.hid (show hasB S a = bitW S.ow i by unfold hasB; rw [hi]; simp [h1, h2])
      have d1 : decide (S.b ≤ a) = true := by simpa using h1
      have d2 : decide (a < S.b + (S.s : Int)) = true := by simpa using h2
      have hdif : IntKind.i64.wrap (a - S.b) = (i : Int) := by rw [hi]; exact IntWalk.i64_in _ (by omega)
      have hsum : IntKind.i64.wrap (S.b + (S.s : Int)) = S.b + (S.s : Int) := IntWalk.i64_in _ (by omega)
      clear h h1 h2 hi
      go_enter Tryd.func19, Tryd.ntmps19
      go_wp2_with fail
      go_quiet ((first | (go_at_call 32; exact none_q p c5 _) | (go_at_call 33; exact has_q _ _ _ _ _ HO.out HI.out HL.out _)))
      go_wp2_with fail
      go_ret
      exact ⟨ret_bool HB.out.symm, _, rfl⟩
    · have HI := Lib.hid (show True from trivial)
      have HB := Lib.hid (show hasB S a = false by unfold hasB; simp; omega)
      have d1 : decide (S.b ≤ a) = true := by simpa using h1
      have d2 : decide (a < S.b + (S.s : Int)) = false := by simpa using h2
      have hsum : IntKind.i64.wrap (S.b + (S.s : Int)) = S.b + (S.s : Int) := IntWalk.i64_in _ (by omega)
      clear h h1 h2
      go_enter Tryd.func19, Tryd.ntmps19
      go_wp2_with fail
      go_quiet ((go_at_call 32; exact none_q p c5 _))
      go_wp2_with fail
      go_ret
      exact ⟨ret_bool HB.out.symm, _, rfl⟩
  · have HB := Lib.hid (show hasB S a = false by unfold hasB; simp; omega)
    have d1 : decide (S.b ≤ a) = false := by simpa using h1
    clear h h1
    go_enter Tryd.func19, Tryd.ntmps19
    go_wp2_with fail
    go_quiet ((go_at_call 32; exact none_q p c5 _))
    go_wp2_with fail
    go_ret
    exact ⟨ret_bool HB.out.symm, _, rfl⟩
/-- Only two blocks have turned. -/
structure Two (l bm : Nat) (W W' : World) : Prop where
  os : W'.os = W.os
  tape : W'.tape = W.tape
  output : W'.output = W.output
  size : W.heap.size ≤ W'.heap.size
  block : ∀ k, k < W.heap.size → k ≠ l → k ≠ bm → W'.heap[k]? = W.heap[k]?
theorem Two.refl (l bm : Nat) (W : World) : Two l bm W W := ⟨rfl, rfl, rfl, Nat.le_refl _, fun _ _ _ _ => rfl⟩
theorem Two.trans {l bm : Nat} {A B C : World} (h : Two l bm A B) (k : Two l bm B C) : Two l bm A C :=
  ⟨k.os.trans h.os, k.tape.trans h.tape, k.output.trans h.output, Nat.le_trans h.size k.size, fun i hi h1 h2 => (k.block i (Nat.lt_of_lt_of_le hi h.size) h1 h2).trans (h.block i hi h1 h2)⟩
theorem Two.of_below {l bm : Nat} {A B : World} (h : Below A.heap.size A B) : Two l bm A B := ⟨h.os, h.tape, h.output, h.size, fun k hk _ _ => h.block k hk⟩
theorem Two.of_grown {l bm : Nat} {A B : World} (h : A.grownBy B (some bm)) : Two l bm A B := ⟨h.os, h.tape, h.output, h.size, fun k hk _ h2 => h.block k hk (by simpa using h2)⟩
theorem Two.store {l bm j : Nat} {A B : World} (h : Two l bm A B) (v : Value) : Two l bm A (B.setCell ⟨l, j, none⟩ v) :=
  ⟨h.os, h.tape, h.output, by simpa using h.size, fun k hk h1 h2 => (Below.heap_setCell B ⟨l, j, none⟩ v k h1).trans (h.block k hk h1 h2)⟩
theorem Two.below {l bm B : Nat} {W W' : World} (h : Two l bm W W') (hB : B ≤ W.heap.size) (h1 : B ≤ l) (h2 : B ≤ bm) : Below B W W' :=
  ⟨h.os, h.tape, h.output, h.size, fun k hk => h.block k (by omega) (by omega) (by omega)⟩
theorem PoolAt.turned {w w' : World} {p l bm : Nat} {S : PoolS} (h : PoolAt w p S) (ht : Two l bm w w') (h1 : p ≠ l) (h2 : p ≠ bm) (h3 : S.af ≠ l) (h4 : S.af ≠ bm) (h5 : S.ao ≠ l) (h6 : S.ao ≠ bm) : PoolAt w' p S :=
  h.kept fun k hk e => by
    rcases e with rfl | rfl | rfl
    · exact ht.block _ hk h1 h2
    · exact ht.block _ hk h3 h4
    · exact ht.block _ hk h5 h6
theorem TabAt.kept {w w' : World} (h : TabAt w) (hb : w'.heap[0]? = w.heap[0]?) : TabAt w' := fun j hj => by
  rw [World.cell?_of_block (w := w) (a := ⟨0, j, none⟩) hb]; exact h j hj
theorem TabAt.lt {w : World} (h : TabAt w) : 0 < w.heap.size := by
  have := World.block_lt_of_cell? w _ (h 0 (by decide))
  simpa using this
theorem TabAt.keep {w w' : World} (h : TabAt w) (hb : Below w.heap.size w w') : TabAt w' := h.kept (hb.block 0 h.lt)
theorem wp_world {P : Program} {c : Code} {Q : Exit → Act → World → Prop} {a : Act} {w : World} (S : World → Prop) (hS : S w) (h : ∀ W, S W → c.wp P Q a W) : c.wp P Q a w := h w hS
def freeB (S : PoolS) (a : Int) : Bool := bitW S.fw (a - S.b).toNat
def plE (S : PoolS) (a : Int) : Int := if hasB S a = true then (if freeB S a = true then 0 else 122) else 5
def plI (S : PoolS) (a : Int) : Int := if hasB S a = true ∧ freeB S a = true then a - S.b else 0
theorem hasB_in {S : PoolS} {a : Int} (h : hasB S a = true) : S.b ≤ a ∧ a < S.b + (S.s : Int) ∧ ∃ i : Nat, a - S.b = (i : Int) ∧ i < S.s := by
  unfold hasB at h
  simp only [Bool.and_eq_true, decide_eq_true_eq] at h
  exact ⟨h.1, h.2.1, (a - S.b).toNat, by omega, by omega⟩
set_option maxHeartbeats 1000000 in
theorem place_any (p : Nat) (S : PoolS) (a : Int) (w : World) (h : PoolAt w p S) (hs : Sound S) :
    Calls Tryd.prog 34 #[.agg #[.pointer (some ⟨p, 0, none⟩), .int .i64 a]] w fun e w' => e = .returned (.tuple #[.int .i64 (plI S a), .int .i64 (plE S a)]) ∧ Below w.heap.size w w' := by
  have c0 : w.cell? ⟨p, 0, none⟩ = some (.int .i64 S.b) := (cell_of_row w p 0 _ _ (0, 0) h.st).trans rfl
  have c1 : w.cell? ⟨p, 1, none⟩ = some (.int .i64 (S.s : Int)) := (cell_of_row w p 1 _ _ (0, 0) h.st).trans rfl
  have c2 : w.cell? ⟨p, 2, none⟩ = some (.slice (some ⟨S.af, 0, none⟩) S.nw S.cf) := (cell_of_row w p 2 _ _ (0, 0) h.st).trans rfl
  have c3 : w.cell? ⟨p, 3, none⟩ = some (.slice (some ⟨S.ao, 0, none⟩) S.nw S.co) := (cell_of_row w p 3 _ _ (0, 0) h.st).trans rfl
  have c4 : w.cell? ⟨p, 4, none⟩ = some (.int .i64 S.left) := (cell_of_row w p 4 _ _ (0, 0) h.st).trans rfl
  have c5 : w.cell? ⟨p, 5, none⟩ = some (.bool true) := (cell_of_row w p 5 _ _ (0, 0) h.st).trans rfl
  have hz : p < w.heap.size := lt_of_block h.st
  have HP := Lib.hid h
  have HS := Lib.hid hs
  have HFR := Lib.hid h.free
  obtain ⟨b1, b2, b3⟩ := hs
  have HL := Lib.hid (show S.fw.length ≤ 1000000 by rw [← h.free.n]; unfold PoolS.nw; omega)
  cases hh : hasB S a
  · have HI := Lib.hid (show plI S a = 0 by unfold plI; rw [hh]; simp)
    have HE := Lib.hid (show plE S a = 5 by unfold plE; rw [hh]; simp)
    have HH := Lib.hid hh
    clear h hh
    go_enter Tryd.func34, Tryd.ntmps34
    go_wp2_with fail
    refine (Has_any p S a _ (HP.out.keep (by (repeat (first | exact Below.refl _ _ | exact Nat.le_refl _ | (refine below_ext ?_ (by first | (simp [size_ext, grow]; done) | (simp [size_ext, grow]; omega) | omega) _ _) | (refine Below.setCell ?_ (by first | (simp [size_ext, grow]; done) | (simp [size_ext, grow]; omega) | omega) _) | (refine Below.alloc ?_ (by first | (simp [size_ext, grow]; done) | (simp [size_ext, grow]; omega) | omega) _) | refine Below.drew ?_ | refine below_drewN ?_ _ | (refine Below.trans ?_ (Below.mono (by assumption) (by first | (simp [size_ext, grow]; done) | (simp [size_ext, grow]; omega) | omega))))))) HS.out).mono ?_
    rw [HH.out]
    rintro e w1 ⟨rfl, m, rfl⟩
    go_wp2_with fail
    go_ret2
    exact ⟨by rw [HI.out, HE.out]; rfl, by (repeat (first | exact Below.refl _ _ | exact Nat.le_refl _ | (refine below_ext ?_ (by first | (simp [size_ext, grow]; done) | (simp [size_ext, grow]; omega) | omega) _ _) | (refine Below.setCell ?_ (by first | (simp [size_ext, grow]; done) | (simp [size_ext, grow]; omega) | omega) _) | (refine Below.alloc ?_ (by first | (simp [size_ext, grow]; done) | (simp [size_ext, grow]; omega) | omega) _) | refine Below.drew ?_ | refine below_drewN ?_ _ | (refine Below.trans ?_ (Below.mono (by assumption) (by first | (simp [size_ext, grow]; done) | (simp [size_ext, grow]; omega) | omega)))))⟩
  · obtain ⟨h1, h2, i, hi, him⟩ := hasB_in hh
    have HI := Lib.hid (show i / 64 < S.fw.length by rw [← h.free.n]; unfold PoolS.nw; omega)
    have hfb : freeB S a = bitW S.fw i := by unfold freeB; rw [hi]; rfl
    have hdif : IntKind.i64.wrap (a - S.b) = (i : Int) := by rw [hi]; exact IntWalk.i64_in _ (by omega)
    have HH := Lib.hid hh
    have HIA := Lib.hid hi
    clear h hh h1 h2 hi
    cases hf : bitW S.fw i
    · have HR := Lib.hid (show plI S a = 0 ∧ plE S a = 122 by unfold plI plE; rw [hfb, hf, HH.out]; simp)
      have HF := Lib.hid hf
      clear hf hfb
      go_enter Tryd.func34, Tryd.ntmps34
      go_wp2_with fail
      refine (Has_any p S a _ (HP.out.keep (by (repeat (first | exact Below.refl _ _ | exact Nat.le_refl _ | (refine below_ext ?_ (by first | (simp [size_ext, grow]; done) | (simp [size_ext, grow]; omega) | omega) _ _) | (refine Below.setCell ?_ (by first | (simp [size_ext, grow]; done) | (simp [size_ext, grow]; omega) | omega) _) | (refine Below.alloc ?_ (by first | (simp [size_ext, grow]; done) | (simp [size_ext, grow]; omega) | omega) _) | refine Below.drew ?_ | refine below_drewN ?_ _ | (refine Below.trans ?_ (Below.mono (by assumption) (by first | (simp [size_ext, grow]; done) | (simp [size_ext, grow]; omega) | omega))))))) HS.out).mono ?_
      rw [HH.out]
      rintro e w1 ⟨rfl, m, rfl⟩
      go_upto_region 3 with (fail)
      refine wp_world (fun W2 => Below w.heap.size w W2 ∧ W2.heap[w.heap.size]? = some (.cells #[.pointer (some ⟨p, 0, none⟩), .int .i64 a] 66 (0, 0))) ⟨by (repeat (first | exact Below.refl _ _ | exact Nat.le_refl _ | (refine below_ext ?_ (by first | (simp [size_ext, grow]; done) | (simp [size_ext, grow]; omega) | omega) _ _) | (refine Below.setCell ?_ (by first | (simp [size_ext, grow]; done) | (simp [size_ext, grow]; omega) | omega) _) | (refine Below.alloc ?_ (by first | (simp [size_ext, grow]; done) | (simp [size_ext, grow]; omega) | omega) _) | refine Below.drew ?_ | refine below_drewN ?_ _ | (refine Below.trans ?_ (Below.mono (by assumption) (by first | (simp [size_ext, grow]; done) | (simp [size_ext, grow]; omega) | omega))))), by (repeat (first | ((refine heap_alloc_at _ _ _ ?_); (simp [go_sem]; done)) | ((refine (heap_ext _ _ _ _ ?_).trans ?_); (focus (simp [go_sem]; done))) | ((refine (heap_alloc_past _ _ _ ?_).trans ?_); (focus (simp [go_sem]; done)))))⟩ ?_
      intro W2 ⟨hb2, hx2⟩
      have e0 : W2.cell? ⟨w.heap.size, 0, none⟩ = some (.pointer (some ⟨p, 0, none⟩)) := (cell_of_row W2 _ 0 _ _ (0, 0) hx2).trans rfl
      have e1 : W2.cell? ⟨w.heap.size, 1, none⟩ = some (.int .i64 a) := (cell_of_row W2 _ 1 _ _ (0, 0) hx2).trans rfl
      have f0 := (hb2.cell (p := ⟨p, 0, none⟩) hz).trans c0
      have f2 := (hb2.cell (p := ⟨p, 2, none⟩) hz).trans c2
      have fz : p < W2.heap.size := by have := hb2.size; omega
      have ez : w.heap.size < W2.heap.size := lt_of_block hx2
      have HB2 := Lib.hid hb2
      have HF2 := Lib.hid (HFR.out.keep hb2)
      clear hb2 hx2 c0 c1 c2 c3 c4 c5
      go_quiet ((go_at_call 33; exact has_v _ _ _ _ _ HF.out HF2.out HI.out HL.out _))
      go_wp2_with fail
      go_ret2
      exact ⟨by rw [HR.out.1, HR.out.2]; rfl, by have := HB2.out; (repeat (first | exact Below.refl _ _ | exact Nat.le_refl _ | (refine below_ext ?_ (by first | (simp [size_ext, grow]; done) | (simp [size_ext, grow]; omega) | omega) _ _) | (refine Below.setCell ?_ (by first | (simp [size_ext, grow]; done) | (simp [size_ext, grow]; omega) | omega) _) | (refine Below.alloc ?_ (by first | (simp [size_ext, grow]; done) | (simp [size_ext, grow]; omega) | omega) _) | refine Below.drew ?_ | refine below_drewN ?_ _ | (refine Below.trans ?_ (Below.mono (by assumption) (by first | (simp [size_ext, grow]; done) | (simp [size_ext, grow]; omega) | omega)))))⟩
    · have HR := Lib.hid (show plI S a = (i : Int) ∧ plE S a = 0 by unfold plI plE; rw [hfb, hf, HH.out, HIA.out]; simp)
      have HF := Lib.hid hf
      clear hf hfb
      go_enter Tryd.func34, Tryd.ntmps34
      go_wp2_with fail
      refine (Has_any p S a _ (HP.out.keep (by (repeat (first | exact Below.refl _ _ | exact Nat.le_refl _ | (refine below_ext ?_ (by first | (simp [size_ext, grow]; done) | (simp [size_ext, grow]; omega) | omega) _ _) | (refine Below.setCell ?_ (by first | (simp [size_ext, grow]; done) | (simp [size_ext, grow]; omega) | omega) _) | (refine Below.alloc ?_ (by first | (simp [size_ext, grow]; done) | (simp [size_ext, grow]; omega) | omega) _) | refine Below.drew ?_ | refine below_drewN ?_ _ | (refine Below.trans ?_ (Below.mono (by assumption) (by first | (simp [size_ext, grow]; done) | (simp [size_ext, grow]; omega) | omega))))))) HS.out).mono ?_
      rw [HH.out]
      rintro e w1 ⟨rfl, m, rfl⟩
      go_upto_region 3 with (fail)
      refine wp_world (fun W2 => Below w.heap.size w W2 ∧ W2.heap[w.heap.size]? = some (.cells #[.pointer (some ⟨p, 0, none⟩), .int .i64 a] 66 (0, 0))) ⟨by (repeat (first | exact Below.refl _ _ | exact Nat.le_refl _ | (refine below_ext ?_ (by first | (simp [size_ext, grow]; done) | (simp [size_ext, grow]; omega) | omega) _ _) | (refine Below.setCell ?_ (by first | (simp [size_ext, grow]; done) | (simp [size_ext, grow]; omega) | omega) _) | (refine Below.alloc ?_ (by first | (simp [size_ext, grow]; done) | (simp [size_ext, grow]; omega) | omega) _) | refine Below.drew ?_ | refine below_drewN ?_ _ | (refine Below.trans ?_ (Below.mono (by assumption) (by first | (simp [size_ext, grow]; done) | (simp [size_ext, grow]; omega) | omega))))), by (repeat (first | ((refine heap_alloc_at _ _ _ ?_); (simp [go_sem]; done)) | ((refine (heap_ext _ _ _ _ ?_).trans ?_); (focus (simp [go_sem]; done))) | ((refine (heap_alloc_past _ _ _ ?_).trans ?_); (focus (simp [go_sem]; done)))))⟩ ?_
      intro W2 ⟨hb2, hx2⟩
      have e0 : W2.cell? ⟨w.heap.size, 0, none⟩ = some (.pointer (some ⟨p, 0, none⟩)) := (cell_of_row W2 _ 0 _ _ (0, 0) hx2).trans rfl
      have e1 : W2.cell? ⟨w.heap.size, 1, none⟩ = some (.int .i64 a) := (cell_of_row W2 _ 1 _ _ (0, 0) hx2).trans rfl
      have f0 := (hb2.cell (p := ⟨p, 0, none⟩) hz).trans c0
      have f2 := (hb2.cell (p := ⟨p, 2, none⟩) hz).trans c2
      have fz : p < W2.heap.size := by have := hb2.size; omega
      have ez : w.heap.size < W2.heap.size := lt_of_block hx2
      have HB2 := Lib.hid hb2
      have HF2 := Lib.hid (HFR.out.keep hb2)
      clear hb2 hx2 c0 c1 c2 c3 c4 c5
      go_quiet ((go_at_call 33; exact has_v _ _ _ _ _ HF.out HF2.out HI.out HL.out _))
      go_wp2_with fail
      go_quiet (fail)
      go_wp2_with fail
      go_ret2
      exact ⟨by rw [HR.out.1, HR.out.2]; rfl, by have := HB2.out; (repeat (first | exact Below.refl _ _ | exact Nat.le_refl _ | (refine below_ext ?_ (by first | (simp [size_ext, grow]; done) | (simp [size_ext, grow]; omega) | omega) _ _) | (refine Below.setCell ?_ (by first | (simp [size_ext, grow]; done) | (simp [size_ext, grow]; omega) | omega) _) | (refine Below.alloc ?_ (by first | (simp [size_ext, grow]; done) | (simp [size_ext, grow]; omega) | omega) _) | refine Below.drew ?_ | refine below_drewN ?_ _ | (refine Below.trans ?_ (Below.mono (by assumption) (by first | (simp [size_ext, grow]; done) | (simp [size_ext, grow]; omega) | omega)))))⟩
end Go.Proofs.YtoilghhclpgfaaaDoor
