/- A pool that nobody made. -/
import Derived.Test.YtoilghhclpgfaaaDoorP11
namespace Go.Proofs.YtoilghhclpgfaaaDoor
open Go.ChangeShapes Go.WideShapes Go.ChangeAt Go.RowKit Go.Joins
set_option linter.unusedSimpArgs false
set_option linter.unusedVariables false
def Nobody (w : World) (v : Value) : Prop := v = .pointer none ∨ ∃ g, v = .pointer (some ⟨g, 0, none⟩) ∧ w.cell? ⟨g, 5, none⟩ = some (.bool false)
theorem Nobody.keep {w w' : World} {v : Value} (h : Nobody w v) (hb : Below w.heap.size w w') : Nobody w' v := by
  rcases h with h | ⟨g, rfl, hc⟩
  · exact .inl h
  · have := World.block_lt_of_cell? w _ hc
    exact .inr ⟨g, rfl, (hb.cell (p := ⟨g, 5, none⟩) this).trans hc⟩
theorem none_true {w : World} {v : Value} (h : Nobody w v) : Calls Tryd.prog 32 #[v] w fun e w' => e = .returned (.bool true) ∧ w = w' := by
  rcases h with rfl | ⟨g, rfl, hc⟩
  · exact none_nil w
  · exact none_unmade g w hc
theorem none_true_q {w : World} {v : Value} (h : Nobody w v) (q : Nat) : Calls Tryd.prog 32 #[v] (w.drewN q) fun e w' => e = .returned (.bool true) ∧ ∃ m, w' = w.drewN m :=
  (none_true (w := w.drewN q) (by rcases h with h | ⟨g, h, hc⟩; exact .inl h; exact .inr ⟨g, h, hc⟩)).mono fun _ _ ⟨he, hw⟩ => ⟨he, q, hw.symm⟩
theorem Nobody.ptr {w : World} {v : Value} (h : Nobody w v) : ∃ r, v = .pointer r := by
  rcases h with rfl | ⟨g, rfl, -⟩ <;> exact ⟨_, rfl⟩
theorem lease_none {v f : Value} {W : World} (h : Nobody W v) : Calls Tryd.prog 30 #[v, f] W fun e W' => e = .returned (.tuple #[.int .i64 0, .int .i64 4]) ∧ W = W' := by
  have H := Lib.hid h
  clear h
  go_enter Tryd.func30, Tryd.ntmps30
  go_wp2_with (go_at_call 32; refine (none_true H.out).mono ?_; rintro e w1 ⟨rfl, rfl⟩)
  go_ret2
  exact ⟨rfl, rfl⟩
theorem Take_none {v : Value} {W : World} (h : Nobody W v) : Calls Tryd.prog 14 #[v] W fun e W' => e = .returned (.tuple #[.int .i64 0, .int .i64 4]) ∧ W = W' := by
  have H := Lib.hid h
  clear h
  go_enter Tryd.func14, Tryd.ntmps14
  go_wp2_with (go_at_call 30; refine (lease_none H.out).mono ?_; rintro e w1 ⟨rfl, rfl⟩)
  go_ret2
  exact ⟨rfl, rfl⟩
theorem Want_none {v : Value} (a : Int) {W : World} (h : Nobody W v) : Calls Tryd.prog 17 #[v, .int .i64 a] W fun e W' => e = .returned (.int .i64 4) ∧ W = W' := by
  obtain ⟨r, rfl⟩ := h.ptr
  have H := Lib.hid h
  clear h
  go_enter Tryd.func17, Tryd.ntmps17
  go_wp2_with fail
  refine (lease_none H.out).mono ?_
  rintro e w1 ⟨rfl, rfl⟩
  go_wp2_with fail
  go_ret
  exact ⟨rfl, rfl⟩
theorem Give_none {v : Value} (a : Int) {W : World} (h : Nobody W v) : Calls Tryd.prog 15 #[v, .int .i64 a] W fun e W' => e = .returned (.int .i64 4) ∧ W = W' := by
  have H := Lib.hid h
  clear h
  go_enter Tryd.func15, Tryd.ntmps15
  go_wp2_with (go_at_call 32; refine (none_true H.out).mono ?_; rintro e w1 ⟨rfl, rfl⟩)
  go_ret
  exact ⟨rfl, rfl⟩
theorem Has_none {v : Value} (a : Int) {W : World} (h : Nobody W v) : Calls Tryd.prog 19 #[v, .int .i64 a] W fun e W' => e = .returned (.bool false) ∧ ∃ m, W' = W.drewN m := by
  have H := Lib.hid h
  clear h
  go_enter Tryd.func19, Tryd.ntmps19
  go_wp2_with fail
  go_quiet ((go_at_call 32; exact none_true_q H.out _))
  go_wp2_with fail
  go_ret
  exact ⟨rfl, _, rfl⟩
theorem Free_none {v : Value} {W : World} (h : Nobody W v) : Calls Tryd.prog 20 #[v] W fun e W' => e = .returned (.int .i64 0) ∧ W = W' := by
  have H := Lib.hid h
  clear h
  go_enter Tryd.func20, Tryd.ntmps20
  go_wp2_with (go_at_call 32; refine (none_true H.out).mono ?_; rintro e w1 ⟨rfl, rfl⟩)
  go_ret
  exact ⟨rfl, rfl⟩
theorem Leased_none {v : Value} {W : World} (h : Nobody W v) : Calls Tryd.prog 18 #[v] W fun e W' => e = .returned (.slice none 0 0) ∧ W = W' := by
  have H := Lib.hid h
  clear h
  go_enter Tryd.func18, Tryd.ntmps18
  go_wp2_with (go_at_call 32; refine (none_true H.out).mono ?_; rintro e w1 ⟨rfl, rfl⟩)
  go_ret
  exact ⟨rfl, rfl⟩
theorem Fork_none {v : Value} {W : World} (h : Nobody W v) : Calls Tryd.prog 25 #[v] W fun e W' => e = .returned (.pointer none) ∧ W = W' := by
  have H := Lib.hid h
  clear h
  go_enter Tryd.func25, Tryd.ntmps25
  go_wp2_with (go_at_call 32; refine (none_true H.out).mono ?_; rintro e w1 ⟨rfl, rfl⟩)
  go_ret
  exact ⟨rfl, rfl⟩
set_option maxRecDepth 100000 in
set_option maxHeartbeats 2000000 in
theorem nobody_any (a : Int) (w : World) (hT : TabAt w) : Calls Tryd.prog 8 #[.int .i64 a] w fun e w' => e = .returned (.bool true) ∧ Below w.heap.size w w' := by
  have HT := Lib.hid hT
  clear hT
  go_enter Tryd.func8, Tryd.ntmps8
  go_wp2_with fail
  refine wp_world (fun W0 => Below w.heap.size w W0 ∧ W0.heap[w.heap.size]? = some (.cells #[.int .i64 0, .int .i64 0, .slice none 0 0, .slice none 0 0, .int .i64 0, .bool false] 60 (0, 0)) ∧ W0.heap[w.heap.size + 1]? = some (.cells #[.pointer none, .pointer (some ⟨w.heap.size, 0, none⟩)] 31 (0, 0))) ⟨by (repeat (first | exact Below.refl _ _ | exact Nat.le_refl _ | (refine below_ext ?_ (by first | (simp [size_ext, grow]; done) | (simp [size_ext, grow]; omega) | omega) _ _) | (refine Below.setCell ?_ (by first | (simp [size_ext, grow]; done) | (simp [size_ext, grow]; omega) | omega) _) | (refine Below.alloc ?_ (by first | (simp [size_ext, grow]; done) | (simp [size_ext, grow]; omega) | omega) _) | refine Below.drew ?_ | refine below_drewN ?_ _ | (refine Below.trans ?_ (Below.mono (by assumption) (by first | (simp [size_ext, grow]; done) | (simp [size_ext, grow]; omega) | omega))))), by (repeat (first | ((refine heap_alloc_at _ _ _ ?_); (simp [go_sem]; done)) | ((refine (heap_ext _ _ _ _ ?_).trans ?_); (focus (simp [go_sem]; done))) | ((refine (heap_alloc_past _ _ _ ?_).trans ?_); (focus (simp [go_sem]; done))))), by (repeat (first | ((refine heap_alloc_at _ _ _ ?_); (simp [go_sem]; done)) | ((refine (heap_ext _ _ _ _ ?_).trans ?_); (focus (simp [go_sem]; done))) | ((refine (heap_alloc_past _ _ _ ?_).trans ?_); (focus (simp [go_sem]; done)))))⟩ ?_
  intro W0 ⟨hb0, hE, hO⟩
  have HB0 := Lib.hid hb0
  have HE := Lib.hid hE
  have HO := Lib.hid hO
  have hzO : w.heap.size + 1 < W0.heap.size := lt_of_block hO
  clear hb0 hE hO
  go_loopw [5] (fun i wr => ∃ j : Nat, j ≤ 2 ∧ i = .int .i64 j ∧ Below W0.heap.size W0 wr) (fun i _ => 2 - (intOf i).toNat)
  case atStart => exact ⟨0, by omega, rfl, Below.refl _ _⟩
  case round =>
    obtain ⟨j, hj, rfl, hbl⟩ := hrel
    have HBL := Lib.hid hbl
    have hszr := hbl.size
    clear hbl
    by_cases hlt : j < 2
    · obtain ⟨v, hv, hnb⟩ : ∃ v, wr.cell? ⟨w.heap.size + 1, j, none⟩ = some v ∧ Nobody wr v := by
        have h := (HBL.out.block _ hzO).trans HO.out
        by_cases h0 : j = 0
        · subst h0
          exact ⟨_, (cell_of_row wr _ 0 _ _ (0, 0) h).trans rfl, .inl rfl⟩
        · obtain rfl : j = 1 := by omega
          refine ⟨_, (cell_of_row wr _ 1 _ _ (0, 0) h).trans rfl, .inr ⟨_, rfl, ?_⟩⟩
          exact (cell_of_row wr _ 5 _ _ (0, 0) ((HBL.out.block _ (by omega)).trans HE.out)).trans rfl
      have HNB := Lib.hid hnb
      have hzr : w.heap.size + 1 < wr.heap.size := by omega
      have jj0 : (0 : Int) ≤ (j : Int) := by omega
      have jj1 : (j : Int) < 2 := by omega
      clear hnb
      go_wp2_with (first | (go_at_call 14; refine (Take_none (HNB.out.keep (by (repeat (first | exact Below.refl _ _ | exact Nat.le_refl _ | (refine below_ext ?_ (by first | (simp [size_ext, grow]; done) | (simp [size_ext, grow]; omega) | omega) _ _) | (refine Below.setCell ?_ (by first | (simp [size_ext, grow]; done) | (simp [size_ext, grow]; omega) | omega) _) | (refine Below.alloc ?_ (by first | (simp [size_ext, grow]; done) | (simp [size_ext, grow]; omega) | omega) _) | refine Below.drew ?_ | refine below_drewN ?_ _ | (refine Below.trans ?_ (Below.mono (by assumption) (by first | (simp [size_ext, grow]; done) | (simp [size_ext, grow]; omega) | omega)))))))).mono ?_; rintro e w7 ⟨rfl, rfl⟩) | (go_at_call 17; refine (Want_none a (HNB.out.keep (by (repeat (first | exact Below.refl _ _ | exact Nat.le_refl _ | (refine below_ext ?_ (by first | (simp [size_ext, grow]; done) | (simp [size_ext, grow]; omega) | omega) _ _) | (refine Below.setCell ?_ (by first | (simp [size_ext, grow]; done) | (simp [size_ext, grow]; omega) | omega) _) | (refine Below.alloc ?_ (by first | (simp [size_ext, grow]; done) | (simp [size_ext, grow]; omega) | omega) _) | refine Below.drew ?_ | refine below_drewN ?_ _ | (refine Below.trans ?_ (Below.mono (by assumption) (by first | (simp [size_ext, grow]; done) | (simp [size_ext, grow]; omega) | omega)))))))).mono ?_; rintro e w7 ⟨rfl, rfl⟩) | (go_at_call 15; refine (Give_none a (HNB.out.keep (by (repeat (first | exact Below.refl _ _ | exact Nat.le_refl _ | (refine below_ext ?_ (by first | (simp [size_ext, grow]; done) | (simp [size_ext, grow]; omega) | omega) _ _) | (refine Below.setCell ?_ (by first | (simp [size_ext, grow]; done) | (simp [size_ext, grow]; omega) | omega) _) | (refine Below.alloc ?_ (by first | (simp [size_ext, grow]; done) | (simp [size_ext, grow]; omega) | omega) _) | refine Below.drew ?_ | refine below_drewN ?_ _ | (refine Below.trans ?_ (Below.mono (by assumption) (by first | (simp [size_ext, grow]; done) | (simp [size_ext, grow]; omega) | omega)))))))).mono ?_; rintro e w7 ⟨rfl, rfl⟩) | (go_at_call 19; refine (Has_none a (HNB.out.keep (by (repeat (first | exact Below.refl _ _ | exact Nat.le_refl _ | (refine below_ext ?_ (by first | (simp [size_ext, grow]; done) | (simp [size_ext, grow]; omega) | omega) _ _) | (refine Below.setCell ?_ (by first | (simp [size_ext, grow]; done) | (simp [size_ext, grow]; omega) | omega) _) | (refine Below.alloc ?_ (by first | (simp [size_ext, grow]; done) | (simp [size_ext, grow]; omega) | omega) _) | refine Below.drew ?_ | refine below_drewN ?_ _ | (refine Below.trans ?_ (Below.mono (by assumption) (by first | (simp [size_ext, grow]; done) | (simp [size_ext, grow]; omega) | omega)))))))).mono ?_; rintro e w7 ⟨rfl, m, rfl⟩) | (go_at_call 20; refine (Free_none (HNB.out.keep (by (repeat (first | exact Below.refl _ _ | exact Nat.le_refl _ | (refine below_ext ?_ (by first | (simp [size_ext, grow]; done) | (simp [size_ext, grow]; omega) | omega) _ _) | (refine Below.setCell ?_ (by first | (simp [size_ext, grow]; done) | (simp [size_ext, grow]; omega) | omega) _) | (refine Below.alloc ?_ (by first | (simp [size_ext, grow]; done) | (simp [size_ext, grow]; omega) | omega) _) | refine Below.drew ?_ | refine below_drewN ?_ _ | (refine Below.trans ?_ (Below.mono (by assumption) (by first | (simp [size_ext, grow]; done) | (simp [size_ext, grow]; omega) | omega)))))))).mono ?_; rintro e w7 ⟨rfl, rfl⟩) | (go_at_call 18; refine (Leased_none (HNB.out.keep (by (repeat (first | exact Below.refl _ _ | exact Nat.le_refl _ | (refine below_ext ?_ (by first | (simp [size_ext, grow]; done) | (simp [size_ext, grow]; omega) | omega) _ _) | (refine Below.setCell ?_ (by first | (simp [size_ext, grow]; done) | (simp [size_ext, grow]; omega) | omega) _) | (refine Below.alloc ?_ (by first | (simp [size_ext, grow]; done) | (simp [size_ext, grow]; omega) | omega) _) | refine Below.drew ?_ | refine below_drewN ?_ _ | (refine Below.trans ?_ (Below.mono (by assumption) (by first | (simp [size_ext, grow]; done) | (simp [size_ext, grow]; omega) | omega)))))))).mono ?_; rintro e w7 ⟨rfl, rfl⟩) | (go_at_call 25; refine (Fork_none (HNB.out.keep (by (repeat (first | exact Below.refl _ _ | exact Nat.le_refl _ | (refine below_ext ?_ (by first | (simp [size_ext, grow]; done) | (simp [size_ext, grow]; omega) | omega) _ _) | (refine Below.setCell ?_ (by first | (simp [size_ext, grow]; done) | (simp [size_ext, grow]; omega) | omega) _) | (refine Below.alloc ?_ (by first | (simp [size_ext, grow]; done) | (simp [size_ext, grow]; omega) | omega) _) | refine Below.drew ?_ | refine below_drewN ?_ _ | (refine Below.trans ?_ (Below.mono (by assumption) (by first | (simp [size_ext, grow]; done) | (simp [size_ext, grow]; omega) | omega)))))))).mono ?_; rintro e w7 ⟨rfl, rfl⟩))
      go_roundw
      case rel => exact ⟨j + 1, by omega, by go_num, by have := HBL.out; (repeat (first | exact Below.refl _ _ | exact Nat.le_refl _ | (refine below_ext ?_ (by first | (simp [size_ext, grow]; done) | (simp [size_ext, grow]; omega) | omega) _ _) | (refine Below.setCell ?_ (by first | (simp [size_ext, grow]; done) | (simp [size_ext, grow]; omega) | omega) _) | (refine Below.alloc ?_ (by first | (simp [size_ext, grow]; done) | (simp [size_ext, grow]; omega) | omega) _) | refine Below.drew ?_ | refine below_drewN ?_ _ | (refine Below.trans ?_ (Below.mono (by assumption) (by first | (simp [size_ext, grow]; done) | (simp [size_ext, grow]; omega) | omega)))))⟩
      case measure => simp [intOf]; omega
    · obtain rfl : j = 2 := by omega
      have HB1 := Lib.hid (HB0.out.trans (HBL.out.mono HB0.out.size))
      go_wp2_with fail
      refine (awake_any _ (HT.out.keep HB1.out)).mono ?_
      rintro e w2 ⟨rfl, hb⟩
      have HB2 := Lib.hid (HB1.out.trans (hb.mono HB1.out.size))
      clear hb
      go_wp2_with fail
      go_ret
      exact ⟨rfl, HB2.out⟩
theorem poolNobody_calls {H : Type} (enc : TypeId × Value → H) (W : World) (base : Nat) (hT : TabAt W) (v0 : Value) (d0 : DataW H) (p0 : List MemPlace)
    (o0 : Value.okWide Tryd.prog W .any base 3 v0) (h0 : DataW.Trod enc Tryd.prog W 0 (fun _ => true) true 3 v0 d0 p0) :
    Calls Tryd.prog 8 #[v0] W fun e W' => e = .returned (.bool true) ∧ Below W.heap.size W W' := by
  obtain ⟨i0, rfl, rfl, rfl, w0⟩ := open_int Tryd.underlying3 o0 h0
  exact nobody_any i0 W hT
end Go.Proofs.YtoilghhclpgfaaaDoor
