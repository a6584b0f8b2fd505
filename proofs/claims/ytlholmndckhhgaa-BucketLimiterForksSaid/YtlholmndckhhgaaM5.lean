/- New, Len, Tick, mac. -/
import Derived.Test.YtlholmndckhhgaaM4
namespace Go.Proofs.Ytlholmndckhhgaa
open Go.RowKit Go.Maps
set_option linter.unusedSimpArgs false
set_option linter.unusedVariables false
theorem mac_any (n : Int) (w : World) : Calls Try.prog 22 #[.int .u8 n] w fun e w' => e = .returned (.agg #[.int .u8 2, .int .u8 0, .int .u8 0, .int .u8 0, .int .u8 0, .int .u8 n]) ∧ Below w.heap.size w w' := by
  go_enter Try.func22, Try.ntmps22
  go_wp2
  exact bodyPost_ret (v := .agg #[.int .u8 2, .int .u8 0, .int .u8 0, .int .u8 0, .int .u8 0, .int .u8 n]) (by simp [results, Try.results22, go_sem]) rfl ⟨rfl, by (repeat (first | exact Below.refl _ _ | exact Nat.le_refl _ | (refine below_ext ?_ (by first | (simp [size_ext, grow]; done) | (simp [size_ext, grow]; omega) | omega) _ _) | (refine Below.setCell ?_ (by first | (simp [size_ext, grow]; done) | (simp [size_ext, grow]; omega) | omega) _) | (refine Below.alloc ?_ (by first | (simp [size_ext, grow]; done) | (simp [size_ext, grow]; omega) | omega) _) | refine Below.drew ?_ | refine below_drewN ?_ _ | (refine Below.trans ?_ (Below.mono (by assumption) (by first | (simp [size_ext, grow]; done) | (simp [size_ext, grow]; omega) | omega)))))⟩
theorem len_any (l bm : Nat) (e1 m1 e2 m2 bt bk tick : Int) (L : Ents) (W : World) (hc : LimC W l e1 m1 e2 m2 bt bk (some bm) tick) (hm : MapAt W bm L) :
    Calls Try.prog 23 #[.pointer (some ⟨l, 0, none⟩)] W fun e w' => e = .returned (.int .i64 (L.length : Int)) ∧ W = w' := by
  have hz : l < W.heap.size := lt_of_block hc
  have c6 : W.cell? ⟨l, 6, none⟩ = some (.map (some bm)) := (cell_of_row W l 6 _ _ (0, 0) hc).trans rfl
  clear hc
  go_enter Try.func23, Try.ntmps23
  go_wp2_with (first | (go_at_call 30; refine (none_no l bm _ c6).mono ?_; rintro e w1 ⟨rfl, rfl⟩) | (at_len; obtain ⟨D, hr, hown⟩ := hm; go_loud (refine wpList_len_own _ rfl (.tmp 8) 61 rfl 45 25 (by kernel_rfl) Rb bm _ D rfl hown ?_); rw [hr.size]; clear hr hown))
  go_ret
  exact ⟨rfl, rfl⟩
theorem tick_any (l bm : Nat) (e1 m1 e2 m2 bt bk tick : Int) (W : World) (hc : LimC W l e1 m1 e2 m2 bt bk (some bm) tick) :
    Calls Try.prog 26 #[.pointer (some ⟨l, 0, none⟩)] W fun e w' => e = .returned (.int .i64 tick) ∧ W = w' := by
  have hz : l < W.heap.size := lt_of_block hc
  have c6 : W.cell? ⟨l, 6, none⟩ = some (.map (some bm)) := (cell_of_row W l 6 _ _ (0, 0) hc).trans rfl
  have c7 : W.cell? ⟨l, 7, none⟩ = some (.int .i64 tick) := (cell_of_row W l 7 _ _ (0, 0) hc).trans rfl
  clear hc
  go_enter Try.func26, Try.ntmps26
  go_wp2_with (go_at_call 30; refine (none_no l bm _ c6).mono ?_; rintro e w1 ⟨rfl, rfl⟩)
  go_ret
  exact ⟨rfl, rfl⟩
def newOk (e1 m1 e2 m2 : Int) : Bool := rated e1 m1 && rated e2 m2
def NewP (e1 m1 e2 m2 : Int) (W : World) (x : Ending) (W' : World) : Prop :=
  Below W.heap.size W W' ∧
  ((newOk e1 m1 e2 m2 = false ∧ x = .returned (.tuple #[.pointer none, .int .i64 100])) ∨
   (newOk e1 m1 e2 m2 = true ∧ ∃ l bm, x = .returned (.tuple #[.pointer (some ⟨l, 0, none⟩), .int .i64 0]) ∧ W.heap.size ≤ l ∧ W.heap.size ≤ bm ∧ LimC W' l e1 m1 e2 m2 m1 0 (some bm) 0 ∧ MapAt W' bm []))
theorem map_new (w : World) : MapAt (w.alloc (.map #[] 0)) w.heap.size [] := ⟨_, Rep.nil, World.ownsMap_made _ _ _ _⟩
theorem map_of_heap {W : World} {b : Nat} (h : W.heap[b]? = some (.map #[] 0)) : MapAt W b [] := by
  obtain ⟨es, clock, h1, h2, h3, h4⟩ := World.ownsMap_made W Try.prog 45 Rb
  rw [heap_alloc_new] at h1
  simp only [Option.some.injEq, Obj.map.injEq] at h1
  obtain ⟨rfl, rfl⟩ := h1
  exact ⟨_, Rep.nil, #[], 0, h, h2, h3, h4⟩
set_option maxRecDepth 100000 in
set_option maxHeartbeats 1000000 in
theorem new_any (e1 m1 e2 m2 : Int) (W : World) : Calls Try.prog 20 #[.agg #[.int .i64 e1, .int .i64 m1], .agg #[.int .i64 e2, .int .i64 m2]] W (NewP e1 m1 e2 m2 W) := by
  have hmm := @run_makeMap Try.prog
  cases h1 : rated e1 m1
  · have H := Lib.hid (show rateErr e1 m1 = 100 by simp [rateErr, h1])
    have HN := Lib.hid (show newOk e1 m1 e2 m2 = false by simp [newOk, h1])
    clear h1
    go_enter Try.func20, Try.ntmps20
    go_wp2_with (go_at_call 13; refine (check_any _ _ _).mono ?_; rw [H.out]; rintro e w1 ⟨rfl, hb⟩; obtain ⟨xs, d, rfl⟩ := ext_of hb; clear hb)
    go_ret2
    exact ⟨by (repeat (first | exact Below.refl _ _ | exact Nat.le_refl _ | (refine below_ext ?_ (by first | (simp [size_ext, grow]; done) | (simp [size_ext, grow]; omega) | omega) _ _) | (refine Below.setCell ?_ (by first | (simp [size_ext, grow]; done) | (simp [size_ext, grow]; omega) | omega) _) | (refine Below.alloc ?_ (by first | (simp [size_ext, grow]; done) | (simp [size_ext, grow]; omega) | omega) _) | refine Below.drew ?_ | refine below_drewN ?_ _ | (refine Below.trans ?_ (Below.mono (by assumption) (by first | (simp [size_ext, grow]; done) | (simp [size_ext, grow]; omega) | omega))))), .inl ⟨HN.out, rfl⟩⟩
  · have H := Lib.hid (show rateErr e1 m1 = 0 by simp [rateErr, h1])
    cases h2 : rated e2 m2
    · have H2 := Lib.hid (show rateErr e2 m2 = 100 by simp [rateErr, h2])
      have HN := Lib.hid (show newOk e1 m1 e2 m2 = false by simp [newOk, h2])
      clear h1 h2
      go_enter Try.func20, Try.ntmps20
      go_wp2_with fail
      refine (check_any _ _ _).mono ?_; rw [H.out]; rintro e w1 ⟨rfl, hb⟩; obtain ⟨xs, d, rfl⟩ := ext_of hb; clear hb
      go_wp2_with fail
      refine (check_any _ _ _).mono ?_; rw [H2.out]; rintro e w1 ⟨rfl, hb⟩; obtain ⟨xs2, d2, rfl⟩ := ext_of hb; clear hb
      go_wp2_with fail
      go_ret2
      exact ⟨by (repeat (first | exact Below.refl _ _ | exact Nat.le_refl _ | (refine below_ext ?_ (by first | (simp [size_ext, grow]; done) | (simp [size_ext, grow]; omega) | omega) _ _) | (refine Below.setCell ?_ (by first | (simp [size_ext, grow]; done) | (simp [size_ext, grow]; omega) | omega) _) | (refine Below.alloc ?_ (by first | (simp [size_ext, grow]; done) | (simp [size_ext, grow]; omega) | omega) _) | refine Below.drew ?_ | refine below_drewN ?_ _ | (refine Below.trans ?_ (Below.mono (by assumption) (by first | (simp [size_ext, grow]; done) | (simp [size_ext, grow]; omega) | omega))))), .inl ⟨HN.out, rfl⟩⟩
    · have H2 := Lib.hid (show rateErr e2 m2 = 0 by simp [rateErr, h2])
      have HN := Lib.hid (show newOk e1 m1 e2 m2 = true by simp [newOk, h1, h2])
      have HF := Lib.hid (show full e1 m1 = m1 by simp [full, h1])
      clear h1 h2
      go_enter Try.func20, Try.ntmps20
      go_wp2_with fail
      refine (check_any _ _ _).mono ?_; rw [H.out]; rintro e w1 ⟨rfl, hb⟩; obtain ⟨xs, d, rfl⟩ := ext_of hb; clear hb
      go_wp2_with fail
      refine (check_any _ _ _).mono ?_; rw [H2.out]; rintro e w1 ⟨rfl, hb⟩; obtain ⟨xs2, d2, rfl⟩ := ext_of hb; clear hb
      go_wp2_with fail
      go_region_held3 (fun w' => w'.cell? ⟨W.heap.size, 0, none⟩ = some (.int .i64 e1) ∧ w'.cell? ⟨W.heap.size, 1, none⟩ = some (.int .i64 m1) ∧ w'.cell? ⟨W.heap.size + 1, 0, none⟩ = some (.int .i64 e2) ∧ w'.cell? ⟨W.heap.size + 1, 1, none⟩ = some (.int .i64 m2)) (first | (go_keep; done) | (go_simp; done) | (simp [go_sem]; done)) ((go_at_call 15; refine (full_any _ _ _).mono ?_; rw [HF.out]; rintro e w5 ⟨rfl, hb⟩; obtain ⟨xs5, dr5, rfl⟩ := ext_of hb; clear hb))
      all_goals
        go_wp2_with fail
        go_ret2
        refine ⟨by (repeat (first | exact Below.refl _ _ | exact Nat.le_refl _ | (refine below_ext ?_ (by first | (simp [size_ext, grow]; done) | (simp [size_ext, grow]; omega) | omega) _ _) | (refine Below.setCell ?_ (by first | (simp [size_ext, grow]; done) | (simp [size_ext, grow]; omega) | omega) _) | (refine Below.alloc ?_ (by first | (simp [size_ext, grow]; done) | (simp [size_ext, grow]; omega) | omega) _) | refine Below.drew ?_ | refine below_drewN ?_ _ | (refine Below.trans ?_ (Below.mono (by assumption) (by first | (simp [size_ext, grow]; done) | (simp [size_ext, grow]; omega) | omega))))), .inr ⟨HN.out, _, _, rfl, ?_, ?_, by unfold LimC; (repeat (first | ((refine heap_alloc_at _ _ _ ?_); (simp [go_sem]; done)) | ((refine (heap_ext _ _ _ _ ?_).trans ?_); (focus (simp [go_sem]; done))) | ((refine (heap_alloc_past _ _ _ ?_).trans ?_); (focus (simp [go_sem]; done))))), ?_⟩⟩
        · first | (simp [size_ext, grow]; done) | (simp [size_ext, grow]; omega)
        · first | (simp [size_ext, grow]; done) | (simp [size_ext, grow]; omega)
        · refine map_of_heap ?_
          (repeat (first | ((refine heap_alloc_at _ _ _ ?_); (simp [go_sem]; done)) | ((refine (heap_ext _ _ _ _ ?_).trans ?_); (focus (simp [go_sem]; done))) | ((refine (heap_alloc_past _ _ _ ?_).trans ?_); (focus (simp [go_sem]; done)))))
end Go.Proofs.Ytlholmndckhhgaa
