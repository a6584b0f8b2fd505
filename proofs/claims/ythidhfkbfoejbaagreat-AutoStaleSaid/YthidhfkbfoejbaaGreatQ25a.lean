/- The program's which: codes 1, 2, 5, 6. -/
import Derived.Test.YthidhfkbfoejbaaGreatQ24
namespace Go.Proofs.YthidhfkbfoejbaaGreat
open Go.RowKit
set_option linter.unusedSimpArgs false
set_option linter.unusedVariables false
set_option linter.ambiguousOpen false
open Ne (Rl Opt RulesAt areB answerO learnO)
open Fs (av hasB)
set_option maxRecDepth 100000 in
set_option maxHeartbeats 4000000 in
theorem which_1 (Ar Aa Ai : Option Addr) (nr cr na ca ni ci : Nat) (R : List Rl) (mc mt mf wt st id req cnt tim nak ii : Int) (E : List Ent) (li : List UInt8) (w : World) (B : Nat) (hB : B ≤ w.heap.size) (hR : RulesAt w B Ar R) (hnr : nr = R.length) (hlr : nr ≤ 1000000) (hE : OptsAt w B Aa E) (hna : na = E.length) (hla : na ≤ 1000000) (hda : ∀ e ∈ E, e.d.length ≤ 1000000) (hI : At w B Ai (li.map bv)) (hni : ni = li.length) (hci : ni ≤ ci) : Calls Tryz.prog 43 #[.agg #[.slice Ar nr cr, .int .i64 mc, .int .i64 mt, .int .i64 mf, .int .i64 wt], .agg #[.int .i64 st, .int .i64 id, .int .i64 req, .slice Aa na ca, .int .i64 cnt, .int .i64 tim, .int .i64 nak], .agg #[.int .i64 1, .int .i64 ii, .slice Ai ni ci]] w (WhichP (whichO ⟨R, mc, mt, mf, wt⟩ ⟨st, id, req, E.map Ent.o, cnt, tim, nak⟩ ⟨1, ii, li⟩) w) := by
  have HB := Lib.hid hB
  have HR := Lib.hid hR
  have HNR := Lib.hid hnr
  have HE := Lib.hid hE
  have HNA := Lib.hid hna
  have HDA := Lib.hid hda
  have HI := Lib.hid hI
  have HNI := Lib.hid hni
  obtain ⟨L, hL⟩ : ∃ L, E.map Ent.o = L := ⟨_, rfl⟩
  have HL := Lib.hid hL
  rw [hL]
  clear hB hR hnr hE hna hda hL hI hni
  have HO := Lib.hid (show whichO ⟨R, mc, mt, mf, wt⟩ ⟨st, id, req, L, cnt, tim, nak⟩ ⟨1, ii, li⟩ = askedO ⟨R, mc, mt, mf, wt⟩ ⟨st, id, req, L, cnt, tim, nak⟩ ⟨1, ii, li⟩ from if_pos rfl)
  rw [HO.out]
  obtain ⟨r, hr⟩ : ∃ r, askedO ⟨R, mc, mt, mf, wt⟩ ⟨st, id, req, L, cnt, tim, nak⟩ ⟨1, ii, li⟩ = r := ⟨_, rfl⟩
  have HA := Lib.hid hr
  rw [hr]
  clear hr
  go_enter Tryz.func43, Tryz.ntmps43
  go_upto_region 1 with (fail)
  refine wp_w (fun W => W.heap[w.heap.size]? = some (.cells #[.slice Ar nr cr, .int .i64 mc, .int .i64 mt, .int .i64 mf, .int .i64 wt] 24 (0, 0)) ∧ W.heap[w.heap.size + 1]? = some (.cells #[.int .i64 st, .int .i64 id, .int .i64 req, .slice Aa na ca, .int .i64 cnt, .int .i64 tim, .int .i64 nak] 28 (0, 0)) ∧ W.heap[w.heap.size + 1 + 1]? = some (.cells #[.int .i64 1, .int .i64 ii, .slice Ai ni ci] 32 (0, 0)) ∧ W.heap[w.heap.size + 1 + 1 + 1]? = some (.cells #[.int .i64 0, .int .i64 0, .slice none 0 0] 32 (0, 0)) ∧ Below w.heap.size w W) ⟨by (repeat (first | ((refine heap_alloc_at _ _ _ ?_); (simp [go_sem]; done)) | ((refine (heap_ext _ _ _ _ ?_).trans ?_); (focus (simp [go_sem]; done))) | ((refine (heap_alloc_past _ _ _ ?_).trans ?_); (focus (simp [go_sem]; done))))), by (repeat (first | ((refine heap_alloc_at _ _ _ ?_); (simp [go_sem]; done)) | ((refine (heap_ext _ _ _ _ ?_).trans ?_); (focus (simp [go_sem]; done))) | ((refine (heap_alloc_past _ _ _ ?_).trans ?_); (focus (simp [go_sem]; done))))), by (repeat (first | ((refine heap_alloc_at _ _ _ ?_); (simp [go_sem]; done)) | ((refine (heap_ext _ _ _ _ ?_).trans ?_); (focus (simp [go_sem]; done))) | ((refine (heap_alloc_past _ _ _ ?_).trans ?_); (focus (simp [go_sem]; done))))), by (repeat (first | ((refine heap_alloc_at _ _ _ ?_); (simp [go_sem]; done)) | ((refine (heap_ext _ _ _ _ ?_).trans ?_); (focus (simp [go_sem]; done))) | ((refine (heap_alloc_past _ _ _ ?_).trans ?_); (focus (simp [go_sem]; done))))), by exact bel⟩ ?_
  rintro W2 ⟨h6, h7, h8, h12, hbw⟩
  have HBW := Lib.hid hbw
  have H12 := Lib.hid h12
  have hszW := hbw.size
  have l6 := lt_blk h6
  have l7 := lt_blk h7
  have l8 := lt_blk h8
  have l12 := lt_blk h12
  obtain ⟨p0, p1, p2, p3, p4⟩ := cells5 h6
  obtain ⟨q0, q1, q2, q3, q4, q5, q6⟩ := cells7 h7
  obtain ⟨r0, r1, r2⟩ := cells3 h8
  obtain ⟨z0, z1, z2⟩ := cells3 h12
  have f0 := frees h12 0
  have f1 := frees h12 1
  have f2 := frees h12 2
  clear h6 h7 h8 h12 hbw
  go_wp2_with fail
  refine (asked_any Ar Aa Ai nr cr na ca ni ci R mc mt mf wt st id req cnt tim nak 1 ii E li W2 B (by have := HB.out; omega) (HR.out.keep (HBW.out.mono HB.out)) HNR.out hlr (HE.out.keep (HBW.out.mono HB.out)) HNA.out (HI.out.keep (HBW.out.mono HB.out)) HNI.out hci).mono ?_
  rw [HL.out, HA.out]
  cases r with
  | none =>
    rintro x w3 ⟨A4, n4, c4, rfl, hb⟩
    obtain ⟨xs3, d3, rfl⟩ := ext_of hb
    clear hb
    go_wp2_with fail
    obtain ⟨Wf, hWf⟩ : ∃ Wf : World, Wf = ext (((W2.setCell ⟨w.heap.size + 1 + 1 + 1, 0, none⟩ (.int .i64 0)).setCell ⟨w.heap.size + 1 + 1 + 1, 1, none⟩ (.int .i64 0)).setCell ⟨w.heap.size + 1 + 1 + 1, 2, none⟩ (.slice none 0 0)) xs3 d3 := ⟨_, rfl⟩
    rw [← hWf]
    have hrow : Wf.heap[w.heap.size + 1 + 1 + 1]? = some (.cells #[.int .i64 0, .int .i64 0, .slice none 0 0] 32 (0, 0)) := by rw [hWf]; exact (heap_ext _ _ _ _ (by first | (simp [size_ext, grow]; done) | (simp [size_ext, grow]; omega))).trans (row3 H12.out rfl _ _ _)
    have hgr : (W2).grownBy Wf (some (w.heap.size + 1 + 1 + 1)) := by rw [hWf]; first | with_reducible exact grown_exts grn (by simp) | exact grn
    have hbf : Below w.heap.size w Wf := Below.grown (by have := HBW.out; exact bel) hgr (by first | exact hszW | (simp [size_ext, grow]; omega)) (fun k hk => by cases hk; omega)
    clear hWf f0 f1 f2 z0 z1 z2
    obtain ⟨u0, u1, u2⟩ := cells3 hrow
    refine bodyPost_ret (v := .tuple #[.int .i64 0, .agg #[.int .i64 0, .int .i64 0, .slice none 0 0], .slice A4 n4 c4]) (by simp [results, Tryz.results43, go_sem, u0, u1, u2]) rfl ?_
    exact ⟨_, _, _, rfl, hbf⟩
  | some r =>
    obtain ⟨ev, ⟨aco, aid, ad⟩, next⟩ := r
    rintro x w3 ⟨Ad, nd, cd, A4, n4, c4, rfl, hb, hby, hop⟩
    have HBY := Lib.hid hby
    have HZ := Lib.hid ((hb.block _ l12).trans H12.out)
    obtain ⟨xs3, d3, rfl⟩ := ext_of hb
    clear hb hby hop
    dsimp only
    go_wp2_with fail
    obtain ⟨Wf, hWf⟩ : ∃ Wf : World, Wf = ext (((W2.setCell ⟨w.heap.size + 1 + 1 + 1, 0, none⟩ (.int .i64 aco)).setCell ⟨w.heap.size + 1 + 1 + 1, 1, none⟩ (.int .i64 aid)).setCell ⟨w.heap.size + 1 + 1 + 1, 2, none⟩ (.slice Ad nd cd)) xs3 d3 := ⟨_, rfl⟩
    rw [← hWf]
    have hrow : Wf.heap[w.heap.size + 1 + 1 + 1]? = some (.cells #[.int .i64 aco, .int .i64 aid, .slice Ad nd cd] 32 (0, 0)) := by rw [hWf]; exact (heap_ext _ _ _ _ (by first | (simp [size_ext, grow]; done) | (simp [size_ext, grow]; omega))).trans (row3 H12.out rfl _ _ _)
    have hgr : (ext W2 xs3 d3).grownBy Wf (some (w.heap.size + 1 + 1 + 1)) := by rw [hWf]; first | with_reducible exact grown_exts grn (by simp) | exact grn
    have hbf : Below w.heap.size w Wf := Below.grown (by have := HBW.out; exact bel) hgr (by first | exact hszW | (simp [size_ext, grow]; omega)) (fun k hk => by cases hk; omega)
    clear hWf f0 f1 f2 z0 z1 z2
    obtain ⟨u0, u1, u2⟩ := cells3 hrow
    refine bodyPost_ret (v := .tuple #[.int .i64 ev, .agg #[.int .i64 aco, .int .i64 aid, .slice Ad nd cd], .slice A4 n4 c4]) (by simp [results, Tryz.results43, go_sem, u0, u1, u2]) rfl ?_
    exact ⟨Ad, nd, cd, A4, n4, c4, rfl, hbf, (HBY.out.other hgr ((HZ.out)) (by decide)).base hszW, fun h => absurd h (askedO_ev HA.out)⟩
set_option maxRecDepth 100000 in
set_option maxHeartbeats 4000000 in
theorem which_5 (Ar Aa Ai : Option Addr) (nr cr na ca ni ci : Nat) (R : List Rl) (mc mt mf wt st id req cnt tim nak ii : Int) (E : List Ent) (li : List UInt8) (w : World) (B : Nat) (hB : B ≤ w.heap.size) (hR : RulesAt w B Ar R) (hnr : nr = R.length) (hlr : nr ≤ 1000000) (hE : OptsAt w B Aa E) (hna : na = E.length) (hla : na ≤ 1000000) (hda : ∀ e ∈ E, e.d.length ≤ 1000000) (hI : At w B Ai (li.map bv)) (hni : ni = li.length) (hci : ni ≤ ci) : Calls Tryz.prog 43 #[.agg #[.slice Ar nr cr, .int .i64 mc, .int .i64 mt, .int .i64 mf, .int .i64 wt], .agg #[.int .i64 st, .int .i64 id, .int .i64 req, .slice Aa na ca, .int .i64 cnt, .int .i64 tim, .int .i64 nak], .agg #[.int .i64 5, .int .i64 ii, .slice Ai ni ci]] w (WhichP (whichO ⟨R, mc, mt, mf, wt⟩ ⟨st, id, req, E.map Ent.o, cnt, tim, nak⟩ ⟨5, ii, li⟩) w) := by
  have HB := Lib.hid hB
  have HR := Lib.hid hR
  have HNR := Lib.hid hnr
  have HE := Lib.hid hE
  have HNA := Lib.hid hna
  have HDA := Lib.hid hda
  have HI := Lib.hid hI
  have HNI := Lib.hid hni
  obtain ⟨L, hL⟩ : ∃ L, E.map Ent.o = L := ⟨_, rfl⟩
  have HL := Lib.hid hL
  rw [hL]
  clear hB hR hnr hE hna hda hL hI hni
  have HO := Lib.hid (show whichO ⟨R, mc, mt, mf, wt⟩ ⟨st, id, req, L, cnt, tim, nak⟩ ⟨5, ii, li⟩ = some (11, ⟨0, 0, []⟩, L) from rfl)
  rw [HO.out]
  go_enter Tryz.func43, Tryz.ntmps43
  go_upto_region 1 with (fail)
  refine wp_w (fun W => W.heap[w.heap.size]? = some (.cells #[.slice Ar nr cr, .int .i64 mc, .int .i64 mt, .int .i64 mf, .int .i64 wt] 24 (0, 0)) ∧ W.heap[w.heap.size + 1]? = some (.cells #[.int .i64 st, .int .i64 id, .int .i64 req, .slice Aa na ca, .int .i64 cnt, .int .i64 tim, .int .i64 nak] 28 (0, 0)) ∧ W.heap[w.heap.size + 1 + 1]? = some (.cells #[.int .i64 5, .int .i64 ii, .slice Ai ni ci] 32 (0, 0)) ∧ W.heap[w.heap.size + 1 + 1 + 1]? = some (.cells #[.int .i64 0, .int .i64 0, .slice none 0 0] 32 (0, 0)) ∧ Below w.heap.size w W) ⟨by (repeat (first | ((refine heap_alloc_at _ _ _ ?_); (simp [go_sem]; done)) | ((refine (heap_ext _ _ _ _ ?_).trans ?_); (focus (simp [go_sem]; done))) | ((refine (heap_alloc_past _ _ _ ?_).trans ?_); (focus (simp [go_sem]; done))))), by (repeat (first | ((refine heap_alloc_at _ _ _ ?_); (simp [go_sem]; done)) | ((refine (heap_ext _ _ _ _ ?_).trans ?_); (focus (simp [go_sem]; done))) | ((refine (heap_alloc_past _ _ _ ?_).trans ?_); (focus (simp [go_sem]; done))))), by (repeat (first | ((refine heap_alloc_at _ _ _ ?_); (simp [go_sem]; done)) | ((refine (heap_ext _ _ _ _ ?_).trans ?_); (focus (simp [go_sem]; done))) | ((refine (heap_alloc_past _ _ _ ?_).trans ?_); (focus (simp [go_sem]; done))))), by (repeat (first | ((refine heap_alloc_at _ _ _ ?_); (simp [go_sem]; done)) | ((refine (heap_ext _ _ _ _ ?_).trans ?_); (focus (simp [go_sem]; done))) | ((refine (heap_alloc_past _ _ _ ?_).trans ?_); (focus (simp [go_sem]; done))))), by exact bel⟩ ?_
  rintro W2 ⟨h6, h7, h8, h12, hbw⟩
  have HBW := Lib.hid hbw
  have H12 := Lib.hid h12
  have hszW := hbw.size
  have l6 := lt_blk h6
  have l7 := lt_blk h7
  have l8 := lt_blk h8
  have l12 := lt_blk h12
  obtain ⟨p0, p1, p2, p3, p4⟩ := cells5 h6
  obtain ⟨q0, q1, q2, q3, q4, q5, q6⟩ := cells7 h7
  obtain ⟨r0, r1, r2⟩ := cells3 h8
  obtain ⟨z0, z1, z2⟩ := cells3 h12
  have f0 := frees h12 0
  have f1 := frees h12 1
  have f2 := frees h12 2
  clear h6 h7 h8 h12 hbw
  go_wp2_with fail
  obtain ⟨Wf, hWf⟩ : ∃ Wf : World, Wf = (((W2.setCell ⟨w.heap.size + 1 + 1 + 1, 0, none⟩ (.int .i64 0)).setCell ⟨w.heap.size + 1 + 1 + 1, 1, none⟩ (.int .i64 0)).setCell ⟨w.heap.size + 1 + 1 + 1, 2, none⟩ (.slice none 0 0)) := ⟨_, rfl⟩
  rw [← hWf]
  have hrow : Wf.heap[w.heap.size + 1 + 1 + 1]? = some (.cells #[.int .i64 0, .int .i64 0, .slice none 0 0] 32 (0, 0)) := by rw [hWf]; exact row3 H12.out rfl _ _ _
  have hgr : (W2).grownBy Wf (some (w.heap.size + 1 + 1 + 1)) := by rw [hWf]; first | with_reducible exact grown_exts grn (by simp) | exact grn
  have hbf : Below w.heap.size w Wf := Below.grown (by have := HBW.out; exact bel) hgr (by first | exact hszW | (simp [size_ext, grow]; omega)) (fun k hk => by cases hk; omega)
  clear hWf f0 f1 f2 z0 z1 z2
  obtain ⟨u0, u1, u2⟩ := cells3 hrow
  refine bodyPost_ret (v := .tuple #[.int .i64 11, .agg #[.int .i64 0, .int .i64 0, .slice none 0 0], .slice none 0 0]) (by simp [results, Tryz.results43, go_sem, u0, u1, u2]) rfl ?_
  exact ⟨none, 0, 0, none, 0, 0, rfl, hbf, BytesO.nil _ _, fun h => by cases h⟩
set_option maxRecDepth 100000 in
set_option maxHeartbeats 4000000 in
theorem which_6 (Ar Aa Ai : Option Addr) (nr cr na ca ni ci : Nat) (R : List Rl) (mc mt mf wt st id req cnt tim nak ii : Int) (E : List Ent) (li : List UInt8) (w : World) (B : Nat) (hB : B ≤ w.heap.size) (hR : RulesAt w B Ar R) (hnr : nr = R.length) (hlr : nr ≤ 1000000) (hE : OptsAt w B Aa E) (hna : na = E.length) (hla : na ≤ 1000000) (hda : ∀ e ∈ E, e.d.length ≤ 1000000) (hI : At w B Ai (li.map bv)) (hni : ni = li.length) (hci : ni ≤ ci) : Calls Tryz.prog 43 #[.agg #[.slice Ar nr cr, .int .i64 mc, .int .i64 mt, .int .i64 mf, .int .i64 wt], .agg #[.int .i64 st, .int .i64 id, .int .i64 req, .slice Aa na ca, .int .i64 cnt, .int .i64 tim, .int .i64 nak], .agg #[.int .i64 6, .int .i64 ii, .slice Ai ni ci]] w (WhichP (whichO ⟨R, mc, mt, mf, wt⟩ ⟨st, id, req, E.map Ent.o, cnt, tim, nak⟩ ⟨6, ii, li⟩) w) := by
  have HB := Lib.hid hB
  have HR := Lib.hid hR
  have HNR := Lib.hid hnr
  have HE := Lib.hid hE
  have HNA := Lib.hid hna
  have HDA := Lib.hid hda
  have HI := Lib.hid hI
  have HNI := Lib.hid hni
  obtain ⟨L, hL⟩ : ∃ L, E.map Ent.o = L := ⟨_, rfl⟩
  have HL := Lib.hid hL
  rw [hL]
  clear hB hR hnr hE hna hda hL hI hni
  have HO := Lib.hid (show whichO ⟨R, mc, mt, mf, wt⟩ ⟨st, id, req, L, cnt, tim, nak⟩ ⟨6, ii, li⟩ = some (12, ⟨0, 0, []⟩, L) from rfl)
  rw [HO.out]
  go_enter Tryz.func43, Tryz.ntmps43
  go_upto_region 1 with (fail)
  refine wp_w (fun W => W.heap[w.heap.size]? = some (.cells #[.slice Ar nr cr, .int .i64 mc, .int .i64 mt, .int .i64 mf, .int .i64 wt] 24 (0, 0)) ∧ W.heap[w.heap.size + 1]? = some (.cells #[.int .i64 st, .int .i64 id, .int .i64 req, .slice Aa na ca, .int .i64 cnt, .int .i64 tim, .int .i64 nak] 28 (0, 0)) ∧ W.heap[w.heap.size + 1 + 1]? = some (.cells #[.int .i64 6, .int .i64 ii, .slice Ai ni ci] 32 (0, 0)) ∧ W.heap[w.heap.size + 1 + 1 + 1]? = some (.cells #[.int .i64 0, .int .i64 0, .slice none 0 0] 32 (0, 0)) ∧ Below w.heap.size w W) ⟨by (repeat (first | ((refine heap_alloc_at _ _ _ ?_); (simp [go_sem]; done)) | ((refine (heap_ext _ _ _ _ ?_).trans ?_); (focus (simp [go_sem]; done))) | ((refine (heap_alloc_past _ _ _ ?_).trans ?_); (focus (simp [go_sem]; done))))), by (repeat (first | ((refine heap_alloc_at _ _ _ ?_); (simp [go_sem]; done)) | ((refine (heap_ext _ _ _ _ ?_).trans ?_); (focus (simp [go_sem]; done))) | ((refine (heap_alloc_past _ _ _ ?_).trans ?_); (focus (simp [go_sem]; done))))), by (repeat (first | ((refine heap_alloc_at _ _ _ ?_); (simp [go_sem]; done)) | ((refine (heap_ext _ _ _ _ ?_).trans ?_); (focus (simp [go_sem]; done))) | ((refine (heap_alloc_past _ _ _ ?_).trans ?_); (focus (simp [go_sem]; done))))), by (repeat (first | ((refine heap_alloc_at _ _ _ ?_); (simp [go_sem]; done)) | ((refine (heap_ext _ _ _ _ ?_).trans ?_); (focus (simp [go_sem]; done))) | ((refine (heap_alloc_past _ _ _ ?_).trans ?_); (focus (simp [go_sem]; done))))), by exact bel⟩ ?_
  rintro W2 ⟨h6, h7, h8, h12, hbw⟩
  have HBW := Lib.hid hbw
  have H12 := Lib.hid h12
  have hszW := hbw.size
  have l6 := lt_blk h6
  have l7 := lt_blk h7
  have l8 := lt_blk h8
  have l12 := lt_blk h12
  obtain ⟨p0, p1, p2, p3, p4⟩ := cells5 h6
  obtain ⟨q0, q1, q2, q3, q4, q5, q6⟩ := cells7 h7
  obtain ⟨r0, r1, r2⟩ := cells3 h8
  obtain ⟨z0, z1, z2⟩ := cells3 h12
  have f0 := frees h12 0
  have f1 := frees h12 1
  have f2 := frees h12 2
  clear h6 h7 h8 h12 hbw
  go_wp2_with fail
  obtain ⟨Wf, hWf⟩ : ∃ Wf : World, Wf = (((W2.setCell ⟨w.heap.size + 1 + 1 + 1, 0, none⟩ (.int .i64 0)).setCell ⟨w.heap.size + 1 + 1 + 1, 1, none⟩ (.int .i64 0)).setCell ⟨w.heap.size + 1 + 1 + 1, 2, none⟩ (.slice none 0 0)) := ⟨_, rfl⟩
  rw [← hWf]
  have hrow : Wf.heap[w.heap.size + 1 + 1 + 1]? = some (.cells #[.int .i64 0, .int .i64 0, .slice none 0 0] 32 (0, 0)) := by rw [hWf]; exact row3 H12.out rfl _ _ _
  have hgr : (W2).grownBy Wf (some (w.heap.size + 1 + 1 + 1)) := by rw [hWf]; first | with_reducible exact grown_exts grn (by simp) | exact grn
  have hbf : Below w.heap.size w Wf := Below.grown (by have := HBW.out; exact bel) hgr (by first | exact hszW | (simp [size_ext, grow]; omega)) (fun k hk => by cases hk; omega)
  clear hWf f0 f1 f2 z0 z1 z2
  obtain ⟨u0, u1, u2⟩ := cells3 hrow
  refine bodyPost_ret (v := .tuple #[.int .i64 12, .agg #[.int .i64 0, .int .i64 0, .slice none 0 0], .slice none 0 0]) (by simp [results, Tryz.results43, go_sem, u0, u1, u2]) rfl ?_
  exact ⟨none, 0, 0, none, 0, 0, rfl, hbf, BytesO.nil _ _, fun h => by cases h⟩
set_option maxRecDepth 100000 in
set_option maxHeartbeats 4000000 in
theorem which_2 (Ar Aa Ai : Option Addr) (nr cr na ca ni ci : Nat) (R : List Rl) (mc mt mf wt st id req cnt tim nak ii : Int) (E : List Ent) (li : List UInt8) (w : World) (B : Nat) (hB : B ≤ w.heap.size) (hR : RulesAt w B Ar R) (hnr : nr = R.length) (hlr : nr ≤ 1000000) (hE : OptsAt w B Aa E) (hna : na = E.length) (hla : na ≤ 1000000) (hda : ∀ e ∈ E, e.d.length ≤ 1000000) (hI : At w B Ai (li.map bv)) (hni : ni = li.length) (hci : ni ≤ ci) : Calls Tryz.prog 43 #[.agg #[.slice Ar nr cr, .int .i64 mc, .int .i64 mt, .int .i64 mf, .int .i64 wt], .agg #[.int .i64 st, .int .i64 id, .int .i64 req, .slice Aa na ca, .int .i64 cnt, .int .i64 tim, .int .i64 nak], .agg #[.int .i64 2, .int .i64 ii, .slice Ai ni ci]] w (WhichP (whichO ⟨R, mc, mt, mf, wt⟩ ⟨st, id, req, E.map Ent.o, cnt, tim, nak⟩ ⟨2, ii, li⟩) w) := by
  have HB := Lib.hid hB
  have HR := Lib.hid hR
  have HNR := Lib.hid hnr
  have HE := Lib.hid hE
  have HNA := Lib.hid hna
  have HDA := Lib.hid hda
  have HI := Lib.hid hI
  have HNI := Lib.hid hni
  obtain ⟨L, hL⟩ : ∃ L, E.map Ent.o = L := ⟨_, rfl⟩
  have HL := Lib.hid hL
  rw [hL]
  clear hB hR hnr hE hna hda hL hI hni
  obtain ⟨⟨eb, ee⟩, hen⟩ : ∃ r, Op.encR L = r := ⟨_, rfl⟩
  have HEN := Lib.hid hen
  obtain ⟨nb, hnb⟩ : ∃ nb, eb.length = nb := ⟨_, rfl⟩
  have HNB := Lib.hid hnb
  have HO0 := Lib.hid (show whichO ⟨R, mc, mt, mf, wt⟩ ⟨st, id, req, L, cnt, tim, nak⟩ ⟨2, ii, li⟩ = if ii = req ∧ li = eb then some (9, ⟨0, 0, []⟩, L) else none by have h : whichO ⟨R, mc, mt, mf, wt⟩ ⟨st, id, req, L, cnt, tim, nak⟩ ⟨2, ii, li⟩ = if ii = req ∧ li = (Op.encR L).1 then some (9, ⟨0, 0, []⟩, L) else none := rfl; rw [h, hen])
  rw [HO0.out]
  clear hen hnb HO0
  by_cases h1 : ii = req
  · have h1' : (ii == req) = true := by simpa using h1
    cases h2 : (li == eb)
    · have HQ := Lib.hid (show ¬ (ii = req ∧ li = eb) from fun h => by simp at h2; exact h2 h.2)
      rw [if_neg HQ.out]
      clear h1
      go_enter Tryz.func43, Tryz.ntmps43
      go_upto_region 1 with (fail)
      refine wp_w (fun W => W.heap[w.heap.size]? = some (.cells #[.slice Ar nr cr, .int .i64 mc, .int .i64 mt, .int .i64 mf, .int .i64 wt] 24 (0, 0)) ∧ W.heap[w.heap.size + 1]? = some (.cells #[.int .i64 st, .int .i64 id, .int .i64 req, .slice Aa na ca, .int .i64 cnt, .int .i64 tim, .int .i64 nak] 28 (0, 0)) ∧ W.heap[w.heap.size + 1 + 1]? = some (.cells #[.int .i64 2, .int .i64 ii, .slice Ai ni ci] 32 (0, 0)) ∧ W.heap[w.heap.size + 1 + 1 + 1]? = some (.cells #[.int .i64 0, .int .i64 0, .slice none 0 0] 32 (0, 0)) ∧ Below w.heap.size w W) ⟨by (repeat (first | ((refine heap_alloc_at _ _ _ ?_); (simp [go_sem]; done)) | ((refine (heap_ext _ _ _ _ ?_).trans ?_); (focus (simp [go_sem]; done))) | ((refine (heap_alloc_past _ _ _ ?_).trans ?_); (focus (simp [go_sem]; done))))), by (repeat (first | ((refine heap_alloc_at _ _ _ ?_); (simp [go_sem]; done)) | ((refine (heap_ext _ _ _ _ ?_).trans ?_); (focus (simp [go_sem]; done))) | ((refine (heap_alloc_past _ _ _ ?_).trans ?_); (focus (simp [go_sem]; done))))), by (repeat (first | ((refine heap_alloc_at _ _ _ ?_); (simp [go_sem]; done)) | ((refine (heap_ext _ _ _ _ ?_).trans ?_); (focus (simp [go_sem]; done))) | ((refine (heap_alloc_past _ _ _ ?_).trans ?_); (focus (simp [go_sem]; done))))), by (repeat (first | ((refine heap_alloc_at _ _ _ ?_); (simp [go_sem]; done)) | ((refine (heap_ext _ _ _ _ ?_).trans ?_); (focus (simp [go_sem]; done))) | ((refine (heap_alloc_past _ _ _ ?_).trans ?_); (focus (simp [go_sem]; done))))), by exact bel⟩ ?_
      rintro W2 ⟨h6, h7, h8, h12, hbw⟩
      have HBW := Lib.hid hbw
      have H12 := Lib.hid h12
      have hszW := hbw.size
      have l6 := lt_blk h6
      have l7 := lt_blk h7
      have l8 := lt_blk h8
      have l12 := lt_blk h12
      obtain ⟨p0, p1, p2, p3, p4⟩ := cells5 h6
      obtain ⟨q0, q1, q2, q3, q4, q5, q6⟩ := cells7 h7
      obtain ⟨r0, r1, r2⟩ := cells3 h8
      obtain ⟨z0, z1, z2⟩ := cells3 h12
      have f0 := frees h12 0
      have f1 := frees h12 1
      have f2 := frees h12 2
      clear h6 h7 h8 h12 hbw
      go_wp2_with fail
      refine (Op.enc_any Aa na ca E _ B (by have := HB.out; omega) (HE.out.keep (HBW.out.mono HB.out)) HNA.out).mono ?_
      rw [HL.out]
      rintro x w5 he
      obtain ⟨A5, c5, rfl, hb5, ho5, hc5⟩ := EncP.get he HEN.out HNB.out
      have HO5 := Lib.hid ho5
      have HB5 := Lib.hid (show Below W2.heap.size W2 w5 from hb5)
      have hs5 := HB5.out.size
      have H125 := Lib.hid ((HB5.out.block _ l12).trans H12.out)
      have l75 : w.heap.size + 1 < w5.heap.size := by omega
      have l85 : w.heap.size + 1 + 1 < w5.heap.size := by omega
      have l125 : w.heap.size + 1 + 1 + 1 < w5.heap.size := by omega
      have t25 : w5.cell? ⟨w.heap.size + 1, 2, none⟩ = some (.int .i64 req) := (HB5.out.cell (p := ⟨w.heap.size + 1, 2, none⟩) l7).trans q2
      have t35 : w5.cell? ⟨w.heap.size + 1, 3, none⟩ = some (.slice Aa na ca) := (HB5.out.cell (p := ⟨w.heap.size + 1, 3, none⟩) l7).trans q3
      have v05 : w5.cell? ⟨w.heap.size + 1 + 1, 0, none⟩ = some (.int .i64 2) := (HB5.out.cell (p := ⟨w.heap.size + 1 + 1, 0, none⟩) l8).trans r0
      have v15 : w5.cell? ⟨w.heap.size + 1 + 1, 1, none⟩ = some (.int .i64 ii) := (HB5.out.cell (p := ⟨w.heap.size + 1 + 1, 1, none⟩) l8).trans r1
      have v25 : w5.cell? ⟨w.heap.size + 1 + 1, 2, none⟩ = some (.slice Ai ni ci) := (HB5.out.cell (p := ⟨w.heap.size + 1 + 1, 2, none⟩) l8).trans r2
      obtain ⟨z05, z15, z25⟩ := cells3 H125.out
      have f05 := frees H125.out 0
      have f15 := frees H125.out 1
      have f25 := frees H125.out 2
      clear he hb5 ho5 f0 f1 f2 z0 z1 z2 p0 p1 p2 p3 p4 q0 q1 q2 q3 q4 q5 q6 r0 r1 r2
      have k1 : ∀ W : World, At W w5.heap.size Ai (li.map bv) → (convert 30 9 (.slice Ai ni ci)).run Tryz.prog W = .ok (.string ⟨li.toArray⟩) W := fun W h => run_str Tryz.underlying30 Tryz.underlying5 Tryz.underlying9 HNI.out h
      have k2 : ∀ W : World, At W w5.heap.size A5 (eb.map bv) → (convert 30 9 (.slice A5 nb c5)).run Tryz.prog W = .ok (.string ⟨eb.toArray⟩) W := fun W h => run_str Tryz.underlying30 Tryz.underlying5 Tryz.underlying9 HNB.out.symm h
      have g1 : At w5 w5.heap.size Ai (li.map bv) := ((HI.out.keep ((HBW.out.trans (HB5.out.mono hszW)).mono HB.out))).more (by have := HB.out; omega)
      have g2 : At w5 w5.heap.size A5 (eb.map bv) := At.of_own HO5.out
      go_wp2_with fail
      clear k1 k2 g1 g2
      obtain ⟨Wf, hWf⟩ : ∃ Wf : World, Wf = (((w5.setCell ⟨w.heap.size + 1 + 1 + 1, 0, none⟩ (.int .i64 0)).setCell ⟨w.heap.size + 1 + 1 + 1, 1, none⟩ (.int .i64 0)).setCell ⟨w.heap.size + 1 + 1 + 1, 2, none⟩ (.slice none 0 0)) := ⟨_, rfl⟩
      rw [← hWf]
      have hrow : Wf.heap[w.heap.size + 1 + 1 + 1]? = some (.cells #[.int .i64 0, .int .i64 0, .slice none 0 0] 32 (0, 0)) := by rw [hWf]; exact row3 H125.out rfl _ _ _
      have hgr : (w5).grownBy Wf (some (w.heap.size + 1 + 1 + 1)) := by rw [hWf]; exact grn
      have hbf : Below w.heap.size w Wf := Below.grown (HBW.out.trans (HB5.out.mono hszW)) hgr (Nat.le_trans hszW hs5) (fun k hk => by cases hk; omega)
      clear hWf z05 z15 z25 f05 f15 f25
      obtain ⟨u0, u1, u2⟩ := cells3 hrow
      refine bodyPost_ret (v := .tuple #[.int .i64 0, .agg #[.int .i64 0, .int .i64 0, .slice none 0 0], .slice none 0 0]) (by simp [results, Tryz.results43, go_sem, u0, u1, u2]) rfl ?_
      exact ⟨_, _, _, rfl, hbf⟩
    · have HQ := Lib.hid (show ii = req ∧ li = eb from ⟨h1, by simpa using h2⟩)
      rw [if_pos HQ.out]
      clear h1
      go_enter Tryz.func43, Tryz.ntmps43
      go_upto_region 1 with (fail)
      refine wp_w (fun W => W.heap[w.heap.size]? = some (.cells #[.slice Ar nr cr, .int .i64 mc, .int .i64 mt, .int .i64 mf, .int .i64 wt] 24 (0, 0)) ∧ W.heap[w.heap.size + 1]? = some (.cells #[.int .i64 st, .int .i64 id, .int .i64 req, .slice Aa na ca, .int .i64 cnt, .int .i64 tim, .int .i64 nak] 28 (0, 0)) ∧ W.heap[w.heap.size + 1 + 1]? = some (.cells #[.int .i64 2, .int .i64 ii, .slice Ai ni ci] 32 (0, 0)) ∧ W.heap[w.heap.size + 1 + 1 + 1]? = some (.cells #[.int .i64 0, .int .i64 0, .slice none 0 0] 32 (0, 0)) ∧ Below w.heap.size w W) ⟨by (repeat (first | ((refine heap_alloc_at _ _ _ ?_); (simp [go_sem]; done)) | ((refine (heap_ext _ _ _ _ ?_).trans ?_); (focus (simp [go_sem]; done))) | ((refine (heap_alloc_past _ _ _ ?_).trans ?_); (focus (simp [go_sem]; done))))), by (repeat (first | ((refine heap_alloc_at _ _ _ ?_); (simp [go_sem]; done)) | ((refine (heap_ext _ _ _ _ ?_).trans ?_); (focus (simp [go_sem]; done))) | ((refine (heap_alloc_past _ _ _ ?_).trans ?_); (focus (simp [go_sem]; done))))), by (repeat (first | ((refine heap_alloc_at _ _ _ ?_); (simp [go_sem]; done)) | ((refine (heap_ext _ _ _ _ ?_).trans ?_); (focus (simp [go_sem]; done))) | ((refine (heap_alloc_past _ _ _ ?_).trans ?_); (focus (simp [go_sem]; done))))), by (repeat (first | ((refine heap_alloc_at _ _ _ ?_); (simp [go_sem]; done)) | ((refine (heap_ext _ _ _ _ ?_).trans ?_); (focus (simp [go_sem]; done))) | ((refine (heap_alloc_past _ _ _ ?_).trans ?_); (focus (simp [go_sem]; done))))), by exact bel⟩ ?_
      rintro W2 ⟨h6, h7, h8, h12, hbw⟩
      have HBW := Lib.hid hbw
      have H12 := Lib.hid h12
      have hszW := hbw.size
      have l6 := lt_blk h6
      have l7 := lt_blk h7
      have l8 := lt_blk h8
      have l12 := lt_blk h12
      obtain ⟨p0, p1, p2, p3, p4⟩ := cells5 h6
      obtain ⟨q0, q1, q2, q3, q4, q5, q6⟩ := cells7 h7
      obtain ⟨r0, r1, r2⟩ := cells3 h8
      obtain ⟨z0, z1, z2⟩ := cells3 h12
      have f0 := frees h12 0
      have f1 := frees h12 1
      have f2 := frees h12 2
      clear h6 h7 h8 h12 hbw
      go_wp2_with fail
      refine (Op.enc_any Aa na ca E _ B (by have := HB.out; omega) (HE.out.keep (HBW.out.mono HB.out)) HNA.out).mono ?_
      rw [HL.out]
      rintro x w5 he
      obtain ⟨A5, c5, rfl, hb5, ho5, hc5⟩ := EncP.get he HEN.out HNB.out
      have HO5 := Lib.hid ho5
      have HB5 := Lib.hid (show Below W2.heap.size W2 w5 from hb5)
      have hs5 := HB5.out.size
      have H125 := Lib.hid ((HB5.out.block _ l12).trans H12.out)
      have l75 : w.heap.size + 1 < w5.heap.size := by omega
      have l85 : w.heap.size + 1 + 1 < w5.heap.size := by omega
      have l125 : w.heap.size + 1 + 1 + 1 < w5.heap.size := by omega
      have t25 : w5.cell? ⟨w.heap.size + 1, 2, none⟩ = some (.int .i64 req) := (HB5.out.cell (p := ⟨w.heap.size + 1, 2, none⟩) l7).trans q2
      have t35 : w5.cell? ⟨w.heap.size + 1, 3, none⟩ = some (.slice Aa na ca) := (HB5.out.cell (p := ⟨w.heap.size + 1, 3, none⟩) l7).trans q3
      have v05 : w5.cell? ⟨w.heap.size + 1 + 1, 0, none⟩ = some (.int .i64 2) := (HB5.out.cell (p := ⟨w.heap.size + 1 + 1, 0, none⟩) l8).trans r0
      have v15 : w5.cell? ⟨w.heap.size + 1 + 1, 1, none⟩ = some (.int .i64 ii) := (HB5.out.cell (p := ⟨w.heap.size + 1 + 1, 1, none⟩) l8).trans r1
      have v25 : w5.cell? ⟨w.heap.size + 1 + 1, 2, none⟩ = some (.slice Ai ni ci) := (HB5.out.cell (p := ⟨w.heap.size + 1 + 1, 2, none⟩) l8).trans r2
      obtain ⟨z05, z15, z25⟩ := cells3 H125.out
      have f05 := frees H125.out 0
      have f15 := frees H125.out 1
      have f25 := frees H125.out 2
      clear he hb5 ho5 f0 f1 f2 z0 z1 z2 p0 p1 p2 p3 p4 q0 q1 q2 q3 q4 q5 q6 r0 r1 r2
      have k1 : ∀ W : World, At W w5.heap.size Ai (li.map bv) → (convert 30 9 (.slice Ai ni ci)).run Tryz.prog W = .ok (.string ⟨li.toArray⟩) W := fun W h => run_str Tryz.underlying30 Tryz.underlying5 Tryz.underlying9 HNI.out h
      have k2 : ∀ W : World, At W w5.heap.size A5 (eb.map bv) → (convert 30 9 (.slice A5 nb c5)).run Tryz.prog W = .ok (.string ⟨eb.toArray⟩) W := fun W h => run_str Tryz.underlying30 Tryz.underlying5 Tryz.underlying9 HNB.out.symm h
      have g1 : At w5 w5.heap.size Ai (li.map bv) := ((HI.out.keep ((HBW.out.trans (HB5.out.mono hszW)).mono HB.out))).more (by have := HB.out; omega)
      have g2 : At w5 w5.heap.size A5 (eb.map bv) := At.of_own HO5.out
      go_wp2_with fail
      clear k1 k2 g1 g2
      obtain ⟨Wf, hWf⟩ : ∃ Wf : World, Wf = (((w5.setCell ⟨w.heap.size + 1 + 1 + 1, 0, none⟩ (.int .i64 0)).setCell ⟨w.heap.size + 1 + 1 + 1, 1, none⟩ (.int .i64 0)).setCell ⟨w.heap.size + 1 + 1 + 1, 2, none⟩ (.slice none 0 0)) := ⟨_, rfl⟩
      rw [← hWf]
      have hrow : Wf.heap[w.heap.size + 1 + 1 + 1]? = some (.cells #[.int .i64 0, .int .i64 0, .slice none 0 0] 32 (0, 0)) := by rw [hWf]; exact row3 H125.out rfl _ _ _
      have hgr : (w5).grownBy Wf (some (w.heap.size + 1 + 1 + 1)) := by rw [hWf]; exact grn
      have hbf : Below w.heap.size w Wf := Below.grown (HBW.out.trans (HB5.out.mono hszW)) hgr (Nat.le_trans hszW hs5) (fun k hk => by cases hk; omega)
      clear hWf z05 z15 z25 f05 f15 f25
      obtain ⟨u0, u1, u2⟩ := cells3 hrow
      refine bodyPost_ret (v := .tuple #[.int .i64 9, .agg #[.int .i64 0, .int .i64 0, .slice none 0 0], .slice none 0 0]) (by simp [results, Tryz.results43, go_sem, u0, u1, u2]) rfl ?_
      exact ⟨none, 0, 0, none, 0, 0, rfl, hbf, BytesO.nil _ _, fun h => by cases h⟩
  · have h1' : (ii == req) = false := by simpa using h1
    have HQ := Lib.hid (show ¬ (ii = req ∧ li = eb) from fun h => h1 h.1)
    rw [if_neg HQ.out]
    clear h1
    go_enter Tryz.func43, Tryz.ntmps43
    go_upto_region 1 with (fail)
    refine wp_w (fun W => W.heap[w.heap.size]? = some (.cells #[.slice Ar nr cr, .int .i64 mc, .int .i64 mt, .int .i64 mf, .int .i64 wt] 24 (0, 0)) ∧ W.heap[w.heap.size + 1]? = some (.cells #[.int .i64 st, .int .i64 id, .int .i64 req, .slice Aa na ca, .int .i64 cnt, .int .i64 tim, .int .i64 nak] 28 (0, 0)) ∧ W.heap[w.heap.size + 1 + 1]? = some (.cells #[.int .i64 2, .int .i64 ii, .slice Ai ni ci] 32 (0, 0)) ∧ W.heap[w.heap.size + 1 + 1 + 1]? = some (.cells #[.int .i64 0, .int .i64 0, .slice none 0 0] 32 (0, 0)) ∧ Below w.heap.size w W) ⟨by (repeat (first | ((refine heap_alloc_at _ _ _ ?_); (simp [go_sem]; done)) | ((refine (heap_ext _ _ _ _ ?_).trans ?_); (focus (simp [go_sem]; done))) | ((refine (heap_alloc_past _ _ _ ?_).trans ?_); (focus (simp [go_sem]; done))))), by (repeat (first | ((refine heap_alloc_at _ _ _ ?_); (simp [go_sem]; done)) | ((refine (heap_ext _ _ _ _ ?_).trans ?_); (focus (simp [go_sem]; done))) | ((refine (heap_alloc_past _ _ _ ?_).trans ?_); (focus (simp [go_sem]; done))))), by (repeat (first | ((refine heap_alloc_at _ _ _ ?_); (simp [go_sem]; done)) | ((refine (heap_ext _ _ _ _ ?_).trans ?_); (focus (simp [go_sem]; done))) | ((refine (heap_alloc_past _ _ _ ?_).trans ?_); (focus (simp [go_sem]; done))))), by (repeat (first | ((refine heap_alloc_at _ _ _ ?_); (simp [go_sem]; done)) | ((refine (heap_ext _ _ _ _ ?_).trans ?_); (focus (simp [go_sem]; done))) | ((refine (heap_alloc_past _ _ _ ?_).trans ?_); (focus (simp [go_sem]; done))))), by exact bel⟩ ?_
    rintro W2 ⟨h6, h7, h8, h12, hbw⟩
    have HBW := Lib.hid hbw
    have H12 := Lib.hid h12
    have hszW := hbw.size
    have l6 := lt_blk h6
    have l7 := lt_blk h7
    have l8 := lt_blk h8
    have l12 := lt_blk h12
    obtain ⟨p0, p1, p2, p3, p4⟩ := cells5 h6
    obtain ⟨q0, q1, q2, q3, q4, q5, q6⟩ := cells7 h7
    obtain ⟨r0, r1, r2⟩ := cells3 h8
    obtain ⟨z0, z1, z2⟩ := cells3 h12
    have f0 := frees h12 0
    have f1 := frees h12 1
    have f2 := frees h12 2
    clear h6 h7 h8 h12 hbw
    go_wp2_with fail
    refine (Op.enc_any Aa na ca E _ B (by have := HB.out; omega) (HE.out.keep (HBW.out.mono HB.out)) HNA.out).mono ?_
    rw [HL.out]
    rintro x w5 he
    obtain ⟨A5, c5, rfl, hb5, ho5, hc5⟩ := EncP.get he HEN.out HNB.out
    have HO5 := Lib.hid ho5
    have HB5 := Lib.hid (show Below W2.heap.size W2 w5 from hb5)
    have hs5 := HB5.out.size
    have H125 := Lib.hid ((HB5.out.block _ l12).trans H12.out)
    have l75 : w.heap.size + 1 < w5.heap.size := by omega
    have l85 : w.heap.size + 1 + 1 < w5.heap.size := by omega
    have l125 : w.heap.size + 1 + 1 + 1 < w5.heap.size := by omega
    have t25 : w5.cell? ⟨w.heap.size + 1, 2, none⟩ = some (.int .i64 req) := (HB5.out.cell (p := ⟨w.heap.size + 1, 2, none⟩) l7).trans q2
    have t35 : w5.cell? ⟨w.heap.size + 1, 3, none⟩ = some (.slice Aa na ca) := (HB5.out.cell (p := ⟨w.heap.size + 1, 3, none⟩) l7).trans q3
    have v05 : w5.cell? ⟨w.heap.size + 1 + 1, 0, none⟩ = some (.int .i64 2) := (HB5.out.cell (p := ⟨w.heap.size + 1 + 1, 0, none⟩) l8).trans r0
    have v15 : w5.cell? ⟨w.heap.size + 1 + 1, 1, none⟩ = some (.int .i64 ii) := (HB5.out.cell (p := ⟨w.heap.size + 1 + 1, 1, none⟩) l8).trans r1
    have v25 : w5.cell? ⟨w.heap.size + 1 + 1, 2, none⟩ = some (.slice Ai ni ci) := (HB5.out.cell (p := ⟨w.heap.size + 1 + 1, 2, none⟩) l8).trans r2
    obtain ⟨z05, z15, z25⟩ := cells3 H125.out
    have f05 := frees H125.out 0
    have f15 := frees H125.out 1
    have f25 := frees H125.out 2
    clear he hb5 ho5 f0 f1 f2 z0 z1 z2 p0 p1 p2 p3 p4 q0 q1 q2 q3 q4 q5 q6 r0 r1 r2
    go_wp2_with fail
    obtain ⟨Wf, hWf⟩ : ∃ Wf : World, Wf = (((w5.setCell ⟨w.heap.size + 1 + 1 + 1, 0, none⟩ (.int .i64 0)).setCell ⟨w.heap.size + 1 + 1 + 1, 1, none⟩ (.int .i64 0)).setCell ⟨w.heap.size + 1 + 1 + 1, 2, none⟩ (.slice none 0 0)) := ⟨_, rfl⟩
    rw [← hWf]
    have hrow : Wf.heap[w.heap.size + 1 + 1 + 1]? = some (.cells #[.int .i64 0, .int .i64 0, .slice none 0 0] 32 (0, 0)) := by rw [hWf]; exact row3 H125.out rfl _ _ _
    have hgr : (w5).grownBy Wf (some (w.heap.size + 1 + 1 + 1)) := by rw [hWf]; exact grn
    have hbf : Below w.heap.size w Wf := Below.grown (HBW.out.trans (HB5.out.mono hszW)) hgr (Nat.le_trans hszW hs5) (fun k hk => by cases hk; omega)
    clear hWf z05 z15 z25 f05 f15 f25
    obtain ⟨u0, u1, u2⟩ := cells3 hrow
    refine bodyPost_ret (v := .tuple #[.int .i64 0, .agg #[.int .i64 0, .int .i64 0, .slice none 0 0], .slice none 0 0]) (by simp [results, Tryz.results43, go_sem, u0, u1, u2]) rfl ?_
    exact ⟨_, _, _, rfl, hbf⟩
end Go.Proofs.YthidhfkbfoejbaaGreat
