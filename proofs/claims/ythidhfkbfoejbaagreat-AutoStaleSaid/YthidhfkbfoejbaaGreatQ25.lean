/- The program's which: codes 3, 4, 7; any. -/
import Derived.Test.YthidhfkbfoejbaaGreatQ25a
namespace Go.Proofs.YthidhfkbfoejbaaGreat
open Go.RowKit
set_option linter.unusedSimpArgs false
set_option linter.unusedVariables false
set_option linter.ambiguousOpen false
open Ne (Rl Opt RulesAt areB answerO learnO)
open Fs (av hasB)
set_option maxRecDepth 100000 in
set_option maxHeartbeats 8000000 in
theorem which_3 (Ar Aa Ai : Option Addr) (nr cr na ca ni ci : Nat) (R : List Rl) (mc mt mf wt st id req cnt tim nak ii : Int) (E : List Ent) (li : List UInt8) (w : World) (B : Nat) (hB : B ≤ w.heap.size) (hR : RulesAt w B Ar R) (hnr : nr = R.length) (hlr : nr ≤ 1000000) (hE : OptsAt w B Aa E) (hna : na = E.length) (hla : na ≤ 1000000) (hda : ∀ e ∈ E, e.d.length ≤ 1000000) (hI : At w B Ai (li.map bv)) (hni : ni = li.length) (hci : ni ≤ ci) : Calls Tryz.prog 43 #[.agg #[.slice Ar nr cr, .int .i64 mc, .int .i64 mt, .int .i64 mf, .int .i64 wt], .agg #[.int .i64 st, .int .i64 id, .int .i64 req, .slice Aa na ca, .int .i64 cnt, .int .i64 tim, .int .i64 nak], .agg #[.int .i64 3, .int .i64 ii, .slice Ai ni ci]] w (WhichP (whichO ⟨R, mc, mt, mf, wt⟩ ⟨st, id, req, E.map Ent.o, cnt, tim, nak⟩ ⟨3, ii, li⟩) w) := by
  have HB := Lib.hid hB
  have HR := Lib.hid hR
  have HNR := Lib.hid hnr
  have HE := Lib.hid hE
  have HNA := Lib.hid hna
  have HDA := Lib.hid hda
  have HI := Lib.hid hI
  have HNI := Lib.hid hni
  obtain ⟨L, hL⟩ : ∃ L, E.map Ent.o = L := ⟨_, rfl⟩
  have HL := Lib.hid hL
  rw [hL]
  clear hB hR hnr hE hna hda hL hI hni
  have HO0 := Lib.hid (show whichO ⟨R, mc, mt, mf, wt⟩ ⟨st, id, req, L, cnt, tim, nak⟩ ⟨3, ii, li⟩ = learnedO ⟨st, id, req, L, cnt, tim, nak⟩ ⟨3, ii, li⟩ from rfl)
  rw [HO0.out]
  clear HO0
  obtain ⟨⟨Y, ye⟩, hd⟩ : ∃ r, Op.decR li = r := ⟨_, rfl⟩
  have HDR := Lib.hid hd
  by_cases h1 : ii = req
  · have h1' : (ii != req) = false := by simp [h1]
    by_cases h0 : ye = 0
    · subst h0
      obtain ⟨⟨nx, ok⟩, hln⟩ : ∃ r, learnO L 3 Y = r := ⟨_, rfl⟩
      have HLN := Lib.hid hln
      obtain ⟨⟨eb, ee⟩, hen⟩ : ∃ r, Op.encR nx = r := ⟨_, rfl⟩
      have HEN := Lib.hid hen
      obtain ⟨nb, hnb⟩ : ∃ nb, eb.length = nb := ⟨_, rfl⟩
      have HNB := Lib.hid hnb
      have HO0 := Lib.hid (show learnedO ⟨st, id, req, L, cnt, tim, nak⟩ ⟨3, ii, li⟩ = if ok = true ∧ ee = 0 then some (10, ⟨0, 0, []⟩, nx) else none by unfold learnedO; dsimp only; rw [hd]; dsimp only; rw [if_neg (by simp [h1]), hln]; dsimp only; rw [hen])
      rw [HO0.out]
      clear hd hln hen hnb h1 HO0
      cases ok
      · rw [if_neg (by simp)]
        go_enter Tryz.func43, Tryz.ntmps43
        go_upto_region 1 with (fail)
        refine wp_w (fun W => W.heap[w.heap.size]? = some (.cells #[.slice Ar nr cr, .int .i64 mc, .int .i64 mt, .int .i64 mf, .int .i64 wt] 24 (0, 0)) ∧ W.heap[w.heap.size + 1]? = some (.cells #[.int .i64 st, .int .i64 id, .int .i64 req, .slice Aa na ca, .int .i64 cnt, .int .i64 tim, .int .i64 nak] 28 (0, 0)) ∧ W.heap[w.heap.size + 1 + 1]? = some (.cells #[.int .i64 3, .int .i64 ii, .slice Ai ni ci] 32 (0, 0)) ∧ W.heap[w.heap.size + 1 + 1 + 1]? = some (.cells #[.int .i64 0, .int .i64 0, .slice none 0 0] 32 (0, 0)) ∧ Below w.heap.size w W) ⟨by (repeat (first | ((refine heap_alloc_at _ _ _ ?_); (simp [go_sem]; done)) | ((refine (heap_ext _ _ _ _ ?_).trans ?_); (focus (simp [go_sem]; done))) | ((refine (heap_alloc_past _ _ _ ?_).trans ?_); (focus (simp [go_sem]; done))))), by (repeat (first | ((refine heap_alloc_at _ _ _ ?_); (simp [go_sem]; done)) | ((refine (heap_ext _ _ _ _ ?_).trans ?_); (focus (simp [go_sem]; done))) | ((refine (heap_alloc_past _ _ _ ?_).trans ?_); (focus (simp [go_sem]; done))))), by (repeat (first | ((refine heap_alloc_at _ _ _ ?_); (simp [go_sem]; done)) | ((refine (heap_ext _ _ _ _ ?_).trans ?_); (focus (simp [go_sem]; done))) | ((refine (heap_alloc_past _ _ _ ?_).trans ?_); (focus (simp [go_sem]; done))))), by (repeat (first | ((refine heap_alloc_at _ _ _ ?_); (simp [go_sem]; done)) | ((refine (heap_ext _ _ _ _ ?_).trans ?_); (focus (simp [go_sem]; done))) | ((refine (heap_alloc_past _ _ _ ?_).trans ?_); (focus (simp [go_sem]; done))))), by exact bel⟩ ?_
        rintro W2 ⟨h6, h7, h8, h12, hbw⟩
        have HBW := Lib.hid hbw
        have H12 := Lib.hid h12
        have hszW := hbw.size
        have l6 := lt_blk h6
        have l7 := lt_blk h7
        have l8 := lt_blk h8
        have l12 := lt_blk h12
        obtain ⟨p0, p1, p2, p3, p4⟩ := cells5 h6
        obtain ⟨q0, q1, q2, q3, q4, q5, q6⟩ := cells7 h7
        obtain ⟨r0, r1, r2⟩ := cells3 h8
        obtain ⟨z0, z1, z2⟩ := cells3 h12
        have f0 := frees h12 0
        have f1 := frees h12 1
        have f2 := frees h12 2
        clear h6 h7 h8 h12 hbw
        go_wp2_with fail
        refine (Op.dec_any Ai ni ci li _ B (by have := HB.out; omega) (HI.out.keep (HBW.out.mono HB.out)) HNI.out hci).mono ?_
        rintro x w3 hd
        obtain ⟨E3, A3, n3, c3, rfl, hb3, ho3, he3, hn3, hc3, hl3, hsd3⟩ := DecP.get hd HDR.out
        have HO3 := Lib.hid ho3
        have HE3 := Lib.hid he3
        have HN3 := Lib.hid hn3
        have HS3 := Lib.hid hsd3
        have HB3 := Lib.hid (show Below W2.heap.size W2 w3 from hb3)
        have hs3 := HB3.out.size
        have H123 := Lib.hid ((HB3.out.block _ l12).trans H12.out)
        have l73 : w.heap.size + 1 < w3.heap.size := by omega
        have l83 : w.heap.size + 1 + 1 < w3.heap.size := by omega
        have l123 : w.heap.size + 1 + 1 + 1 < w3.heap.size := by omega
        have t23 : w3.cell? ⟨w.heap.size + 1, 2, none⟩ = some (.int .i64 req) := (HB3.out.cell (p := ⟨w.heap.size + 1, 2, none⟩) l7).trans q2
        have t33 : w3.cell? ⟨w.heap.size + 1, 3, none⟩ = some (.slice Aa na ca) := (HB3.out.cell (p := ⟨w.heap.size + 1, 3, none⟩) l7).trans q3
        have v03 : w3.cell? ⟨w.heap.size + 1 + 1, 0, none⟩ = some (.int .i64 3) := (HB3.out.cell (p := ⟨w.heap.size + 1 + 1, 0, none⟩) l8).trans r0
        have v13 : w3.cell? ⟨w.heap.size + 1 + 1, 1, none⟩ = some (.int .i64 ii) := (HB3.out.cell (p := ⟨w.heap.size + 1 + 1, 1, none⟩) l8).trans r1
        have v23 : w3.cell? ⟨w.heap.size + 1 + 1, 2, none⟩ = some (.slice Ai ni ci) := (HB3.out.cell (p := ⟨w.heap.size + 1 + 1, 2, none⟩) l8).trans r2
        obtain ⟨z03, z13, z23⟩ := cells3 H123.out
        have f03 := frees H123.out 0
        have f13 := frees H123.out 1
        have f23 := frees H123.out 2
        clear hd hb3 ho3 he3 hn3 hsd3 p0 p1 p2 p3 p4 q0 q1 q4 q5 q6 z0 z1 z2 f0 f1 f2
        go_wp2_with fail
        refine (Ne.learn_any Aa A3 na n3 ca c3 3 E E3 _ w3.heap.size (Nat.le_refl _) ((HE.out.keep ((HBW.out.trans (HB3.out.mono hszW)).mono HB.out)).more (by have := HB.out; omega)) HO3.out.at HNA.out HN3.out hc3 hla (by omega) HDA.out (fun e he => by have := HS3.out e he; omega)).mono ?_
        rw [HL.out, HE3.out, HLN.out]
        rintro x w4 hl
        obtain ⟨E4, A4, n4, c4, rfl, he4, hn4, hc4, hb4, ho4⟩ := Ne.RowsB.get hl
        have HO4 := Lib.hid ho4
        have HE4 := Lib.hid he4
        have HN4 := Lib.hid hn4
        have HB34 := Lib.hid hb4
        have HB4 := Lib.hid (show Below W2.heap.size W2 w4 from HB3.out.trans (hb4.mono hs3))
        have hs4 := HB4.out.size
        have H124 := Lib.hid ((HB4.out.block _ l12).trans H12.out)
        have l74 : w.heap.size + 1 < w4.heap.size := by omega
        have l84 : w.heap.size + 1 + 1 < w4.heap.size := by omega
        have l124 : w.heap.size + 1 + 1 + 1 < w4.heap.size := by omega
        have t24 : w4.cell? ⟨w.heap.size + 1, 2, none⟩ = some (.int .i64 req) := (HB4.out.cell (p := ⟨w.heap.size + 1, 2, none⟩) l7).trans q2
        have t34 : w4.cell? ⟨w.heap.size + 1, 3, none⟩ = some (.slice Aa na ca) := (HB4.out.cell (p := ⟨w.heap.size + 1, 3, none⟩) l7).trans q3
        have v04 : w4.cell? ⟨w.heap.size + 1 + 1, 0, none⟩ = some (.int .i64 3) := (HB4.out.cell (p := ⟨w.heap.size + 1 + 1, 0, none⟩) l8).trans r0
        have v14 : w4.cell? ⟨w.heap.size + 1 + 1, 1, none⟩ = some (.int .i64 ii) := (HB4.out.cell (p := ⟨w.heap.size + 1 + 1, 1, none⟩) l8).trans r1
        have v24 : w4.cell? ⟨w.heap.size + 1 + 1, 2, none⟩ = some (.slice Ai ni ci) := (HB4.out.cell (p := ⟨w.heap.size + 1 + 1, 2, none⟩) l8).trans r2
        obtain ⟨z04, z14, z24⟩ := cells3 H124.out
        have f04 := frees H124.out 0
        have f14 := frees H124.out 1
        have f24 := frees H124.out 2
        clear hl hb4 ho4 he4 hn4 z03 z13 z23 f03 f13 f23 t23 t33 v03 v13 v23
        go_wp2_with fail
        refine (Op.enc_any A4 n4 c4 E4 _ _ (Nat.le_refl _) HO4.out.at HN4.out).mono ?_
        rw [HE4.out]
        rintro x w5 he
        obtain ⟨A5, c5, rfl, hb5, ho5, hc5⟩ := EncP.get he HEN.out HNB.out
        have HB45 := Lib.hid hb5
        have HB5 := Lib.hid (show Below W2.heap.size W2 w5 from HB4.out.trans (hb5.mono hs4))
        have hs5 := HB5.out.size
        have H125 := Lib.hid ((HB5.out.block _ l12).trans H12.out)
        have l75 : w.heap.size + 1 < w5.heap.size := by omega
        have l85 : w.heap.size + 1 + 1 < w5.heap.size := by omega
        have l125 : w.heap.size + 1 + 1 + 1 < w5.heap.size := by omega
        have t25 : w5.cell? ⟨w.heap.size + 1, 2, none⟩ = some (.int .i64 req) := (HB5.out.cell (p := ⟨w.heap.size + 1, 2, none⟩) l7).trans q2
        have t35 : w5.cell? ⟨w.heap.size + 1, 3, none⟩ = some (.slice Aa na ca) := (HB5.out.cell (p := ⟨w.heap.size + 1, 3, none⟩) l7).trans q3
        have v05 : w5.cell? ⟨w.heap.size + 1 + 1, 0, none⟩ = some (.int .i64 3) := (HB5.out.cell (p := ⟨w.heap.size + 1 + 1, 0, none⟩) l8).trans r0
        have v15 : w5.cell? ⟨w.heap.size + 1 + 1, 1, none⟩ = some (.int .i64 ii) := (HB5.out.cell (p := ⟨w.heap.size + 1 + 1, 1, none⟩) l8).trans r1
        have v25 : w5.cell? ⟨w.heap.size + 1 + 1, 2, none⟩ = some (.slice Ai ni ci) := (HB5.out.cell (p := ⟨w.heap.size + 1 + 1, 2, none⟩) l8).trans r2
        obtain ⟨z05, z15, z25⟩ := cells3 H125.out
        have f05 := frees H125.out 0
        have f15 := frees H125.out 1
        have f25 := frees H125.out 2
        clear he hb5 ho5 z04 z14 z24 f04 f14 f24 t24 t34 v04 v14 v24
        go_wp2_with fail
        obtain ⟨Wf, hWf⟩ : ∃ Wf : World, Wf = (((w5.setCell ⟨w.heap.size + 1 + 1 + 1, 0, none⟩ (.int .i64 0)).setCell ⟨w.heap.size + 1 + 1 + 1, 1, none⟩ (.int .i64 0)).setCell ⟨w.heap.size + 1 + 1 + 1, 2, none⟩ (.slice none 0 0)) := ⟨_, rfl⟩
        rw [← hWf]
        have hrow : Wf.heap[w.heap.size + 1 + 1 + 1]? = some (.cells #[.int .i64 0, .int .i64 0, .slice none 0 0] 32 (0, 0)) := by rw [hWf]; exact row3 H125.out rfl _ _ _
        have hgr : (w5).grownBy Wf (some (w.heap.size + 1 + 1 + 1)) := by rw [hWf]; exact grn
        have hbf : Below w.heap.size w Wf := Below.grown (HBW.out.trans (HB5.out.mono hszW)) hgr (Nat.le_trans hszW hs5) (fun k hk => by cases hk; omega)
        clear hWf z05 z15 z25 f05 f15 f25
        obtain ⟨u0, u1, u2⟩ := cells3 hrow
        refine bodyPost_ret (v := .tuple #[.int .i64 0, .agg #[.int .i64 0, .int .i64 0, .slice none 0 0], .slice none 0 0]) (by simp [results, Tryz.results43, go_sem, u0, u1, u2]) rfl ?_
        exact ⟨_, _, _, rfl, hbf⟩
      · by_cases h5 : ee = 0
        · subst h5
          rw [if_pos ⟨rfl, rfl⟩]
          go_enter Tryz.func43, Tryz.ntmps43
          go_upto_region 1 with (fail)
          refine wp_w (fun W => W.heap[w.heap.size]? = some (.cells #[.slice Ar nr cr, .int .i64 mc, .int .i64 mt, .int .i64 mf, .int .i64 wt] 24 (0, 0)) ∧ W.heap[w.heap.size + 1]? = some (.cells #[.int .i64 st, .int .i64 id, .int .i64 req, .slice Aa na ca, .int .i64 cnt, .int .i64 tim, .int .i64 nak] 28 (0, 0)) ∧ W.heap[w.heap.size + 1 + 1]? = some (.cells #[.int .i64 3, .int .i64 ii, .slice Ai ni ci] 32 (0, 0)) ∧ W.heap[w.heap.size + 1 + 1 + 1]? = some (.cells #[.int .i64 0, .int .i64 0, .slice none 0 0] 32 (0, 0)) ∧ Below w.heap.size w W) ⟨by (repeat (first | ((refine heap_alloc_at _ _ _ ?_); (simp [go_sem]; done)) | ((refine (heap_ext _ _ _ _ ?_).trans ?_); (focus (simp [go_sem]; done))) | ((refine (heap_alloc_past _ _ _ ?_).trans ?_); (focus (simp [go_sem]; done))))), by (repeat (first | ((refine heap_alloc_at _ _ _ ?_); (simp [go_sem]; done)) | ((refine (heap_ext _ _ _ _ ?_).trans ?_); (focus (simp [go_sem]; done))) | ((refine (heap_alloc_past _ _ _ ?_).trans ?_); (focus (simp [go_sem]; done))))), by (repeat (first | ((refine heap_alloc_at _ _ _ ?_); (simp [go_sem]; done)) | ((refine (heap_ext _ _ _ _ ?_).trans ?_); (focus (simp [go_sem]; done))) | ((refine (heap_alloc_past _ _ _ ?_).trans ?_); (focus (simp [go_sem]; done))))), by (repeat (first | ((refine heap_alloc_at _ _ _ ?_); (simp [go_sem]; done)) | ((refine (heap_ext _ _ _ _ ?_).trans ?_); (focus (simp [go_sem]; done))) | ((refine (heap_alloc_past _ _ _ ?_).trans ?_); (focus (simp [go_sem]; done))))), by exact bel⟩ ?_
          rintro W2 ⟨h6, h7, h8, h12, hbw⟩
          have HBW := Lib.hid hbw
          have H12 := Lib.hid h12
          have hszW := hbw.size
          have l6 := lt_blk h6
          have l7 := lt_blk h7
          have l8 := lt_blk h8
          have l12 := lt_blk h12
          obtain ⟨p0, p1, p2, p3, p4⟩ := cells5 h6
          obtain ⟨q0, q1, q2, q3, q4, q5, q6⟩ := cells7 h7
          obtain ⟨r0, r1, r2⟩ := cells3 h8
          obtain ⟨z0, z1, z2⟩ := cells3 h12
          have f0 := frees h12 0
          have f1 := frees h12 1
          have f2 := frees h12 2
          clear h6 h7 h8 h12 hbw
          go_wp2_with fail
          refine (Op.dec_any Ai ni ci li _ B (by have := HB.out; omega) (HI.out.keep (HBW.out.mono HB.out)) HNI.out hci).mono ?_
          rintro x w3 hd
          obtain ⟨E3, A3, n3, c3, rfl, hb3, ho3, he3, hn3, hc3, hl3, hsd3⟩ := DecP.get hd HDR.out
          have HO3 := Lib.hid ho3
          have HE3 := Lib.hid he3
          have HN3 := Lib.hid hn3
          have HS3 := Lib.hid hsd3
          have HB3 := Lib.hid (show Below W2.heap.size W2 w3 from hb3)
          have hs3 := HB3.out.size
          have H123 := Lib.hid ((HB3.out.block _ l12).trans H12.out)
          have l73 : w.heap.size + 1 < w3.heap.size := by omega
          have l83 : w.heap.size + 1 + 1 < w3.heap.size := by omega
          have l123 : w.heap.size + 1 + 1 + 1 < w3.heap.size := by omega
          have t23 : w3.cell? ⟨w.heap.size + 1, 2, none⟩ = some (.int .i64 req) := (HB3.out.cell (p := ⟨w.heap.size + 1, 2, none⟩) l7).trans q2
          have t33 : w3.cell? ⟨w.heap.size + 1, 3, none⟩ = some (.slice Aa na ca) := (HB3.out.cell (p := ⟨w.heap.size + 1, 3, none⟩) l7).trans q3
          have v03 : w3.cell? ⟨w.heap.size + 1 + 1, 0, none⟩ = some (.int .i64 3) := (HB3.out.cell (p := ⟨w.heap.size + 1 + 1, 0, none⟩) l8).trans r0
          have v13 : w3.cell? ⟨w.heap.size + 1 + 1, 1, none⟩ = some (.int .i64 ii) := (HB3.out.cell (p := ⟨w.heap.size + 1 + 1, 1, none⟩) l8).trans r1
          have v23 : w3.cell? ⟨w.heap.size + 1 + 1, 2, none⟩ = some (.slice Ai ni ci) := (HB3.out.cell (p := ⟨w.heap.size + 1 + 1, 2, none⟩) l8).trans r2
          obtain ⟨z03, z13, z23⟩ := cells3 H123.out
          have f03 := frees H123.out 0
          have f13 := frees H123.out 1
          have f23 := frees H123.out 2
          clear hd hb3 ho3 he3 hn3 hsd3 p0 p1 p2 p3 p4 q0 q1 q4 q5 q6 z0 z1 z2 f0 f1 f2
          go_wp2_with fail
          refine (Ne.learn_any Aa A3 na n3 ca c3 3 E E3 _ w3.heap.size (Nat.le_refl _) ((HE.out.keep ((HBW.out.trans (HB3.out.mono hszW)).mono HB.out)).more (by have := HB.out; omega)) HO3.out.at HNA.out HN3.out hc3 hla (by omega) HDA.out (fun e he => by have := HS3.out e he; omega)).mono ?_
          rw [HL.out, HE3.out, HLN.out]
          rintro x w4 hl
          obtain ⟨E4, A4, n4, c4, rfl, he4, hn4, hc4, hb4, ho4⟩ := Ne.RowsB.get hl
          have HO4 := Lib.hid ho4
          have HE4 := Lib.hid he4
          have HN4 := Lib.hid hn4
          have HB34 := Lib.hid hb4
          have HB4 := Lib.hid (show Below W2.heap.size W2 w4 from HB3.out.trans (hb4.mono hs3))
          have hs4 := HB4.out.size
          have H124 := Lib.hid ((HB4.out.block _ l12).trans H12.out)
          have l74 : w.heap.size + 1 < w4.heap.size := by omega
          have l84 : w.heap.size + 1 + 1 < w4.heap.size := by omega
          have l124 : w.heap.size + 1 + 1 + 1 < w4.heap.size := by omega
          have t24 : w4.cell? ⟨w.heap.size + 1, 2, none⟩ = some (.int .i64 req) := (HB4.out.cell (p := ⟨w.heap.size + 1, 2, none⟩) l7).trans q2
          have t34 : w4.cell? ⟨w.heap.size + 1, 3, none⟩ = some (.slice Aa na ca) := (HB4.out.cell (p := ⟨w.heap.size + 1, 3, none⟩) l7).trans q3
          have v04 : w4.cell? ⟨w.heap.size + 1 + 1, 0, none⟩ = some (.int .i64 3) := (HB4.out.cell (p := ⟨w.heap.size + 1 + 1, 0, none⟩) l8).trans r0
          have v14 : w4.cell? ⟨w.heap.size + 1 + 1, 1, none⟩ = some (.int .i64 ii) := (HB4.out.cell (p := ⟨w.heap.size + 1 + 1, 1, none⟩) l8).trans r1
          have v24 : w4.cell? ⟨w.heap.size + 1 + 1, 2, none⟩ = some (.slice Ai ni ci) := (HB4.out.cell (p := ⟨w.heap.size + 1 + 1, 2, none⟩) l8).trans r2
          obtain ⟨z04, z14, z24⟩ := cells3 H124.out
          have f04 := frees H124.out 0
          have f14 := frees H124.out 1
          have f24 := frees H124.out 2
          clear hl hb4 ho4 he4 hn4 z03 z13 z23 f03 f13 f23 t23 t33 v03 v13 v23
          go_wp2_with fail
          refine (Op.enc_any A4 n4 c4 E4 _ _ (Nat.le_refl _) HO4.out.at HN4.out).mono ?_
          rw [HE4.out]
          rintro x w5 he
          obtain ⟨A5, c5, rfl, hb5, ho5, hc5⟩ := EncP.get he HEN.out HNB.out
          have HB45 := Lib.hid hb5
          have HB5 := Lib.hid (show Below W2.heap.size W2 w5 from HB4.out.trans (hb5.mono hs4))
          have hs5 := HB5.out.size
          have H125 := Lib.hid ((HB5.out.block _ l12).trans H12.out)
          have l75 : w.heap.size + 1 < w5.heap.size := by omega
          have l85 : w.heap.size + 1 + 1 < w5.heap.size := by omega
          have l125 : w.heap.size + 1 + 1 + 1 < w5.heap.size := by omega
          have t25 : w5.cell? ⟨w.heap.size + 1, 2, none⟩ = some (.int .i64 req) := (HB5.out.cell (p := ⟨w.heap.size + 1, 2, none⟩) l7).trans q2
          have t35 : w5.cell? ⟨w.heap.size + 1, 3, none⟩ = some (.slice Aa na ca) := (HB5.out.cell (p := ⟨w.heap.size + 1, 3, none⟩) l7).trans q3
          have v05 : w5.cell? ⟨w.heap.size + 1 + 1, 0, none⟩ = some (.int .i64 3) := (HB5.out.cell (p := ⟨w.heap.size + 1 + 1, 0, none⟩) l8).trans r0
          have v15 : w5.cell? ⟨w.heap.size + 1 + 1, 1, none⟩ = some (.int .i64 ii) := (HB5.out.cell (p := ⟨w.heap.size + 1 + 1, 1, none⟩) l8).trans r1
          have v25 : w5.cell? ⟨w.heap.size + 1 + 1, 2, none⟩ = some (.slice Ai ni ci) := (HB5.out.cell (p := ⟨w.heap.size + 1 + 1, 2, none⟩) l8).trans r2
          obtain ⟨z05, z15, z25⟩ := cells3 H125.out
          have f05 := frees H125.out 0
          have f15 := frees H125.out 1
          have f25 := frees H125.out 2
          clear he hb5 ho5 z04 z14 z24 f04 f14 f24 t24 t34 v04 v14 v24
          go_wp2_with fail
          obtain ⟨Wf, hWf⟩ : ∃ Wf : World, Wf = (((w5.setCell ⟨w.heap.size + 1 + 1 + 1, 0, none⟩ (.int .i64 0)).setCell ⟨w.heap.size + 1 + 1 + 1, 1, none⟩ (.int .i64 0)).setCell ⟨w.heap.size + 1 + 1 + 1, 2, none⟩ (.slice none 0 0)) := ⟨_, rfl⟩
          rw [← hWf]
          have hrow : Wf.heap[w.heap.size + 1 + 1 + 1]? = some (.cells #[.int .i64 0, .int .i64 0, .slice none 0 0] 32 (0, 0)) := by rw [hWf]; exact row3 H125.out rfl _ _ _
          have hgr : (w5).grownBy Wf (some (w.heap.size + 1 + 1 + 1)) := by rw [hWf]; exact grn
          have hbf : Below w.heap.size w Wf := Below.grown (HBW.out.trans (HB5.out.mono hszW)) hgr (Nat.le_trans hszW hs5) (fun k hk => by cases hk; omega)
          clear hWf z05 z15 z25 f05 f15 f25
          obtain ⟨u0, u1, u2⟩ := cells3 hrow
          refine bodyPost_ret (v := .tuple #[.int .i64 10, .agg #[.int .i64 0, .int .i64 0, .slice none 0 0], .slice A4 n4 c4]) (by simp [results, Tryz.results43, go_sem, u0, u1, u2]) rfl ?_
          exact ⟨none, 0, 0, A4, n4, c4, rfl, hbf, BytesO.nil _ _, fun _ => ((OwnOpts.otherx (⟨E4, HO4.out.below HB45.out, HE4.out⟩ : OptsO _ _ _ nx) hgr H125.out (by decide) (by decide))).base (Nat.le_trans hszW hs3)⟩
        · have h5' : (ee == 0) = false := by simpa using h5
          rw [if_neg (fun h => h5 h.2)]
          clear h5
          go_enter Tryz.func43, Tryz.ntmps43
          go_upto_region 1 with (fail)
          refine wp_w (fun W => W.heap[w.heap.size]? = some (.cells #[.slice Ar nr cr, .int .i64 mc, .int .i64 mt, .int .i64 mf, .int .i64 wt] 24 (0, 0)) ∧ W.heap[w.heap.size + 1]? = some (.cells #[.int .i64 st, .int .i64 id, .int .i64 req, .slice Aa na ca, .int .i64 cnt, .int .i64 tim, .int .i64 nak] 28 (0, 0)) ∧ W.heap[w.heap.size + 1 + 1]? = some (.cells #[.int .i64 3, .int .i64 ii, .slice Ai ni ci] 32 (0, 0)) ∧ W.heap[w.heap.size + 1 + 1 + 1]? = some (.cells #[.int .i64 0, .int .i64 0, .slice none 0 0] 32 (0, 0)) ∧ Below w.heap.size w W) ⟨by (repeat (first | ((refine heap_alloc_at _ _ _ ?_); (simp [go_sem]; done)) | ((refine (heap_ext _ _ _ _ ?_).trans ?_); (focus (simp [go_sem]; done))) | ((refine (heap_alloc_past _ _ _ ?_).trans ?_); (focus (simp [go_sem]; done))))), by (repeat (first | ((refine heap_alloc_at _ _ _ ?_); (simp [go_sem]; done)) | ((refine (heap_ext _ _ _ _ ?_).trans ?_); (focus (simp [go_sem]; done))) | ((refine (heap_alloc_past _ _ _ ?_).trans ?_); (focus (simp [go_sem]; done))))), by (repeat (first | ((refine heap_alloc_at _ _ _ ?_); (simp [go_sem]; done)) | ((refine (heap_ext _ _ _ _ ?_).trans ?_); (focus (simp [go_sem]; done))) | ((refine (heap_alloc_past _ _ _ ?_).trans ?_); (focus (simp [go_sem]; done))))), by (repeat (first | ((refine heap_alloc_at _ _ _ ?_); (simp [go_sem]; done)) | ((refine (heap_ext _ _ _ _ ?_).trans ?_); (focus (simp [go_sem]; done))) | ((refine (heap_alloc_past _ _ _ ?_).trans ?_); (focus (simp [go_sem]; done))))), by exact bel⟩ ?_
          rintro W2 ⟨h6, h7, h8, h12, hbw⟩
          have HBW := Lib.hid hbw
          have H12 := Lib.hid h12
          have hszW := hbw.size
          have l6 := lt_blk h6
          have l7 := lt_blk h7
          have l8 := lt_blk h8
          have l12 := lt_blk h12
          obtain ⟨p0, p1, p2, p3, p4⟩ := cells5 h6
          obtain ⟨q0, q1, q2, q3, q4, q5, q6⟩ := cells7 h7
          obtain ⟨r0, r1, r2⟩ := cells3 h8
          obtain ⟨z0, z1, z2⟩ := cells3 h12
          have f0 := frees h12 0
          have f1 := frees h12 1
          have f2 := frees h12 2
          clear h6 h7 h8 h12 hbw
          go_wp2_with fail
          refine (Op.dec_any Ai ni ci li _ B (by have := HB.out; omega) (HI.out.keep (HBW.out.mono HB.out)) HNI.out hci).mono ?_
          rintro x w3 hd
          obtain ⟨E3, A3, n3, c3, rfl, hb3, ho3, he3, hn3, hc3, hl3, hsd3⟩ := DecP.get hd HDR.out
          have HO3 := Lib.hid ho3
          have HE3 := Lib.hid he3
          have HN3 := Lib.hid hn3
          have HS3 := Lib.hid hsd3
          have HB3 := Lib.hid (show Below W2.heap.size W2 w3 from hb3)
          have hs3 := HB3.out.size
          have H123 := Lib.hid ((HB3.out.block _ l12).trans H12.out)
          have l73 : w.heap.size + 1 < w3.heap.size := by omega
          have l83 : w.heap.size + 1 + 1 < w3.heap.size := by omega
          have l123 : w.heap.size + 1 + 1 + 1 < w3.heap.size := by omega
          have t23 : w3.cell? ⟨w.heap.size + 1, 2, none⟩ = some (.int .i64 req) := (HB3.out.cell (p := ⟨w.heap.size + 1, 2, none⟩) l7).trans q2
          have t33 : w3.cell? ⟨w.heap.size + 1, 3, none⟩ = some (.slice Aa na ca) := (HB3.out.cell (p := ⟨w.heap.size + 1, 3, none⟩) l7).trans q3
          have v03 : w3.cell? ⟨w.heap.size + 1 + 1, 0, none⟩ = some (.int .i64 3) := (HB3.out.cell (p := ⟨w.heap.size + 1 + 1, 0, none⟩) l8).trans r0
          have v13 : w3.cell? ⟨w.heap.size + 1 + 1, 1, none⟩ = some (.int .i64 ii) := (HB3.out.cell (p := ⟨w.heap.size + 1 + 1, 1, none⟩) l8).trans r1
          have v23 : w3.cell? ⟨w.heap.size + 1 + 1, 2, none⟩ = some (.slice Ai ni ci) := (HB3.out.cell (p := ⟨w.heap.size + 1 + 1, 2, none⟩) l8).trans r2
          obtain ⟨z03, z13, z23⟩ := cells3 H123.out
          have f03 := frees H123.out 0
          have f13 := frees H123.out 1
          have f23 := frees H123.out 2
          clear hd hb3 ho3 he3 hn3 hsd3 p0 p1 p2 p3 p4 q0 q1 q4 q5 q6 z0 z1 z2 f0 f1 f2
          go_wp2_with fail
          refine (Ne.learn_any Aa A3 na n3 ca c3 3 E E3 _ w3.heap.size (Nat.le_refl _) ((HE.out.keep ((HBW.out.trans (HB3.out.mono hszW)).mono HB.out)).more (by have := HB.out; omega)) HO3.out.at HNA.out HN3.out hc3 hla (by omega) HDA.out (fun e he => by have := HS3.out e he; omega)).mono ?_
          rw [HL.out, HE3.out, HLN.out]
          rintro x w4 hl
          obtain ⟨E4, A4, n4, c4, rfl, he4, hn4, hc4, hb4, ho4⟩ := Ne.RowsB.get hl
          have HO4 := Lib.hid ho4
          have HE4 := Lib.hid he4
          have HN4 := Lib.hid hn4
          have HB34 := Lib.hid hb4
          have HB4 := Lib.hid (show Below W2.heap.size W2 w4 from HB3.out.trans (hb4.mono hs3))
          have hs4 := HB4.out.size
          have H124 := Lib.hid ((HB4.out.block _ l12).trans H12.out)
          have l74 : w.heap.size + 1 < w4.heap.size := by omega
          have l84 : w.heap.size + 1 + 1 < w4.heap.size := by omega
          have l124 : w.heap.size + 1 + 1 + 1 < w4.heap.size := by omega
          have t24 : w4.cell? ⟨w.heap.size + 1, 2, none⟩ = some (.int .i64 req) := (HB4.out.cell (p := ⟨w.heap.size + 1, 2, none⟩) l7).trans q2
          have t34 : w4.cell? ⟨w.heap.size + 1, 3, none⟩ = some (.slice Aa na ca) := (HB4.out.cell (p := ⟨w.heap.size + 1, 3, none⟩) l7).trans q3
          have v04 : w4.cell? ⟨w.heap.size + 1 + 1, 0, none⟩ = some (.int .i64 3) := (HB4.out.cell (p := ⟨w.heap.size + 1 + 1, 0, none⟩) l8).trans r0
          have v14 : w4.cell? ⟨w.heap.size + 1 + 1, 1, none⟩ = some (.int .i64 ii) := (HB4.out.cell (p := ⟨w.heap.size + 1 + 1, 1, none⟩) l8).trans r1
          have v24 : w4.cell? ⟨w.heap.size + 1 + 1, 2, none⟩ = some (.slice Ai ni ci) := (HB4.out.cell (p := ⟨w.heap.size + 1 + 1, 2, none⟩) l8).trans r2
          obtain ⟨z04, z14, z24⟩ := cells3 H124.out
          have f04 := frees H124.out 0
          have f14 := frees H124.out 1
          have f24 := frees H124.out 2
          clear hl hb4 ho4 he4 hn4 z03 z13 z23 f03 f13 f23 t23 t33 v03 v13 v23
          go_wp2_with fail
          refine (Op.enc_any A4 n4 c4 E4 _ _ (Nat.le_refl _) HO4.out.at HN4.out).mono ?_
          rw [HE4.out]
          rintro x w5 he
          obtain ⟨A5, c5, rfl, hb5, ho5, hc5⟩ := EncP.get he HEN.out HNB.out
          have HB45 := Lib.hid hb5
          have HB5 := Lib.hid (show Below W2.heap.size W2 w5 from HB4.out.trans (hb5.mono hs4))
          have hs5 := HB5.out.size
          have H125 := Lib.hid ((HB5.out.block _ l12).trans H12.out)
          have l75 : w.heap.size + 1 < w5.heap.size := by omega
          have l85 : w.heap.size + 1 + 1 < w5.heap.size := by omega
          have l125 : w.heap.size + 1 + 1 + 1 < w5.heap.size := by omega
          have t25 : w5.cell? ⟨w.heap.size + 1, 2, none⟩ = some (.int .i64 req) := (HB5.out.cell (p := ⟨w.heap.size + 1, 2, none⟩) l7).trans q2
          have t35 : w5.cell? ⟨w.heap.size + 1, 3, none⟩ = some (.slice Aa na ca) := (HB5.out.cell (p := ⟨w.heap.size + 1, 3, none⟩) l7).trans q3
          have v05 : w5.cell? ⟨w.heap.size + 1 + 1, 0, none⟩ = some (.int .i64 3) := (HB5.out.cell (p := ⟨w.heap.size + 1 + 1, 0, none⟩) l8).trans r0
          have v15 : w5.cell? ⟨w.heap.size + 1 + 1, 1, none⟩ = some (.int .i64 ii) := (HB5.out.cell (p := ⟨w.heap.size + 1 + 1, 1, none⟩) l8).trans r1
          have v25 : w5.cell? ⟨w.heap.size + 1 + 1, 2, none⟩ = some (.slice Ai ni ci) := (HB5.out.cell (p := ⟨w.heap.size + 1 + 1, 2, none⟩) l8).trans r2
          obtain ⟨z05, z15, z25⟩ := cells3 H125.out
          have f05 := frees H125.out 0
          have f15 := frees H125.out 1
          have f25 := frees H125.out 2
          clear he hb5 ho5 z04 z14 z24 f04 f14 f24 t24 t34 v04 v14 v24
          go_wp2_with fail
          obtain ⟨Wf, hWf⟩ : ∃ Wf : World, Wf = (((w5.setCell ⟨w.heap.size + 1 + 1 + 1, 0, none⟩ (.int .i64 0)).setCell ⟨w.heap.size + 1 + 1 + 1, 1, none⟩ (.int .i64 0)).setCell ⟨w.heap.size + 1 + 1 + 1, 2, none⟩ (.slice none 0 0)) := ⟨_, rfl⟩
          rw [← hWf]
          have hrow : Wf.heap[w.heap.size + 1 + 1 + 1]? = some (.cells #[.int .i64 0, .int .i64 0, .slice none 0 0] 32 (0, 0)) := by rw [hWf]; exact row3 H125.out rfl _ _ _
          have hgr : (w5).grownBy Wf (some (w.heap.size + 1 + 1 + 1)) := by rw [hWf]; exact grn
          have hbf : Below w.heap.size w Wf := Below.grown (HBW.out.trans (HB5.out.mono hszW)) hgr (Nat.le_trans hszW hs5) (fun k hk => by cases hk; omega)
          clear hWf z05 z15 z25 f05 f15 f25
          obtain ⟨u0, u1, u2⟩ := cells3 hrow
          refine bodyPost_ret (v := .tuple #[.int .i64 0, .agg #[.int .i64 0, .int .i64 0, .slice none 0 0], .slice none 0 0]) (by simp [results, Tryz.results43, go_sem, u0, u1, u2]) rfl ?_
          exact ⟨_, _, _, rfl, hbf⟩
    · have h0' : (ye != 0) = true := by simpa using h0
      have HO0 := Lib.hid (show learnedO ⟨st, id, req, L, cnt, tim, nak⟩ ⟨3, ii, li⟩ = none by unfold learnedO; dsimp only; rw [hd]; dsimp only; rw [if_pos (.inr h0)])
      rw [HO0.out]
      clear hd h1 h0 HO0
      go_enter Tryz.func43, Tryz.ntmps43
      go_upto_region 1 with (fail)
      refine wp_w (fun W => W.heap[w.heap.size]? = some (.cells #[.slice Ar nr cr, .int .i64 mc, .int .i64 mt, .int .i64 mf, .int .i64 wt] 24 (0, 0)) ∧ W.heap[w.heap.size + 1]? = some (.cells #[.int .i64 st, .int .i64 id, .int .i64 req, .slice Aa na ca, .int .i64 cnt, .int .i64 tim, .int .i64 nak] 28 (0, 0)) ∧ W.heap[w.heap.size + 1 + 1]? = some (.cells #[.int .i64 3, .int .i64 ii, .slice Ai ni ci] 32 (0, 0)) ∧ W.heap[w.heap.size + 1 + 1 + 1]? = some (.cells #[.int .i64 0, .int .i64 0, .slice none 0 0] 32 (0, 0)) ∧ Below w.heap.size w W) ⟨by (repeat (first | ((refine heap_alloc_at _ _ _ ?_); (simp [go_sem]; done)) | ((refine (heap_ext _ _ _ _ ?_).trans ?_); (focus (simp [go_sem]; done))) | ((refine (heap_alloc_past _ _ _ ?_).trans ?_); (focus (simp [go_sem]; done))))), by (repeat (first | ((refine heap_alloc_at _ _ _ ?_); (simp [go_sem]; done)) | ((refine (heap_ext _ _ _ _ ?_).trans ?_); (focus (simp [go_sem]; done))) | ((refine (heap_alloc_past _ _ _ ?_).trans ?_); (focus (simp [go_sem]; done))))), by (repeat (first | ((refine heap_alloc_at _ _ _ ?_); (simp [go_sem]; done)) | ((refine (heap_ext _ _ _ _ ?_).trans ?_); (focus (simp [go_sem]; done))) | ((refine (heap_alloc_past _ _ _ ?_).trans ?_); (focus (simp [go_sem]; done))))), by (repeat (first | ((refine heap_alloc_at _ _ _ ?_); (simp [go_sem]; done)) | ((refine (heap_ext _ _ _ _ ?_).trans ?_); (focus (simp [go_sem]; done))) | ((refine (heap_alloc_past _ _ _ ?_).trans ?_); (focus (simp [go_sem]; done))))), by exact bel⟩ ?_
      rintro W2 ⟨h6, h7, h8, h12, hbw⟩
      have HBW := Lib.hid hbw
      have H12 := Lib.hid h12
      have hszW := hbw.size
      have l6 := lt_blk h6
      have l7 := lt_blk h7
      have l8 := lt_blk h8
      have l12 := lt_blk h12
      obtain ⟨p0, p1, p2, p3, p4⟩ := cells5 h6
      obtain ⟨q0, q1, q2, q3, q4, q5, q6⟩ := cells7 h7
      obtain ⟨r0, r1, r2⟩ := cells3 h8
      obtain ⟨z0, z1, z2⟩ := cells3 h12
      have f0 := frees h12 0
      have f1 := frees h12 1
      have f2 := frees h12 2
      clear h6 h7 h8 h12 hbw
      go_wp2_with fail
      refine (Op.dec_any Ai ni ci li _ B (by have := HB.out; omega) (HI.out.keep (HBW.out.mono HB.out)) HNI.out hci).mono ?_
      rintro x w3 hd
      obtain ⟨E3, A3, n3, c3, rfl, hb3, ho3, he3, hn3, hc3, hl3, hsd3⟩ := DecP.get hd HDR.out
      have HO3 := Lib.hid ho3
      have HE3 := Lib.hid he3
      have HN3 := Lib.hid hn3
      have HS3 := Lib.hid hsd3
      have HB3 := Lib.hid (show Below W2.heap.size W2 w3 from hb3)
      have hs3 := HB3.out.size
      have H123 := Lib.hid ((HB3.out.block _ l12).trans H12.out)
      have l73 : w.heap.size + 1 < w3.heap.size := by omega
      have l83 : w.heap.size + 1 + 1 < w3.heap.size := by omega
      have l123 : w.heap.size + 1 + 1 + 1 < w3.heap.size := by omega
      have t23 : w3.cell? ⟨w.heap.size + 1, 2, none⟩ = some (.int .i64 req) := (HB3.out.cell (p := ⟨w.heap.size + 1, 2, none⟩) l7).trans q2
      have t33 : w3.cell? ⟨w.heap.size + 1, 3, none⟩ = some (.slice Aa na ca) := (HB3.out.cell (p := ⟨w.heap.size + 1, 3, none⟩) l7).trans q3
      have v03 : w3.cell? ⟨w.heap.size + 1 + 1, 0, none⟩ = some (.int .i64 3) := (HB3.out.cell (p := ⟨w.heap.size + 1 + 1, 0, none⟩) l8).trans r0
      have v13 : w3.cell? ⟨w.heap.size + 1 + 1, 1, none⟩ = some (.int .i64 ii) := (HB3.out.cell (p := ⟨w.heap.size + 1 + 1, 1, none⟩) l8).trans r1
      have v23 : w3.cell? ⟨w.heap.size + 1 + 1, 2, none⟩ = some (.slice Ai ni ci) := (HB3.out.cell (p := ⟨w.heap.size + 1 + 1, 2, none⟩) l8).trans r2
      obtain ⟨z03, z13, z23⟩ := cells3 H123.out
      have f03 := frees H123.out 0
      have f13 := frees H123.out 1
      have f23 := frees H123.out 2
      clear hd hb3 ho3 he3 hn3 hsd3 p0 p1 p2 p3 p4 q0 q1 q4 q5 q6 z0 z1 z2 f0 f1 f2
      go_wp2_with fail
      obtain ⟨Wf, hWf⟩ : ∃ Wf : World, Wf = (((w3.setCell ⟨w.heap.size + 1 + 1 + 1, 0, none⟩ (.int .i64 0)).setCell ⟨w.heap.size + 1 + 1 + 1, 1, none⟩ (.int .i64 0)).setCell ⟨w.heap.size + 1 + 1 + 1, 2, none⟩ (.slice none 0 0)) := ⟨_, rfl⟩
      rw [← hWf]
      have hrow : Wf.heap[w.heap.size + 1 + 1 + 1]? = some (.cells #[.int .i64 0, .int .i64 0, .slice none 0 0] 32 (0, 0)) := by rw [hWf]; exact row3 H123.out rfl _ _ _
      have hgr : (w3).grownBy Wf (some (w.heap.size + 1 + 1 + 1)) := by rw [hWf]; exact grn
      have hbf : Below w.heap.size w Wf := Below.grown (HBW.out.trans (HB3.out.mono hszW)) hgr (Nat.le_trans hszW hs3) (fun k hk => by cases hk; omega)
      clear hWf z03 z13 z23 f03 f13 f23
      obtain ⟨u0, u1, u2⟩ := cells3 hrow
      refine bodyPost_ret (v := .tuple #[.int .i64 0, .agg #[.int .i64 0, .int .i64 0, .slice none 0 0], .slice none 0 0]) (by simp [results, Tryz.results43, go_sem, u0, u1, u2]) rfl ?_
      exact ⟨_, _, _, rfl, hbf⟩
  · have h1' : (ii != req) = true := by simpa using h1
    have HO0 := Lib.hid (show learnedO ⟨st, id, req, L, cnt, tim, nak⟩ ⟨3, ii, li⟩ = none by unfold learnedO; rw [if_pos (.inl h1)])
    rw [HO0.out]
    clear hd h1 HO0
    go_enter Tryz.func43, Tryz.ntmps43
    go_upto_region 1 with (fail)
    refine wp_w (fun W => W.heap[w.heap.size]? = some (.cells #[.slice Ar nr cr, .int .i64 mc, .int .i64 mt, .int .i64 mf, .int .i64 wt] 24 (0, 0)) ∧ W.heap[w.heap.size + 1]? = some (.cells #[.int .i64 st, .int .i64 id, .int .i64 req, .slice Aa na ca, .int .i64 cnt, .int .i64 tim, .int .i64 nak] 28 (0, 0)) ∧ W.heap[w.heap.size + 1 + 1]? = some (.cells #[.int .i64 3, .int .i64 ii, .slice Ai ni ci] 32 (0, 0)) ∧ W.heap[w.heap.size + 1 + 1 + 1]? = some (.cells #[.int .i64 0, .int .i64 0, .slice none 0 0] 32 (0, 0)) ∧ Below w.heap.size w W) ⟨by (repeat (first | ((refine heap_alloc_at _ _ _ ?_); (simp [go_sem]; done)) | ((refine (heap_ext _ _ _ _ ?_).trans ?_); (focus (simp [go_sem]; done))) | ((refine (heap_alloc_past _ _ _ ?_).trans ?_); (focus (simp [go_sem]; done))))), by (repeat (first | ((refine heap_alloc_at _ _ _ ?_); (simp [go_sem]; done)) | ((refine (heap_ext _ _ _ _ ?_).trans ?_); (focus (simp [go_sem]; done))) | ((refine (heap_alloc_past _ _ _ ?_).trans ?_); (focus (simp [go_sem]; done))))), by (repeat (first | ((refine heap_alloc_at _ _ _ ?_); (simp [go_sem]; done)) | ((refine (heap_ext _ _ _ _ ?_).trans ?_); (focus (simp [go_sem]; done))) | ((refine (heap_alloc_past _ _ _ ?_).trans ?_); (focus (simp [go_sem]; done))))), by (repeat (first | ((refine heap_alloc_at _ _ _ ?_); (simp [go_sem]; done)) | ((refine (heap_ext _ _ _ _ ?_).trans ?_); (focus (simp [go_sem]; done))) | ((refine (heap_alloc_past _ _ _ ?_).trans ?_); (focus (simp [go_sem]; done))))), by exact bel⟩ ?_
    rintro W2 ⟨h6, h7, h8, h12, hbw⟩
    have HBW := Lib.hid hbw
    have H12 := Lib.hid h12
    have hszW := hbw.size
    have l6 := lt_blk h6
    have l7 := lt_blk h7
    have l8 := lt_blk h8
    have l12 := lt_blk h12
    obtain ⟨p0, p1, p2, p3, p4⟩ := cells5 h6
    obtain ⟨q0, q1, q2, q3, q4, q5, q6⟩ := cells7 h7
    obtain ⟨r0, r1, r2⟩ := cells3 h8
    obtain ⟨z0, z1, z2⟩ := cells3 h12
    have f0 := frees h12 0
    have f1 := frees h12 1
    have f2 := frees h12 2
    clear h6 h7 h8 h12 hbw
    go_wp2_with fail
    refine (Op.dec_any Ai ni ci li _ B (by have := HB.out; omega) (HI.out.keep (HBW.out.mono HB.out)) HNI.out hci).mono ?_
    rintro x w3 hd
    obtain ⟨E3, A3, n3, c3, rfl, hb3, ho3, he3, hn3, hc3, hl3, hsd3⟩ := DecP.get hd HDR.out
    have HO3 := Lib.hid ho3
    have HE3 := Lib.hid he3
    have HN3 := Lib.hid hn3
    have HS3 := Lib.hid hsd3
    have HB3 := Lib.hid (show Below W2.heap.size W2 w3 from hb3)
    have hs3 := HB3.out.size
    have H123 := Lib.hid ((HB3.out.block _ l12).trans H12.out)
    have l73 : w.heap.size + 1 < w3.heap.size := by omega
    have l83 : w.heap.size + 1 + 1 < w3.heap.size := by omega
    have l123 : w.heap.size + 1 + 1 + 1 < w3.heap.size := by omega
    have t23 : w3.cell? ⟨w.heap.size + 1, 2, none⟩ = some (.int .i64 req) := (HB3.out.cell (p := ⟨w.heap.size + 1, 2, none⟩) l7).trans q2
    have t33 : w3.cell? ⟨w.heap.size + 1, 3, none⟩ = some (.slice Aa na ca) := (HB3.out.cell (p := ⟨w.heap.size + 1, 3, none⟩) l7).trans q3
    have v03 : w3.cell? ⟨w.heap.size + 1 + 1, 0, none⟩ = some (.int .i64 3) := (HB3.out.cell (p := ⟨w.heap.size + 1 + 1, 0, none⟩) l8).trans r0
    have v13 : w3.cell? ⟨w.heap.size + 1 + 1, 1, none⟩ = some (.int .i64 ii) := (HB3.out.cell (p := ⟨w.heap.size + 1 + 1, 1, none⟩) l8).trans r1
    have v23 : w3.cell? ⟨w.heap.size + 1 + 1, 2, none⟩ = some (.slice Ai ni ci) := (HB3.out.cell (p := ⟨w.heap.size + 1 + 1, 2, none⟩) l8).trans r2
    obtain ⟨z03, z13, z23⟩ := cells3 H123.out
    have f03 := frees H123.out 0
    have f13 := frees H123.out 1
    have f23 := frees H123.out 2
    clear hd hb3 ho3 he3 hn3 hsd3 p0 p1 p2 p3 p4 q0 q1 q4 q5 q6 z0 z1 z2 f0 f1 f2
    go_wp2_with fail
    obtain ⟨Wf, hWf⟩ : ∃ Wf : World, Wf = (((w3.setCell ⟨w.heap.size + 1 + 1 + 1, 0, none⟩ (.int .i64 0)).setCell ⟨w.heap.size + 1 + 1 + 1, 1, none⟩ (.int .i64 0)).setCell ⟨w.heap.size + 1 + 1 + 1, 2, none⟩ (.slice none 0 0)) := ⟨_, rfl⟩
    rw [← hWf]
    have hrow : Wf.heap[w.heap.size + 1 + 1 + 1]? = some (.cells #[.int .i64 0, .int .i64 0, .slice none 0 0] 32 (0, 0)) := by rw [hWf]; exact row3 H123.out rfl _ _ _
    have hgr : (w3).grownBy Wf (some (w.heap.size + 1 + 1 + 1)) := by rw [hWf]; exact grn
    have hbf : Below w.heap.size w Wf := Below.grown (HBW.out.trans (HB3.out.mono hszW)) hgr (Nat.le_trans hszW hs3) (fun k hk => by cases hk; omega)
    clear hWf z03 z13 z23 f03 f13 f23
    obtain ⟨u0, u1, u2⟩ := cells3 hrow
    refine bodyPost_ret (v := .tuple #[.int .i64 0, .agg #[.int .i64 0, .int .i64 0, .slice none 0 0], .slice none 0 0]) (by simp [results, Tryz.results43, go_sem, u0, u1, u2]) rfl ?_
    exact ⟨_, _, _, rfl, hbf⟩
set_option maxRecDepth 100000 in
set_option maxHeartbeats 8000000 in
theorem which_4 (Ar Aa Ai : Option Addr) (nr cr na ca ni ci : Nat) (R : List Rl) (mc mt mf wt st id req cnt tim nak ii : Int) (E : List Ent) (li : List UInt8) (w : World) (B : Nat) (hB : B ≤ w.heap.size) (hR : RulesAt w B Ar R) (hnr : nr = R.length) (hlr : nr ≤ 1000000) (hE : OptsAt w B Aa E) (hna : na = E.length) (hla : na ≤ 1000000) (hda : ∀ e ∈ E, e.d.length ≤ 1000000) (hI : At w B Ai (li.map bv)) (hni : ni = li.length) (hci : ni ≤ ci) : Calls Tryz.prog 43 #[.agg #[.slice Ar nr cr, .int .i64 mc, .int .i64 mt, .int .i64 mf, .int .i64 wt], .agg #[.int .i64 st, .int .i64 id, .int .i64 req, .slice Aa na ca, .int .i64 cnt, .int .i64 tim, .int .i64 nak], .agg #[.int .i64 4, .int .i64 ii, .slice Ai ni ci]] w (WhichP (whichO ⟨R, mc, mt, mf, wt⟩ ⟨st, id, req, E.map Ent.o, cnt, tim, nak⟩ ⟨4, ii, li⟩) w) := by
  have HB := Lib.hid hB
  have HR := Lib.hid hR
  have HNR := Lib.hid hnr
  have HE := Lib.hid hE
  have HNA := Lib.hid hna
  have HDA := Lib.hid hda
  have HI := Lib.hid hI
  have HNI := Lib.hid hni
  obtain ⟨L, hL⟩ : ∃ L, E.map Ent.o = L := ⟨_, rfl⟩
  have HL := Lib.hid hL
  rw [hL]
  clear hB hR hnr hE hna hda hL hI hni
  have HO0 := Lib.hid (show whichO ⟨R, mc, mt, mf, wt⟩ ⟨st, id, req, L, cnt, tim, nak⟩ ⟨4, ii, li⟩ = learnedO ⟨st, id, req, L, cnt, tim, nak⟩ ⟨4, ii, li⟩ from rfl)
  rw [HO0.out]
  clear HO0
  obtain ⟨⟨Y, ye⟩, hd⟩ : ∃ r, Op.decR li = r := ⟨_, rfl⟩
  have HDR := Lib.hid hd
  by_cases h1 : ii = req
  · have h1' : (ii != req) = false := by simp [h1]
    by_cases h0 : ye = 0
    · subst h0
      obtain ⟨⟨nx, ok⟩, hln⟩ : ∃ r, learnO L 4 Y = r := ⟨_, rfl⟩
      have HLN := Lib.hid hln
      obtain ⟨⟨eb, ee⟩, hen⟩ : ∃ r, Op.encR nx = r := ⟨_, rfl⟩
      have HEN := Lib.hid hen
      obtain ⟨nb, hnb⟩ : ∃ nb, eb.length = nb := ⟨_, rfl⟩
      have HNB := Lib.hid hnb
      have HO0 := Lib.hid (show learnedO ⟨st, id, req, L, cnt, tim, nak⟩ ⟨4, ii, li⟩ = if ok = true ∧ ee = 0 then some (10, ⟨0, 0, []⟩, nx) else none by unfold learnedO; dsimp only; rw [hd]; dsimp only; rw [if_neg (by simp [h1]), hln]; dsimp only; rw [hen])
      rw [HO0.out]
      clear hd hln hen hnb h1 HO0
      cases ok
      · rw [if_neg (by simp)]
        go_enter Tryz.func43, Tryz.ntmps43
        go_upto_region 1 with (fail)
        refine wp_w (fun W => W.heap[w.heap.size]? = some (.cells #[.slice Ar nr cr, .int .i64 mc, .int .i64 mt, .int .i64 mf, .int .i64 wt] 24 (0, 0)) ∧ W.heap[w.heap.size + 1]? = some (.cells #[.int .i64 st, .int .i64 id, .int .i64 req, .slice Aa na ca, .int .i64 cnt, .int .i64 tim, .int .i64 nak] 28 (0, 0)) ∧ W.heap[w.heap.size + 1 + 1]? = some (.cells #[.int .i64 4, .int .i64 ii, .slice Ai ni ci] 32 (0, 0)) ∧ W.heap[w.heap.size + 1 + 1 + 1]? = some (.cells #[.int .i64 0, .int .i64 0, .slice none 0 0] 32 (0, 0)) ∧ Below w.heap.size w W) ⟨by (repeat (first | ((refine heap_alloc_at _ _ _ ?_); (simp [go_sem]; done)) | ((refine (heap_ext _ _ _ _ ?_).trans ?_); (focus (simp [go_sem]; done))) | ((refine (heap_alloc_past _ _ _ ?_).trans ?_); (focus (simp [go_sem]; done))))), by (repeat (first | ((refine heap_alloc_at _ _ _ ?_); (simp [go_sem]; done)) | ((refine (heap_ext _ _ _ _ ?_).trans ?_); (focus (simp [go_sem]; done))) | ((refine (heap_alloc_past _ _ _ ?_).trans ?_); (focus (simp [go_sem]; done))))), by (repeat (first | ((refine heap_alloc_at _ _ _ ?_); (simp [go_sem]; done)) | ((refine (heap_ext _ _ _ _ ?_).trans ?_); (focus (simp [go_sem]; done))) | ((refine (heap_alloc_past _ _ _ ?_).trans ?_); (focus (simp [go_sem]; done))))), by (repeat (first | ((refine heap_alloc_at _ _ _ ?_); (simp [go_sem]; done)) | ((refine (heap_ext _ _ _ _ ?_).trans ?_); (focus (simp [go_sem]; done))) | ((refine (heap_alloc_past _ _ _ ?_).trans ?_); (focus (simp [go_sem]; done))))), by exact bel⟩ ?_
        rintro W2 ⟨h6, h7, h8, h12, hbw⟩
        have HBW := Lib.hid hbw
        have H12 := Lib.hid h12
        have hszW := hbw.size
        have l6 := lt_blk h6
        have l7 := lt_blk h7
        have l8 := lt_blk h8
        have l12 := lt_blk h12
        obtain ⟨p0, p1, p2, p3, p4⟩ := cells5 h6
        obtain ⟨q0, q1, q2, q3, q4, q5, q6⟩ := cells7 h7
        obtain ⟨r0, r1, r2⟩ := cells3 h8
        obtain ⟨z0, z1, z2⟩ := cells3 h12
        have f0 := frees h12 0
        have f1 := frees h12 1
        have f2 := frees h12 2
        clear h6 h7 h8 h12 hbw
        go_wp2_with fail
        refine (Op.dec_any Ai ni ci li _ B (by have := HB.out; omega) (HI.out.keep (HBW.out.mono HB.out)) HNI.out hci).mono ?_
        rintro x w3 hd
        obtain ⟨E3, A3, n3, c3, rfl, hb3, ho3, he3, hn3, hc3, hl3, hsd3⟩ := DecP.get hd HDR.out
        have HO3 := Lib.hid ho3
        have HE3 := Lib.hid he3
        have HN3 := Lib.hid hn3
        have HS3 := Lib.hid hsd3
        have HB3 := Lib.hid (show Below W2.heap.size W2 w3 from hb3)
        have hs3 := HB3.out.size
        have H123 := Lib.hid ((HB3.out.block _ l12).trans H12.out)
        have l73 : w.heap.size + 1 < w3.heap.size := by omega
        have l83 : w.heap.size + 1 + 1 < w3.heap.size := by omega
        have l123 : w.heap.size + 1 + 1 + 1 < w3.heap.size := by omega
        have t23 : w3.cell? ⟨w.heap.size + 1, 2, none⟩ = some (.int .i64 req) := (HB3.out.cell (p := ⟨w.heap.size + 1, 2, none⟩) l7).trans q2
        have t33 : w3.cell? ⟨w.heap.size + 1, 3, none⟩ = some (.slice Aa na ca) := (HB3.out.cell (p := ⟨w.heap.size + 1, 3, none⟩) l7).trans q3
        have v03 : w3.cell? ⟨w.heap.size + 1 + 1, 0, none⟩ = some (.int .i64 4) := (HB3.out.cell (p := ⟨w.heap.size + 1 + 1, 0, none⟩) l8).trans r0
        have v13 : w3.cell? ⟨w.heap.size + 1 + 1, 1, none⟩ = some (.int .i64 ii) := (HB3.out.cell (p := ⟨w.heap.size + 1 + 1, 1, none⟩) l8).trans r1
        have v23 : w3.cell? ⟨w.heap.size + 1 + 1, 2, none⟩ = some (.slice Ai ni ci) := (HB3.out.cell (p := ⟨w.heap.size + 1 + 1, 2, none⟩) l8).trans r2
        obtain ⟨z03, z13, z23⟩ := cells3 H123.out
        have f03 := frees H123.out 0
        have f13 := frees H123.out 1
        have f23 := frees H123.out 2
        clear hd hb3 ho3 he3 hn3 hsd3 p0 p1 p2 p3 p4 q0 q1 q4 q5 q6 z0 z1 z2 f0 f1 f2
        go_wp2_with fail
        refine (Ne.learn_any Aa A3 na n3 ca c3 4 E E3 _ w3.heap.size (Nat.le_refl _) ((HE.out.keep ((HBW.out.trans (HB3.out.mono hszW)).mono HB.out)).more (by have := HB.out; omega)) HO3.out.at HNA.out HN3.out hc3 hla (by omega) HDA.out (fun e he => by have := HS3.out e he; omega)).mono ?_
        rw [HL.out, HE3.out, HLN.out]
        rintro x w4 hl
        obtain ⟨E4, A4, n4, c4, rfl, he4, hn4, hc4, hb4, ho4⟩ := Ne.RowsB.get hl
        have HO4 := Lib.hid ho4
        have HE4 := Lib.hid he4
        have HN4 := Lib.hid hn4
        have HB34 := Lib.hid hb4
        have HB4 := Lib.hid (show Below W2.heap.size W2 w4 from HB3.out.trans (hb4.mono hs3))
        have hs4 := HB4.out.size
        have H124 := Lib.hid ((HB4.out.block _ l12).trans H12.out)
        have l74 : w.heap.size + 1 < w4.heap.size := by omega
        have l84 : w.heap.size + 1 + 1 < w4.heap.size := by omega
        have l124 : w.heap.size + 1 + 1 + 1 < w4.heap.size := by omega
        have t24 : w4.cell? ⟨w.heap.size + 1, 2, none⟩ = some (.int .i64 req) := (HB4.out.cell (p := ⟨w.heap.size + 1, 2, none⟩) l7).trans q2
        have t34 : w4.cell? ⟨w.heap.size + 1, 3, none⟩ = some (.slice Aa na ca) := (HB4.out.cell (p := ⟨w.heap.size + 1, 3, none⟩) l7).trans q3
        have v04 : w4.cell? ⟨w.heap.size + 1 + 1, 0, none⟩ = some (.int .i64 4) := (HB4.out.cell (p := ⟨w.heap.size + 1 + 1, 0, none⟩) l8).trans r0
        have v14 : w4.cell? ⟨w.heap.size + 1 + 1, 1, none⟩ = some (.int .i64 ii) := (HB4.out.cell (p := ⟨w.heap.size + 1 + 1, 1, none⟩) l8).trans r1
        have v24 : w4.cell? ⟨w.heap.size + 1 + 1, 2, none⟩ = some (.slice Ai ni ci) := (HB4.out.cell (p := ⟨w.heap.size + 1 + 1, 2, none⟩) l8).trans r2
        obtain ⟨z04, z14, z24⟩ := cells3 H124.out
        have f04 := frees H124.out 0
        have f14 := frees H124.out 1
        have f24 := frees H124.out 2
        clear hl hb4 ho4 he4 hn4 z03 z13 z23 f03 f13 f23 t23 t33 v03 v13 v23
        go_wp2_with fail
        refine (Op.enc_any A4 n4 c4 E4 _ _ (Nat.le_refl _) HO4.out.at HN4.out).mono ?_
        rw [HE4.out]
        rintro x w5 he
        obtain ⟨A5, c5, rfl, hb5, ho5, hc5⟩ := EncP.get he HEN.out HNB.out
        have HB45 := Lib.hid hb5
        have HB5 := Lib.hid (show Below W2.heap.size W2 w5 from HB4.out.trans (hb5.mono hs4))
        have hs5 := HB5.out.size
        have H125 := Lib.hid ((HB5.out.block _ l12).trans H12.out)
        have l75 : w.heap.size + 1 < w5.heap.size := by omega
        have l85 : w.heap.size + 1 + 1 < w5.heap.size := by omega
        have l125 : w.heap.size + 1 + 1 + 1 < w5.heap.size := by omega
        have t25 : w5.cell? ⟨w.heap.size + 1, 2, none⟩ = some (.int .i64 req) := (HB5.out.cell (p := ⟨w.heap.size + 1, 2, none⟩) l7).trans q2
        have t35 : w5.cell? ⟨w.heap.size + 1, 3, none⟩ = some (.slice Aa na ca) := (HB5.out.cell (p := ⟨w.heap.size + 1, 3, none⟩) l7).trans q3
        have v05 : w5.cell? ⟨w.heap.size + 1 + 1, 0, none⟩ = some (.int .i64 4) := (HB5.out.cell (p := ⟨w.heap.size + 1 + 1, 0, none⟩) l8).trans r0
        have v15 : w5.cell? ⟨w.heap.size + 1 + 1, 1, none⟩ = some (.int .i64 ii) := (HB5.out.cell (p := ⟨w.heap.size + 1 + 1, 1, none⟩) l8).trans r1
        have v25 : w5.cell? ⟨w.heap.size + 1 + 1, 2, none⟩ = some (.slice Ai ni ci) := (HB5.out.cell (p := ⟨w.heap.size + 1 + 1, 2, none⟩) l8).trans r2
        obtain ⟨z05, z15, z25⟩ := cells3 H125.out
        have f05 := frees H125.out 0
        have f15 := frees H125.out 1
        have f25 := frees H125.out 2
        clear he hb5 ho5 z04 z14 z24 f04 f14 f24 t24 t34 v04 v14 v24
        go_wp2_with fail
        obtain ⟨Wf, hWf⟩ : ∃ Wf : World, Wf = (((w5.setCell ⟨w.heap.size + 1 + 1 + 1, 0, none⟩ (.int .i64 0)).setCell ⟨w.heap.size + 1 + 1 + 1, 1, none⟩ (.int .i64 0)).setCell ⟨w.heap.size + 1 + 1 + 1, 2, none⟩ (.slice none 0 0)) := ⟨_, rfl⟩
        rw [← hWf]
        have hrow : Wf.heap[w.heap.size + 1 + 1 + 1]? = some (.cells #[.int .i64 0, .int .i64 0, .slice none 0 0] 32 (0, 0)) := by rw [hWf]; exact row3 H125.out rfl _ _ _
        have hgr : (w5).grownBy Wf (some (w.heap.size + 1 + 1 + 1)) := by rw [hWf]; exact grn
        have hbf : Below w.heap.size w Wf := Below.grown (HBW.out.trans (HB5.out.mono hszW)) hgr (Nat.le_trans hszW hs5) (fun k hk => by cases hk; omega)
        clear hWf z05 z15 z25 f05 f15 f25
        obtain ⟨u0, u1, u2⟩ := cells3 hrow
        refine bodyPost_ret (v := .tuple #[.int .i64 0, .agg #[.int .i64 0, .int .i64 0, .slice none 0 0], .slice none 0 0]) (by simp [results, Tryz.results43, go_sem, u0, u1, u2]) rfl ?_
        exact ⟨_, _, _, rfl, hbf⟩
      · by_cases h5 : ee = 0
        · subst h5
          rw [if_pos ⟨rfl, rfl⟩]
          go_enter Tryz.func43, Tryz.ntmps43
          go_upto_region 1 with (fail)
          refine wp_w (fun W => W.heap[w.heap.size]? = some (.cells #[.slice Ar nr cr, .int .i64 mc, .int .i64 mt, .int .i64 mf, .int .i64 wt] 24 (0, 0)) ∧ W.heap[w.heap.size + 1]? = some (.cells #[.int .i64 st, .int .i64 id, .int .i64 req, .slice Aa na ca, .int .i64 cnt, .int .i64 tim, .int .i64 nak] 28 (0, 0)) ∧ W.heap[w.heap.size + 1 + 1]? = some (.cells #[.int .i64 4, .int .i64 ii, .slice Ai ni ci] 32 (0, 0)) ∧ W.heap[w.heap.size + 1 + 1 + 1]? = some (.cells #[.int .i64 0, .int .i64 0, .slice none 0 0] 32 (0, 0)) ∧ Below w.heap.size w W) ⟨by (repeat (first | ((refine heap_alloc_at _ _ _ ?_); (simp [go_sem]; done)) | ((refine (heap_ext _ _ _ _ ?_).trans ?_); (focus (simp [go_sem]; done))) | ((refine (heap_alloc_past _ _ _ ?_).trans ?_); (focus (simp [go_sem]; done))))), by (repeat (first | ((refine heap_alloc_at _ _ _ ?_); (simp [go_sem]; done)) | ((refine (heap_ext _ _ _ _ ?_).trans ?_); (focus (simp [go_sem]; done))) | ((refine (heap_alloc_past _ _ _ ?_).trans ?_); (focus (simp [go_sem]; done))))), by (repeat (first | ((refine heap_alloc_at _ _ _ ?_); (simp [go_sem]; done)) | ((refine (heap_ext _ _ _ _ ?_).trans ?_); (focus (simp [go_sem]; done))) | ((refine (heap_alloc_past _ _ _ ?_).trans ?_); (focus (simp [go_sem]; done))))), by (repeat (first | ((refine heap_alloc_at _ _ _ ?_); (simp [go_sem]; done)) | ((refine (heap_ext _ _ _ _ ?_).trans ?_); (focus (simp [go_sem]; done))) | ((refine (heap_alloc_past _ _ _ ?_).trans ?_); (focus (simp [go_sem]; done))))), by exact bel⟩ ?_
          rintro W2 ⟨h6, h7, h8, h12, hbw⟩
          have HBW := Lib.hid hbw
          have H12 := Lib.hid h12
          have hszW := hbw.size
          have l6 := lt_blk h6
          have l7 := lt_blk h7
          have l8 := lt_blk h8
          have l12 := lt_blk h12
          obtain ⟨p0, p1, p2, p3, p4⟩ := cells5 h6
          obtain ⟨q0, q1, q2, q3, q4, q5, q6⟩ := cells7 h7
          obtain ⟨r0, r1, r2⟩ := cells3 h8
          obtain ⟨z0, z1, z2⟩ := cells3 h12
          have f0 := frees h12 0
          have f1 := frees h12 1
          have f2 := frees h12 2
          clear h6 h7 h8 h12 hbw
          go_wp2_with fail
          refine (Op.dec_any Ai ni ci li _ B (by have := HB.out; omega) (HI.out.keep (HBW.out.mono HB.out)) HNI.out hci).mono ?_
          rintro x w3 hd
          obtain ⟨E3, A3, n3, c3, rfl, hb3, ho3, he3, hn3, hc3, hl3, hsd3⟩ := DecP.get hd HDR.out
          have HO3 := Lib.hid ho3
          have HE3 := Lib.hid he3
          have HN3 := Lib.hid hn3
          have HS3 := Lib.hid hsd3
          have HB3 := Lib.hid (show Below W2.heap.size W2 w3 from hb3)
          have hs3 := HB3.out.size
          have H123 := Lib.hid ((HB3.out.block _ l12).trans H12.out)
          have l73 : w.heap.size + 1 < w3.heap.size := by omega
          have l83 : w.heap.size + 1 + 1 < w3.heap.size := by omega
          have l123 : w.heap.size + 1 + 1 + 1 < w3.heap.size := by omega
          have t23 : w3.cell? ⟨w.heap.size + 1, 2, none⟩ = some (.int .i64 req) := (HB3.out.cell (p := ⟨w.heap.size + 1, 2, none⟩) l7).trans q2
          have t33 : w3.cell? ⟨w.heap.size + 1, 3, none⟩ = some (.slice Aa na ca) := (HB3.out.cell (p := ⟨w.heap.size + 1, 3, none⟩) l7).trans q3
          have v03 : w3.cell? ⟨w.heap.size + 1 + 1, 0, none⟩ = some (.int .i64 4) := (HB3.out.cell (p := ⟨w.heap.size + 1 + 1, 0, none⟩) l8).trans r0
          have v13 : w3.cell? ⟨w.heap.size + 1 + 1, 1, none⟩ = some (.int .i64 ii) := (HB3.out.cell (p := ⟨w.heap.size + 1 + 1, 1, none⟩) l8).trans r1
          have v23 : w3.cell? ⟨w.heap.size + 1 + 1, 2, none⟩ = some (.slice Ai ni ci) := (HB3.out.cell (p := ⟨w.heap.size + 1 + 1, 2, none⟩) l8).trans r2
          obtain ⟨z03, z13, z23⟩ := cells3 H123.out
          have f03 := frees H123.out 0
          have f13 := frees H123.out 1
          have f23 := frees H123.out 2
          clear hd hb3 ho3 he3 hn3 hsd3 p0 p1 p2 p3 p4 q0 q1 q4 q5 q6 z0 z1 z2 f0 f1 f2
          go_wp2_with fail
          refine (Ne.learn_any Aa A3 na n3 ca c3 4 E E3 _ w3.heap.size (Nat.le_refl _) ((HE.out.keep ((HBW.out.trans (HB3.out.mono hszW)).mono HB.out)).more (by have := HB.out; omega)) HO3.out.at HNA.out HN3.out hc3 hla (by omega) HDA.out (fun e he => by have := HS3.out e he; omega)).mono ?_
          rw [HL.out, HE3.out, HLN.out]
          rintro x w4 hl
          obtain ⟨E4, A4, n4, c4, rfl, he4, hn4, hc4, hb4, ho4⟩ := Ne.RowsB.get hl
          have HO4 := Lib.hid ho4
          have HE4 := Lib.hid he4
          have HN4 := Lib.hid hn4
          have HB34 := Lib.hid hb4
          have HB4 := Lib.hid (show Below W2.heap.size W2 w4 from HB3.out.trans (hb4.mono hs3))
          have hs4 := HB4.out.size
          have H124 := Lib.hid ((HB4.out.block _ l12).trans H12.out)
          have l74 : w.heap.size + 1 < w4.heap.size := by omega
          have l84 : w.heap.size + 1 + 1 < w4.heap.size := by omega
          have l124 : w.heap.size + 1 + 1 + 1 < w4.heap.size := by omega
          have t24 : w4.cell? ⟨w.heap.size + 1, 2, none⟩ = some (.int .i64 req) := (HB4.out.cell (p := ⟨w.heap.size + 1, 2, none⟩) l7).trans q2
          have t34 : w4.cell? ⟨w.heap.size + 1, 3, none⟩ = some (.slice Aa na ca) := (HB4.out.cell (p := ⟨w.heap.size + 1, 3, none⟩) l7).trans q3
          have v04 : w4.cell? ⟨w.heap.size + 1 + 1, 0, none⟩ = some (.int .i64 4) := (HB4.out.cell (p := ⟨w.heap.size + 1 + 1, 0, none⟩) l8).trans r0
          have v14 : w4.cell? ⟨w.heap.size + 1 + 1, 1, none⟩ = some (.int .i64 ii) := (HB4.out.cell (p := ⟨w.heap.size + 1 + 1, 1, none⟩) l8).trans r1
          have v24 : w4.cell? ⟨w.heap.size + 1 + 1, 2, none⟩ = some (.slice Ai ni ci) := (HB4.out.cell (p := ⟨w.heap.size + 1 + 1, 2, none⟩) l8).trans r2
          obtain ⟨z04, z14, z24⟩ := cells3 H124.out
          have f04 := frees H124.out 0
          have f14 := frees H124.out 1
          have f24 := frees H124.out 2
          clear hl hb4 ho4 he4 hn4 z03 z13 z23 f03 f13 f23 t23 t33 v03 v13 v23
          go_wp2_with fail
          refine (Op.enc_any A4 n4 c4 E4 _ _ (Nat.le_refl _) HO4.out.at HN4.out).mono ?_
          rw [HE4.out]
          rintro x w5 he
          obtain ⟨A5, c5, rfl, hb5, ho5, hc5⟩ := EncP.get he HEN.out HNB.out
          have HB45 := Lib.hid hb5
          have HB5 := Lib.hid (show Below W2.heap.size W2 w5 from HB4.out.trans (hb5.mono hs4))
          have hs5 := HB5.out.size
          have H125 := Lib.hid ((HB5.out.block _ l12).trans H12.out)
          have l75 : w.heap.size + 1 < w5.heap.size := by omega
          have l85 : w.heap.size + 1 + 1 < w5.heap.size := by omega
          have l125 : w.heap.size + 1 + 1 + 1 < w5.heap.size := by omega
          have t25 : w5.cell? ⟨w.heap.size + 1, 2, none⟩ = some (.int .i64 req) := (HB5.out.cell (p := ⟨w.heap.size + 1, 2, none⟩) l7).trans q2
          have t35 : w5.cell? ⟨w.heap.size + 1, 3, none⟩ = some (.slice Aa na ca) := (HB5.out.cell (p := ⟨w.heap.size + 1, 3, none⟩) l7).trans q3
          have v05 : w5.cell? ⟨w.heap.size + 1 + 1, 0, none⟩ = some (.int .i64 4) := (HB5.out.cell (p := ⟨w.heap.size + 1 + 1, 0, none⟩) l8).trans r0
          have v15 : w5.cell? ⟨w.heap.size + 1 + 1, 1, none⟩ = some (.int .i64 ii) := (HB5.out.cell (p := ⟨w.heap.size + 1 + 1, 1, none⟩) l8).trans r1
          have v25 : w5.cell? ⟨w.heap.size + 1 + 1, 2, none⟩ = some (.slice Ai ni ci) := (HB5.out.cell (p := ⟨w.heap.size + 1 + 1, 2, none⟩) l8).trans r2
          obtain ⟨z05, z15, z25⟩ := cells3 H125.out
          have f05 := frees H125.out 0
          have f15 := frees H125.out 1
          have f25 := frees H125.out 2
          clear he hb5 ho5 z04 z14 z24 f04 f14 f24 t24 t34 v04 v14 v24
          go_wp2_with fail
          obtain ⟨Wf, hWf⟩ : ∃ Wf : World, Wf = (((w5.setCell ⟨w.heap.size + 1 + 1 + 1, 0, none⟩ (.int .i64 0)).setCell ⟨w.heap.size + 1 + 1 + 1, 1, none⟩ (.int .i64 0)).setCell ⟨w.heap.size + 1 + 1 + 1, 2, none⟩ (.slice none 0 0)) := ⟨_, rfl⟩
          rw [← hWf]
          have hrow : Wf.heap[w.heap.size + 1 + 1 + 1]? = some (.cells #[.int .i64 0, .int .i64 0, .slice none 0 0] 32 (0, 0)) := by rw [hWf]; exact row3 H125.out rfl _ _ _
          have hgr : (w5).grownBy Wf (some (w.heap.size + 1 + 1 + 1)) := by rw [hWf]; exact grn
          have hbf : Below w.heap.size w Wf := Below.grown (HBW.out.trans (HB5.out.mono hszW)) hgr (Nat.le_trans hszW hs5) (fun k hk => by cases hk; omega)
          clear hWf z05 z15 z25 f05 f15 f25
          obtain ⟨u0, u1, u2⟩ := cells3 hrow
          refine bodyPost_ret (v := .tuple #[.int .i64 10, .agg #[.int .i64 0, .int .i64 0, .slice none 0 0], .slice A4 n4 c4]) (by simp [results, Tryz.results43, go_sem, u0, u1, u2]) rfl ?_
          exact ⟨none, 0, 0, A4, n4, c4, rfl, hbf, BytesO.nil _ _, fun _ => ((OwnOpts.otherx (⟨E4, HO4.out.below HB45.out, HE4.out⟩ : OptsO _ _ _ nx) hgr H125.out (by decide) (by decide))).base (Nat.le_trans hszW hs3)⟩
        · have h5' : (ee == 0) = false := by simpa using h5
          rw [if_neg (fun h => h5 h.2)]
          clear h5
          go_enter Tryz.func43, Tryz.ntmps43
          go_upto_region 1 with (fail)
          refine wp_w (fun W => W.heap[w.heap.size]? = some (.cells #[.slice Ar nr cr, .int .i64 mc, .int .i64 mt, .int .i64 mf, .int .i64 wt] 24 (0, 0)) ∧ W.heap[w.heap.size + 1]? = some (.cells #[.int .i64 st, .int .i64 id, .int .i64 req, .slice Aa na ca, .int .i64 cnt, .int .i64 tim, .int .i64 nak] 28 (0, 0)) ∧ W.heap[w.heap.size + 1 + 1]? = some (.cells #[.int .i64 4, .int .i64 ii, .slice Ai ni ci] 32 (0, 0)) ∧ W.heap[w.heap.size + 1 + 1 + 1]? = some (.cells #[.int .i64 0, .int .i64 0, .slice none 0 0] 32 (0, 0)) ∧ Below w.heap.size w W) ⟨by (repeat (first | ((refine heap_alloc_at _ _ _ ?_); (simp [go_sem]; done)) | ((refine (heap_ext _ _ _ _ ?_).trans ?_); (focus (simp [go_sem]; done))) | ((refine (heap_alloc_past _ _ _ ?_).trans ?_); (focus (simp [go_sem]; done))))), by (repeat (first | ((refine heap_alloc_at _ _ _ ?_); (simp [go_sem]; done)) | ((refine (heap_ext _ _ _ _ ?_).trans ?_); (focus (simp [go_sem]; done))) | ((refine (heap_alloc_past _ _ _ ?_).trans ?_); (focus (simp [go_sem]; done))))), by (repeat (first | ((refine heap_alloc_at _ _ _ ?_); (simp [go_sem]; done)) | ((refine (heap_ext _ _ _ _ ?_).trans ?_); (focus (simp [go_sem]; done))) | ((refine (heap_alloc_past _ _ _ ?_).trans ?_); (focus (simp [go_sem]; done))))), by (repeat (first | ((refine heap_alloc_at _ _ _ ?_); (simp [go_sem]; done)) | ((refine (heap_ext _ _ _ _ ?_).trans ?_); (focus (simp [go_sem]; done))) | ((refine (heap_alloc_past _ _ _ ?_).trans ?_); (focus (simp [go_sem]; done))))), by exact bel⟩ ?_
          rintro W2 ⟨h6, h7, h8, h12, hbw⟩
          have HBW := Lib.hid hbw
          have H12 := Lib.hid h12
          have hszW := hbw.size
          have l6 := lt_blk h6
          have l7 := lt_blk h7
          have l8 := lt_blk h8
          have l12 := lt_blk h12
          obtain ⟨p0, p1, p2, p3, p4⟩ := cells5 h6
          obtain ⟨q0, q1, q2, q3, q4, q5, q6⟩ := cells7 h7
          obtain ⟨r0, r1, r2⟩ := cells3 h8
          obtain ⟨z0, z1, z2⟩ := cells3 h12
          have f0 := frees h12 0
          have f1 := frees h12 1
          have f2 := frees h12 2
          clear h6 h7 h8 h12 hbw
          go_wp2_with fail
          refine (Op.dec_any Ai ni ci li _ B (by have := HB.out; omega) (HI.out.keep (HBW.out.mono HB.out)) HNI.out hci).mono ?_
          rintro x w3 hd
          obtain ⟨E3, A3, n3, c3, rfl, hb3, ho3, he3, hn3, hc3, hl3, hsd3⟩ := DecP.get hd HDR.out
          have HO3 := Lib.hid ho3
          have HE3 := Lib.hid he3
          have HN3 := Lib.hid hn3
          have HS3 := Lib.hid hsd3
          have HB3 := Lib.hid (show Below W2.heap.size W2 w3 from hb3)
          have hs3 := HB3.out.size
          have H123 := Lib.hid ((HB3.out.block _ l12).trans H12.out)
          have l73 : w.heap.size + 1 < w3.heap.size := by omega
          have l83 : w.heap.size + 1 + 1 < w3.heap.size := by omega
          have l123 : w.heap.size + 1 + 1 + 1 < w3.heap.size := by omega
          have t23 : w3.cell? ⟨w.heap.size + 1, 2, none⟩ = some (.int .i64 req) := (HB3.out.cell (p := ⟨w.heap.size + 1, 2, none⟩) l7).trans q2
          have t33 : w3.cell? ⟨w.heap.size + 1, 3, none⟩ = some (.slice Aa na ca) := (HB3.out.cell (p := ⟨w.heap.size + 1, 3, none⟩) l7).trans q3
          have v03 : w3.cell? ⟨w.heap.size + 1 + 1, 0, none⟩ = some (.int .i64 4) := (HB3.out.cell (p := ⟨w.heap.size + 1 + 1, 0, none⟩) l8).trans r0
          have v13 : w3.cell? ⟨w.heap.size + 1 + 1, 1, none⟩ = some (.int .i64 ii) := (HB3.out.cell (p := ⟨w.heap.size + 1 + 1, 1, none⟩) l8).trans r1
          have v23 : w3.cell? ⟨w.heap.size + 1 + 1, 2, none⟩ = some (.slice Ai ni ci) := (HB3.out.cell (p := ⟨w.heap.size + 1 + 1, 2, none⟩) l8).trans r2
          obtain ⟨z03, z13, z23⟩ := cells3 H123.out
          have f03 := frees H123.out 0
          have f13 := frees H123.out 1
          have f23 := frees H123.out 2
          clear hd hb3 ho3 he3 hn3 hsd3 p0 p1 p2 p3 p4 q0 q1 q4 q5 q6 z0 z1 z2 f0 f1 f2
          go_wp2_with fail
          refine (Ne.learn_any Aa A3 na n3 ca c3 4 E E3 _ w3.heap.size (Nat.le_refl _) ((HE.out.keep ((HBW.out.trans (HB3.out.mono hszW)).mono HB.out)).more (by have := HB.out; omega)) HO3.out.at HNA.out HN3.out hc3 hla (by omega) HDA.out (fun e he => by have := HS3.out e he; omega)).mono ?_
          rw [HL.out, HE3.out, HLN.out]
          rintro x w4 hl
          obtain ⟨E4, A4, n4, c4, rfl, he4, hn4, hc4, hb4, ho4⟩ := Ne.RowsB.get hl
          have HO4 := Lib.hid ho4
          have HE4 := Lib.hid he4
          have HN4 := Lib.hid hn4
          have HB34 := Lib.hid hb4
          have HB4 := Lib.hid (show Below W2.heap.size W2 w4 from HB3.out.trans (hb4.mono hs3))
          have hs4 := HB4.out.size
          have H124 := Lib.hid ((HB4.out.block _ l12).trans H12.out)
          have l74 : w.heap.size + 1 < w4.heap.size := by omega
          have l84 : w.heap.size + 1 + 1 < w4.heap.size := by omega
          have l124 : w.heap.size + 1 + 1 + 1 < w4.heap.size := by omega
          have t24 : w4.cell? ⟨w.heap.size + 1, 2, none⟩ = some (.int .i64 req) := (HB4.out.cell (p := ⟨w.heap.size + 1, 2, none⟩) l7).trans q2
          have t34 : w4.cell? ⟨w.heap.size + 1, 3, none⟩ = some (.slice Aa na ca) := (HB4.out.cell (p := ⟨w.heap.size + 1, 3, none⟩) l7).trans q3
          have v04 : w4.cell? ⟨w.heap.size + 1 + 1, 0, none⟩ = some (.int .i64 4) := (HB4.out.cell (p := ⟨w.heap.size + 1 + 1, 0, none⟩) l8).trans r0
          have v14 : w4.cell? ⟨w.heap.size + 1 + 1, 1, none⟩ = some (.int .i64 ii) := (HB4.out.cell (p := ⟨w.heap.size + 1 + 1, 1, none⟩) l8).trans r1
          have v24 : w4.cell? ⟨w.heap.size + 1 + 1, 2, none⟩ = some (.slice Ai ni ci) := (HB4.out.cell (p := ⟨w.heap.size + 1 + 1, 2, none⟩) l8).trans r2
          obtain ⟨z04, z14, z24⟩ := cells3 H124.out
          have f04 := frees H124.out 0
          have f14 := frees H124.out 1
          have f24 := frees H124.out 2
          clear hl hb4 ho4 he4 hn4 z03 z13 z23 f03 f13 f23 t23 t33 v03 v13 v23
          go_wp2_with fail
          refine (Op.enc_any A4 n4 c4 E4 _ _ (Nat.le_refl _) HO4.out.at HN4.out).mono ?_
          rw [HE4.out]
          rintro x w5 he
          obtain ⟨A5, c5, rfl, hb5, ho5, hc5⟩ := EncP.get he HEN.out HNB.out
          have HB45 := Lib.hid hb5
          have HB5 := Lib.hid (show Below W2.heap.size W2 w5 from HB4.out.trans (hb5.mono hs4))
          have hs5 := HB5.out.size
          have H125 := Lib.hid ((HB5.out.block _ l12).trans H12.out)
          have l75 : w.heap.size + 1 < w5.heap.size := by omega
          have l85 : w.heap.size + 1 + 1 < w5.heap.size := by omega
          have l125 : w.heap.size + 1 + 1 + 1 < w5.heap.size := by omega
          have t25 : w5.cell? ⟨w.heap.size + 1, 2, none⟩ = some (.int .i64 req) := (HB5.out.cell (p := ⟨w.heap.size + 1, 2, none⟩) l7).trans q2
          have t35 : w5.cell? ⟨w.heap.size + 1, 3, none⟩ = some (.slice Aa na ca) := (HB5.out.cell (p := ⟨w.heap.size + 1, 3, none⟩) l7).trans q3
          have v05 : w5.cell? ⟨w.heap.size + 1 + 1, 0, none⟩ = some (.int .i64 4) := (HB5.out.cell (p := ⟨w.heap.size + 1 + 1, 0, none⟩) l8).trans r0
          have v15 : w5.cell? ⟨w.heap.size + 1 + 1, 1, none⟩ = some (.int .i64 ii) := (HB5.out.cell (p := ⟨w.heap.size + 1 + 1, 1, none⟩) l8).trans r1
          have v25 : w5.cell? ⟨w.heap.size + 1 + 1, 2, none⟩ = some (.slice Ai ni ci) := (HB5.out.cell (p := ⟨w.heap.size + 1 + 1, 2, none⟩) l8).trans r2
          obtain ⟨z05, z15, z25⟩ := cells3 H125.out
          have f05 := frees H125.out 0
          have f15 := frees H125.out 1
          have f25 := frees H125.out 2
          clear he hb5 ho5 z04 z14 z24 f04 f14 f24 t24 t34 v04 v14 v24
          go_wp2_with fail
          obtain ⟨Wf, hWf⟩ : ∃ Wf : World, Wf = (((w5.setCell ⟨w.heap.size + 1 + 1 + 1, 0, none⟩ (.int .i64 0)).setCell ⟨w.heap.size + 1 + 1 + 1, 1, none⟩ (.int .i64 0)).setCell ⟨w.heap.size + 1 + 1 + 1, 2, none⟩ (.slice none 0 0)) := ⟨_, rfl⟩
          rw [← hWf]
          have hrow : Wf.heap[w.heap.size + 1 + 1 + 1]? = some (.cells #[.int .i64 0, .int .i64 0, .slice none 0 0] 32 (0, 0)) := by rw [hWf]; exact row3 H125.out rfl _ _ _
          have hgr : (w5).grownBy Wf (some (w.heap.size + 1 + 1 + 1)) := by rw [hWf]; exact grn
          have hbf : Below w.heap.size w Wf := Below.grown (HBW.out.trans (HB5.out.mono hszW)) hgr (Nat.le_trans hszW hs5) (fun k hk => by cases hk; omega)
          clear hWf z05 z15 z25 f05 f15 f25
          obtain ⟨u0, u1, u2⟩ := cells3 hrow
          refine bodyPost_ret (v := .tuple #[.int .i64 0, .agg #[.int .i64 0, .int .i64 0, .slice none 0 0], .slice none 0 0]) (by simp [results, Tryz.results43, go_sem, u0, u1, u2]) rfl ?_
          exact ⟨_, _, _, rfl, hbf⟩
    · have h0' : (ye != 0) = true := by simpa using h0
      have HO0 := Lib.hid (show learnedO ⟨st, id, req, L, cnt, tim, nak⟩ ⟨4, ii, li⟩ = none by unfold learnedO; dsimp only; rw [hd]; dsimp only; rw [if_pos (.inr h0)])
      rw [HO0.out]
      clear hd h1 h0 HO0
      go_enter Tryz.func43, Tryz.ntmps43
      go_upto_region 1 with (fail)
      refine wp_w (fun W => W.heap[w.heap.size]? = some (.cells #[.slice Ar nr cr, .int .i64 mc, .int .i64 mt, .int .i64 mf, .int .i64 wt] 24 (0, 0)) ∧ W.heap[w.heap.size + 1]? = some (.cells #[.int .i64 st, .int .i64 id, .int .i64 req, .slice Aa na ca, .int .i64 cnt, .int .i64 tim, .int .i64 nak] 28 (0, 0)) ∧ W.heap[w.heap.size + 1 + 1]? = some (.cells #[.int .i64 4, .int .i64 ii, .slice Ai ni ci] 32 (0, 0)) ∧ W.heap[w.heap.size + 1 + 1 + 1]? = some (.cells #[.int .i64 0, .int .i64 0, .slice none 0 0] 32 (0, 0)) ∧ Below w.heap.size w W) ⟨by (repeat (first | ((refine heap_alloc_at _ _ _ ?_); (simp [go_sem]; done)) | ((refine (heap_ext _ _ _ _ ?_).trans ?_); (focus (simp [go_sem]; done))) | ((refine (heap_alloc_past _ _ _ ?_).trans ?_); (focus (simp [go_sem]; done))))), by (repeat (first | ((refine heap_alloc_at _ _ _ ?_); (simp [go_sem]; done)) | ((refine (heap_ext _ _ _ _ ?_).trans ?_); (focus (simp [go_sem]; done))) | ((refine (heap_alloc_past _ _ _ ?_).trans ?_); (focus (simp [go_sem]; done))))), by (repeat (first | ((refine heap_alloc_at _ _ _ ?_); (simp [go_sem]; done)) | ((refine (heap_ext _ _ _ _ ?_).trans ?_); (focus (simp [go_sem]; done))) | ((refine (heap_alloc_past _ _ _ ?_).trans ?_); (focus (simp [go_sem]; done))))), by (repeat (first | ((refine heap_alloc_at _ _ _ ?_); (simp [go_sem]; done)) | ((refine (heap_ext _ _ _ _ ?_).trans ?_); (focus (simp [go_sem]; done))) | ((refine (heap_alloc_past _ _ _ ?_).trans ?_); (focus (simp [go_sem]; done))))), by exact bel⟩ ?_
      rintro W2 ⟨h6, h7, h8, h12, hbw⟩
      have HBW := Lib.hid hbw
      have H12 := Lib.hid h12
      have hszW := hbw.size
      have l6 := lt_blk h6
      have l7 := lt_blk h7
      have l8 := lt_blk h8
      have l12 := lt_blk h12
      obtain ⟨p0, p1, p2, p3, p4⟩ := cells5 h6
      obtain ⟨q0, q1, q2, q3, q4, q5, q6⟩ := cells7 h7
      obtain ⟨r0, r1, r2⟩ := cells3 h8
      obtain ⟨z0, z1, z2⟩ := cells3 h12
      have f0 := frees h12 0
      have f1 := frees h12 1
      have f2 := frees h12 2
      clear h6 h7 h8 h12 hbw
      go_wp2_with fail
      refine (Op.dec_any Ai ni ci li _ B (by have := HB.out; omega) (HI.out.keep (HBW.out.mono HB.out)) HNI.out hci).mono ?_
      rintro x w3 hd
      obtain ⟨E3, A3, n3, c3, rfl, hb3, ho3, he3, hn3, hc3, hl3, hsd3⟩ := DecP.get hd HDR.out
      have HO3 := Lib.hid ho3
      have HE3 := Lib.hid he3
      have HN3 := Lib.hid hn3
      have HS3 := Lib.hid hsd3
      have HB3 := Lib.hid (show Below W2.heap.size W2 w3 from hb3)
      have hs3 := HB3.out.size
      have H123 := Lib.hid ((HB3.out.block _ l12).trans H12.out)
      have l73 : w.heap.size + 1 < w3.heap.size := by omega
      have l83 : w.heap.size + 1 + 1 < w3.heap.size := by omega
      have l123 : w.heap.size + 1 + 1 + 1 < w3.heap.size := by omega
      have t23 : w3.cell? ⟨w.heap.size + 1, 2, none⟩ = some (.int .i64 req) := (HB3.out.cell (p := ⟨w.heap.size + 1, 2, none⟩) l7).trans q2
      have t33 : w3.cell? ⟨w.heap.size + 1, 3, none⟩ = some (.slice Aa na ca) := (HB3.out.cell (p := ⟨w.heap.size + 1, 3, none⟩) l7).trans q3
      have v03 : w3.cell? ⟨w.heap.size + 1 + 1, 0, none⟩ = some (.int .i64 4) := (HB3.out.cell (p := ⟨w.heap.size + 1 + 1, 0, none⟩) l8).trans r0
      have v13 : w3.cell? ⟨w.heap.size + 1 + 1, 1, none⟩ = some (.int .i64 ii) := (HB3.out.cell (p := ⟨w.heap.size + 1 + 1, 1, none⟩) l8).trans r1
      have v23 : w3.cell? ⟨w.heap.size + 1 + 1, 2, none⟩ = some (.slice Ai ni ci) := (HB3.out.cell (p := ⟨w.heap.size + 1 + 1, 2, none⟩) l8).trans r2
      obtain ⟨z03, z13, z23⟩ := cells3 H123.out
      have f03 := frees H123.out 0
      have f13 := frees H123.out 1
      have f23 := frees H123.out 2
      clear hd hb3 ho3 he3 hn3 hsd3 p0 p1 p2 p3 p4 q0 q1 q4 q5 q6 z0 z1 z2 f0 f1 f2
      go_wp2_with fail
      obtain ⟨Wf, hWf⟩ : ∃ Wf : World, Wf = (((w3.setCell ⟨w.heap.size + 1 + 1 + 1, 0, none⟩ (.int .i64 0)).setCell ⟨w.heap.size + 1 + 1 + 1, 1, none⟩ (.int .i64 0)).setCell ⟨w.heap.size + 1 + 1 + 1, 2, none⟩ (.slice none 0 0)) := ⟨_, rfl⟩
      rw [← hWf]
      have hrow : Wf.heap[w.heap.size + 1 + 1 + 1]? = some (.cells #[.int .i64 0, .int .i64 0, .slice none 0 0] 32 (0, 0)) := by rw [hWf]; exact row3 H123.out rfl _ _ _
      have hgr : (w3).grownBy Wf (some (w.heap.size + 1 + 1 + 1)) := by rw [hWf]; exact grn
      have hbf : Below w.heap.size w Wf := Below.grown (HBW.out.trans (HB3.out.mono hszW)) hgr (Nat.le_trans hszW hs3) (fun k hk => by cases hk; omega)
      clear hWf z03 z13 z23 f03 f13 f23
      obtain ⟨u0, u1, u2⟩ := cells3 hrow
      refine bodyPost_ret (v := .tuple #[.int .i64 0, .agg #[.int .i64 0, .int .i64 0, .slice none 0 0], .slice none 0 0]) (by simp [results, Tryz.results43, go_sem, u0, u1, u2]) rfl ?_
      exact ⟨_, _, _, rfl, hbf⟩
  · have h1' : (ii != req) = true := by simpa using h1
    have HO0 := Lib.hid (show learnedO ⟨st, id, req, L, cnt, tim, nak⟩ ⟨4, ii, li⟩ = none by unfold learnedO; rw [if_pos (.inl h1)])
    rw [HO0.out]
    clear hd h1 HO0
    go_enter Tryz.func43, Tryz.ntmps43
    go_upto_region 1 with (fail)
    refine wp_w (fun W => W.heap[w.heap.size]? = some (.cells #[.slice Ar nr cr, .int .i64 mc, .int .i64 mt, .int .i64 mf, .int .i64 wt] 24 (0, 0)) ∧ W.heap[w.heap.size + 1]? = some (.cells #[.int .i64 st, .int .i64 id, .int .i64 req, .slice Aa na ca, .int .i64 cnt, .int .i64 tim, .int .i64 nak] 28 (0, 0)) ∧ W.heap[w.heap.size + 1 + 1]? = some (.cells #[.int .i64 4, .int .i64 ii, .slice Ai ni ci] 32 (0, 0)) ∧ W.heap[w.heap.size + 1 + 1 + 1]? = some (.cells #[.int .i64 0, .int .i64 0, .slice none 0 0] 32 (0, 0)) ∧ Below w.heap.size w W) ⟨by (repeat (first | ((refine heap_alloc_at _ _ _ ?_); (simp [go_sem]; done)) | ((refine (heap_ext _ _ _ _ ?_).trans ?_); (focus (simp [go_sem]; done))) | ((refine (heap_alloc_past _ _ _ ?_).trans ?_); (focus (simp [go_sem]; done))))), by (repeat (first | ((refine heap_alloc_at _ _ _ ?_); (simp [go_sem]; done)) | ((refine (heap_ext _ _ _ _ ?_).trans ?_); (focus (simp [go_sem]; done))) | ((refine (heap_alloc_past _ _ _ ?_).trans ?_); (focus (simp [go_sem]; done))))), by (repeat (first | ((refine heap_alloc_at _ _ _ ?_); (simp [go_sem]; done)) | ((refine (heap_ext _ _ _ _ ?_).trans ?_); (focus (simp [go_sem]; done))) | ((refine (heap_alloc_past _ _ _ ?_).trans ?_); (focus (simp [go_sem]; done))))), by (repeat (first | ((refine heap_alloc_at _ _ _ ?_); (simp [go_sem]; done)) | ((refine (heap_ext _ _ _ _ ?_).trans ?_); (focus (simp [go_sem]; done))) | ((refine (heap_alloc_past _ _ _ ?_).trans ?_); (focus (simp [go_sem]; done))))), by exact bel⟩ ?_
    rintro W2 ⟨h6, h7, h8, h12, hbw⟩
    have HBW := Lib.hid hbw
    have H12 := Lib.hid h12
    have hszW := hbw.size
    have l6 := lt_blk h6
    have l7 := lt_blk h7
    have l8 := lt_blk h8
    have l12 := lt_blk h12
    obtain ⟨p0, p1, p2, p3, p4⟩ := cells5 h6
    obtain ⟨q0, q1, q2, q3, q4, q5, q6⟩ := cells7 h7
    obtain ⟨r0, r1, r2⟩ := cells3 h8
    obtain ⟨z0, z1, z2⟩ := cells3 h12
    have f0 := frees h12 0
    have f1 := frees h12 1
    have f2 := frees h12 2
    clear h6 h7 h8 h12 hbw
    go_wp2_with fail
    refine (Op.dec_any Ai ni ci li _ B (by have := HB.out; omega) (HI.out.keep (HBW.out.mono HB.out)) HNI.out hci).mono ?_
    rintro x w3 hd
    obtain ⟨E3, A3, n3, c3, rfl, hb3, ho3, he3, hn3, hc3, hl3, hsd3⟩ := DecP.get hd HDR.out
    have HO3 := Lib.hid ho3
    have HE3 := Lib.hid he3
    have HN3 := Lib.hid hn3
    have HS3 := Lib.hid hsd3
    have HB3 := Lib.hid (show Below W2.heap.size W2 w3 from hb3)
    have hs3 := HB3.out.size
    have H123 := Lib.hid ((HB3.out.block _ l12).trans H12.out)
    have l73 : w.heap.size + 1 < w3.heap.size := by omega
    have l83 : w.heap.size + 1 + 1 < w3.heap.size := by omega
    have l123 : w.heap.size + 1 + 1 + 1 < w3.heap.size := by omega
    have t23 : w3.cell? ⟨w.heap.size + 1, 2, none⟩ = some (.int .i64 req) := (HB3.out.cell (p := ⟨w.heap.size + 1, 2, none⟩) l7).trans q2
    have t33 : w3.cell? ⟨w.heap.size + 1, 3, none⟩ = some (.slice Aa na ca) := (HB3.out.cell (p := ⟨w.heap.size + 1, 3, none⟩) l7).trans q3
    have v03 : w3.cell? ⟨w.heap.size + 1 + 1, 0, none⟩ = some (.int .i64 4) := (HB3.out.cell (p := ⟨w.heap.size + 1 + 1, 0, none⟩) l8).trans r0
    have v13 : w3.cell? ⟨w.heap.size + 1 + 1, 1, none⟩ = some (.int .i64 ii) := (HB3.out.cell (p := ⟨w.heap.size + 1 + 1, 1, none⟩) l8).trans r1
    have v23 : w3.cell? ⟨w.heap.size + 1 + 1, 2, none⟩ = some (.slice Ai ni ci) := (HB3.out.cell (p := ⟨w.heap.size + 1 + 1, 2, none⟩) l8).trans r2
    obtain ⟨z03, z13, z23⟩ := cells3 H123.out
    have f03 := frees H123.out 0
    have f13 := frees H123.out 1
    have f23 := frees H123.out 2
    clear hd hb3 ho3 he3 hn3 hsd3 p0 p1 p2 p3 p4 q0 q1 q4 q5 q6 z0 z1 z2 f0 f1 f2
    go_wp2_with fail
    obtain ⟨Wf, hWf⟩ : ∃ Wf : World, Wf = (((w3.setCell ⟨w.heap.size + 1 + 1 + 1, 0, none⟩ (.int .i64 0)).setCell ⟨w.heap.size + 1 + 1 + 1, 1, none⟩ (.int .i64 0)).setCell ⟨w.heap.size + 1 + 1 + 1, 2, none⟩ (.slice none 0 0)) := ⟨_, rfl⟩
    rw [← hWf]
    have hrow : Wf.heap[w.heap.size + 1 + 1 + 1]? = some (.cells #[.int .i64 0, .int .i64 0, .slice none 0 0] 32 (0, 0)) := by rw [hWf]; exact row3 H123.out rfl _ _ _
    have hgr : (w3).grownBy Wf (some (w.heap.size + 1 + 1 + 1)) := by rw [hWf]; exact grn
    have hbf : Below w.heap.size w Wf := Below.grown (HBW.out.trans (HB3.out.mono hszW)) hgr (Nat.le_trans hszW hs3) (fun k hk => by cases hk; omega)
    clear hWf z03 z13 z23 f03 f13 f23
    obtain ⟨u0, u1, u2⟩ := cells3 hrow
    refine bodyPost_ret (v := .tuple #[.int .i64 0, .agg #[.int .i64 0, .int .i64 0, .slice none 0 0], .slice none 0 0]) (by simp [results, Tryz.results43, go_sem, u0, u1, u2]) rfl ?_
    exact ⟨_, _, _, rfl, hbf⟩
set_option maxRecDepth 100000 in
set_option maxHeartbeats 4000000 in
theorem which_7 (Ar Aa Ai : Option Addr) (nr cr na ca ni ci : Nat) (R : List Rl) (mc mt mf wt st id req cnt tim nak ii : Int) (E : List Ent) (li : List UInt8) (w : World) (B : Nat) (hB : B ≤ w.heap.size) (hR : RulesAt w B Ar R) (hnr : nr = R.length) (hlr : nr ≤ 1000000) (hE : OptsAt w B Aa E) (hna : na = E.length) (hla : na ≤ 1000000) (hda : ∀ e ∈ E, e.d.length ≤ 1000000) (hI : At w B Ai (li.map bv)) (hni : ni = li.length) (hci : ni ≤ ci) : Calls Tryz.prog 43 #[.agg #[.slice Ar nr cr, .int .i64 mc, .int .i64 mt, .int .i64 mf, .int .i64 wt], .agg #[.int .i64 st, .int .i64 id, .int .i64 req, .slice Aa na ca, .int .i64 cnt, .int .i64 tim, .int .i64 nak], .agg #[.int .i64 7, .int .i64 ii, .slice Ai ni ci]] w (WhichP (whichO ⟨R, mc, mt, mf, wt⟩ ⟨st, id, req, E.map Ent.o, cnt, tim, nak⟩ ⟨7, ii, li⟩) w) := by
  have HB := Lib.hid hB
  have HR := Lib.hid hR
  have HNR := Lib.hid hnr
  have HE := Lib.hid hE
  have HNA := Lib.hid hna
  have HDA := Lib.hid hda
  have HI := Lib.hid hI
  have HNI := Lib.hid hni
  obtain ⟨L, hL⟩ : ∃ L, E.map Ent.o = L := ⟨_, rfl⟩
  have HL := Lib.hid hL
  rw [hL]
  clear hB hR hnr hE hna hda hL hI hni
  by_cases hl : li = []
  · have e0 : ((ni : Int) == 0) = true := by have := HNI.out; rw [hl] at this; simp at this; simp [this]
    have HO := Lib.hid (show whichO ⟨R, mc, mt, mf, wt⟩ ⟨st, id, req, L, cnt, tim, nak⟩ ⟨7, ii, li⟩ = none by rw [hl]; rfl)
    rw [HO.out]
    clear hl
    go_enter Tryz.func43, Tryz.ntmps43
    go_upto_region 1 with (fail)
    refine wp_w (fun W => W.heap[w.heap.size]? = some (.cells #[.slice Ar nr cr, .int .i64 mc, .int .i64 mt, .int .i64 mf, .int .i64 wt] 24 (0, 0)) ∧ W.heap[w.heap.size + 1]? = some (.cells #[.int .i64 st, .int .i64 id, .int .i64 req, .slice Aa na ca, .int .i64 cnt, .int .i64 tim, .int .i64 nak] 28 (0, 0)) ∧ W.heap[w.heap.size + 1 + 1]? = some (.cells #[.int .i64 7, .int .i64 ii, .slice Ai ni ci] 32 (0, 0)) ∧ W.heap[w.heap.size + 1 + 1 + 1]? = some (.cells #[.int .i64 0, .int .i64 0, .slice none 0 0] 32 (0, 0)) ∧ Below w.heap.size w W) ⟨by (repeat (first | ((refine heap_alloc_at _ _ _ ?_); (simp [go_sem]; done)) | ((refine (heap_ext _ _ _ _ ?_).trans ?_); (focus (simp [go_sem]; done))) | ((refine (heap_alloc_past _ _ _ ?_).trans ?_); (focus (simp [go_sem]; done))))), by (repeat (first | ((refine heap_alloc_at _ _ _ ?_); (simp [go_sem]; done)) | ((refine (heap_ext _ _ _ _ ?_).trans ?_); (focus (simp [go_sem]; done))) | ((refine (heap_alloc_past _ _ _ ?_).trans ?_); (focus (simp [go_sem]; done))))), by (repeat (first | ((refine heap_alloc_at _ _ _ ?_); (simp [go_sem]; done)) | ((refine (heap_ext _ _ _ _ ?_).trans ?_); (focus (simp [go_sem]; done))) | ((refine (heap_alloc_past _ _ _ ?_).trans ?_); (focus (simp [go_sem]; done))))), by (repeat (first | ((refine heap_alloc_at _ _ _ ?_); (simp [go_sem]; done)) | ((refine (heap_ext _ _ _ _ ?_).trans ?_); (focus (simp [go_sem]; done))) | ((refine (heap_alloc_past _ _ _ ?_).trans ?_); (focus (simp [go_sem]; done))))), by exact bel⟩ ?_
    rintro W2 ⟨h6, h7, h8, h12, hbw⟩
    have HBW := Lib.hid hbw
    have H12 := Lib.hid h12
    have hszW := hbw.size
    have l6 := lt_blk h6
    have l7 := lt_blk h7
    have l8 := lt_blk h8
    have l12 := lt_blk h12
    obtain ⟨p0, p1, p2, p3, p4⟩ := cells5 h6
    obtain ⟨q0, q1, q2, q3, q4, q5, q6⟩ := cells7 h7
    obtain ⟨r0, r1, r2⟩ := cells3 h8
    obtain ⟨z0, z1, z2⟩ := cells3 h12
    have f0 := frees h12 0
    have f1 := frees h12 1
    have f2 := frees h12 2
    clear h6 h7 h8 h12 hbw
    go_wp2_with fail
    obtain ⟨Wf, hWf⟩ : ∃ Wf : World, Wf = (((W2.setCell ⟨w.heap.size + 1 + 1 + 1, 0, none⟩ (.int .i64 0)).setCell ⟨w.heap.size + 1 + 1 + 1, 1, none⟩ (.int .i64 0)).setCell ⟨w.heap.size + 1 + 1 + 1, 2, none⟩ (.slice none 0 0)) := ⟨_, rfl⟩
    rw [← hWf]
    have hrow : Wf.heap[w.heap.size + 1 + 1 + 1]? = some (.cells #[.int .i64 0, .int .i64 0, .slice none 0 0] 32 (0, 0)) := by rw [hWf]; exact row3 H12.out rfl _ _ _
    have hgr : (W2).grownBy Wf (some (w.heap.size + 1 + 1 + 1)) := by rw [hWf]; first | with_reducible exact grown_exts grn (by simp) | exact grn
    have hbf : Below w.heap.size w Wf := Below.grown (by have := HBW.out; exact bel) hgr (by first | exact hszW | (simp [size_ext, grow]; omega)) (fun k hk => by cases hk; omega)
    clear hWf f0 f1 f2 z0 z1 z2
    obtain ⟨u0, u1, u2⟩ := cells3 hrow
    refine bodyPost_ret (v := .tuple #[.int .i64 0, .agg #[.int .i64 0, .int .i64 0, .slice none 0 0], .slice none 0 0]) (by simp [results, Tryz.results43, go_sem, u0, u1, u2]) rfl ?_
    exact ⟨_, _, _, rfl, hbf⟩
  · obtain ⟨x, r, hl2⟩ := List.exists_cons_of_ne_nil hl
    obtain ⟨b, o, hAi, hbB, hcc⟩ := HI.out.get (by rw [hl2]; simp)
    have HX := Lib.hid (hcc 0 (bv x) (by rw [hl2]; rfl))
    clear hcc
    obtain ⟨xn, hxn⟩ : ∃ xn : Nat, x.toNat = xn := ⟨_, rfl⟩
    have hx256 : xn < 256 := by have := x.toNat_lt; omega
    have hbv : bv x = .int .u8 (xn : Int) := by rw [← hxn]; rfl
    rw [hbv] at HX
    have jj0 : (0 : Int) < (ni : Int) := by have := HNI.out; rw [hl2] at this; simp at this; omega
    have e0 : ((ni : Int) == 0) = false := by simp; omega
    have e1 : IntKind.i64.wrap (xn : Int) = (xn : Int) := IntWalk.i64_in _ (by omega)
    have HO0 := Lib.hid (show whichO ⟨R, mc, mt, mf, wt⟩ ⟨st, id, req, L, cnt, tim, nak⟩ ⟨7, ii, li⟩ = if 1 ≤ xn ∧ xn ≤ 7 then some (15, ⟨0, 0, []⟩, L) else some (14, ⟨0, 0, []⟩, L) by rw [hl2, ← hxn]; rfl)
    rw [HO0.out]
    have HAI := Lib.hid hAi
    clear HO0 hbv hxn hl hl2 hAi
    by_cases h17 : 1 ≤ xn ∧ xn ≤ 7
    · rw [if_pos h17]
      have HIN := Lib.hid (show inB (xn : Int) 1 7 = true by simp [inB]; omega)
      clear h17
      go_enter Tryz.func43, Tryz.ntmps43
      go_upto_region 1 with (fail)
      refine wp_w (fun W => W.heap[w.heap.size]? = some (.cells #[.slice Ar nr cr, .int .i64 mc, .int .i64 mt, .int .i64 mf, .int .i64 wt] 24 (0, 0)) ∧ W.heap[w.heap.size + 1]? = some (.cells #[.int .i64 st, .int .i64 id, .int .i64 req, .slice Aa na ca, .int .i64 cnt, .int .i64 tim, .int .i64 nak] 28 (0, 0)) ∧ W.heap[w.heap.size + 1 + 1]? = some (.cells #[.int .i64 7, .int .i64 ii, .slice Ai ni ci] 32 (0, 0)) ∧ W.heap[w.heap.size + 1 + 1 + 1]? = some (.cells #[.int .i64 0, .int .i64 0, .slice none 0 0] 32 (0, 0)) ∧ Below w.heap.size w W) ⟨by (repeat (first | ((refine heap_alloc_at _ _ _ ?_); (simp [go_sem]; done)) | ((refine (heap_ext _ _ _ _ ?_).trans ?_); (focus (simp [go_sem]; done))) | ((refine (heap_alloc_past _ _ _ ?_).trans ?_); (focus (simp [go_sem]; done))))), by (repeat (first | ((refine heap_alloc_at _ _ _ ?_); (simp [go_sem]; done)) | ((refine (heap_ext _ _ _ _ ?_).trans ?_); (focus (simp [go_sem]; done))) | ((refine (heap_alloc_past _ _ _ ?_).trans ?_); (focus (simp [go_sem]; done))))), by (repeat (first | ((refine heap_alloc_at _ _ _ ?_); (simp [go_sem]; done)) | ((refine (heap_ext _ _ _ _ ?_).trans ?_); (focus (simp [go_sem]; done))) | ((refine (heap_alloc_past _ _ _ ?_).trans ?_); (focus (simp [go_sem]; done))))), by (repeat (first | ((refine heap_alloc_at _ _ _ ?_); (simp [go_sem]; done)) | ((refine (heap_ext _ _ _ _ ?_).trans ?_); (focus (simp [go_sem]; done))) | ((refine (heap_alloc_past _ _ _ ?_).trans ?_); (focus (simp [go_sem]; done))))), by exact bel⟩ ?_
      rintro W2 ⟨h6, h7, h8, h12, hbw⟩
      have HBW := Lib.hid hbw
      have H12 := Lib.hid h12
      have hszW := hbw.size
      have l6 := lt_blk h6
      have l7 := lt_blk h7
      have l8 := lt_blk h8
      have l12 := lt_blk h12
      obtain ⟨p0, p1, p2, p3, p4⟩ := cells5 h6
      obtain ⟨q0, q1, q2, q3, q4, q5, q6⟩ := cells7 h7
      obtain ⟨r0, r1, r2⟩ := cells3 h8
      obtain ⟨z0, z1, z2⟩ := cells3 h12
      have f0 := frees h12 0
      have f1 := frees h12 1
      have f2 := frees h12 2
      clear h6 h7 h8 h12 hbw
      have hAi := HAI.out
      subst hAi
      have hbz : b < W2.heap.size := by have := HB.out; omega
      have cx : W2.cell? ⟨b, o + 0, none⟩ = some (.int .u8 (xn : Int)) := (HBW.out.cell (p := ⟨b, o + 0, none⟩) (by have := HB.out; show b < _; omega)).trans HX.out
      simp only [Nat.add_zero] at cx
      go_wp2_with (go_at_call 41; refine (within_t _ _ _ _ HIN.out).mono ?_; rintro e w1 ⟨rfl, rfl⟩)
      obtain ⟨Wf, hWf⟩ : ∃ Wf : World, Wf = (((W2.setCell ⟨w.heap.size + 1 + 1 + 1, 0, none⟩ (.int .i64 0)).setCell ⟨w.heap.size + 1 + 1 + 1, 1, none⟩ (.int .i64 0)).setCell ⟨w.heap.size + 1 + 1 + 1, 2, none⟩ (.slice none 0 0)) := ⟨_, rfl⟩
      rw [← hWf]
      have hrow : Wf.heap[w.heap.size + 1 + 1 + 1]? = some (.cells #[.int .i64 0, .int .i64 0, .slice none 0 0] 32 (0, 0)) := by rw [hWf]; exact row3 H12.out rfl _ _ _
      have hgr : (W2).grownBy Wf (some (w.heap.size + 1 + 1 + 1)) := by rw [hWf]; first | with_reducible exact grown_exts grn (by simp) | exact grn
      have hbf : Below w.heap.size w Wf := Below.grown (by have := HBW.out; exact bel) hgr (by first | exact hszW | (simp [size_ext, grow]; omega)) (fun k hk => by cases hk; omega)
      clear hWf f0 f1 f2 z0 z1 z2
      obtain ⟨u0, u1, u2⟩ := cells3 hrow
      refine bodyPost_ret (v := .tuple #[.int .i64 15, .agg #[.int .i64 0, .int .i64 0, .slice none 0 0], .slice none 0 0]) (by simp [results, Tryz.results43, go_sem, u0, u1, u2]) rfl ?_
      exact ⟨none, 0, 0, none, 0, 0, rfl, hbf, BytesO.nil _ _, fun h => by cases h⟩
    · rw [if_neg h17]
      have HIN := Lib.hid (show inB (xn : Int) 1 7 = false by simp [inB]; omega)
      clear h17
      go_enter Tryz.func43, Tryz.ntmps43
      go_upto_region 1 with (fail)
      refine wp_w (fun W => W.heap[w.heap.size]? = some (.cells #[.slice Ar nr cr, .int .i64 mc, .int .i64 mt, .int .i64 mf, .int .i64 wt] 24 (0, 0)) ∧ W.heap[w.heap.size + 1]? = some (.cells #[.int .i64 st, .int .i64 id, .int .i64 req, .slice Aa na ca, .int .i64 cnt, .int .i64 tim, .int .i64 nak] 28 (0, 0)) ∧ W.heap[w.heap.size + 1 + 1]? = some (.cells #[.int .i64 7, .int .i64 ii, .slice Ai ni ci] 32 (0, 0)) ∧ W.heap[w.heap.size + 1 + 1 + 1]? = some (.cells #[.int .i64 0, .int .i64 0, .slice none 0 0] 32 (0, 0)) ∧ Below w.heap.size w W) ⟨by (repeat (first | ((refine heap_alloc_at _ _ _ ?_); (simp [go_sem]; done)) | ((refine (heap_ext _ _ _ _ ?_).trans ?_); (focus (simp [go_sem]; done))) | ((refine (heap_alloc_past _ _ _ ?_).trans ?_); (focus (simp [go_sem]; done))))), by (repeat (first | ((refine heap_alloc_at _ _ _ ?_); (simp [go_sem]; done)) | ((refine (heap_ext _ _ _ _ ?_).trans ?_); (focus (simp [go_sem]; done))) | ((refine (heap_alloc_past _ _ _ ?_).trans ?_); (focus (simp [go_sem]; done))))), by (repeat (first | ((refine heap_alloc_at _ _ _ ?_); (simp [go_sem]; done)) | ((refine (heap_ext _ _ _ _ ?_).trans ?_); (focus (simp [go_sem]; done))) | ((refine (heap_alloc_past _ _ _ ?_).trans ?_); (focus (simp [go_sem]; done))))), by (repeat (first | ((refine heap_alloc_at _ _ _ ?_); (simp [go_sem]; done)) | ((refine (heap_ext _ _ _ _ ?_).trans ?_); (focus (simp [go_sem]; done))) | ((refine (heap_alloc_past _ _ _ ?_).trans ?_); (focus (simp [go_sem]; done))))), by exact bel⟩ ?_
      rintro W2 ⟨h6, h7, h8, h12, hbw⟩
      have HBW := Lib.hid hbw
      have H12 := Lib.hid h12
      have hszW := hbw.size
      have l6 := lt_blk h6
      have l7 := lt_blk h7
      have l8 := lt_blk h8
      have l12 := lt_blk h12
      obtain ⟨p0, p1, p2, p3, p4⟩ := cells5 h6
      obtain ⟨q0, q1, q2, q3, q4, q5, q6⟩ := cells7 h7
      obtain ⟨r0, r1, r2⟩ := cells3 h8
      obtain ⟨z0, z1, z2⟩ := cells3 h12
      have f0 := frees h12 0
      have f1 := frees h12 1
      have f2 := frees h12 2
      clear h6 h7 h8 h12 hbw
      have hAi := HAI.out
      subst hAi
      have hbz : b < W2.heap.size := by have := HB.out; omega
      have cx : W2.cell? ⟨b, o + 0, none⟩ = some (.int .u8 (xn : Int)) := (HBW.out.cell (p := ⟨b, o + 0, none⟩) (by have := HB.out; show b < _; omega)).trans HX.out
      simp only [Nat.add_zero] at cx
      go_wp2_with (go_at_call 41; refine (within_f _ _ _ _ HIN.out).mono ?_; rintro e w1 ⟨rfl, rfl⟩)
      obtain ⟨Wf, hWf⟩ : ∃ Wf : World, Wf = (((W2.setCell ⟨w.heap.size + 1 + 1 + 1, 0, none⟩ (.int .i64 0)).setCell ⟨w.heap.size + 1 + 1 + 1, 1, none⟩ (.int .i64 0)).setCell ⟨w.heap.size + 1 + 1 + 1, 2, none⟩ (.slice none 0 0)) := ⟨_, rfl⟩
      rw [← hWf]
      have hrow : Wf.heap[w.heap.size + 1 + 1 + 1]? = some (.cells #[.int .i64 0, .int .i64 0, .slice none 0 0] 32 (0, 0)) := by rw [hWf]; exact row3 H12.out rfl _ _ _
      have hgr : (W2).grownBy Wf (some (w.heap.size + 1 + 1 + 1)) := by rw [hWf]; first | with_reducible exact grown_exts grn (by simp) | exact grn
      have hbf : Below w.heap.size w Wf := Below.grown (by have := HBW.out; exact bel) hgr (by first | exact hszW | (simp [size_ext, grow]; omega)) (fun k hk => by cases hk; omega)
      clear hWf f0 f1 f2 z0 z1 z2
      obtain ⟨u0, u1, u2⟩ := cells3 hrow
      refine bodyPost_ret (v := .tuple #[.int .i64 14, .agg #[.int .i64 0, .int .i64 0, .slice none 0 0], .slice none 0 0]) (by simp [results, Tryz.results43, go_sem, u0, u1, u2]) rfl ?_
      exact ⟨none, 0, 0, none, 0, 0, rfl, hbf, BytesO.nil _ _, fun h => by cases h⟩
theorem which_any (ic : Int) (h1 : 1 ≤ ic) (h7 : ic ≤ 7) (Ar Aa Ai : Option Addr) (nr cr na ca ni ci : Nat) (R : List Rl) (mc mt mf wt st id req cnt tim nak ii : Int) (E : List Ent) (li : List UInt8) (w : World) (B : Nat) (hB : B ≤ w.heap.size) (hR : RulesAt w B Ar R) (hnr : nr = R.length) (hlr : nr ≤ 1000000) (hE : OptsAt w B Aa E) (hna : na = E.length) (hla : na ≤ 1000000) (hda : ∀ e ∈ E, e.d.length ≤ 1000000) (hI : At w B Ai (li.map bv)) (hni : ni = li.length) (hci : ni ≤ ci) : Calls Tryz.prog 43 #[.agg #[.slice Ar nr cr, .int .i64 mc, .int .i64 mt, .int .i64 mf, .int .i64 wt], .agg #[.int .i64 st, .int .i64 id, .int .i64 req, .slice Aa na ca, .int .i64 cnt, .int .i64 tim, .int .i64 nak], .agg #[.int .i64 ic, .int .i64 ii, .slice Ai ni ci]] w (WhichP (whichO ⟨R, mc, mt, mf, wt⟩ ⟨st, id, req, E.map Ent.o, cnt, tim, nak⟩ ⟨ic, ii, li⟩) w) := by
  have h : ic = 1 ∨ ic = 2 ∨ ic = 3 ∨ ic = 4 ∨ ic = 5 ∨ ic = 6 ∨ ic = 7 := by omega
  rcases h with rfl | rfl | rfl | rfl | rfl | rfl | rfl
  · exact which_1 Ar Aa Ai nr cr na ca ni ci R mc mt mf wt st id req cnt tim nak ii E li w B hB hR hnr hlr hE hna hla hda hI hni hci
  · exact which_2 Ar Aa Ai nr cr na ca ni ci R mc mt mf wt st id req cnt tim nak ii E li w B hB hR hnr hlr hE hna hla hda hI hni hci
  · exact which_3 Ar Aa Ai nr cr na ca ni ci R mc mt mf wt st id req cnt tim nak ii E li w B hB hR hnr hlr hE hna hla hda hI hni hci
  · exact which_4 Ar Aa Ai nr cr na ca ni ci R mc mt mf wt st id req cnt tim nak ii E li w B hB hR hnr hlr hE hna hla hda hI hni hci
  · exact which_5 Ar Aa Ai nr cr na ca ni ci R mc mt mf wt st id req cnt tim nak ii E li w B hB hR hnr hlr hE hna hla hda hI hni hci
  · exact which_6 Ar Aa Ai nr cr na ca ni ci R mc mt mf wt st id req cnt tim nak ii E li w B hB hR hnr hlr hE hna hla hda hI hni hci
  · exact which_7 Ar Aa Ai nr cr na ca ni ci R mc mt mf wt st id req cnt tim nak ii E li w B hB hR hnr hlr hE hna hla hda hI hni hci
end Go.Proofs.YthidhfkbfoejbaaGreat
