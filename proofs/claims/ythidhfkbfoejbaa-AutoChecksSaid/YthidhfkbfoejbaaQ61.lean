/- AutoChecks: its walk. -/
import Derived.Test.YthidhfkbfoejbaaQH
import Derived.Test.YthidhfkbfoejbaaQ59
import Derived.BigQuiet
namespace Go.Proofs.Ythidhfkbfoejbaa
open Go.RowKit
set_option linter.unusedSimpArgs false
set_option linter.unusedVariables false
set_option linter.ambiguousOpen false
open Ne (Rl Opt RulesAt areB)
open Fs (av hasB)

/-- What the last statement reads. -/
def ChkS (x0 x1 x2 t8 t10 m cr n2 c2 n3 c3 n5 c5 n6 c6 : Nat) (Ar A2 A3 A5 A6 : Option Addr) (mc mt mf wt st id req cnt tim nak tb jb rb qb mb kb g0 g1 g2 g4 g5 g6 : Int) (w' : World) : Prop := w'.cell? ⟨x0, 0, none⟩ = some (.slice Ar m cr) ∧ w'.cell? ⟨x0, 1, none⟩ = some (.int .i64 mc) ∧ w'.cell? ⟨x0, 2, none⟩ = some (.int .i64 mt) ∧ w'.cell? ⟨x0, 3, none⟩ = some (.int .i64 mf) ∧ w'.cell? ⟨x0, 4, none⟩ = some (.int .i64 wt) ∧ w'.cell? ⟨x1, 0, none⟩ = some (.int .i64 st) ∧ w'.cell? ⟨x1, 1, none⟩ = some (.int .i64 id) ∧ w'.cell? ⟨x1, 2, none⟩ = some (.int .i64 req) ∧ w'.cell? ⟨x1, 3, none⟩ = some (.slice A2 n2 c2) ∧ w'.cell? ⟨x1, 4, none⟩ = some (.int .i64 cnt) ∧ w'.cell? ⟨x1, 5, none⟩ = some (.int .i64 tim) ∧ w'.cell? ⟨x1, 6, none⟩ = some (.int .i64 nak) ∧ w'.cell? ⟨x2, 0, none⟩ = some (.int .i64 tb) ∧ w'.cell? ⟨x2, 1, none⟩ = some (.int .i64 jb) ∧ w'.cell? ⟨x2, 2, none⟩ = some (.int .i64 rb) ∧ w'.cell? ⟨x2, 3, none⟩ = some (.slice A3 n3 c3) ∧ w'.cell? ⟨x2, 4, none⟩ = some (.int .i64 qb) ∧ w'.cell? ⟨x2, 5, none⟩ = some (.int .i64 mb) ∧ w'.cell? ⟨x2, 6, none⟩ = some (.int .i64 kb) ∧ w'.cell? ⟨t8, 0, none⟩ = some (.int .i64 g0) ∧ w'.cell? ⟨t8, 1, none⟩ = some (.int .i64 g1) ∧ w'.cell? ⟨t8, 2, none⟩ = some (.int .i64 g2) ∧ w'.cell? ⟨t8, 3, none⟩ = some (.slice A5 n5 c5) ∧ w'.cell? ⟨t8, 4, none⟩ = some (.int .i64 g4) ∧ w'.cell? ⟨t8, 5, none⟩ = some (.int .i64 g5) ∧ w'.cell? ⟨t8, 6, none⟩ = some (.int .i64 g6) ∧ w'.cell? ⟨t10, 0, none⟩ = some (.int .i64 g0) ∧ w'.cell? ⟨t10, 1, none⟩ = some (.int .i64 g1) ∧ w'.cell? ⟨t10, 2, none⟩ = some (.int .i64 g2) ∧ w'.cell? ⟨t10, 3, none⟩ = some (.slice A6 n6 c6) ∧ w'.cell? ⟨t10, 4, none⟩ = some (.int .i64 g4) ∧ w'.cell? ⟨t10, 5, none⟩ = some (.int .i64 g5) ∧ w'.cell? ⟨t10, 6, none⟩ = some (.int .i64 g6)
theorem ChkS.step (x0 x1 x2 t8 t10 m cr n2 c2 n3 c3 n5 c5 n6 c6 : Nat) (Ar A2 A3 A5 A6 : Option Addr) (mc mt mf wt st id req cnt tim nak tb jb rb qb mb kb g0 g1 g2 g4 g5 g6 : Int) {Z : Nat} {w w' : World} (hx : x0 < Z ∧ x1 < Z ∧ x2 < Z ∧ t8 < Z ∧ t10 < Z) (hz : Z ≤ w.heap.size) (hb : Below w.heap.size w w') (h : ChkS x0 x1 x2 t8 t10 m cr n2 c2 n3 c3 n5 c5 n6 c6 Ar A2 A3 A5 A6 mc mt mf wt st id req cnt tim nak tb jb rb qb mb kb g0 g1 g2 g4 g5 g6 w) : ChkS x0 x1 x2 t8 t10 m cr n2 c2 n3 c3 n5 c5 n6 c6 Ar A2 A3 A5 A6 mc mt mf wt st id req cnt tim nak tb jb rb qb mb kb g0 g1 g2 g4 g5 g6 w' := by
  obtain ⟨h0, h1, h2, h3, h4, h5, h6, h7, h8, h9, h10, h11, h12, h13, h14, h15, h16, h17, h18, h19, h20, h21, h22, h23, h24, h25, h26, h27, h28, h29, h30, h31, h32⟩ := h
  exact ⟨(hb.cell (p := ⟨_, _, none⟩) (show x0 < w.heap.size by omega)).trans h0, (hb.cell (p := ⟨_, _, none⟩) (show x0 < w.heap.size by omega)).trans h1, (hb.cell (p := ⟨_, _, none⟩) (show x0 < w.heap.size by omega)).trans h2, (hb.cell (p := ⟨_, _, none⟩) (show x0 < w.heap.size by omega)).trans h3, (hb.cell (p := ⟨_, _, none⟩) (show x0 < w.heap.size by omega)).trans h4, (hb.cell (p := ⟨_, _, none⟩) (show x1 < w.heap.size by omega)).trans h5, (hb.cell (p := ⟨_, _, none⟩) (show x1 < w.heap.size by omega)).trans h6, (hb.cell (p := ⟨_, _, none⟩) (show x1 < w.heap.size by omega)).trans h7, (hb.cell (p := ⟨_, _, none⟩) (show x1 < w.heap.size by omega)).trans h8, (hb.cell (p := ⟨_, _, none⟩) (show x1 < w.heap.size by omega)).trans h9, (hb.cell (p := ⟨_, _, none⟩) (show x1 < w.heap.size by omega)).trans h10, (hb.cell (p := ⟨_, _, none⟩) (show x1 < w.heap.size by omega)).trans h11, (hb.cell (p := ⟨_, _, none⟩) (show x2 < w.heap.size by omega)).trans h12, (hb.cell (p := ⟨_, _, none⟩) (show x2 < w.heap.size by omega)).trans h13, (hb.cell (p := ⟨_, _, none⟩) (show x2 < w.heap.size by omega)).trans h14, (hb.cell (p := ⟨_, _, none⟩) (show x2 < w.heap.size by omega)).trans h15, (hb.cell (p := ⟨_, _, none⟩) (show x2 < w.heap.size by omega)).trans h16, (hb.cell (p := ⟨_, _, none⟩) (show x2 < w.heap.size by omega)).trans h17, (hb.cell (p := ⟨_, _, none⟩) (show x2 < w.heap.size by omega)).trans h18, (hb.cell (p := ⟨_, _, none⟩) (show t8 < w.heap.size by omega)).trans h19, (hb.cell (p := ⟨_, _, none⟩) (show t8 < w.heap.size by omega)).trans h20, (hb.cell (p := ⟨_, _, none⟩) (show t8 < w.heap.size by omega)).trans h21, (hb.cell (p := ⟨_, _, none⟩) (show t8 < w.heap.size by omega)).trans h22, (hb.cell (p := ⟨_, _, none⟩) (show t8 < w.heap.size by omega)).trans h23, (hb.cell (p := ⟨_, _, none⟩) (show t8 < w.heap.size by omega)).trans h24, (hb.cell (p := ⟨_, _, none⟩) (show t8 < w.heap.size by omega)).trans h25, (hb.cell (p := ⟨_, _, none⟩) (show t10 < w.heap.size by omega)).trans h26, (hb.cell (p := ⟨_, _, none⟩) (show t10 < w.heap.size by omega)).trans h27, (hb.cell (p := ⟨_, _, none⟩) (show t10 < w.heap.size by omega)).trans h28, (hb.cell (p := ⟨_, _, none⟩) (show t10 < w.heap.size by omega)).trans h29, (hb.cell (p := ⟨_, _, none⟩) (show t10 < w.heap.size by omega)).trans h30, (hb.cell (p := ⟨_, _, none⟩) (show t10 < w.heap.size by omega)).trans h31, (hb.cell (p := ⟨_, _, none⟩) (show t10 < w.heap.size by omega)).trans h32⟩
theorem auNew_ask (L : List (Int × List UInt8)) : (auNew L).ask.length ≤ L.length := by
  unfold auNew
  split
  · exact Nat.le_refl _
  · simp
theorem chain16 {W w w' : World} (h : Below W.heap.size W w) (hb : Below w.heap.size w w') : Below W.heap.size W w' := h.trans (hb.mono h.size)
theorem chain_size {W w w' : World} (h : Below W.heap.size W w) (hb : Below w.heap.size w w') : W.heap.size ≤ w.heap.size := h.size
set_option maxRecDepth 100000 in
set_option maxHeartbeats 16000000 in
theorem checks_00 (Ar Aa Ab : Option Addr) (nr cr na ca nb cb : Nat) (R : List Rl) (mc mt mf wt st id req cnt tim nak tb jb rb qb mb kb : Int) (E Eb : List Ent) (w : World) (hR : RulesAt w w.heap.size Ar R) (hnr : nr = R.length) (hcr : nr ≤ cr) (hlr : (nr : Int) ≤ 9223372036854775807) (hE : OptsAt w w.heap.size Aa E) (hna : na = E.length) (hla : (na : Int) ≤ 9223372036854775807) (hda : ∀ e ∈ E, (e.d.length : Int) ≤ 9223372036854775807) (hEb : OptsAt w w.heap.size Ab Eb) (hnb : nb = Eb.length) (hlb : (nb : Int) ≤ 9223372036854775807) (hdb : ∀ e ∈ Eb, (e.d.length : Int) ≤ 9223372036854775807) (hcb : confB ⟨R.take 20, mc, mt, mf, wt⟩ = false) :
    Calls Try.prog 4 #[.agg #[.slice Ar nr cr, .int .i64 mc, .int .i64 mt, .int .i64 mf, .int .i64 wt], .agg #[.int .i64 st, .int .i64 id, .int .i64 req, .slice Aa na ca, .int .i64 cnt, .int .i64 tim, .int .i64 nak], .agg #[.int .i64 tb, .int .i64 jb, .int .i64 rb, .slice Ab nb cb, .int .i64 qb, .int .i64 mb, .int .i64 kb]] w fun x w' => x = .returned (.bool true) ∧ Below w.heap.size w w' := by
  have HR := Lib.hid hR
  have HE := Lib.hid hE
  have HNA := Lib.hid hna
  have HDA := Lib.hid hda
  have HEB := Lib.hid hEb
  have HNB := Lib.hid hnb
  have HDB := Lib.hid hdb
  have HCB := Lib.hid hcb
  obtain ⟨m, hm⟩ : ∃ m, min nr 20 = m := ⟨_, rfl⟩
  have HM := Lib.hid hm
  have HRM := Lib.hid (show m = (R.take 20).length by rw [List.length_take]; omega)
  have hm20 : m ≤ 20 := by omega
  clear hR hE hna hda hm hnr hEb hnb hdb hcb
  go_enter Try.func4, Try.ntmps4
  go_upto_region 1 with (fail)
  refine wp_w (fun W => W.heap[w.heap.size]? = some (.cells #[.slice Ar nr cr, .int .i64 mc, .int .i64 mt, .int .i64 mf, .int .i64 wt] 24 (0, 0)) ∧ W.heap[w.heap.size + 1]? = some (.cells #[.int .i64 st, .int .i64 id, .int .i64 req, .slice Aa na ca, .int .i64 cnt, .int .i64 tim, .int .i64 nak] 28 (0, 0)) ∧ W.heap[w.heap.size + 1 + 1]? = some (.cells #[.int .i64 tb, .int .i64 jb, .int .i64 rb, .slice Ab nb cb, .int .i64 qb, .int .i64 mb, .int .i64 kb] 28 (0, 0)) ∧ Below w.heap.size w W) ⟨by (repeat (first | ((refine heap_alloc_at _ _ _ ?_); (simp [go_sem]; done)) | ((refine (heap_ext _ _ _ _ ?_).trans ?_); (focus (simp [go_sem]; done))) | ((refine (heap_alloc_past _ _ _ ?_).trans ?_); (focus (simp [go_sem]; done))))), by (repeat (first | ((refine heap_alloc_at _ _ _ ?_); (simp [go_sem]; done)) | ((refine (heap_ext _ _ _ _ ?_).trans ?_); (focus (simp [go_sem]; done))) | ((refine (heap_alloc_past _ _ _ ?_).trans ?_); (focus (simp [go_sem]; done))))), by (repeat (first | ((refine heap_alloc_at _ _ _ ?_); (simp [go_sem]; done)) | ((refine (heap_ext _ _ _ _ ?_).trans ?_); (focus (simp [go_sem]; done))) | ((refine (heap_alloc_past _ _ _ ?_).trans ?_); (focus (simp [go_sem]; done))))), by exact bel⟩ ?_
  rintro W1 ⟨g_c, g_a, g_b, hbw⟩
  have HB_W1 := Lib.hid hbw
  have hs_W1 := hbw.size
  clear hbw
  have l_c := lt_blk g_c
  obtain ⟨c_c0, c_c1, c_c2, c_c3, c_c4⟩ := cells5 g_c
  have f_c := frees g_c
  have H_c := Lib.hid g_c
  clear g_c
  have l_a := lt_blk g_a
  obtain ⟨c_a0, c_a1, c_a2, c_a3, c_a4, c_a5, c_a6⟩ := cells7 g_a
  have f_a := frees g_a
  have H_a := Lib.hid g_a
  clear g_a
  have l_b := lt_blk g_b
  obtain ⟨c_b0, c_b1, c_b2, c_b3, c_b4, c_b5, c_b6⟩ := cells7 g_b
  have f_b := frees g_b
  have H_b := Lib.hid g_b
  clear g_b
  have hz1 : w.heap.size + 1 + 1 + 1 ≤ W1.heap.size := by omega
  go_wp2_with fail
  refine (light_any Ar Aa none nr cr na ca 0 0 mc mt mf wt st id req cnt tim nak 0 0 E _ w.heap.size hs_W1 (HE.out.keep HB_W1.out) HNA.out hla HDA.out hcr hlr (Nat.le_refl _) (by omega)).mono ?_
  rw [HM.out]
  rintro x W2 ⟨A2, n2, c2, rfl, hb, ho, hn2⟩
  have g_c := (hb.block _ l_c).trans H_c.out
  have g_a := (hb.block _ l_a).trans H_a.out
  have g_b := (hb.block _ l_b).trans H_b.out
  have HQ_W2 := Lib.hid hb
  have hq_W2 := hb.size
  have HB_W2 := Lib.hid (HB_W1.out.trans (HQ_W2.out.mono hs_W1))
  have hs_W2 : w.heap.size ≤ W2.heap.size := HB_W2.out.size
  clear l_c f_c H_c c_c0 c_c1 c_c2 c_c3 c_c4 l_a f_a H_a c_a0 c_a1 c_a2 c_a3 c_a4 c_a5 c_a6 l_b f_b H_b c_b0 c_b1 c_b2 c_b3 c_b4 c_b5 c_b6
  have l_c := lt_blk g_c
  obtain ⟨c_c0, c_c1, c_c2, c_c3, c_c4⟩ := cells5 g_c
  have f_c := frees g_c
  have H_c := Lib.hid g_c
  clear g_c
  have l_a := lt_blk g_a
  obtain ⟨c_a0, c_a1, c_a2, c_a3, c_a4, c_a5, c_a6⟩ := cells7 g_a
  have f_a := frees g_a
  have H_a := Lib.hid g_a
  clear g_a
  have l_b := lt_blk g_b
  obtain ⟨c_b0, c_b1, c_b2, c_b3, c_b4, c_b5, c_b6⟩ := cells7 g_b
  have f_b := frees g_b
  have H_b := Lib.hid g_b
  clear g_b
  have HO2 := Lib.hid ho
  have HN2 := Lib.hid hn2
  have hn70 : n2 ≤ 70 := by have := lit_len E; omega
  have HC2 := Lib.hid (show n2 ≤ c2 by obtain ⟨A9, c9, hv, hc, -⟩ := ownsRow_form ho; cases hv; exact hc)
  clear hb ho hn2
  go_upto_region 2 with (fail)
  refine wp_w (fun W => W.heap[w.heap.size]? = some (.cells #[.slice Ar m cr, .int .i64 mc, .int .i64 mt, .int .i64 mf, .int .i64 wt] 24 (0, 0)) ∧ W.heap[w.heap.size + 1]? = some (.cells #[.int .i64 st, .int .i64 id, .int .i64 req, .slice A2 n2 c2, .int .i64 cnt, .int .i64 tim, .int .i64 nak] 28 (0, 0)) ∧ W.heap[w.heap.size + 1 + 1]? = some (.cells #[.int .i64 tb, .int .i64 jb, .int .i64 rb, .slice Ab nb cb, .int .i64 qb, .int .i64 mb, .int .i64 kb] 28 (0, 0)) ∧ Below w.heap.size w W ∧ W.ownsRow (w.heap.size + 1 + 1 + 1) 59 2 (.slice A2 n2 c2) n2 (cellsE (litE E))) ⟨(by (iterate 7 (with_reducible refine set_off ?_ (by omega))); refine rows5 (cs := #[.slice Ar nr cr, .int .i64 mc, .int .i64 mt, .int .i64 mf, .int .i64 wt]) ?_ rfl _ _ _ _ _; skip; exact H_c.out), (by skip; refine row7 (cs := #[.int .i64 st, .int .i64 id, .int .i64 req, .slice Aa na ca, .int .i64 cnt, .int .i64 tim, .int .i64 nak]) ?_ rfl _ _ _ _ _ _ _; (iterate 5 (with_reducible refine set_off ?_ (by omega))); exact H_a.out), (by (iterate 12 (with_reducible refine set_off ?_ (by omega))); exact H_b.out), (by (iterate 12 (with_reducible refine Below.setCell ?_ (by first | omega | (dsimp only; omega)) _)); exact HB_W2.out), (by refine own_base (own_keep HO2.out (fun k hk => ?_)) (by omega); have hle := own_le HO2.out hk; (iterate 12 (with_reducible refine set_off ?_ (by omega))); rfl)⟩ ?_
  clear l_c f_c H_c c_c0 c_c1 c_c2 c_c3 c_c4 l_a f_a H_a c_a0 c_a1 c_a2 c_a3 c_a4 c_a5 c_a6 l_b f_b H_b c_b0 c_b1 c_b2 c_b3 c_b4 c_b5 c_b6
  rintro W3 ⟨g_c, g_a, g_b, hbw, ex0⟩
  have HB_W3 := Lib.hid hbw
  have hs_W3 := hbw.size
  clear hbw
  have l_c := lt_blk g_c
  obtain ⟨c_c0, c_c1, c_c2, c_c3, c_c4⟩ := cells5 g_c
  have f_c := frees g_c
  have H_c := Lib.hid g_c
  clear g_c
  have l_a := lt_blk g_a
  obtain ⟨c_a0, c_a1, c_a2, c_a3, c_a4, c_a5, c_a6⟩ := cells7 g_a
  have f_a := frees g_a
  have H_a := Lib.hid g_a
  clear g_a
  have l_b := lt_blk g_b
  obtain ⟨c_b0, c_b1, c_b2, c_b3, c_b4, c_b5, c_b6⟩ := cells7 g_b
  have f_b := frees g_b
  have H_b := Lib.hid g_b
  clear g_b
  have HO3 := Lib.hid ex0
  clear ex0 HO2
  have hz3 : w.heap.size + 1 + 1 + 1 ≤ W3.heap.size := by omega
  go_wp2_with fail
  refine (lit_any Ab nb cb Eb _ w.heap.size hs_W3 (HEB.out.keep HB_W3.out) HNB.out hlb HDB.out).mono ?_
  rintro x W4 ⟨A3, n3, c3, rfl, hb, ho, hn3⟩
  have g_c := (hb.block _ l_c).trans H_c.out
  have g_a := (hb.block _ l_a).trans H_a.out
  have g_b := (hb.block _ l_b).trans H_b.out
  have HQ_W4 := Lib.hid hb
  have hq_W4 := hb.size
  have HB_W4 := Lib.hid (HB_W3.out.trans (HQ_W4.out.mono hs_W3))
  have hs_W4 : w.heap.size ≤ W4.heap.size := HB_W4.out.size
  clear l_c f_c H_c c_c0 c_c1 c_c2 c_c3 c_c4 l_a f_a H_a c_a0 c_a1 c_a2 c_a3 c_a4 c_a5 c_a6 l_b f_b H_b c_b0 c_b1 c_b2 c_b3 c_b4 c_b5 c_b6
  have l_c := lt_blk g_c
  obtain ⟨c_c0, c_c1, c_c2, c_c3, c_c4⟩ := cells5 g_c
  have f_c := frees g_c
  have H_c := Lib.hid g_c
  clear g_c
  have l_a := lt_blk g_a
  obtain ⟨c_a0, c_a1, c_a2, c_a3, c_a4, c_a5, c_a6⟩ := cells7 g_a
  have f_a := frees g_a
  have H_a := Lib.hid g_a
  clear g_a
  have l_b := lt_blk g_b
  obtain ⟨c_b0, c_b1, c_b2, c_b3, c_b4, c_b5, c_b6⟩ := cells7 g_b
  have f_b := frees g_b
  have H_b := Lib.hid g_b
  clear g_b
  have HO4 := Lib.hid (own_below HO3.out hb)
  have HP4 := Lib.hid ho
  have HN3 := Lib.hid hn3
  have hn70b : n3 ≤ 70 := by have := lit_len Eb; omega
  have HC3 := Lib.hid (show n3 ≤ c3 by obtain ⟨A9, c9, hv, hc, -⟩ := ownsRow_form ho; cases hv; exact hc)
  clear hb ho hn3 HO3
  go_upto_region 3 with (fail)
  refine wp_w (fun W => W.heap[w.heap.size]? = some (.cells #[.slice Ar m cr, .int .i64 mc, .int .i64 mt, .int .i64 mf, .int .i64 wt] 24 (0, 0)) ∧ W.heap[w.heap.size + 1]? = some (.cells #[.int .i64 st, .int .i64 id, .int .i64 req, .slice A2 n2 c2, .int .i64 cnt, .int .i64 tim, .int .i64 nak] 28 (0, 0)) ∧ W.heap[w.heap.size + 1 + 1]? = some (.cells #[.int .i64 tb, .int .i64 jb, .int .i64 rb, .slice A3 n3 c3, .int .i64 qb, .int .i64 mb, .int .i64 kb] 28 (0, 0)) ∧ Below w.heap.size w W ∧ W.ownsRow (w.heap.size + 1 + 1 + 1) 59 2 (.slice A2 n2 c2) n2 (cellsE (litE E)) ∧ W.ownsRow (w.heap.size + 1 + 1 + 1) 59 2 (.slice A3 n3 c3) n3 (cellsE (litE Eb))) ⟨(set_off H_c.out (by omega)), (set_off H_a.out (by omega)), (set_in H_b.out rfl), (Below.setCell HB_W4.out (by first | omega | (dsimp only; omega)) _), (by refine own_base (own_keep HO4.out (fun k hk => ?_)) (by omega); have hle := own_le HO4.out hk; (iterate 1 (with_reducible refine set_off ?_ (by omega))); rfl), (by refine own_base (own_keep HP4.out (fun k hk => ?_)) (by omega); have hle := own_le HP4.out hk; (iterate 1 (with_reducible refine set_off ?_ (by omega))); rfl)⟩ ?_
  clear l_c f_c H_c c_c0 c_c1 c_c2 c_c3 c_c4 l_a f_a H_a c_a0 c_a1 c_a2 c_a3 c_a4 c_a5 c_a6 l_b f_b H_b c_b0 c_b1 c_b2 c_b3 c_b4 c_b5 c_b6
  rintro W5 ⟨g_c, g_a, g_b, hbw, ex0, ex1⟩
  have HB_W5 := Lib.hid hbw
  have hs_W5 := hbw.size
  clear hbw
  have l_c := lt_blk g_c
  obtain ⟨c_c0, c_c1, c_c2, c_c3, c_c4⟩ := cells5 g_c
  have f_c := frees g_c
  have H_c := Lib.hid g_c
  clear g_c
  have l_a := lt_blk g_a
  obtain ⟨c_a0, c_a1, c_a2, c_a3, c_a4, c_a5, c_a6⟩ := cells7 g_a
  have f_a := frees g_a
  have H_a := Lib.hid g_a
  clear g_a
  have l_b := lt_blk g_b
  obtain ⟨c_b0, c_b1, c_b2, c_b3, c_b4, c_b5, c_b6⟩ := cells7 g_b
  have f_b := frees g_b
  have H_b := Lib.hid g_b
  clear g_b
  have HO5 := Lib.hid ex0
  have HP5 := Lib.hid ex1
  clear ex0 ex1 HO4 HP4
  have HR5 := Lib.hid ((rulesAt_take (HR.out.keep HB_W5.out) 20).more hs_W5)
  have HE5 := Lib.hid (lit_at HE.out (Nat.le_refl _) HB_W5.out HO5.out)
  have HF5 := Lib.hid (lit_at HEB.out (Nat.le_refl _) HB_W5.out HP5.out)
  have HLD := Lib.hid (lit_data E)
  have hz5 : w.heap.size + 1 + 1 + 1 ≤ W5.heap.size := by omega
  generalize R.take 20 = R1 at HR5 HRM HCB
  generalize litE E = F at HO5 HE5 HN2 HLD
  generalize litE Eb = G at HP5 HF5 HN3
  obtain ⟨L, hL⟩ : ∃ L, F.map Ent.o = L := ⟨_, rfl⟩
  have HL := Lib.hid hL
  have HLL := Lib.hid (show L.length ≤ 1000 by rw [← hL, List.length_map]; have := HN2.out; omega)
  clear hL HO5 HP5
  obtain ⟨Lb, hLb⟩ : ∃ L, G.map Ent.o = L := ⟨_, rfl⟩
  have HLB := Lib.hid hLb
  clear hLb
  go_wp2_with fail
  refine (conf_ref Ar m cr R1 mc mt mf wt _ W5.heap.size (Nat.le_refl _) HR5.out HRM.out (by omega)).mono ?_
  rw [HCB.out]
  rintro x W6 ⟨rfl, hb⟩
  have g_c := (hb.block _ l_c).trans H_c.out
  have g_a := (hb.block _ l_a).trans H_a.out
  have g_b := (hb.block _ l_b).trans H_b.out
  have HQ_W6 := Lib.hid hb
  have hq_W6 := hb.size
  have HB_W6 := Lib.hid (HB_W5.out.trans (HQ_W6.out.mono hs_W5))
  have hs_W6 : w.heap.size ≤ W6.heap.size := HB_W6.out.size
  clear l_c f_c H_c c_c0 c_c1 c_c2 c_c3 c_c4 l_a f_a H_a c_a0 c_a1 c_a2 c_a3 c_a4 c_a5 c_a6 l_b f_b H_b c_b0 c_b1 c_b2 c_b3 c_b4 c_b5 c_b6
  have l_c := lt_blk g_c
  obtain ⟨c_c0, c_c1, c_c2, c_c3, c_c4⟩ := cells5 g_c
  have f_c := frees g_c
  have H_c := Lib.hid g_c
  clear g_c
  have l_a := lt_blk g_a
  obtain ⟨c_a0, c_a1, c_a2, c_a3, c_a4, c_a5, c_a6⟩ := cells7 g_a
  have f_a := frees g_a
  have H_a := Lib.hid g_a
  clear g_a
  have l_b := lt_blk g_b
  obtain ⟨c_b0, c_b1, c_b2, c_b3, c_b4, c_b5, c_b6⟩ := cells7 g_b
  have f_b := frees g_b
  have H_b := Lib.hid g_b
  clear g_b
  clear hb
  have HQ := Lib.hid HQ_W6.out
  have hq := HQ.out.size
  have HCK := Lib.hid (show checkE ⟨R1, mc, mt, mf, wt⟩ ⟨st, id, req, L, cnt, tim, nak⟩ = 160 by unfold checkE; simp [HCB.out])
  go_wp2_with fail
  refine (new_any A2 n2 c2 F L HL.out _ W5.heap.size hq (HE5.out.keep HQ.out) HN2.out (by omega) (fun e he => by have := HLD.out e he; omega)).mono ?_
  rintro x W8 ⟨v8, rfl, E8, A5, n5, c5, rfl, he8, hn8, hc8, hb, ho8⟩
  have g_c := (hb.block _ l_c).trans H_c.out
  have g_a := (hb.block _ l_a).trans H_a.out
  have g_b := (hb.block _ l_b).trans H_b.out
  have HQ_W8 := Lib.hid hb
  have hq_W8 := hb.size
  have HB_W8 := Lib.hid (HB_W6.out.trans (HQ_W8.out.mono hs_W6))
  have hs_W8 : w.heap.size ≤ W8.heap.size := HB_W8.out.size
  clear l_c f_c H_c c_c0 c_c1 c_c2 c_c3 c_c4 l_a f_a H_a c_a0 c_a1 c_a2 c_a3 c_a4 c_a5 c_a6 l_b f_b H_b c_b0 c_b1 c_b2 c_b3 c_b4 c_b5 c_b6
  have l_c := lt_blk g_c
  obtain ⟨c_c0, c_c1, c_c2, c_c3, c_c4⟩ := cells5 g_c
  have f_c := frees g_c
  have H_c := Lib.hid g_c
  clear g_c
  have l_a := lt_blk g_a
  obtain ⟨c_a0, c_a1, c_a2, c_a3, c_a4, c_a5, c_a6⟩ := cells7 g_a
  have f_a := frees g_a
  have H_a := Lib.hid g_a
  clear g_a
  have l_b := lt_blk g_b
  obtain ⟨c_b0, c_b1, c_b2, c_b3, c_b4, c_b5, c_b6⟩ := cells7 g_b
  have f_b := frees g_b
  have H_b := Lib.hid g_b
  clear g_b
  have HQ8 := Lib.hid (HQ.out.trans (hb.mono hq))
  have hq8 := HQ8.out.size
  have HE8 := Lib.hid he8
  have HN8 := Lib.hid hn8
  have HC8 := Lib.hid hc8
  have HW8 := Lib.hid ho8
  clear he8 hn8 hc8 ho8 hb
  obtain ⟨⟨g0, g1, g2, lg, g4, g5, g6⟩, hg⟩ : ∃ a, auNew L = a := ⟨_, rfl⟩
  have HG := Lib.hid hg
  have hge : errNew L = errNew L := rfl
  obtain ⟨ge, hge⟩ : ∃ e, errNew L = e := ⟨_, rfl⟩
  have HGE := Lib.hid hge
  rw [hg] at HE8 ⊢
  rw [hge]
  dsimp only at HE8 ⊢
  clear hg hge
  go_upto_region 7 with (fail)
  refine wp_w (fun W => W.heap[w.heap.size]? = some (.cells #[.slice Ar m cr, .int .i64 mc, .int .i64 mt, .int .i64 mf, .int .i64 wt] 24 (0, 0)) ∧ W.heap[w.heap.size + 1]? = some (.cells #[.int .i64 st, .int .i64 id, .int .i64 req, .slice A2 n2 c2, .int .i64 cnt, .int .i64 tim, .int .i64 nak] 28 (0, 0)) ∧ W.heap[w.heap.size + 1 + 1]? = some (.cells #[.int .i64 tb, .int .i64 jb, .int .i64 rb, .slice A3 n3 c3, .int .i64 qb, .int .i64 mb, .int .i64 kb] 28 (0, 0)) ∧ W.heap[W8.heap.size]? = some (.cells #[.int .i64 g0, .int .i64 g1, .int .i64 g2, .slice A5 n5 c5, .int .i64 g4, .int .i64 g5, .int .i64 g6] 28 (0, 0)) ∧ Below w.heap.size w W ∧ Below W8.heap.size W8 W) ⟨(alloc_off H_c.out), (alloc_off H_a.out), (alloc_off H_b.out), (heap_alloc_new _ _), (Below.alloc HB_W8.out hs_W8 _), (Below.alloc (Below.refl _ _) (Nat.le_refl _) _)⟩ ?_
  clear l_c f_c H_c c_c0 c_c1 c_c2 c_c3 c_c4 l_a f_a H_a c_a0 c_a1 c_a2 c_a3 c_a4 c_a5 c_a6 l_b f_b H_b c_b0 c_b1 c_b2 c_b3 c_b4 c_b5 c_b6
  rintro W9 ⟨g_c, g_a, g_b, g_t, hbw, ex0⟩
  have HB_W9 := Lib.hid hbw
  have hs_W9 := hbw.size
  clear hbw
  have l_c := lt_blk g_c
  obtain ⟨c_c0, c_c1, c_c2, c_c3, c_c4⟩ := cells5 g_c
  have f_c := frees g_c
  have H_c := Lib.hid g_c
  clear g_c
  have l_a := lt_blk g_a
  obtain ⟨c_a0, c_a1, c_a2, c_a3, c_a4, c_a5, c_a6⟩ := cells7 g_a
  have f_a := frees g_a
  have H_a := Lib.hid g_a
  clear g_a
  have l_b := lt_blk g_b
  obtain ⟨c_b0, c_b1, c_b2, c_b3, c_b4, c_b5, c_b6⟩ := cells7 g_b
  have f_b := frees g_b
  have H_b := Lib.hid g_b
  clear g_b
  have l_t := lt_blk g_t
  obtain ⟨c_t0, c_t1, c_t2, c_t3, c_t4, c_t5, c_t6⟩ := cells7 g_t
  have f_t := frees g_t
  have H_t := Lib.hid g_t
  clear g_t
  have HQ9 := Lib.hid (HQ8.out.trans (ex0.mono hq8))
  have hq9 := HQ9.out.size
  have HW9 := Lib.hid (HW8.out.below ex0)
  have hy8 : w.heap.size + 1 + 1 + 1 ≤ W8.heap.size := by omega
  clear ex0 HW8
  go_wp2_with fail
  refine (rnew_any A2 n2 c2 F L HL.out _ W5.heap.size hq9 (HE5.out.keep HQ9.out) HN2.out HC2.out).mono ?_
  rw [HG.out, HGE.out]
  unfold auV
  dsimp only
  rintro x W10 ⟨va, rfl, hb, hv⟩
  obtain ⟨A6, n6, c6, E6, rfl, hE6, hn6, hc6, he6⟩ := hv
  have g_c := (hb.block _ l_c).trans H_c.out
  have g_a := (hb.block _ l_a).trans H_a.out
  have g_b := (hb.block _ l_b).trans H_b.out
  have g_t := (hb.block _ l_t).trans H_t.out
  have HQ_W10 := Lib.hid hb
  have hq_W10 := hb.size
  have HB_W10 := Lib.hid (HB_W9.out.trans (HQ_W10.out.mono hs_W9))
  have hs_W10 : w.heap.size ≤ W10.heap.size := HB_W10.out.size
  clear l_c f_c H_c c_c0 c_c1 c_c2 c_c3 c_c4 l_a f_a H_a c_a0 c_a1 c_a2 c_a3 c_a4 c_a5 c_a6 l_b f_b H_b c_b0 c_b1 c_b2 c_b3 c_b4 c_b5 c_b6 l_t f_t H_t c_t0 c_t1 c_t2 c_t3 c_t4 c_t5 c_t6
  have l_c := lt_blk g_c
  obtain ⟨c_c0, c_c1, c_c2, c_c3, c_c4⟩ := cells5 g_c
  have f_c := frees g_c
  have H_c := Lib.hid g_c
  clear g_c
  have l_a := lt_blk g_a
  obtain ⟨c_a0, c_a1, c_a2, c_a3, c_a4, c_a5, c_a6⟩ := cells7 g_a
  have f_a := frees g_a
  have H_a := Lib.hid g_a
  clear g_a
  have l_b := lt_blk g_b
  obtain ⟨c_b0, c_b1, c_b2, c_b3, c_b4, c_b5, c_b6⟩ := cells7 g_b
  have f_b := frees g_b
  have H_b := Lib.hid g_b
  clear g_b
  have l_t := lt_blk g_t
  obtain ⟨c_t0, c_t1, c_t2, c_t3, c_t4, c_t5, c_t6⟩ := cells7 g_t
  have f_t := frees g_t
  have H_t := Lib.hid g_t
  clear g_t
  have HQ10 := Lib.hid (HQ9.out.trans (hb.mono hq9))
  have hq10 := HQ10.out.size
  have HW10 := Lib.hid (HW9.out.below hb)
  have HE6 := Lib.hid hE6
  have HN6 := Lib.hid hn6
  have HEL6 := Lib.hid he6
  clear hb hE6 hn6 hc6 he6 HW9
  go_upto_region 8 with (fail)
  refine wp_w (fun W => W.heap[w.heap.size]? = some (.cells #[.slice Ar m cr, .int .i64 mc, .int .i64 mt, .int .i64 mf, .int .i64 wt] 24 (0, 0)) ∧ W.heap[w.heap.size + 1]? = some (.cells #[.int .i64 st, .int .i64 id, .int .i64 req, .slice A2 n2 c2, .int .i64 cnt, .int .i64 tim, .int .i64 nak] 28 (0, 0)) ∧ W.heap[w.heap.size + 1 + 1]? = some (.cells #[.int .i64 tb, .int .i64 jb, .int .i64 rb, .slice A3 n3 c3, .int .i64 qb, .int .i64 mb, .int .i64 kb] 28 (0, 0)) ∧ W.heap[W8.heap.size]? = some (.cells #[.int .i64 g0, .int .i64 g1, .int .i64 g2, .slice A5 n5 c5, .int .i64 g4, .int .i64 g5, .int .i64 g6] 28 (0, 0)) ∧ W.heap[W10.heap.size]? = some (.cells #[.int .i64 g0, .int .i64 g1, .int .i64 g2, .slice A6 n6 c6, .int .i64 g4, .int .i64 g5, .int .i64 g6] 28 (0, 0)) ∧ Below w.heap.size w W ∧ Below W10.heap.size W10 W) ⟨(alloc_off H_c.out), (alloc_off H_a.out), (alloc_off H_b.out), (alloc_off H_t.out), (heap_alloc_new _ _), (Below.alloc HB_W10.out hs_W10 _), (Below.alloc (Below.refl _ _) (Nat.le_refl _) _)⟩ ?_
  clear l_c f_c H_c c_c0 c_c1 c_c2 c_c3 c_c4 l_a f_a H_a c_a0 c_a1 c_a2 c_a3 c_a4 c_a5 c_a6 l_b f_b H_b c_b0 c_b1 c_b2 c_b3 c_b4 c_b5 c_b6 l_t f_t H_t c_t0 c_t1 c_t2 c_t3 c_t4 c_t5 c_t6
  rintro W11 ⟨g_c, g_a, g_b, g_t, g_u, hbw, ex0⟩
  have HB_W11 := Lib.hid hbw
  have hs_W11 := hbw.size
  clear hbw
  have l_c := lt_blk g_c
  obtain ⟨c_c0, c_c1, c_c2, c_c3, c_c4⟩ := cells5 g_c
  have f_c := frees g_c
  have H_c := Lib.hid g_c
  clear g_c
  have l_a := lt_blk g_a
  obtain ⟨c_a0, c_a1, c_a2, c_a3, c_a4, c_a5, c_a6⟩ := cells7 g_a
  have f_a := frees g_a
  have H_a := Lib.hid g_a
  clear g_a
  have l_b := lt_blk g_b
  obtain ⟨c_b0, c_b1, c_b2, c_b3, c_b4, c_b5, c_b6⟩ := cells7 g_b
  have f_b := frees g_b
  have H_b := Lib.hid g_b
  clear g_b
  have l_t := lt_blk g_t
  obtain ⟨c_t0, c_t1, c_t2, c_t3, c_t4, c_t5, c_t6⟩ := cells7 g_t
  have f_t := frees g_t
  have H_t := Lib.hid g_t
  clear g_t
  have l_u := lt_blk g_u
  obtain ⟨c_u0, c_u1, c_u2, c_u3, c_u4, c_u5, c_u6⟩ := cells7 g_u
  have f_u := frees g_u
  have H_u := Lib.hid g_u
  clear g_u
  have HQ11 := Lib.hid (HQ10.out.trans (ex0.mono hq10))
  have hq11 := HQ11.out.size
  have HA5 := Lib.hid (HW10.out.below ex0).at
  have HA6 := Lib.hid ((HE6.out.keep ex0).more ex0.size)
  clear ex0 HW10 HE6
  have HA1 := Lib.hid ((HE5.out.keep HQ11.out).more hq11)
  have HA2 := Lib.hid ((HF5.out.keep HQ11.out).more hq11)
  have HRR := Lib.hid ((HR5.out.keep HQ11.out).more hq11)
  have HZ := Lib.hid (Below.refl W11.heap.size W11)
  have HX := Lib.hid (show w.heap.size < W11.heap.size ∧ w.heap.size + 1 < W11.heap.size ∧ w.heap.size + 1 + 1 < W11.heap.size ∧ W8.heap.size < W11.heap.size ∧ W10.heap.size < W11.heap.size by omega)
  obtain ⟨sb, hsb⟩ : ∃ b, sameA ⟨st, id, req, L, cnt, tim, nak⟩ ⟨tb, jb, rb, Lb, qb, mb, kb⟩ = b := ⟨_, rfl⟩
  have HSB := Lib.hid hsb
  clear hsb
  have hse : (sb == sb) = true := by simp
  have hee : (ge == ge) = true := by simp
  have hn5 : n5 ≤ 1000000 := by have h1 := congrArg List.length HE8.out; rw [List.length_map] at h1; have h2 := HN8.out; have h3 := auNew_ask L; rw [HG.out] at h3; dsimp only at h3; have := HLL.out; omega
  go_region_held3 (fun w' => w'.cell? ⟨w.heap.size, 0, none⟩ = some (.slice Ar m cr) ∧ w'.cell? ⟨w.heap.size, 1, none⟩ = some (.int .i64 mc) ∧ w'.cell? ⟨w.heap.size, 2, none⟩ = some (.int .i64 mt) ∧ w'.cell? ⟨w.heap.size, 3, none⟩ = some (.int .i64 mf) ∧ w'.cell? ⟨w.heap.size, 4, none⟩ = some (.int .i64 wt) ∧ w'.cell? ⟨w.heap.size + 1, 0, none⟩ = some (.int .i64 st) ∧ w'.cell? ⟨w.heap.size + 1, 1, none⟩ = some (.int .i64 id) ∧ w'.cell? ⟨w.heap.size + 1, 2, none⟩ = some (.int .i64 req) ∧ w'.cell? ⟨w.heap.size + 1, 3, none⟩ = some (.slice A2 n2 c2) ∧ w'.cell? ⟨w.heap.size + 1, 4, none⟩ = some (.int .i64 cnt) ∧ w'.cell? ⟨w.heap.size + 1, 5, none⟩ = some (.int .i64 tim) ∧ w'.cell? ⟨w.heap.size + 1, 6, none⟩ = some (.int .i64 nak) ∧ w'.cell? ⟨w.heap.size + 1 + 1, 0, none⟩ = some (.int .i64 tb) ∧ w'.cell? ⟨w.heap.size + 1 + 1, 1, none⟩ = some (.int .i64 jb) ∧ w'.cell? ⟨w.heap.size + 1 + 1, 2, none⟩ = some (.int .i64 rb) ∧ w'.cell? ⟨w.heap.size + 1 + 1, 3, none⟩ = some (.slice A3 n3 c3) ∧ w'.cell? ⟨w.heap.size + 1 + 1, 4, none⟩ = some (.int .i64 qb) ∧ w'.cell? ⟨w.heap.size + 1 + 1, 5, none⟩ = some (.int .i64 mb) ∧ w'.cell? ⟨w.heap.size + 1 + 1, 6, none⟩ = some (.int .i64 kb) ∧ w'.cell? ⟨W8.heap.size, 0, none⟩ = some (.int .i64 g0) ∧ w'.cell? ⟨W8.heap.size, 1, none⟩ = some (.int .i64 g1) ∧ w'.cell? ⟨W8.heap.size, 2, none⟩ = some (.int .i64 g2) ∧ w'.cell? ⟨W8.heap.size, 3, none⟩ = some (.slice A5 n5 c5) ∧ w'.cell? ⟨W8.heap.size, 4, none⟩ = some (.int .i64 g4) ∧ w'.cell? ⟨W8.heap.size, 5, none⟩ = some (.int .i64 g5) ∧ w'.cell? ⟨W8.heap.size, 6, none⟩ = some (.int .i64 g6) ∧ w'.cell? ⟨W10.heap.size, 0, none⟩ = some (.int .i64 g0) ∧ w'.cell? ⟨W10.heap.size, 1, none⟩ = some (.int .i64 g1) ∧ w'.cell? ⟨W10.heap.size, 2, none⟩ = some (.int .i64 g2) ∧ w'.cell? ⟨W10.heap.size, 3, none⟩ = some (.slice A6 n6 c6) ∧ w'.cell? ⟨W10.heap.size, 4, none⟩ = some (.int .i64 g4) ∧ w'.cell? ⟨W10.heap.size, 5, none⟩ = some (.int .i64 g5) ∧ w'.cell? ⟨W10.heap.size, 6, none⟩ = some (.int .i64 g6)) (first | exact ChkS.step w.heap.size (w.heap.size + 1) (w.heap.size + 1 + 1) W8.heap.size W10.heap.size m cr n2 c2 n3 c3 n5 c5 n6 c6 Ar A2 A3 A5 A6 mc mt mf wt st id req cnt tim nak tb jb rb qb mb kb g0 g1 g2 g4 g5 g6 (Z := W11.heap.size) HX.out HOS.out hb9 (by unfold ChkS; assumption) | exact ⟨c_c0, c_c1, c_c2, c_c3, c_c4, c_a0, c_a1, c_a2, c_a3, c_a4, c_a5, c_a6, c_b0, c_b1, c_b2, c_b3, c_b4, c_b5, c_b6, c_t0, c_t1, c_t2, c_t3, c_t4, c_t5, c_t6, c_u0, c_u1, c_u2, c_u3, c_u4, c_u5, c_u6⟩) (first | ((go_at_call 14; go_must (refine (acheck_any Ar m cr R1 mc mt mf wt st id req cnt tim nak A2 n2 c2 F L HL.out _ W11.heap.size (Below.size (show Below W11.heap.size W11 _ from by have := HZ.out; exact bel)) (HRR.out.keep (by have := HZ.out; exact bel)) HRM.out (by omega) (HA1.out.keep (by have := HZ.out; exact bel)) HN2.out).mono ?_); rw [HCK.out]; rintro e w9 ⟨rfl, hb9⟩; have HOS := Lib.hid (chain_size (W := W11) (by have := HZ.out; exact bel) hb9); have HZ := Lib.hid (chain16 (W := W11) (by have := HZ.out; exact bel) hb9))) | ((go_at_call 15; with_reducible (show Calls Try.prog 15 #[.agg #[.int .i64 g0, .int .i64 g1, .int .i64 g2, .slice A5 n5 c5, .int .i64 g4, .int .i64 g5, .int .i64 g6], .agg #[.int .i64 g0, .int .i64 g1, .int .i64 g2, .slice A6 n6 c6, .int .i64 g4, .int .i64 g5, .int .i64 g6]] _ _); go_must (refine (same_ref g0 g1 g2 g4 g5 g6 g0 g1 g2 g4 g5 g6 A5 A6 n5 n6 c5 c6 E8 E6 lg lg HE8.out HEL6.out _ W11.heap.size (Below.size (show Below W11.heap.size W11 _ from by have := HZ.out; exact bel)) (HA5.out.keep (by have := HZ.out; exact bel)) (HA6.out.keep (by have := HZ.out; exact bel)) HN8.out HN6.out hn5).mono ?_); rw [sameA_self]; rintro e w9 ⟨rfl, hb9⟩; have HOS := Lib.hid (chain_size (W := W11) (by have := HZ.out; exact bel) hb9); have HZ := Lib.hid (chain16 (W := W11) (by have := HZ.out; exact bel) hb9))) | ((go_at_call 15; with_reducible (show Calls Try.prog 15 #[.agg #[.int .i64 st, .int .i64 id, .int .i64 req, .slice A2 n2 c2, .int .i64 cnt, .int .i64 tim, .int .i64 nak], .agg #[.int .i64 tb, .int .i64 jb, .int .i64 rb, .slice A3 n3 c3, .int .i64 qb, .int .i64 mb, .int .i64 kb]] _ _); go_must (refine (same_ref st id req cnt tim nak tb jb rb qb mb kb A2 A3 n2 n3 c2 c3 F G L Lb HL.out HLB.out _ W11.heap.size (Below.size (show Below W11.heap.size W11 _ from by have := HZ.out; exact bel)) (HA1.out.keep (by have := HZ.out; exact bel)) (HA2.out.keep (by have := HZ.out; exact bel)) HN2.out HN3.out (by omega)).mono ?_); rw [HSB.out]; rintro e w9 ⟨rfl, hb9⟩; have HOS := Lib.hid (chain_size (W := W11) (by have := HZ.out; exact bel) hb9); have HZ := Lib.hid (chain16 (W := W11) (by have := HZ.out; exact bel) hb9))) | ((go_at_call 16; with_reducible (show Calls Try.prog 16 #[.agg #[.int .i64 st, .int .i64 id, .int .i64 req, .slice A2 n2 c2, .int .i64 cnt, .int .i64 tim, .int .i64 nak], .agg #[.int .i64 tb, .int .i64 jb, .int .i64 rb, .slice A3 n3 c3, .int .i64 qb, .int .i64 mb, .int .i64 kb]] _ _); go_must (refine (same16_any st id req cnt tim nak tb jb rb qb mb kb A2 A3 n2 n3 c2 c3 F G L Lb HL.out HLB.out _ W11.heap.size (Below.size (show Below W11.heap.size W11 _ from by have := HZ.out; exact bel)) (HA1.out.keep (by have := HZ.out; exact bel)) (HA2.out.keep (by have := HZ.out; exact bel)) HN2.out HN3.out (by omega)).mono ?_); rw [HSB.out]; rintro e w9 ⟨rfl, hb9⟩; have HOS := Lib.hid (chain_size (W := W11) (by have := HZ.out; exact bel) hb9); have HZ := Lib.hid (chain16 (W := W11) (by have := HZ.out; exact bel) hb9))) | ((go_at_call 16; with_reducible (show Calls Try.prog 16 #[.agg #[.int .i64 st, .int .i64 id, .int .i64 req, .slice A2 n2 c2, .int .i64 cnt, .int .i64 tim, .int .i64 nak], .agg #[.int .i64 st, .int .i64 id, .int .i64 req, .slice A2 n2 c2, .int .i64 cnt, .int .i64 tim, .int .i64 nak]] _ _); go_must (refine (same16_any st id req cnt tim nak st id req cnt tim nak A2 A2 n2 n2 c2 c2 F F L L HL.out HL.out _ W11.heap.size (Below.size (show Below W11.heap.size W11 _ from by have := HZ.out; exact bel)) (HA1.out.keep (by have := HZ.out; exact bel)) (HA1.out.keep (by have := HZ.out; exact bel)) HN2.out HN2.out (by omega)).mono ?_); rw [sameA_self]; rintro e w9 ⟨rfl, hb9⟩; have HOS := Lib.hid (chain_size (W := W11) (by have := HZ.out; exact bel) hb9); have HZ := Lib.hid (chain16 (W := W11) (by have := HZ.out; exact bel) hb9))) | ((go_at_call 8; go_must (refine (awake_any _).mono ?_); rintro e w9 ⟨rfl, hb9⟩; have HOS := Lib.hid (chain_size (W := W11) (by have := HZ.out; exact bel) hb9); have HZ := Lib.hid (chain16 (W := W11) (by have := HZ.out; exact bel) hb9))))
  all_goals
    go_wp2_with fail
    go_ret
    exact ⟨rfl, HB_W11.out.trans (HZ.out.mono hs_W11)⟩
set_option maxRecDepth 100000 in
set_option maxHeartbeats 16000000 in
theorem checks_10 (Ar Aa Ab : Option Addr) (nr cr na ca nb cb : Nat) (R : List Rl) (mc mt mf wt st id req cnt tim nak tb jb rb qb mb kb : Int) (E Eb : List Ent) (w : World) (hR : RulesAt w w.heap.size Ar R) (hnr : nr = R.length) (hcr : nr ≤ cr) (hlr : (nr : Int) ≤ 9223372036854775807) (hE : OptsAt w w.heap.size Aa E) (hna : na = E.length) (hla : (na : Int) ≤ 9223372036854775807) (hda : ∀ e ∈ E, (e.d.length : Int) ≤ 9223372036854775807) (hEb : OptsAt w w.heap.size Ab Eb) (hnb : nb = Eb.length) (hlb : (nb : Int) ≤ 9223372036854775807) (hdb : ∀ e ∈ Eb, (e.d.length : Int) ≤ 9223372036854775807) (hcb : confB ⟨R.take 20, mc, mt, mf, wt⟩ = true) (hib : isB ⟨st, id, req, (litE E).map Ent.o, cnt, tim, nak⟩ = false) :
    Calls Try.prog 4 #[.agg #[.slice Ar nr cr, .int .i64 mc, .int .i64 mt, .int .i64 mf, .int .i64 wt], .agg #[.int .i64 st, .int .i64 id, .int .i64 req, .slice Aa na ca, .int .i64 cnt, .int .i64 tim, .int .i64 nak], .agg #[.int .i64 tb, .int .i64 jb, .int .i64 rb, .slice Ab nb cb, .int .i64 qb, .int .i64 mb, .int .i64 kb]] w fun x w' => x = .returned (.bool true) ∧ Below w.heap.size w w' := by
  have HR := Lib.hid hR
  have HE := Lib.hid hE
  have HNA := Lib.hid hna
  have HDA := Lib.hid hda
  have HEB := Lib.hid hEb
  have HNB := Lib.hid hnb
  have HDB := Lib.hid hdb
  have HCB := Lib.hid hcb
  have HIB := Lib.hid hib
  obtain ⟨m, hm⟩ : ∃ m, min nr 20 = m := ⟨_, rfl⟩
  have HM := Lib.hid hm
  have HRM := Lib.hid (show m = (R.take 20).length by rw [List.length_take]; omega)
  have hm20 : m ≤ 20 := by omega
  clear hR hE hna hda hm hnr hEb hnb hdb hcb hib
  go_enter Try.func4, Try.ntmps4
  go_upto_region 1 with (fail)
  refine wp_w (fun W => W.heap[w.heap.size]? = some (.cells #[.slice Ar nr cr, .int .i64 mc, .int .i64 mt, .int .i64 mf, .int .i64 wt] 24 (0, 0)) ∧ W.heap[w.heap.size + 1]? = some (.cells #[.int .i64 st, .int .i64 id, .int .i64 req, .slice Aa na ca, .int .i64 cnt, .int .i64 tim, .int .i64 nak] 28 (0, 0)) ∧ W.heap[w.heap.size + 1 + 1]? = some (.cells #[.int .i64 tb, .int .i64 jb, .int .i64 rb, .slice Ab nb cb, .int .i64 qb, .int .i64 mb, .int .i64 kb] 28 (0, 0)) ∧ Below w.heap.size w W) ⟨by (repeat (first | ((refine heap_alloc_at _ _ _ ?_); (simp [go_sem]; done)) | ((refine (heap_ext _ _ _ _ ?_).trans ?_); (focus (simp [go_sem]; done))) | ((refine (heap_alloc_past _ _ _ ?_).trans ?_); (focus (simp [go_sem]; done))))), by (repeat (first | ((refine heap_alloc_at _ _ _ ?_); (simp [go_sem]; done)) | ((refine (heap_ext _ _ _ _ ?_).trans ?_); (focus (simp [go_sem]; done))) | ((refine (heap_alloc_past _ _ _ ?_).trans ?_); (focus (simp [go_sem]; done))))), by (repeat (first | ((refine heap_alloc_at _ _ _ ?_); (simp [go_sem]; done)) | ((refine (heap_ext _ _ _ _ ?_).trans ?_); (focus (simp [go_sem]; done))) | ((refine (heap_alloc_past _ _ _ ?_).trans ?_); (focus (simp [go_sem]; done))))), by exact bel⟩ ?_
  rintro W1 ⟨g_c, g_a, g_b, hbw⟩
  have HB_W1 := Lib.hid hbw
  have hs_W1 := hbw.size
  clear hbw
  have l_c := lt_blk g_c
  obtain ⟨c_c0, c_c1, c_c2, c_c3, c_c4⟩ := cells5 g_c
  have f_c := frees g_c
  have H_c := Lib.hid g_c
  clear g_c
  have l_a := lt_blk g_a
  obtain ⟨c_a0, c_a1, c_a2, c_a3, c_a4, c_a5, c_a6⟩ := cells7 g_a
  have f_a := frees g_a
  have H_a := Lib.hid g_a
  clear g_a
  have l_b := lt_blk g_b
  obtain ⟨c_b0, c_b1, c_b2, c_b3, c_b4, c_b5, c_b6⟩ := cells7 g_b
  have f_b := frees g_b
  have H_b := Lib.hid g_b
  clear g_b
  have hz1 : w.heap.size + 1 + 1 + 1 ≤ W1.heap.size := by omega
  go_wp2_with fail
  refine (light_any Ar Aa none nr cr na ca 0 0 mc mt mf wt st id req cnt tim nak 0 0 E _ w.heap.size hs_W1 (HE.out.keep HB_W1.out) HNA.out hla HDA.out hcr hlr (Nat.le_refl _) (by omega)).mono ?_
  rw [HM.out]
  rintro x W2 ⟨A2, n2, c2, rfl, hb, ho, hn2⟩
  have g_c := (hb.block _ l_c).trans H_c.out
  have g_a := (hb.block _ l_a).trans H_a.out
  have g_b := (hb.block _ l_b).trans H_b.out
  have HQ_W2 := Lib.hid hb
  have hq_W2 := hb.size
  have HB_W2 := Lib.hid (HB_W1.out.trans (HQ_W2.out.mono hs_W1))
  have hs_W2 : w.heap.size ≤ W2.heap.size := HB_W2.out.size
  clear l_c f_c H_c c_c0 c_c1 c_c2 c_c3 c_c4 l_a f_a H_a c_a0 c_a1 c_a2 c_a3 c_a4 c_a5 c_a6 l_b f_b H_b c_b0 c_b1 c_b2 c_b3 c_b4 c_b5 c_b6
  have l_c := lt_blk g_c
  obtain ⟨c_c0, c_c1, c_c2, c_c3, c_c4⟩ := cells5 g_c
  have f_c := frees g_c
  have H_c := Lib.hid g_c
  clear g_c
  have l_a := lt_blk g_a
  obtain ⟨c_a0, c_a1, c_a2, c_a3, c_a4, c_a5, c_a6⟩ := cells7 g_a
  have f_a := frees g_a
  have H_a := Lib.hid g_a
  clear g_a
  have l_b := lt_blk g_b
  obtain ⟨c_b0, c_b1, c_b2, c_b3, c_b4, c_b5, c_b6⟩ := cells7 g_b
  have f_b := frees g_b
  have H_b := Lib.hid g_b
  clear g_b
  have HO2 := Lib.hid ho
  have HN2 := Lib.hid hn2
  have hn70 : n2 ≤ 70 := by have := lit_len E; omega
  have HC2 := Lib.hid (show n2 ≤ c2 by obtain ⟨A9, c9, hv, hc, -⟩ := ownsRow_form ho; cases hv; exact hc)
  clear hb ho hn2
  go_upto_region 2 with (fail)
  refine wp_w (fun W => W.heap[w.heap.size]? = some (.cells #[.slice Ar m cr, .int .i64 mc, .int .i64 mt, .int .i64 mf, .int .i64 wt] 24 (0, 0)) ∧ W.heap[w.heap.size + 1]? = some (.cells #[.int .i64 st, .int .i64 id, .int .i64 req, .slice A2 n2 c2, .int .i64 cnt, .int .i64 tim, .int .i64 nak] 28 (0, 0)) ∧ W.heap[w.heap.size + 1 + 1]? = some (.cells #[.int .i64 tb, .int .i64 jb, .int .i64 rb, .slice Ab nb cb, .int .i64 qb, .int .i64 mb, .int .i64 kb] 28 (0, 0)) ∧ Below w.heap.size w W ∧ W.ownsRow (w.heap.size + 1 + 1 + 1) 59 2 (.slice A2 n2 c2) n2 (cellsE (litE E))) ⟨(by (iterate 7 (with_reducible refine set_off ?_ (by omega))); refine rows5 (cs := #[.slice Ar nr cr, .int .i64 mc, .int .i64 mt, .int .i64 mf, .int .i64 wt]) ?_ rfl _ _ _ _ _; skip; exact H_c.out), (by skip; refine row7 (cs := #[.int .i64 st, .int .i64 id, .int .i64 req, .slice Aa na ca, .int .i64 cnt, .int .i64 tim, .int .i64 nak]) ?_ rfl _ _ _ _ _ _ _; (iterate 5 (with_reducible refine set_off ?_ (by omega))); exact H_a.out), (by (iterate 12 (with_reducible refine set_off ?_ (by omega))); exact H_b.out), (by (iterate 12 (with_reducible refine Below.setCell ?_ (by first | omega | (dsimp only; omega)) _)); exact HB_W2.out), (by refine own_base (own_keep HO2.out (fun k hk => ?_)) (by omega); have hle := own_le HO2.out hk; (iterate 12 (with_reducible refine set_off ?_ (by omega))); rfl)⟩ ?_
  clear l_c f_c H_c c_c0 c_c1 c_c2 c_c3 c_c4 l_a f_a H_a c_a0 c_a1 c_a2 c_a3 c_a4 c_a5 c_a6 l_b f_b H_b c_b0 c_b1 c_b2 c_b3 c_b4 c_b5 c_b6
  rintro W3 ⟨g_c, g_a, g_b, hbw, ex0⟩
  have HB_W3 := Lib.hid hbw
  have hs_W3 := hbw.size
  clear hbw
  have l_c := lt_blk g_c
  obtain ⟨c_c0, c_c1, c_c2, c_c3, c_c4⟩ := cells5 g_c
  have f_c := frees g_c
  have H_c := Lib.hid g_c
  clear g_c
  have l_a := lt_blk g_a
  obtain ⟨c_a0, c_a1, c_a2, c_a3, c_a4, c_a5, c_a6⟩ := cells7 g_a
  have f_a := frees g_a
  have H_a := Lib.hid g_a
  clear g_a
  have l_b := lt_blk g_b
  obtain ⟨c_b0, c_b1, c_b2, c_b3, c_b4, c_b5, c_b6⟩ := cells7 g_b
  have f_b := frees g_b
  have H_b := Lib.hid g_b
  clear g_b
  have HO3 := Lib.hid ex0
  clear ex0 HO2
  have hz3 : w.heap.size + 1 + 1 + 1 ≤ W3.heap.size := by omega
  go_wp2_with fail
  refine (lit_any Ab nb cb Eb _ w.heap.size hs_W3 (HEB.out.keep HB_W3.out) HNB.out hlb HDB.out).mono ?_
  rintro x W4 ⟨A3, n3, c3, rfl, hb, ho, hn3⟩
  have g_c := (hb.block _ l_c).trans H_c.out
  have g_a := (hb.block _ l_a).trans H_a.out
  have g_b := (hb.block _ l_b).trans H_b.out
  have HQ_W4 := Lib.hid hb
  have hq_W4 := hb.size
  have HB_W4 := Lib.hid (HB_W3.out.trans (HQ_W4.out.mono hs_W3))
  have hs_W4 : w.heap.size ≤ W4.heap.size := HB_W4.out.size
  clear l_c f_c H_c c_c0 c_c1 c_c2 c_c3 c_c4 l_a f_a H_a c_a0 c_a1 c_a2 c_a3 c_a4 c_a5 c_a6 l_b f_b H_b c_b0 c_b1 c_b2 c_b3 c_b4 c_b5 c_b6
  have l_c := lt_blk g_c
  obtain ⟨c_c0, c_c1, c_c2, c_c3, c_c4⟩ := cells5 g_c
  have f_c := frees g_c
  have H_c := Lib.hid g_c
  clear g_c
  have l_a := lt_blk g_a
  obtain ⟨c_a0, c_a1, c_a2, c_a3, c_a4, c_a5, c_a6⟩ := cells7 g_a
  have f_a := frees g_a
  have H_a := Lib.hid g_a
  clear g_a
  have l_b := lt_blk g_b
  obtain ⟨c_b0, c_b1, c_b2, c_b3, c_b4, c_b5, c_b6⟩ := cells7 g_b
  have f_b := frees g_b
  have H_b := Lib.hid g_b
  clear g_b
  have HO4 := Lib.hid (own_below HO3.out hb)
  have HP4 := Lib.hid ho
  have HN3 := Lib.hid hn3
  have hn70b : n3 ≤ 70 := by have := lit_len Eb; omega
  have HC3 := Lib.hid (show n3 ≤ c3 by obtain ⟨A9, c9, hv, hc, -⟩ := ownsRow_form ho; cases hv; exact hc)
  clear hb ho hn3 HO3
  go_upto_region 3 with (fail)
  refine wp_w (fun W => W.heap[w.heap.size]? = some (.cells #[.slice Ar m cr, .int .i64 mc, .int .i64 mt, .int .i64 mf, .int .i64 wt] 24 (0, 0)) ∧ W.heap[w.heap.size + 1]? = some (.cells #[.int .i64 st, .int .i64 id, .int .i64 req, .slice A2 n2 c2, .int .i64 cnt, .int .i64 tim, .int .i64 nak] 28 (0, 0)) ∧ W.heap[w.heap.size + 1 + 1]? = some (.cells #[.int .i64 tb, .int .i64 jb, .int .i64 rb, .slice A3 n3 c3, .int .i64 qb, .int .i64 mb, .int .i64 kb] 28 (0, 0)) ∧ Below w.heap.size w W ∧ W.ownsRow (w.heap.size + 1 + 1 + 1) 59 2 (.slice A2 n2 c2) n2 (cellsE (litE E)) ∧ W.ownsRow (w.heap.size + 1 + 1 + 1) 59 2 (.slice A3 n3 c3) n3 (cellsE (litE Eb))) ⟨(set_off H_c.out (by omega)), (set_off H_a.out (by omega)), (set_in H_b.out rfl), (Below.setCell HB_W4.out (by first | omega | (dsimp only; omega)) _), (by refine own_base (own_keep HO4.out (fun k hk => ?_)) (by omega); have hle := own_le HO4.out hk; (iterate 1 (with_reducible refine set_off ?_ (by omega))); rfl), (by refine own_base (own_keep HP4.out (fun k hk => ?_)) (by omega); have hle := own_le HP4.out hk; (iterate 1 (with_reducible refine set_off ?_ (by omega))); rfl)⟩ ?_
  clear l_c f_c H_c c_c0 c_c1 c_c2 c_c3 c_c4 l_a f_a H_a c_a0 c_a1 c_a2 c_a3 c_a4 c_a5 c_a6 l_b f_b H_b c_b0 c_b1 c_b2 c_b3 c_b4 c_b5 c_b6
  rintro W5 ⟨g_c, g_a, g_b, hbw, ex0, ex1⟩
  have HB_W5 := Lib.hid hbw
  have hs_W5 := hbw.size
  clear hbw
  have l_c := lt_blk g_c
  obtain ⟨c_c0, c_c1, c_c2, c_c3, c_c4⟩ := cells5 g_c
  have f_c := frees g_c
  have H_c := Lib.hid g_c
  clear g_c
  have l_a := lt_blk g_a
  obtain ⟨c_a0, c_a1, c_a2, c_a3, c_a4, c_a5, c_a6⟩ := cells7 g_a
  have f_a := frees g_a
  have H_a := Lib.hid g_a
  clear g_a
  have l_b := lt_blk g_b
  obtain ⟨c_b0, c_b1, c_b2, c_b3, c_b4, c_b5, c_b6⟩ := cells7 g_b
  have f_b := frees g_b
  have H_b := Lib.hid g_b
  clear g_b
  have HO5 := Lib.hid ex0
  have HP5 := Lib.hid ex1
  clear ex0 ex1 HO4 HP4
  have HR5 := Lib.hid ((rulesAt_take (HR.out.keep HB_W5.out) 20).more hs_W5)
  have HE5 := Lib.hid (lit_at HE.out (Nat.le_refl _) HB_W5.out HO5.out)
  have HF5 := Lib.hid (lit_at HEB.out (Nat.le_refl _) HB_W5.out HP5.out)
  have HLD := Lib.hid (lit_data E)
  have hz5 : w.heap.size + 1 + 1 + 1 ≤ W5.heap.size := by omega
  generalize R.take 20 = R1 at HR5 HRM HCB
  generalize litE E = F at HO5 HE5 HN2 HLD HIB
  generalize litE Eb = G at HP5 HF5 HN3
  obtain ⟨L, hL⟩ : ∃ L, F.map Ent.o = L := ⟨_, rfl⟩
  have HL := Lib.hid hL
  have HLL := Lib.hid (show L.length ≤ 1000 by rw [← hL, List.length_map]; have := HN2.out; omega)
  rw [hL] at HIB
  clear hL HO5 HP5
  obtain ⟨Lb, hLb⟩ : ∃ L, G.map Ent.o = L := ⟨_, rfl⟩
  have HLB := Lib.hid hLb
  clear hLb
  go_wp2_with fail
  refine (conf_ref Ar m cr R1 mc mt mf wt _ W5.heap.size (Nat.le_refl _) HR5.out HRM.out (by omega)).mono ?_
  rw [HCB.out]
  rintro x W6 ⟨rfl, hb⟩
  have g_c := (hb.block _ l_c).trans H_c.out
  have g_a := (hb.block _ l_a).trans H_a.out
  have g_b := (hb.block _ l_b).trans H_b.out
  have HQ_W6 := Lib.hid hb
  have hq_W6 := hb.size
  have HB_W6 := Lib.hid (HB_W5.out.trans (HQ_W6.out.mono hs_W5))
  have hs_W6 : w.heap.size ≤ W6.heap.size := HB_W6.out.size
  clear l_c f_c H_c c_c0 c_c1 c_c2 c_c3 c_c4 l_a f_a H_a c_a0 c_a1 c_a2 c_a3 c_a4 c_a5 c_a6 l_b f_b H_b c_b0 c_b1 c_b2 c_b3 c_b4 c_b5 c_b6
  have l_c := lt_blk g_c
  obtain ⟨c_c0, c_c1, c_c2, c_c3, c_c4⟩ := cells5 g_c
  have f_c := frees g_c
  have H_c := Lib.hid g_c
  clear g_c
  have l_a := lt_blk g_a
  obtain ⟨c_a0, c_a1, c_a2, c_a3, c_a4, c_a5, c_a6⟩ := cells7 g_a
  have f_a := frees g_a
  have H_a := Lib.hid g_a
  clear g_a
  have l_b := lt_blk g_b
  obtain ⟨c_b0, c_b1, c_b2, c_b3, c_b4, c_b5, c_b6⟩ := cells7 g_b
  have f_b := frees g_b
  have H_b := Lib.hid g_b
  clear g_b
  clear hb
  have HQ := Lib.hid HQ_W6.out
  have hq := HQ.out.size
  go_wp2_with fail
  refine (is_ref st id req cnt tim nak A2 n2 c2 F L HL.out _ W5.heap.size hq_W6 (HE5.out.keep HQ_W6.out) HN2.out).mono ?_
  rw [HIB.out]
  rintro x W7 ⟨rfl, hb⟩
  have g_c := (hb.block _ l_c).trans H_c.out
  have g_a := (hb.block _ l_a).trans H_a.out
  have g_b := (hb.block _ l_b).trans H_b.out
  have HQ_W7 := Lib.hid hb
  have hq_W7 := hb.size
  have HB_W7 := Lib.hid (HB_W6.out.trans (HQ_W7.out.mono hs_W6))
  have hs_W7 : w.heap.size ≤ W7.heap.size := HB_W7.out.size
  clear l_c f_c H_c c_c0 c_c1 c_c2 c_c3 c_c4 l_a f_a H_a c_a0 c_a1 c_a2 c_a3 c_a4 c_a5 c_a6 l_b f_b H_b c_b0 c_b1 c_b2 c_b3 c_b4 c_b5 c_b6
  have l_c := lt_blk g_c
  obtain ⟨c_c0, c_c1, c_c2, c_c3, c_c4⟩ := cells5 g_c
  have f_c := frees g_c
  have H_c := Lib.hid g_c
  clear g_c
  have l_a := lt_blk g_a
  obtain ⟨c_a0, c_a1, c_a2, c_a3, c_a4, c_a5, c_a6⟩ := cells7 g_a
  have f_a := frees g_a
  have H_a := Lib.hid g_a
  clear g_a
  have l_b := lt_blk g_b
  obtain ⟨c_b0, c_b1, c_b2, c_b3, c_b4, c_b5, c_b6⟩ := cells7 g_b
  have f_b := frees g_b
  have H_b := Lib.hid g_b
  clear g_b
  clear HQ hq
  have HQ := Lib.hid (HQ_W6.out.trans (hb.mono hq_W6))
  have hq := HQ.out.size
  clear hb
  have HCK := Lib.hid (show checkE ⟨R1, mc, mt, mf, wt⟩ ⟨st, id, req, L, cnt, tim, nak⟩ = 160 by unfold checkE; simp [HCB.out, HIB.out])
  go_wp2_with fail
  refine (new_any A2 n2 c2 F L HL.out _ W5.heap.size hq (HE5.out.keep HQ.out) HN2.out (by omega) (fun e he => by have := HLD.out e he; omega)).mono ?_
  rintro x W8 ⟨v8, rfl, E8, A5, n5, c5, rfl, he8, hn8, hc8, hb, ho8⟩
  have g_c := (hb.block _ l_c).trans H_c.out
  have g_a := (hb.block _ l_a).trans H_a.out
  have g_b := (hb.block _ l_b).trans H_b.out
  have HQ_W8 := Lib.hid hb
  have hq_W8 := hb.size
  have HB_W8 := Lib.hid (HB_W7.out.trans (HQ_W8.out.mono hs_W7))
  have hs_W8 : w.heap.size ≤ W8.heap.size := HB_W8.out.size
  clear l_c f_c H_c c_c0 c_c1 c_c2 c_c3 c_c4 l_a f_a H_a c_a0 c_a1 c_a2 c_a3 c_a4 c_a5 c_a6 l_b f_b H_b c_b0 c_b1 c_b2 c_b3 c_b4 c_b5 c_b6
  have l_c := lt_blk g_c
  obtain ⟨c_c0, c_c1, c_c2, c_c3, c_c4⟩ := cells5 g_c
  have f_c := frees g_c
  have H_c := Lib.hid g_c
  clear g_c
  have l_a := lt_blk g_a
  obtain ⟨c_a0, c_a1, c_a2, c_a3, c_a4, c_a5, c_a6⟩ := cells7 g_a
  have f_a := frees g_a
  have H_a := Lib.hid g_a
  clear g_a
  have l_b := lt_blk g_b
  obtain ⟨c_b0, c_b1, c_b2, c_b3, c_b4, c_b5, c_b6⟩ := cells7 g_b
  have f_b := frees g_b
  have H_b := Lib.hid g_b
  clear g_b
  have HQ8 := Lib.hid (HQ.out.trans (hb.mono hq))
  have hq8 := HQ8.out.size
  have HE8 := Lib.hid he8
  have HN8 := Lib.hid hn8
  have HC8 := Lib.hid hc8
  have HW8 := Lib.hid ho8
  clear he8 hn8 hc8 ho8 hb
  obtain ⟨⟨g0, g1, g2, lg, g4, g5, g6⟩, hg⟩ : ∃ a, auNew L = a := ⟨_, rfl⟩
  have HG := Lib.hid hg
  have hge : errNew L = errNew L := rfl
  obtain ⟨ge, hge⟩ : ∃ e, errNew L = e := ⟨_, rfl⟩
  have HGE := Lib.hid hge
  rw [hg] at HE8 ⊢
  rw [hge]
  dsimp only at HE8 ⊢
  clear hg hge
  go_upto_region 7 with (fail)
  refine wp_w (fun W => W.heap[w.heap.size]? = some (.cells #[.slice Ar m cr, .int .i64 mc, .int .i64 mt, .int .i64 mf, .int .i64 wt] 24 (0, 0)) ∧ W.heap[w.heap.size + 1]? = some (.cells #[.int .i64 st, .int .i64 id, .int .i64 req, .slice A2 n2 c2, .int .i64 cnt, .int .i64 tim, .int .i64 nak] 28 (0, 0)) ∧ W.heap[w.heap.size + 1 + 1]? = some (.cells #[.int .i64 tb, .int .i64 jb, .int .i64 rb, .slice A3 n3 c3, .int .i64 qb, .int .i64 mb, .int .i64 kb] 28 (0, 0)) ∧ W.heap[W8.heap.size]? = some (.cells #[.int .i64 g0, .int .i64 g1, .int .i64 g2, .slice A5 n5 c5, .int .i64 g4, .int .i64 g5, .int .i64 g6] 28 (0, 0)) ∧ Below w.heap.size w W ∧ Below W8.heap.size W8 W) ⟨(alloc_off H_c.out), (alloc_off H_a.out), (alloc_off H_b.out), (heap_alloc_new _ _), (Below.alloc HB_W8.out hs_W8 _), (Below.alloc (Below.refl _ _) (Nat.le_refl _) _)⟩ ?_
  clear l_c f_c H_c c_c0 c_c1 c_c2 c_c3 c_c4 l_a f_a H_a c_a0 c_a1 c_a2 c_a3 c_a4 c_a5 c_a6 l_b f_b H_b c_b0 c_b1 c_b2 c_b3 c_b4 c_b5 c_b6
  rintro W9 ⟨g_c, g_a, g_b, g_t, hbw, ex0⟩
  have HB_W9 := Lib.hid hbw
  have hs_W9 := hbw.size
  clear hbw
  have l_c := lt_blk g_c
  obtain ⟨c_c0, c_c1, c_c2, c_c3, c_c4⟩ := cells5 g_c
  have f_c := frees g_c
  have H_c := Lib.hid g_c
  clear g_c
  have l_a := lt_blk g_a
  obtain ⟨c_a0, c_a1, c_a2, c_a3, c_a4, c_a5, c_a6⟩ := cells7 g_a
  have f_a := frees g_a
  have H_a := Lib.hid g_a
  clear g_a
  have l_b := lt_blk g_b
  obtain ⟨c_b0, c_b1, c_b2, c_b3, c_b4, c_b5, c_b6⟩ := cells7 g_b
  have f_b := frees g_b
  have H_b := Lib.hid g_b
  clear g_b
  have l_t := lt_blk g_t
  obtain ⟨c_t0, c_t1, c_t2, c_t3, c_t4, c_t5, c_t6⟩ := cells7 g_t
  have f_t := frees g_t
  have H_t := Lib.hid g_t
  clear g_t
  have HQ9 := Lib.hid (HQ8.out.trans (ex0.mono hq8))
  have hq9 := HQ9.out.size
  have HW9 := Lib.hid (HW8.out.below ex0)
  have hy8 : w.heap.size + 1 + 1 + 1 ≤ W8.heap.size := by omega
  clear ex0 HW8
  go_wp2_with fail
  refine (rnew_any A2 n2 c2 F L HL.out _ W5.heap.size hq9 (HE5.out.keep HQ9.out) HN2.out HC2.out).mono ?_
  rw [HG.out, HGE.out]
  unfold auV
  dsimp only
  rintro x W10 ⟨va, rfl, hb, hv⟩
  obtain ⟨A6, n6, c6, E6, rfl, hE6, hn6, hc6, he6⟩ := hv
  have g_c := (hb.block _ l_c).trans H_c.out
  have g_a := (hb.block _ l_a).trans H_a.out
  have g_b := (hb.block _ l_b).trans H_b.out
  have g_t := (hb.block _ l_t).trans H_t.out
  have HQ_W10 := Lib.hid hb
  have hq_W10 := hb.size
  have HB_W10 := Lib.hid (HB_W9.out.trans (HQ_W10.out.mono hs_W9))
  have hs_W10 : w.heap.size ≤ W10.heap.size := HB_W10.out.size
  clear l_c f_c H_c c_c0 c_c1 c_c2 c_c3 c_c4 l_a f_a H_a c_a0 c_a1 c_a2 c_a3 c_a4 c_a5 c_a6 l_b f_b H_b c_b0 c_b1 c_b2 c_b3 c_b4 c_b5 c_b6 l_t f_t H_t c_t0 c_t1 c_t2 c_t3 c_t4 c_t5 c_t6
  have l_c := lt_blk g_c
  obtain ⟨c_c0, c_c1, c_c2, c_c3, c_c4⟩ := cells5 g_c
  have f_c := frees g_c
  have H_c := Lib.hid g_c
  clear g_c
  have l_a := lt_blk g_a
  obtain ⟨c_a0, c_a1, c_a2, c_a3, c_a4, c_a5, c_a6⟩ := cells7 g_a
  have f_a := frees g_a
  have H_a := Lib.hid g_a
  clear g_a
  have l_b := lt_blk g_b
  obtain ⟨c_b0, c_b1, c_b2, c_b3, c_b4, c_b5, c_b6⟩ := cells7 g_b
  have f_b := frees g_b
  have H_b := Lib.hid g_b
  clear g_b
  have l_t := lt_blk g_t
  obtain ⟨c_t0, c_t1, c_t2, c_t3, c_t4, c_t5, c_t6⟩ := cells7 g_t
  have f_t := frees g_t
  have H_t := Lib.hid g_t
  clear g_t
  have HQ10 := Lib.hid (HQ9.out.trans (hb.mono hq9))
  have hq10 := HQ10.out.size
  have HW10 := Lib.hid (HW9.out.below hb)
  have HE6 := Lib.hid hE6
  have HN6 := Lib.hid hn6
  have HEL6 := Lib.hid he6
  clear hb hE6 hn6 hc6 he6 HW9
  go_upto_region 8 with (fail)
  refine wp_w (fun W => W.heap[w.heap.size]? = some (.cells #[.slice Ar m cr, .int .i64 mc, .int .i64 mt, .int .i64 mf, .int .i64 wt] 24 (0, 0)) ∧ W.heap[w.heap.size + 1]? = some (.cells #[.int .i64 st, .int .i64 id, .int .i64 req, .slice A2 n2 c2, .int .i64 cnt, .int .i64 tim, .int .i64 nak] 28 (0, 0)) ∧ W.heap[w.heap.size + 1 + 1]? = some (.cells #[.int .i64 tb, .int .i64 jb, .int .i64 rb, .slice A3 n3 c3, .int .i64 qb, .int .i64 mb, .int .i64 kb] 28 (0, 0)) ∧ W.heap[W8.heap.size]? = some (.cells #[.int .i64 g0, .int .i64 g1, .int .i64 g2, .slice A5 n5 c5, .int .i64 g4, .int .i64 g5, .int .i64 g6] 28 (0, 0)) ∧ W.heap[W10.heap.size]? = some (.cells #[.int .i64 g0, .int .i64 g1, .int .i64 g2, .slice A6 n6 c6, .int .i64 g4, .int .i64 g5, .int .i64 g6] 28 (0, 0)) ∧ Below w.heap.size w W ∧ Below W10.heap.size W10 W) ⟨(alloc_off H_c.out), (alloc_off H_a.out), (alloc_off H_b.out), (alloc_off H_t.out), (heap_alloc_new _ _), (Below.alloc HB_W10.out hs_W10 _), (Below.alloc (Below.refl _ _) (Nat.le_refl _) _)⟩ ?_
  clear l_c f_c H_c c_c0 c_c1 c_c2 c_c3 c_c4 l_a f_a H_a c_a0 c_a1 c_a2 c_a3 c_a4 c_a5 c_a6 l_b f_b H_b c_b0 c_b1 c_b2 c_b3 c_b4 c_b5 c_b6 l_t f_t H_t c_t0 c_t1 c_t2 c_t3 c_t4 c_t5 c_t6
  rintro W11 ⟨g_c, g_a, g_b, g_t, g_u, hbw, ex0⟩
  have HB_W11 := Lib.hid hbw
  have hs_W11 := hbw.size
  clear hbw
  have l_c := lt_blk g_c
  obtain ⟨c_c0, c_c1, c_c2, c_c3, c_c4⟩ := cells5 g_c
  have f_c := frees g_c
  have H_c := Lib.hid g_c
  clear g_c
  have l_a := lt_blk g_a
  obtain ⟨c_a0, c_a1, c_a2, c_a3, c_a4, c_a5, c_a6⟩ := cells7 g_a
  have f_a := frees g_a
  have H_a := Lib.hid g_a
  clear g_a
  have l_b := lt_blk g_b
  obtain ⟨c_b0, c_b1, c_b2, c_b3, c_b4, c_b5, c_b6⟩ := cells7 g_b
  have f_b := frees g_b
  have H_b := Lib.hid g_b
  clear g_b
  have l_t := lt_blk g_t
  obtain ⟨c_t0, c_t1, c_t2, c_t3, c_t4, c_t5, c_t6⟩ := cells7 g_t
  have f_t := frees g_t
  have H_t := Lib.hid g_t
  clear g_t
  have l_u := lt_blk g_u
  obtain ⟨c_u0, c_u1, c_u2, c_u3, c_u4, c_u5, c_u6⟩ := cells7 g_u
  have f_u := frees g_u
  have H_u := Lib.hid g_u
  clear g_u
  have HQ11 := Lib.hid (HQ10.out.trans (ex0.mono hq10))
  have hq11 := HQ11.out.size
  have HA5 := Lib.hid (HW10.out.below ex0).at
  have HA6 := Lib.hid ((HE6.out.keep ex0).more ex0.size)
  clear ex0 HW10 HE6
  have HA1 := Lib.hid ((HE5.out.keep HQ11.out).more hq11)
  have HA2 := Lib.hid ((HF5.out.keep HQ11.out).more hq11)
  have HRR := Lib.hid ((HR5.out.keep HQ11.out).more hq11)
  have HZ := Lib.hid (Below.refl W11.heap.size W11)
  have HX := Lib.hid (show w.heap.size < W11.heap.size ∧ w.heap.size + 1 < W11.heap.size ∧ w.heap.size + 1 + 1 < W11.heap.size ∧ W8.heap.size < W11.heap.size ∧ W10.heap.size < W11.heap.size by omega)
  obtain ⟨sb, hsb⟩ : ∃ b, sameA ⟨st, id, req, L, cnt, tim, nak⟩ ⟨tb, jb, rb, Lb, qb, mb, kb⟩ = b := ⟨_, rfl⟩
  have HSB := Lib.hid hsb
  clear hsb
  have hse : (sb == sb) = true := by simp
  have hee : (ge == ge) = true := by simp
  have hn5 : n5 ≤ 1000000 := by have h1 := congrArg List.length HE8.out; rw [List.length_map] at h1; have h2 := HN8.out; have h3 := auNew_ask L; rw [HG.out] at h3; dsimp only at h3; have := HLL.out; omega
  go_region_held3 (fun w' => w'.cell? ⟨w.heap.size, 0, none⟩ = some (.slice Ar m cr) ∧ w'.cell? ⟨w.heap.size, 1, none⟩ = some (.int .i64 mc) ∧ w'.cell? ⟨w.heap.size, 2, none⟩ = some (.int .i64 mt) ∧ w'.cell? ⟨w.heap.size, 3, none⟩ = some (.int .i64 mf) ∧ w'.cell? ⟨w.heap.size, 4, none⟩ = some (.int .i64 wt) ∧ w'.cell? ⟨w.heap.size + 1, 0, none⟩ = some (.int .i64 st) ∧ w'.cell? ⟨w.heap.size + 1, 1, none⟩ = some (.int .i64 id) ∧ w'.cell? ⟨w.heap.size + 1, 2, none⟩ = some (.int .i64 req) ∧ w'.cell? ⟨w.heap.size + 1, 3, none⟩ = some (.slice A2 n2 c2) ∧ w'.cell? ⟨w.heap.size + 1, 4, none⟩ = some (.int .i64 cnt) ∧ w'.cell? ⟨w.heap.size + 1, 5, none⟩ = some (.int .i64 tim) ∧ w'.cell? ⟨w.heap.size + 1, 6, none⟩ = some (.int .i64 nak) ∧ w'.cell? ⟨w.heap.size + 1 + 1, 0, none⟩ = some (.int .i64 tb) ∧ w'.cell? ⟨w.heap.size + 1 + 1, 1, none⟩ = some (.int .i64 jb) ∧ w'.cell? ⟨w.heap.size + 1 + 1, 2, none⟩ = some (.int .i64 rb) ∧ w'.cell? ⟨w.heap.size + 1 + 1, 3, none⟩ = some (.slice A3 n3 c3) ∧ w'.cell? ⟨w.heap.size + 1 + 1, 4, none⟩ = some (.int .i64 qb) ∧ w'.cell? ⟨w.heap.size + 1 + 1, 5, none⟩ = some (.int .i64 mb) ∧ w'.cell? ⟨w.heap.size + 1 + 1, 6, none⟩ = some (.int .i64 kb) ∧ w'.cell? ⟨W8.heap.size, 0, none⟩ = some (.int .i64 g0) ∧ w'.cell? ⟨W8.heap.size, 1, none⟩ = some (.int .i64 g1) ∧ w'.cell? ⟨W8.heap.size, 2, none⟩ = some (.int .i64 g2) ∧ w'.cell? ⟨W8.heap.size, 3, none⟩ = some (.slice A5 n5 c5) ∧ w'.cell? ⟨W8.heap.size, 4, none⟩ = some (.int .i64 g4) ∧ w'.cell? ⟨W8.heap.size, 5, none⟩ = some (.int .i64 g5) ∧ w'.cell? ⟨W8.heap.size, 6, none⟩ = some (.int .i64 g6) ∧ w'.cell? ⟨W10.heap.size, 0, none⟩ = some (.int .i64 g0) ∧ w'.cell? ⟨W10.heap.size, 1, none⟩ = some (.int .i64 g1) ∧ w'.cell? ⟨W10.heap.size, 2, none⟩ = some (.int .i64 g2) ∧ w'.cell? ⟨W10.heap.size, 3, none⟩ = some (.slice A6 n6 c6) ∧ w'.cell? ⟨W10.heap.size, 4, none⟩ = some (.int .i64 g4) ∧ w'.cell? ⟨W10.heap.size, 5, none⟩ = some (.int .i64 g5) ∧ w'.cell? ⟨W10.heap.size, 6, none⟩ = some (.int .i64 g6)) (first | exact ChkS.step w.heap.size (w.heap.size + 1) (w.heap.size + 1 + 1) W8.heap.size W10.heap.size m cr n2 c2 n3 c3 n5 c5 n6 c6 Ar A2 A3 A5 A6 mc mt mf wt st id req cnt tim nak tb jb rb qb mb kb g0 g1 g2 g4 g5 g6 (Z := W11.heap.size) HX.out HOS.out hb9 (by unfold ChkS; assumption) | exact ⟨c_c0, c_c1, c_c2, c_c3, c_c4, c_a0, c_a1, c_a2, c_a3, c_a4, c_a5, c_a6, c_b0, c_b1, c_b2, c_b3, c_b4, c_b5, c_b6, c_t0, c_t1, c_t2, c_t3, c_t4, c_t5, c_t6, c_u0, c_u1, c_u2, c_u3, c_u4, c_u5, c_u6⟩) (first | ((go_at_call 14; go_must (refine (acheck_any Ar m cr R1 mc mt mf wt st id req cnt tim nak A2 n2 c2 F L HL.out _ W11.heap.size (Below.size (show Below W11.heap.size W11 _ from by have := HZ.out; exact bel)) (HRR.out.keep (by have := HZ.out; exact bel)) HRM.out (by omega) (HA1.out.keep (by have := HZ.out; exact bel)) HN2.out).mono ?_); rw [HCK.out]; rintro e w9 ⟨rfl, hb9⟩; have HOS := Lib.hid (chain_size (W := W11) (by have := HZ.out; exact bel) hb9); have HZ := Lib.hid (chain16 (W := W11) (by have := HZ.out; exact bel) hb9))) | ((go_at_call 15; with_reducible (show Calls Try.prog 15 #[.agg #[.int .i64 g0, .int .i64 g1, .int .i64 g2, .slice A5 n5 c5, .int .i64 g4, .int .i64 g5, .int .i64 g6], .agg #[.int .i64 g0, .int .i64 g1, .int .i64 g2, .slice A6 n6 c6, .int .i64 g4, .int .i64 g5, .int .i64 g6]] _ _); go_must (refine (same_ref g0 g1 g2 g4 g5 g6 g0 g1 g2 g4 g5 g6 A5 A6 n5 n6 c5 c6 E8 E6 lg lg HE8.out HEL6.out _ W11.heap.size (Below.size (show Below W11.heap.size W11 _ from by have := HZ.out; exact bel)) (HA5.out.keep (by have := HZ.out; exact bel)) (HA6.out.keep (by have := HZ.out; exact bel)) HN8.out HN6.out hn5).mono ?_); rw [sameA_self]; rintro e w9 ⟨rfl, hb9⟩; have HOS := Lib.hid (chain_size (W := W11) (by have := HZ.out; exact bel) hb9); have HZ := Lib.hid (chain16 (W := W11) (by have := HZ.out; exact bel) hb9))) | ((go_at_call 15; with_reducible (show Calls Try.prog 15 #[.agg #[.int .i64 st, .int .i64 id, .int .i64 req, .slice A2 n2 c2, .int .i64 cnt, .int .i64 tim, .int .i64 nak], .agg #[.int .i64 tb, .int .i64 jb, .int .i64 rb, .slice A3 n3 c3, .int .i64 qb, .int .i64 mb, .int .i64 kb]] _ _); go_must (refine (same_ref st id req cnt tim nak tb jb rb qb mb kb A2 A3 n2 n3 c2 c3 F G L Lb HL.out HLB.out _ W11.heap.size (Below.size (show Below W11.heap.size W11 _ from by have := HZ.out; exact bel)) (HA1.out.keep (by have := HZ.out; exact bel)) (HA2.out.keep (by have := HZ.out; exact bel)) HN2.out HN3.out (by omega)).mono ?_); rw [HSB.out]; rintro e w9 ⟨rfl, hb9⟩; have HOS := Lib.hid (chain_size (W := W11) (by have := HZ.out; exact bel) hb9); have HZ := Lib.hid (chain16 (W := W11) (by have := HZ.out; exact bel) hb9))) | ((go_at_call 16; with_reducible (show Calls Try.prog 16 #[.agg #[.int .i64 st, .int .i64 id, .int .i64 req, .slice A2 n2 c2, .int .i64 cnt, .int .i64 tim, .int .i64 nak], .agg #[.int .i64 tb, .int .i64 jb, .int .i64 rb, .slice A3 n3 c3, .int .i64 qb, .int .i64 mb, .int .i64 kb]] _ _); go_must (refine (same16_any st id req cnt tim nak tb jb rb qb mb kb A2 A3 n2 n3 c2 c3 F G L Lb HL.out HLB.out _ W11.heap.size (Below.size (show Below W11.heap.size W11 _ from by have := HZ.out; exact bel)) (HA1.out.keep (by have := HZ.out; exact bel)) (HA2.out.keep (by have := HZ.out; exact bel)) HN2.out HN3.out (by omega)).mono ?_); rw [HSB.out]; rintro e w9 ⟨rfl, hb9⟩; have HOS := Lib.hid (chain_size (W := W11) (by have := HZ.out; exact bel) hb9); have HZ := Lib.hid (chain16 (W := W11) (by have := HZ.out; exact bel) hb9))) | ((go_at_call 16; with_reducible (show Calls Try.prog 16 #[.agg #[.int .i64 st, .int .i64 id, .int .i64 req, .slice A2 n2 c2, .int .i64 cnt, .int .i64 tim, .int .i64 nak], .agg #[.int .i64 st, .int .i64 id, .int .i64 req, .slice A2 n2 c2, .int .i64 cnt, .int .i64 tim, .int .i64 nak]] _ _); go_must (refine (same16_any st id req cnt tim nak st id req cnt tim nak A2 A2 n2 n2 c2 c2 F F L L HL.out HL.out _ W11.heap.size (Below.size (show Below W11.heap.size W11 _ from by have := HZ.out; exact bel)) (HA1.out.keep (by have := HZ.out; exact bel)) (HA1.out.keep (by have := HZ.out; exact bel)) HN2.out HN2.out (by omega)).mono ?_); rw [sameA_self]; rintro e w9 ⟨rfl, hb9⟩; have HOS := Lib.hid (chain_size (W := W11) (by have := HZ.out; exact bel) hb9); have HZ := Lib.hid (chain16 (W := W11) (by have := HZ.out; exact bel) hb9))) | ((go_at_call 8; go_must (refine (awake_any _).mono ?_); rintro e w9 ⟨rfl, hb9⟩; have HOS := Lib.hid (chain_size (W := W11) (by have := HZ.out; exact bel) hb9); have HZ := Lib.hid (chain16 (W := W11) (by have := HZ.out; exact bel) hb9))))
  all_goals
    go_wp2_with fail
    go_ret
    exact ⟨rfl, HB_W11.out.trans (HZ.out.mono hs_W11)⟩
set_option maxRecDepth 100000 in
set_option maxHeartbeats 16000000 in
theorem checks_11 (Ar Aa Ab : Option Addr) (nr cr na ca nb cb : Nat) (R : List Rl) (mc mt mf wt st id req cnt tim nak tb jb rb qb mb kb : Int) (E Eb : List Ent) (w : World) (hR : RulesAt w w.heap.size Ar R) (hnr : nr = R.length) (hcr : nr ≤ cr) (hlr : (nr : Int) ≤ 9223372036854775807) (hE : OptsAt w w.heap.size Aa E) (hna : na = E.length) (hla : (na : Int) ≤ 9223372036854775807) (hda : ∀ e ∈ E, (e.d.length : Int) ≤ 9223372036854775807) (hEb : OptsAt w w.heap.size Ab Eb) (hnb : nb = Eb.length) (hlb : (nb : Int) ≤ 9223372036854775807) (hdb : ∀ e ∈ Eb, (e.d.length : Int) ≤ 9223372036854775807) (hcb : confB ⟨R.take 20, mc, mt, mf, wt⟩ = true) (hib : isB ⟨st, id, req, (litE E).map Ent.o, cnt, tim, nak⟩ = true) :
    Calls Try.prog 4 #[.agg #[.slice Ar nr cr, .int .i64 mc, .int .i64 mt, .int .i64 mf, .int .i64 wt], .agg #[.int .i64 st, .int .i64 id, .int .i64 req, .slice Aa na ca, .int .i64 cnt, .int .i64 tim, .int .i64 nak], .agg #[.int .i64 tb, .int .i64 jb, .int .i64 rb, .slice Ab nb cb, .int .i64 qb, .int .i64 mb, .int .i64 kb]] w fun x w' => x = .returned (.bool true) ∧ Below w.heap.size w w' := by
  have HR := Lib.hid hR
  have HE := Lib.hid hE
  have HNA := Lib.hid hna
  have HDA := Lib.hid hda
  have HEB := Lib.hid hEb
  have HNB := Lib.hid hnb
  have HDB := Lib.hid hdb
  have HCB := Lib.hid hcb
  have HIB := Lib.hid hib
  obtain ⟨m, hm⟩ : ∃ m, min nr 20 = m := ⟨_, rfl⟩
  have HM := Lib.hid hm
  have HRM := Lib.hid (show m = (R.take 20).length by rw [List.length_take]; omega)
  have hm20 : m ≤ 20 := by omega
  clear hR hE hna hda hm hnr hEb hnb hdb hcb hib
  go_enter Try.func4, Try.ntmps4
  go_upto_region 1 with (fail)
  refine wp_w (fun W => W.heap[w.heap.size]? = some (.cells #[.slice Ar nr cr, .int .i64 mc, .int .i64 mt, .int .i64 mf, .int .i64 wt] 24 (0, 0)) ∧ W.heap[w.heap.size + 1]? = some (.cells #[.int .i64 st, .int .i64 id, .int .i64 req, .slice Aa na ca, .int .i64 cnt, .int .i64 tim, .int .i64 nak] 28 (0, 0)) ∧ W.heap[w.heap.size + 1 + 1]? = some (.cells #[.int .i64 tb, .int .i64 jb, .int .i64 rb, .slice Ab nb cb, .int .i64 qb, .int .i64 mb, .int .i64 kb] 28 (0, 0)) ∧ Below w.heap.size w W) ⟨by (repeat (first | ((refine heap_alloc_at _ _ _ ?_); (simp [go_sem]; done)) | ((refine (heap_ext _ _ _ _ ?_).trans ?_); (focus (simp [go_sem]; done))) | ((refine (heap_alloc_past _ _ _ ?_).trans ?_); (focus (simp [go_sem]; done))))), by (repeat (first | ((refine heap_alloc_at _ _ _ ?_); (simp [go_sem]; done)) | ((refine (heap_ext _ _ _ _ ?_).trans ?_); (focus (simp [go_sem]; done))) | ((refine (heap_alloc_past _ _ _ ?_).trans ?_); (focus (simp [go_sem]; done))))), by (repeat (first | ((refine heap_alloc_at _ _ _ ?_); (simp [go_sem]; done)) | ((refine (heap_ext _ _ _ _ ?_).trans ?_); (focus (simp [go_sem]; done))) | ((refine (heap_alloc_past _ _ _ ?_).trans ?_); (focus (simp [go_sem]; done))))), by exact bel⟩ ?_
  rintro W1 ⟨g_c, g_a, g_b, hbw⟩
  have HB_W1 := Lib.hid hbw
  have hs_W1 := hbw.size
  clear hbw
  have l_c := lt_blk g_c
  obtain ⟨c_c0, c_c1, c_c2, c_c3, c_c4⟩ := cells5 g_c
  have f_c := frees g_c
  have H_c := Lib.hid g_c
  clear g_c
  have l_a := lt_blk g_a
  obtain ⟨c_a0, c_a1, c_a2, c_a3, c_a4, c_a5, c_a6⟩ := cells7 g_a
  have f_a := frees g_a
  have H_a := Lib.hid g_a
  clear g_a
  have l_b := lt_blk g_b
  obtain ⟨c_b0, c_b1, c_b2, c_b3, c_b4, c_b5, c_b6⟩ := cells7 g_b
  have f_b := frees g_b
  have H_b := Lib.hid g_b
  clear g_b
  have hz1 : w.heap.size + 1 + 1 + 1 ≤ W1.heap.size := by omega
  go_wp2_with fail
  refine (light_any Ar Aa none nr cr na ca 0 0 mc mt mf wt st id req cnt tim nak 0 0 E _ w.heap.size hs_W1 (HE.out.keep HB_W1.out) HNA.out hla HDA.out hcr hlr (Nat.le_refl _) (by omega)).mono ?_
  rw [HM.out]
  rintro x W2 ⟨A2, n2, c2, rfl, hb, ho, hn2⟩
  have g_c := (hb.block _ l_c).trans H_c.out
  have g_a := (hb.block _ l_a).trans H_a.out
  have g_b := (hb.block _ l_b).trans H_b.out
  have HQ_W2 := Lib.hid hb
  have hq_W2 := hb.size
  have HB_W2 := Lib.hid (HB_W1.out.trans (HQ_W2.out.mono hs_W1))
  have hs_W2 : w.heap.size ≤ W2.heap.size := HB_W2.out.size
  clear l_c f_c H_c c_c0 c_c1 c_c2 c_c3 c_c4 l_a f_a H_a c_a0 c_a1 c_a2 c_a3 c_a4 c_a5 c_a6 l_b f_b H_b c_b0 c_b1 c_b2 c_b3 c_b4 c_b5 c_b6
  have l_c := lt_blk g_c
  obtain ⟨c_c0, c_c1, c_c2, c_c3, c_c4⟩ := cells5 g_c
  have f_c := frees g_c
  have H_c := Lib.hid g_c
  clear g_c
  have l_a := lt_blk g_a
  obtain ⟨c_a0, c_a1, c_a2, c_a3, c_a4, c_a5, c_a6⟩ := cells7 g_a
  have f_a := frees g_a
  have H_a := Lib.hid g_a
  clear g_a
  have l_b := lt_blk g_b
  obtain ⟨c_b0, c_b1, c_b2, c_b3, c_b4, c_b5, c_b6⟩ := cells7 g_b
  have f_b := frees g_b
  have H_b := Lib.hid g_b
  clear g_b
  have HO2 := Lib.hid ho
  have HN2 := Lib.hid hn2
  have hn70 : n2 ≤ 70 := by have := lit_len E; omega
  have HC2 := Lib.hid (show n2 ≤ c2 by obtain ⟨A9, c9, hv, hc, -⟩ := ownsRow_form ho; cases hv; exact hc)
  clear hb ho hn2
  go_upto_region 2 with (fail)
  refine wp_w (fun W => W.heap[w.heap.size]? = some (.cells #[.slice Ar m cr, .int .i64 mc, .int .i64 mt, .int .i64 mf, .int .i64 wt] 24 (0, 0)) ∧ W.heap[w.heap.size + 1]? = some (.cells #[.int .i64 st, .int .i64 id, .int .i64 req, .slice A2 n2 c2, .int .i64 cnt, .int .i64 tim, .int .i64 nak] 28 (0, 0)) ∧ W.heap[w.heap.size + 1 + 1]? = some (.cells #[.int .i64 tb, .int .i64 jb, .int .i64 rb, .slice Ab nb cb, .int .i64 qb, .int .i64 mb, .int .i64 kb] 28 (0, 0)) ∧ Below w.heap.size w W ∧ W.ownsRow (w.heap.size + 1 + 1 + 1) 59 2 (.slice A2 n2 c2) n2 (cellsE (litE E))) ⟨(by (iterate 7 (with_reducible refine set_off ?_ (by omega))); refine rows5 (cs := #[.slice Ar nr cr, .int .i64 mc, .int .i64 mt, .int .i64 mf, .int .i64 wt]) ?_ rfl _ _ _ _ _; skip; exact H_c.out), (by skip; refine row7 (cs := #[.int .i64 st, .int .i64 id, .int .i64 req, .slice Aa na ca, .int .i64 cnt, .int .i64 tim, .int .i64 nak]) ?_ rfl _ _ _ _ _ _ _; (iterate 5 (with_reducible refine set_off ?_ (by omega))); exact H_a.out), (by (iterate 12 (with_reducible refine set_off ?_ (by omega))); exact H_b.out), (by (iterate 12 (with_reducible refine Below.setCell ?_ (by first | omega | (dsimp only; omega)) _)); exact HB_W2.out), (by refine own_base (own_keep HO2.out (fun k hk => ?_)) (by omega); have hle := own_le HO2.out hk; (iterate 12 (with_reducible refine set_off ?_ (by omega))); rfl)⟩ ?_
  clear l_c f_c H_c c_c0 c_c1 c_c2 c_c3 c_c4 l_a f_a H_a c_a0 c_a1 c_a2 c_a3 c_a4 c_a5 c_a6 l_b f_b H_b c_b0 c_b1 c_b2 c_b3 c_b4 c_b5 c_b6
  rintro W3 ⟨g_c, g_a, g_b, hbw, ex0⟩
  have HB_W3 := Lib.hid hbw
  have hs_W3 := hbw.size
  clear hbw
  have l_c := lt_blk g_c
  obtain ⟨c_c0, c_c1, c_c2, c_c3, c_c4⟩ := cells5 g_c
  have f_c := frees g_c
  have H_c := Lib.hid g_c
  clear g_c
  have l_a := lt_blk g_a
  obtain ⟨c_a0, c_a1, c_a2, c_a3, c_a4, c_a5, c_a6⟩ := cells7 g_a
  have f_a := frees g_a
  have H_a := Lib.hid g_a
  clear g_a
  have l_b := lt_blk g_b
  obtain ⟨c_b0, c_b1, c_b2, c_b3, c_b4, c_b5, c_b6⟩ := cells7 g_b
  have f_b := frees g_b
  have H_b := Lib.hid g_b
  clear g_b
  have HO3 := Lib.hid ex0
  clear ex0 HO2
  have hz3 : w.heap.size + 1 + 1 + 1 ≤ W3.heap.size := by omega
  go_wp2_with fail
  refine (lit_any Ab nb cb Eb _ w.heap.size hs_W3 (HEB.out.keep HB_W3.out) HNB.out hlb HDB.out).mono ?_
  rintro x W4 ⟨A3, n3, c3, rfl, hb, ho, hn3⟩
  have g_c := (hb.block _ l_c).trans H_c.out
  have g_a := (hb.block _ l_a).trans H_a.out
  have g_b := (hb.block _ l_b).trans H_b.out
  have HQ_W4 := Lib.hid hb
  have hq_W4 := hb.size
  have HB_W4 := Lib.hid (HB_W3.out.trans (HQ_W4.out.mono hs_W3))
  have hs_W4 : w.heap.size ≤ W4.heap.size := HB_W4.out.size
  clear l_c f_c H_c c_c0 c_c1 c_c2 c_c3 c_c4 l_a f_a H_a c_a0 c_a1 c_a2 c_a3 c_a4 c_a5 c_a6 l_b f_b H_b c_b0 c_b1 c_b2 c_b3 c_b4 c_b5 c_b6
  have l_c := lt_blk g_c
  obtain ⟨c_c0, c_c1, c_c2, c_c3, c_c4⟩ := cells5 g_c
  have f_c := frees g_c
  have H_c := Lib.hid g_c
  clear g_c
  have l_a := lt_blk g_a
  obtain ⟨c_a0, c_a1, c_a2, c_a3, c_a4, c_a5, c_a6⟩ := cells7 g_a
  have f_a := frees g_a
  have H_a := Lib.hid g_a
  clear g_a
  have l_b := lt_blk g_b
  obtain ⟨c_b0, c_b1, c_b2, c_b3, c_b4, c_b5, c_b6⟩ := cells7 g_b
  have f_b := frees g_b
  have H_b := Lib.hid g_b
  clear g_b
  have HO4 := Lib.hid (own_below HO3.out hb)
  have HP4 := Lib.hid ho
  have HN3 := Lib.hid hn3
  have hn70b : n3 ≤ 70 := by have := lit_len Eb; omega
  have HC3 := Lib.hid (show n3 ≤ c3 by obtain ⟨A9, c9, hv, hc, -⟩ := ownsRow_form ho; cases hv; exact hc)
  clear hb ho hn3 HO3
  go_upto_region 3 with (fail)
  refine wp_w (fun W => W.heap[w.heap.size]? = some (.cells #[.slice Ar m cr, .int .i64 mc, .int .i64 mt, .int .i64 mf, .int .i64 wt] 24 (0, 0)) ∧ W.heap[w.heap.size + 1]? = some (.cells #[.int .i64 st, .int .i64 id, .int .i64 req, .slice A2 n2 c2, .int .i64 cnt, .int .i64 tim, .int .i64 nak] 28 (0, 0)) ∧ W.heap[w.heap.size + 1 + 1]? = some (.cells #[.int .i64 tb, .int .i64 jb, .int .i64 rb, .slice A3 n3 c3, .int .i64 qb, .int .i64 mb, .int .i64 kb] 28 (0, 0)) ∧ Below w.heap.size w W ∧ W.ownsRow (w.heap.size + 1 + 1 + 1) 59 2 (.slice A2 n2 c2) n2 (cellsE (litE E)) ∧ W.ownsRow (w.heap.size + 1 + 1 + 1) 59 2 (.slice A3 n3 c3) n3 (cellsE (litE Eb))) ⟨(set_off H_c.out (by omega)), (set_off H_a.out (by omega)), (set_in H_b.out rfl), (Below.setCell HB_W4.out (by first | omega | (dsimp only; omega)) _), (by refine own_base (own_keep HO4.out (fun k hk => ?_)) (by omega); have hle := own_le HO4.out hk; (iterate 1 (with_reducible refine set_off ?_ (by omega))); rfl), (by refine own_base (own_keep HP4.out (fun k hk => ?_)) (by omega); have hle := own_le HP4.out hk; (iterate 1 (with_reducible refine set_off ?_ (by omega))); rfl)⟩ ?_
  clear l_c f_c H_c c_c0 c_c1 c_c2 c_c3 c_c4 l_a f_a H_a c_a0 c_a1 c_a2 c_a3 c_a4 c_a5 c_a6 l_b f_b H_b c_b0 c_b1 c_b2 c_b3 c_b4 c_b5 c_b6
  rintro W5 ⟨g_c, g_a, g_b, hbw, ex0, ex1⟩
  have HB_W5 := Lib.hid hbw
  have hs_W5 := hbw.size
  clear hbw
  have l_c := lt_blk g_c
  obtain ⟨c_c0, c_c1, c_c2, c_c3, c_c4⟩ := cells5 g_c
  have f_c := frees g_c
  have H_c := Lib.hid g_c
  clear g_c
  have l_a := lt_blk g_a
  obtain ⟨c_a0, c_a1, c_a2, c_a3, c_a4, c_a5, c_a6⟩ := cells7 g_a
  have f_a := frees g_a
  have H_a := Lib.hid g_a
  clear g_a
  have l_b := lt_blk g_b
  obtain ⟨c_b0, c_b1, c_b2, c_b3, c_b4, c_b5, c_b6⟩ := cells7 g_b
  have f_b := frees g_b
  have H_b := Lib.hid g_b
  clear g_b
  have HO5 := Lib.hid ex0
  have HP5 := Lib.hid ex1
  clear ex0 ex1 HO4 HP4
  have HR5 := Lib.hid ((rulesAt_take (HR.out.keep HB_W5.out) 20).more hs_W5)
  have HE5 := Lib.hid (lit_at HE.out (Nat.le_refl _) HB_W5.out HO5.out)
  have HF5 := Lib.hid (lit_at HEB.out (Nat.le_refl _) HB_W5.out HP5.out)
  have HLD := Lib.hid (lit_data E)
  have hz5 : w.heap.size + 1 + 1 + 1 ≤ W5.heap.size := by omega
  generalize R.take 20 = R1 at HR5 HRM HCB
  generalize litE E = F at HO5 HE5 HN2 HLD HIB
  generalize litE Eb = G at HP5 HF5 HN3
  obtain ⟨L, hL⟩ : ∃ L, F.map Ent.o = L := ⟨_, rfl⟩
  have HL := Lib.hid hL
  have HLL := Lib.hid (show L.length ≤ 1000 by rw [← hL, List.length_map]; have := HN2.out; omega)
  rw [hL] at HIB
  clear hL HO5 HP5
  obtain ⟨Lb, hLb⟩ : ∃ L, G.map Ent.o = L := ⟨_, rfl⟩
  have HLB := Lib.hid hLb
  clear hLb
  go_wp2_with fail
  refine (conf_ref Ar m cr R1 mc mt mf wt _ W5.heap.size (Nat.le_refl _) HR5.out HRM.out (by omega)).mono ?_
  rw [HCB.out]
  rintro x W6 ⟨rfl, hb⟩
  have g_c := (hb.block _ l_c).trans H_c.out
  have g_a := (hb.block _ l_a).trans H_a.out
  have g_b := (hb.block _ l_b).trans H_b.out
  have HQ_W6 := Lib.hid hb
  have hq_W6 := hb.size
  have HB_W6 := Lib.hid (HB_W5.out.trans (HQ_W6.out.mono hs_W5))
  have hs_W6 : w.heap.size ≤ W6.heap.size := HB_W6.out.size
  clear l_c f_c H_c c_c0 c_c1 c_c2 c_c3 c_c4 l_a f_a H_a c_a0 c_a1 c_a2 c_a3 c_a4 c_a5 c_a6 l_b f_b H_b c_b0 c_b1 c_b2 c_b3 c_b4 c_b5 c_b6
  have l_c := lt_blk g_c
  obtain ⟨c_c0, c_c1, c_c2, c_c3, c_c4⟩ := cells5 g_c
  have f_c := frees g_c
  have H_c := Lib.hid g_c
  clear g_c
  have l_a := lt_blk g_a
  obtain ⟨c_a0, c_a1, c_a2, c_a3, c_a4, c_a5, c_a6⟩ := cells7 g_a
  have f_a := frees g_a
  have H_a := Lib.hid g_a
  clear g_a
  have l_b := lt_blk g_b
  obtain ⟨c_b0, c_b1, c_b2, c_b3, c_b4, c_b5, c_b6⟩ := cells7 g_b
  have f_b := frees g_b
  have H_b := Lib.hid g_b
  clear g_b
  clear hb
  have HQ := Lib.hid HQ_W6.out
  have hq := HQ.out.size
  go_wp2_with fail
  refine (is_ref st id req cnt tim nak A2 n2 c2 F L HL.out _ W5.heap.size hq_W6 (HE5.out.keep HQ_W6.out) HN2.out).mono ?_
  rw [HIB.out]
  rintro x W7 ⟨rfl, hb⟩
  have g_c := (hb.block _ l_c).trans H_c.out
  have g_a := (hb.block _ l_a).trans H_a.out
  have g_b := (hb.block _ l_b).trans H_b.out
  have HQ_W7 := Lib.hid hb
  have hq_W7 := hb.size
  have HB_W7 := Lib.hid (HB_W6.out.trans (HQ_W7.out.mono hs_W6))
  have hs_W7 : w.heap.size ≤ W7.heap.size := HB_W7.out.size
  clear l_c f_c H_c c_c0 c_c1 c_c2 c_c3 c_c4 l_a f_a H_a c_a0 c_a1 c_a2 c_a3 c_a4 c_a5 c_a6 l_b f_b H_b c_b0 c_b1 c_b2 c_b3 c_b4 c_b5 c_b6
  have l_c := lt_blk g_c
  obtain ⟨c_c0, c_c1, c_c2, c_c3, c_c4⟩ := cells5 g_c
  have f_c := frees g_c
  have H_c := Lib.hid g_c
  clear g_c
  have l_a := lt_blk g_a
  obtain ⟨c_a0, c_a1, c_a2, c_a3, c_a4, c_a5, c_a6⟩ := cells7 g_a
  have f_a := frees g_a
  have H_a := Lib.hid g_a
  clear g_a
  have l_b := lt_blk g_b
  obtain ⟨c_b0, c_b1, c_b2, c_b3, c_b4, c_b5, c_b6⟩ := cells7 g_b
  have f_b := frees g_b
  have H_b := Lib.hid g_b
  clear g_b
  clear HQ hq
  have HQ := Lib.hid (HQ_W6.out.trans (hb.mono hq_W6))
  have hq := HQ.out.size
  clear hb
  have HCK := Lib.hid (show checkE ⟨R1, mc, mt, mf, wt⟩ ⟨st, id, req, L, cnt, tim, nak⟩ = 0 by unfold checkE; simp [HCB.out, HIB.out])
  go_wp2_with fail
  refine (new_any A2 n2 c2 F L HL.out _ W5.heap.size hq (HE5.out.keep HQ.out) HN2.out (by omega) (fun e he => by have := HLD.out e he; omega)).mono ?_
  rintro x W8 ⟨v8, rfl, E8, A5, n5, c5, rfl, he8, hn8, hc8, hb, ho8⟩
  have g_c := (hb.block _ l_c).trans H_c.out
  have g_a := (hb.block _ l_a).trans H_a.out
  have g_b := (hb.block _ l_b).trans H_b.out
  have HQ_W8 := Lib.hid hb
  have hq_W8 := hb.size
  have HB_W8 := Lib.hid (HB_W7.out.trans (HQ_W8.out.mono hs_W7))
  have hs_W8 : w.heap.size ≤ W8.heap.size := HB_W8.out.size
  clear l_c f_c H_c c_c0 c_c1 c_c2 c_c3 c_c4 l_a f_a H_a c_a0 c_a1 c_a2 c_a3 c_a4 c_a5 c_a6 l_b f_b H_b c_b0 c_b1 c_b2 c_b3 c_b4 c_b5 c_b6
  have l_c := lt_blk g_c
  obtain ⟨c_c0, c_c1, c_c2, c_c3, c_c4⟩ := cells5 g_c
  have f_c := frees g_c
  have H_c := Lib.hid g_c
  clear g_c
  have l_a := lt_blk g_a
  obtain ⟨c_a0, c_a1, c_a2, c_a3, c_a4, c_a5, c_a6⟩ := cells7 g_a
  have f_a := frees g_a
  have H_a := Lib.hid g_a
  clear g_a
  have l_b := lt_blk g_b
  obtain ⟨c_b0, c_b1, c_b2, c_b3, c_b4, c_b5, c_b6⟩ := cells7 g_b
  have f_b := frees g_b
  have H_b := Lib.hid g_b
  clear g_b
  have HQ8 := Lib.hid (HQ.out.trans (hb.mono hq))
  have hq8 := HQ8.out.size
  have HE8 := Lib.hid he8
  have HN8 := Lib.hid hn8
  have HC8 := Lib.hid hc8
  have HW8 := Lib.hid ho8
  clear he8 hn8 hc8 ho8 hb
  obtain ⟨⟨g0, g1, g2, lg, g4, g5, g6⟩, hg⟩ : ∃ a, auNew L = a := ⟨_, rfl⟩
  have HG := Lib.hid hg
  have hge : errNew L = errNew L := rfl
  obtain ⟨ge, hge⟩ : ∃ e, errNew L = e := ⟨_, rfl⟩
  have HGE := Lib.hid hge
  rw [hg] at HE8 ⊢
  rw [hge]
  dsimp only at HE8 ⊢
  clear hg hge
  go_upto_region 7 with (fail)
  refine wp_w (fun W => W.heap[w.heap.size]? = some (.cells #[.slice Ar m cr, .int .i64 mc, .int .i64 mt, .int .i64 mf, .int .i64 wt] 24 (0, 0)) ∧ W.heap[w.heap.size + 1]? = some (.cells #[.int .i64 st, .int .i64 id, .int .i64 req, .slice A2 n2 c2, .int .i64 cnt, .int .i64 tim, .int .i64 nak] 28 (0, 0)) ∧ W.heap[w.heap.size + 1 + 1]? = some (.cells #[.int .i64 tb, .int .i64 jb, .int .i64 rb, .slice A3 n3 c3, .int .i64 qb, .int .i64 mb, .int .i64 kb] 28 (0, 0)) ∧ W.heap[W8.heap.size]? = some (.cells #[.int .i64 g0, .int .i64 g1, .int .i64 g2, .slice A5 n5 c5, .int .i64 g4, .int .i64 g5, .int .i64 g6] 28 (0, 0)) ∧ Below w.heap.size w W ∧ Below W8.heap.size W8 W) ⟨(alloc_off H_c.out), (alloc_off H_a.out), (alloc_off H_b.out), (heap_alloc_new _ _), (Below.alloc HB_W8.out hs_W8 _), (Below.alloc (Below.refl _ _) (Nat.le_refl _) _)⟩ ?_
  clear l_c f_c H_c c_c0 c_c1 c_c2 c_c3 c_c4 l_a f_a H_a c_a0 c_a1 c_a2 c_a3 c_a4 c_a5 c_a6 l_b f_b H_b c_b0 c_b1 c_b2 c_b3 c_b4 c_b5 c_b6
  rintro W9 ⟨g_c, g_a, g_b, g_t, hbw, ex0⟩
  have HB_W9 := Lib.hid hbw
  have hs_W9 := hbw.size
  clear hbw
  have l_c := lt_blk g_c
  obtain ⟨c_c0, c_c1, c_c2, c_c3, c_c4⟩ := cells5 g_c
  have f_c := frees g_c
  have H_c := Lib.hid g_c
  clear g_c
  have l_a := lt_blk g_a
  obtain ⟨c_a0, c_a1, c_a2, c_a3, c_a4, c_a5, c_a6⟩ := cells7 g_a
  have f_a := frees g_a
  have H_a := Lib.hid g_a
  clear g_a
  have l_b := lt_blk g_b
  obtain ⟨c_b0, c_b1, c_b2, c_b3, c_b4, c_b5, c_b6⟩ := cells7 g_b
  have f_b := frees g_b
  have H_b := Lib.hid g_b
  clear g_b
  have l_t := lt_blk g_t
  obtain ⟨c_t0, c_t1, c_t2, c_t3, c_t4, c_t5, c_t6⟩ := cells7 g_t
  have f_t := frees g_t
  have H_t := Lib.hid g_t
  clear g_t
  have HQ9 := Lib.hid (HQ8.out.trans (ex0.mono hq8))
  have hq9 := HQ9.out.size
  have HW9 := Lib.hid (HW8.out.below ex0)
  have hy8 : w.heap.size + 1 + 1 + 1 ≤ W8.heap.size := by omega
  clear ex0 HW8
  go_wp2_with fail
  refine (rnew_any A2 n2 c2 F L HL.out _ W5.heap.size hq9 (HE5.out.keep HQ9.out) HN2.out HC2.out).mono ?_
  rw [HG.out, HGE.out]
  unfold auV
  dsimp only
  rintro x W10 ⟨va, rfl, hb, hv⟩
  obtain ⟨A6, n6, c6, E6, rfl, hE6, hn6, hc6, he6⟩ := hv
  have g_c := (hb.block _ l_c).trans H_c.out
  have g_a := (hb.block _ l_a).trans H_a.out
  have g_b := (hb.block _ l_b).trans H_b.out
  have g_t := (hb.block _ l_t).trans H_t.out
  have HQ_W10 := Lib.hid hb
  have hq_W10 := hb.size
  have HB_W10 := Lib.hid (HB_W9.out.trans (HQ_W10.out.mono hs_W9))
  have hs_W10 : w.heap.size ≤ W10.heap.size := HB_W10.out.size
  clear l_c f_c H_c c_c0 c_c1 c_c2 c_c3 c_c4 l_a f_a H_a c_a0 c_a1 c_a2 c_a3 c_a4 c_a5 c_a6 l_b f_b H_b c_b0 c_b1 c_b2 c_b3 c_b4 c_b5 c_b6 l_t f_t H_t c_t0 c_t1 c_t2 c_t3 c_t4 c_t5 c_t6
  have l_c := lt_blk g_c
  obtain ⟨c_c0, c_c1, c_c2, c_c3, c_c4⟩ := cells5 g_c
  have f_c := frees g_c
  have H_c := Lib.hid g_c
  clear g_c
  have l_a := lt_blk g_a
  obtain ⟨c_a0, c_a1, c_a2, c_a3, c_a4, c_a5, c_a6⟩ := cells7 g_a
  have f_a := frees g_a
  have H_a := Lib.hid g_a
  clear g_a
  have l_b := lt_blk g_b
  obtain ⟨c_b0, c_b1, c_b2, c_b3, c_b4, c_b5, c_b6⟩ := cells7 g_b
  have f_b := frees g_b
  have H_b := Lib.hid g_b
  clear g_b
  have l_t := lt_blk g_t
  obtain ⟨c_t0, c_t1, c_t2, c_t3, c_t4, c_t5, c_t6⟩ := cells7 g_t
  have f_t := frees g_t
  have H_t := Lib.hid g_t
  clear g_t
  have HQ10 := Lib.hid (HQ9.out.trans (hb.mono hq9))
  have hq10 := HQ10.out.size
  have HW10 := Lib.hid (HW9.out.below hb)
  have HE6 := Lib.hid hE6
  have HN6 := Lib.hid hn6
  have HEL6 := Lib.hid he6
  clear hb hE6 hn6 hc6 he6 HW9
  go_upto_region 8 with (fail)
  refine wp_w (fun W => W.heap[w.heap.size]? = some (.cells #[.slice Ar m cr, .int .i64 mc, .int .i64 mt, .int .i64 mf, .int .i64 wt] 24 (0, 0)) ∧ W.heap[w.heap.size + 1]? = some (.cells #[.int .i64 st, .int .i64 id, .int .i64 req, .slice A2 n2 c2, .int .i64 cnt, .int .i64 tim, .int .i64 nak] 28 (0, 0)) ∧ W.heap[w.heap.size + 1 + 1]? = some (.cells #[.int .i64 tb, .int .i64 jb, .int .i64 rb, .slice A3 n3 c3, .int .i64 qb, .int .i64 mb, .int .i64 kb] 28 (0, 0)) ∧ W.heap[W8.heap.size]? = some (.cells #[.int .i64 g0, .int .i64 g1, .int .i64 g2, .slice A5 n5 c5, .int .i64 g4, .int .i64 g5, .int .i64 g6] 28 (0, 0)) ∧ W.heap[W10.heap.size]? = some (.cells #[.int .i64 g0, .int .i64 g1, .int .i64 g2, .slice A6 n6 c6, .int .i64 g4, .int .i64 g5, .int .i64 g6] 28 (0, 0)) ∧ Below w.heap.size w W ∧ Below W10.heap.size W10 W) ⟨(alloc_off H_c.out), (alloc_off H_a.out), (alloc_off H_b.out), (alloc_off H_t.out), (heap_alloc_new _ _), (Below.alloc HB_W10.out hs_W10 _), (Below.alloc (Below.refl _ _) (Nat.le_refl _) _)⟩ ?_
  clear l_c f_c H_c c_c0 c_c1 c_c2 c_c3 c_c4 l_a f_a H_a c_a0 c_a1 c_a2 c_a3 c_a4 c_a5 c_a6 l_b f_b H_b c_b0 c_b1 c_b2 c_b3 c_b4 c_b5 c_b6 l_t f_t H_t c_t0 c_t1 c_t2 c_t3 c_t4 c_t5 c_t6
  rintro W11 ⟨g_c, g_a, g_b, g_t, g_u, hbw, ex0⟩
  have HB_W11 := Lib.hid hbw
  have hs_W11 := hbw.size
  clear hbw
  have l_c := lt_blk g_c
  obtain ⟨c_c0, c_c1, c_c2, c_c3, c_c4⟩ := cells5 g_c
  have f_c := frees g_c
  have H_c := Lib.hid g_c
  clear g_c
  have l_a := lt_blk g_a
  obtain ⟨c_a0, c_a1, c_a2, c_a3, c_a4, c_a5, c_a6⟩ := cells7 g_a
  have f_a := frees g_a
  have H_a := Lib.hid g_a
  clear g_a
  have l_b := lt_blk g_b
  obtain ⟨c_b0, c_b1, c_b2, c_b3, c_b4, c_b5, c_b6⟩ := cells7 g_b
  have f_b := frees g_b
  have H_b := Lib.hid g_b
  clear g_b
  have l_t := lt_blk g_t
  obtain ⟨c_t0, c_t1, c_t2, c_t3, c_t4, c_t5, c_t6⟩ := cells7 g_t
  have f_t := frees g_t
  have H_t := Lib.hid g_t
  clear g_t
  have l_u := lt_blk g_u
  obtain ⟨c_u0, c_u1, c_u2, c_u3, c_u4, c_u5, c_u6⟩ := cells7 g_u
  have f_u := frees g_u
  have H_u := Lib.hid g_u
  clear g_u
  have HQ11 := Lib.hid (HQ10.out.trans (ex0.mono hq10))
  have hq11 := HQ11.out.size
  have HA5 := Lib.hid (HW10.out.below ex0).at
  have HA6 := Lib.hid ((HE6.out.keep ex0).more ex0.size)
  clear ex0 HW10 HE6
  have HA1 := Lib.hid ((HE5.out.keep HQ11.out).more hq11)
  have HA2 := Lib.hid ((HF5.out.keep HQ11.out).more hq11)
  have HRR := Lib.hid ((HR5.out.keep HQ11.out).more hq11)
  have HZ := Lib.hid (Below.refl W11.heap.size W11)
  have HX := Lib.hid (show w.heap.size < W11.heap.size ∧ w.heap.size + 1 < W11.heap.size ∧ w.heap.size + 1 + 1 < W11.heap.size ∧ W8.heap.size < W11.heap.size ∧ W10.heap.size < W11.heap.size by omega)
  obtain ⟨sb, hsb⟩ : ∃ b, sameA ⟨st, id, req, L, cnt, tim, nak⟩ ⟨tb, jb, rb, Lb, qb, mb, kb⟩ = b := ⟨_, rfl⟩
  have HSB := Lib.hid hsb
  clear hsb
  have hse : (sb == sb) = true := by simp
  have hee : (ge == ge) = true := by simp
  have hn5 : n5 ≤ 1000000 := by have h1 := congrArg List.length HE8.out; rw [List.length_map] at h1; have h2 := HN8.out; have h3 := auNew_ask L; rw [HG.out] at h3; dsimp only at h3; have := HLL.out; omega
  go_region_held3 (fun w' => w'.cell? ⟨w.heap.size, 0, none⟩ = some (.slice Ar m cr) ∧ w'.cell? ⟨w.heap.size, 1, none⟩ = some (.int .i64 mc) ∧ w'.cell? ⟨w.heap.size, 2, none⟩ = some (.int .i64 mt) ∧ w'.cell? ⟨w.heap.size, 3, none⟩ = some (.int .i64 mf) ∧ w'.cell? ⟨w.heap.size, 4, none⟩ = some (.int .i64 wt) ∧ w'.cell? ⟨w.heap.size + 1, 0, none⟩ = some (.int .i64 st) ∧ w'.cell? ⟨w.heap.size + 1, 1, none⟩ = some (.int .i64 id) ∧ w'.cell? ⟨w.heap.size + 1, 2, none⟩ = some (.int .i64 req) ∧ w'.cell? ⟨w.heap.size + 1, 3, none⟩ = some (.slice A2 n2 c2) ∧ w'.cell? ⟨w.heap.size + 1, 4, none⟩ = some (.int .i64 cnt) ∧ w'.cell? ⟨w.heap.size + 1, 5, none⟩ = some (.int .i64 tim) ∧ w'.cell? ⟨w.heap.size + 1, 6, none⟩ = some (.int .i64 nak) ∧ w'.cell? ⟨w.heap.size + 1 + 1, 0, none⟩ = some (.int .i64 tb) ∧ w'.cell? ⟨w.heap.size + 1 + 1, 1, none⟩ = some (.int .i64 jb) ∧ w'.cell? ⟨w.heap.size + 1 + 1, 2, none⟩ = some (.int .i64 rb) ∧ w'.cell? ⟨w.heap.size + 1 + 1, 3, none⟩ = some (.slice A3 n3 c3) ∧ w'.cell? ⟨w.heap.size + 1 + 1, 4, none⟩ = some (.int .i64 qb) ∧ w'.cell? ⟨w.heap.size + 1 + 1, 5, none⟩ = some (.int .i64 mb) ∧ w'.cell? ⟨w.heap.size + 1 + 1, 6, none⟩ = some (.int .i64 kb) ∧ w'.cell? ⟨W8.heap.size, 0, none⟩ = some (.int .i64 g0) ∧ w'.cell? ⟨W8.heap.size, 1, none⟩ = some (.int .i64 g1) ∧ w'.cell? ⟨W8.heap.size, 2, none⟩ = some (.int .i64 g2) ∧ w'.cell? ⟨W8.heap.size, 3, none⟩ = some (.slice A5 n5 c5) ∧ w'.cell? ⟨W8.heap.size, 4, none⟩ = some (.int .i64 g4) ∧ w'.cell? ⟨W8.heap.size, 5, none⟩ = some (.int .i64 g5) ∧ w'.cell? ⟨W8.heap.size, 6, none⟩ = some (.int .i64 g6) ∧ w'.cell? ⟨W10.heap.size, 0, none⟩ = some (.int .i64 g0) ∧ w'.cell? ⟨W10.heap.size, 1, none⟩ = some (.int .i64 g1) ∧ w'.cell? ⟨W10.heap.size, 2, none⟩ = some (.int .i64 g2) ∧ w'.cell? ⟨W10.heap.size, 3, none⟩ = some (.slice A6 n6 c6) ∧ w'.cell? ⟨W10.heap.size, 4, none⟩ = some (.int .i64 g4) ∧ w'.cell? ⟨W10.heap.size, 5, none⟩ = some (.int .i64 g5) ∧ w'.cell? ⟨W10.heap.size, 6, none⟩ = some (.int .i64 g6)) (first | exact ChkS.step w.heap.size (w.heap.size + 1) (w.heap.size + 1 + 1) W8.heap.size W10.heap.size m cr n2 c2 n3 c3 n5 c5 n6 c6 Ar A2 A3 A5 A6 mc mt mf wt st id req cnt tim nak tb jb rb qb mb kb g0 g1 g2 g4 g5 g6 (Z := W11.heap.size) HX.out HOS.out hb9 (by unfold ChkS; assumption) | exact ⟨c_c0, c_c1, c_c2, c_c3, c_c4, c_a0, c_a1, c_a2, c_a3, c_a4, c_a5, c_a6, c_b0, c_b1, c_b2, c_b3, c_b4, c_b5, c_b6, c_t0, c_t1, c_t2, c_t3, c_t4, c_t5, c_t6, c_u0, c_u1, c_u2, c_u3, c_u4, c_u5, c_u6⟩) (first | ((go_at_call 14; go_must (refine (acheck_any Ar m cr R1 mc mt mf wt st id req cnt tim nak A2 n2 c2 F L HL.out _ W11.heap.size (Below.size (show Below W11.heap.size W11 _ from by have := HZ.out; exact bel)) (HRR.out.keep (by have := HZ.out; exact bel)) HRM.out (by omega) (HA1.out.keep (by have := HZ.out; exact bel)) HN2.out).mono ?_); rw [HCK.out]; rintro e w9 ⟨rfl, hb9⟩; have HOS := Lib.hid (chain_size (W := W11) (by have := HZ.out; exact bel) hb9); have HZ := Lib.hid (chain16 (W := W11) (by have := HZ.out; exact bel) hb9))) | ((go_at_call 15; with_reducible (show Calls Try.prog 15 #[.agg #[.int .i64 g0, .int .i64 g1, .int .i64 g2, .slice A5 n5 c5, .int .i64 g4, .int .i64 g5, .int .i64 g6], .agg #[.int .i64 g0, .int .i64 g1, .int .i64 g2, .slice A6 n6 c6, .int .i64 g4, .int .i64 g5, .int .i64 g6]] _ _); go_must (refine (same_ref g0 g1 g2 g4 g5 g6 g0 g1 g2 g4 g5 g6 A5 A6 n5 n6 c5 c6 E8 E6 lg lg HE8.out HEL6.out _ W11.heap.size (Below.size (show Below W11.heap.size W11 _ from by have := HZ.out; exact bel)) (HA5.out.keep (by have := HZ.out; exact bel)) (HA6.out.keep (by have := HZ.out; exact bel)) HN8.out HN6.out hn5).mono ?_); rw [sameA_self]; rintro e w9 ⟨rfl, hb9⟩; have HOS := Lib.hid (chain_size (W := W11) (by have := HZ.out; exact bel) hb9); have HZ := Lib.hid (chain16 (W := W11) (by have := HZ.out; exact bel) hb9))) | ((go_at_call 15; with_reducible (show Calls Try.prog 15 #[.agg #[.int .i64 st, .int .i64 id, .int .i64 req, .slice A2 n2 c2, .int .i64 cnt, .int .i64 tim, .int .i64 nak], .agg #[.int .i64 tb, .int .i64 jb, .int .i64 rb, .slice A3 n3 c3, .int .i64 qb, .int .i64 mb, .int .i64 kb]] _ _); go_must (refine (same_ref st id req cnt tim nak tb jb rb qb mb kb A2 A3 n2 n3 c2 c3 F G L Lb HL.out HLB.out _ W11.heap.size (Below.size (show Below W11.heap.size W11 _ from by have := HZ.out; exact bel)) (HA1.out.keep (by have := HZ.out; exact bel)) (HA2.out.keep (by have := HZ.out; exact bel)) HN2.out HN3.out (by omega)).mono ?_); rw [HSB.out]; rintro e w9 ⟨rfl, hb9⟩; have HOS := Lib.hid (chain_size (W := W11) (by have := HZ.out; exact bel) hb9); have HZ := Lib.hid (chain16 (W := W11) (by have := HZ.out; exact bel) hb9))) | ((go_at_call 16; with_reducible (show Calls Try.prog 16 #[.agg #[.int .i64 st, .int .i64 id, .int .i64 req, .slice A2 n2 c2, .int .i64 cnt, .int .i64 tim, .int .i64 nak], .agg #[.int .i64 tb, .int .i64 jb, .int .i64 rb, .slice A3 n3 c3, .int .i64 qb, .int .i64 mb, .int .i64 kb]] _ _); go_must (refine (same16_any st id req cnt tim nak tb jb rb qb mb kb A2 A3 n2 n3 c2 c3 F G L Lb HL.out HLB.out _ W11.heap.size (Below.size (show Below W11.heap.size W11 _ from by have := HZ.out; exact bel)) (HA1.out.keep (by have := HZ.out; exact bel)) (HA2.out.keep (by have := HZ.out; exact bel)) HN2.out HN3.out (by omega)).mono ?_); rw [HSB.out]; rintro e w9 ⟨rfl, hb9⟩; have HOS := Lib.hid (chain_size (W := W11) (by have := HZ.out; exact bel) hb9); have HZ := Lib.hid (chain16 (W := W11) (by have := HZ.out; exact bel) hb9))) | ((go_at_call 16; with_reducible (show Calls Try.prog 16 #[.agg #[.int .i64 st, .int .i64 id, .int .i64 req, .slice A2 n2 c2, .int .i64 cnt, .int .i64 tim, .int .i64 nak], .agg #[.int .i64 st, .int .i64 id, .int .i64 req, .slice A2 n2 c2, .int .i64 cnt, .int .i64 tim, .int .i64 nak]] _ _); go_must (refine (same16_any st id req cnt tim nak st id req cnt tim nak A2 A2 n2 n2 c2 c2 F F L L HL.out HL.out _ W11.heap.size (Below.size (show Below W11.heap.size W11 _ from by have := HZ.out; exact bel)) (HA1.out.keep (by have := HZ.out; exact bel)) (HA1.out.keep (by have := HZ.out; exact bel)) HN2.out HN2.out (by omega)).mono ?_); rw [sameA_self]; rintro e w9 ⟨rfl, hb9⟩; have HOS := Lib.hid (chain_size (W := W11) (by have := HZ.out; exact bel) hb9); have HZ := Lib.hid (chain16 (W := W11) (by have := HZ.out; exact bel) hb9))) | ((go_at_call 8; go_must (refine (awake_any _).mono ?_); rintro e w9 ⟨rfl, hb9⟩; have HOS := Lib.hid (chain_size (W := W11) (by have := HZ.out; exact bel) hb9); have HZ := Lib.hid (chain16 (W := W11) (by have := HZ.out; exact bel) hb9))))
  all_goals
    go_wp2_with fail
    go_ret
    exact ⟨rfl, HB_W11.out.trans (HZ.out.mono hs_W11)⟩
theorem checks_walk (Ar Aa Ab : Option Addr) (nr cr na ca nb cb : Nat) (R : List Rl) (mc mt mf wt st id req cnt tim nak tb jb rb qb mb kb : Int) (E Eb : List Ent) (w : World) (hR : RulesAt w w.heap.size Ar R) (hnr : nr = R.length) (hcr : nr ≤ cr) (hlr : (nr : Int) ≤ 9223372036854775807) (hE : OptsAt w w.heap.size Aa E) (hna : na = E.length) (hla : (na : Int) ≤ 9223372036854775807) (hda : ∀ e ∈ E, (e.d.length : Int) ≤ 9223372036854775807) (hEb : OptsAt w w.heap.size Ab Eb) (hnb : nb = Eb.length) (hlb : (nb : Int) ≤ 9223372036854775807) (hdb : ∀ e ∈ Eb, (e.d.length : Int) ≤ 9223372036854775807) :
    Calls Try.prog 4 #[.agg #[.slice Ar nr cr, .int .i64 mc, .int .i64 mt, .int .i64 mf, .int .i64 wt], .agg #[.int .i64 st, .int .i64 id, .int .i64 req, .slice Aa na ca, .int .i64 cnt, .int .i64 tim, .int .i64 nak], .agg #[.int .i64 tb, .int .i64 jb, .int .i64 rb, .slice Ab nb cb, .int .i64 qb, .int .i64 mb, .int .i64 kb]] w fun x w' => x = .returned (.bool true) ∧ Below w.heap.size w w' := by
  cases hcb : confB ⟨R.take 20, mc, mt, mf, wt⟩
  · exact checks_00 Ar Aa Ab nr cr na ca nb cb R mc mt mf wt st id req cnt tim nak tb jb rb qb mb kb E Eb w hR hnr hcr hlr hE hna hla hda hEb hnb hlb hdb hcb
  · cases hib : isB ⟨st, id, req, (litE E).map Ent.o, cnt, tim, nak⟩
    · exact checks_10 Ar Aa Ab nr cr na ca nb cb R mc mt mf wt st id req cnt tim nak tb jb rb qb mb kb E Eb w hR hnr hcr hlr hE hna hla hda hEb hnb hlb hdb hcb hib
    · exact checks_11 Ar Aa Ab nr cr na ca nb cb R mc mt mf wt st id req cnt tim nak tb jb rb qb mb kb E Eb w hR hnr hcr hlr hE hna hla hda hEb hnb hlb hdb hcb hib
set_option maxRecDepth 100000
open Go.ChangeShapes Go.WideShapes Go.ChangeAt Go.RowKit Go.Joins Go.Deep
theorem autoChecks_calls {H : Type} (enc : TypeId × Value → H) (W : World) (base : Nat) (v0 v1 v2 : Value) (d0 d1 d2 : DataW H) (p0 p1 p2 : List MemPlace)
    (o0 : Value.okWide Try.prog W .any base 24 v0) (o1 : Value.okWide Try.prog W .any base 28 v1) (o2 : Value.okWide Try.prog W .any base 28 v2)
    (h0 : DataW.Trod enc Try.prog W 0 (fun _ => true) true 24 v0 d0 p0) (h1 : DataW.Trod enc Try.prog W 0 (fun _ => true) true 28 v1 d1 p1) (h2 : DataW.Trod enc Try.prog W 0 (fun _ => true) true 28 v2 d2 p2) :
    Calls Try.prog 4 #[v0, v1, v2] W fun e W' => e = .returned (.bool true) ∧ Below W.heap.size W W' := by
  obtain ⟨Ar, nr, cr, R, mc, mt, mf, wt, rfl, hR, hnr, hcr, hlr⟩ := open_conf o0 h0
  obtain ⟨st, id, req, Aa, na, ca, E, cnt, tim, nak, rfl, hE, hna, hca, hla, hda⟩ := open_auto o1 h1
  obtain ⟨tb, jb, rb, Ab, nb, cb, Eb, qb, mb, kb, rfl, hEb, hnb, hcbx, hlb, hdb⟩ := open_auto o2 h2
  exact checks_walk Ar Aa Ab nr cr na ca nb cb R mc mt mf wt st id req cnt tim nak tb jb rb qb mb kb E Eb W hR hnr hcr hlr hE hna hla hda hEb hnb hlb hdb
end Go.Proofs.Ythidhfkbfoejbaa
