/- AutoStale: its walk. -/
import Derived.Test.YthidhfkbfoejbaaGreatQ37
import Derived.Test.YthidhfkbfoejbaaGreatQ38p
import Derived.Test.YthidhfkbfoejbaaGreatQ34
namespace Go.Proofs.YthidhfkbfoejbaaGreat
open Go.RowKit
set_option linter.unusedSimpArgs false
set_option linter.unusedVariables false
set_option linter.ambiguousOpen false
open Ne (Rl Opt RulesAt areB)
open Fs (av hasB)

set_option maxRecDepth 100000 in
set_option maxHeartbeats 8000000 in
theorem stale_walk (Ar Aa Ap : Option Addr) (nr cr na ca np cp : Nat) (R : List Rl) (mc mt mf wt st id req cnt tim nak kp ip tick : Int) (E : List Ent) (lp : List UInt8) (w : World) (hR : RulesAt w w.heap.size Ar R) (hnr : nr = R.length) (hcr : nr ≤ cr) (hlr : (nr : Int) ≤ 9223372036854775807) (hE : OptsAt w w.heap.size Aa E) (hna : na = E.length) (hla : (na : Int) ≤ 9223372036854775807) (hda : ∀ e ∈ E, (e.d.length : Int) ≤ 9223372036854775807) (hpI : At w w.heap.size Ap (lp.map bv)) (hpn : np = lp.length) (hpc : np ≤ cp) (hpl : (np : Int) ≤ 9223372036854775807) :
    Calls Tryz.prog 6 #[.agg #[.slice Ar nr cr, .int .i64 mc, .int .i64 mt, .int .i64 mf, .int .i64 wt], .agg #[.int .i64 st, .int .i64 id, .int .i64 req, .slice Aa na ca, .int .i64 cnt, .int .i64 tim, .int .i64 nak], .agg #[.int .i64 kp, .int .i64 ip, .slice Ap np cp], .int .i64 tick] w fun x w' => x = .returned (.bool true) ∧ Below w.heap.size w w' := by
  have HR := Lib.hid hR
  have HE := Lib.hid hE
  have HNA := Lib.hid hna
  have HDA := Lib.hid hda
  obtain ⟨m, hm⟩ : ∃ m, min nr 20 = m := ⟨_, rfl⟩
  have HM := Lib.hid hm
  have HRM := Lib.hid (show m = (R.take 20).length by rw [List.length_take]; omega)
  have hm20 : m ≤ 20 := by omega
  obtain ⟨mp, hmp⟩ : ∃ m, min np 1500 = m := ⟨_, rfl⟩
  have HMp := Lib.hid hmp
  have HDNp := Lib.hid (show mp = (lp.take 1500).length by rw [List.length_take]; omega)
  have hmcp : mp ≤ cp := by omega
  have hm15p : mp ≤ 1500 := by omega
  have HIp := Lib.hid (hpI.take 1500)
  rw [← List.map_take] at HIp
  clear hR hE hna hda hm hnr hpI hpn hmp
  go_enter Tryz.func6, Tryz.ntmps6
  go_upto_region 1 with (fail)
  refine wp_w (fun W => W.heap[w.heap.size]? = some (.cells #[.slice Ar nr cr, .int .i64 mc, .int .i64 mt, .int .i64 mf, .int .i64 wt] 24 (0, 0)) ∧ W.heap[w.heap.size + 1]? = some (.cells #[.int .i64 st, .int .i64 id, .int .i64 req, .slice Aa na ca, .int .i64 cnt, .int .i64 tim, .int .i64 nak] 28 (0, 0)) ∧ W.heap[w.heap.size + 1 + 1]? = some (.cells #[.int .i64 kp, .int .i64 ip, .slice Ap np cp] 32 (0, 0)) ∧ Below w.heap.size w W) ⟨by (repeat (first | ((refine heap_alloc_at _ _ _ ?_); (simp [go_sem]; done)) | ((refine (heap_ext _ _ _ _ ?_).trans ?_); (focus (simp [go_sem]; done))) | ((refine (heap_alloc_past _ _ _ ?_).trans ?_); (focus (simp [go_sem]; done))))), by (repeat (first | ((refine heap_alloc_at _ _ _ ?_); (simp [go_sem]; done)) | ((refine (heap_ext _ _ _ _ ?_).trans ?_); (focus (simp [go_sem]; done))) | ((refine (heap_alloc_past _ _ _ ?_).trans ?_); (focus (simp [go_sem]; done))))), by (repeat (first | ((refine heap_alloc_at _ _ _ ?_); (simp [go_sem]; done)) | ((refine (heap_ext _ _ _ _ ?_).trans ?_); (focus (simp [go_sem]; done))) | ((refine (heap_alloc_past _ _ _ ?_).trans ?_); (focus (simp [go_sem]; done))))), by exact bel⟩ ?_
  rintro W1 ⟨g_c, g_a, g_pp, hbw⟩
  have HB_W1 := Lib.hid hbw
  have hs_W1 := hbw.size
  clear hbw
  have l_c := lt_blk g_c
  obtain ⟨c_c0, c_c1, c_c2, c_c3, c_c4⟩ := cells5 g_c
  have f_c := frees g_c
  have H_c := Lib.hid g_c
  clear g_c
  have l_a := lt_blk g_a
  obtain ⟨c_a0, c_a1, c_a2, c_a3, c_a4, c_a5, c_a6⟩ := cells7 g_a
  have f_a := frees g_a
  have H_a := Lib.hid g_a
  clear g_a
  have l_pp := lt_blk g_pp
  obtain ⟨c_pp0, c_pp1, c_pp2⟩ := cells3 g_pp
  have f_pp := frees g_pp
  have H_pp := Lib.hid g_pp
  clear g_pp
  have hz1 : w.heap.size + 1 + 1 + 1 ≤ W1.heap.size := by omega
  go_wp2_with fail
  refine (light_any Ar Aa Ap nr cr na ca np cp mc mt mf wt st id req cnt tim nak kp ip E _ w.heap.size hs_W1 (HE.out.keep HB_W1.out) HNA.out hla HDA.out hcr hlr hpc hpl).mono ?_
  rw [HM.out, HMp.out]
  rintro x W2 ⟨A2, n2, c2, rfl, hb, ho, hn2⟩
  have g_c := (hb.block _ l_c).trans H_c.out
  have g_a := (hb.block _ l_a).trans H_a.out
  have g_pp := (hb.block _ l_pp).trans H_pp.out
  have HQ_W2 := Lib.hid hb
  have hq_W2 := hb.size
  have HB_W2 := Lib.hid (HB_W1.out.trans (HQ_W2.out.mono hs_W1))
  have hs_W2 : w.heap.size ≤ W2.heap.size := HB_W2.out.size
  clear l_c f_c H_c c_c0 c_c1 c_c2 c_c3 c_c4 l_a f_a H_a c_a0 c_a1 c_a2 c_a3 c_a4 c_a5 c_a6 l_pp f_pp H_pp c_pp0 c_pp1 c_pp2
  have l_c := lt_blk g_c
  obtain ⟨c_c0, c_c1, c_c2, c_c3, c_c4⟩ := cells5 g_c
  have f_c := frees g_c
  have H_c := Lib.hid g_c
  clear g_c
  have l_a := lt_blk g_a
  obtain ⟨c_a0, c_a1, c_a2, c_a3, c_a4, c_a5, c_a6⟩ := cells7 g_a
  have f_a := frees g_a
  have H_a := Lib.hid g_a
  clear g_a
  have l_pp := lt_blk g_pp
  obtain ⟨c_pp0, c_pp1, c_pp2⟩ := cells3 g_pp
  have f_pp := frees g_pp
  have H_pp := Lib.hid g_pp
  clear g_pp
  have HO2 := Lib.hid ho
  have HN2 := Lib.hid hn2
  have hn70 : n2 ≤ 70 := by have := lit_len E; omega
  have HC2 := Lib.hid (show n2 ≤ c2 by obtain ⟨A5, c5, hv, hc, -⟩ := ownsRow_form ho; cases hv; exact hc)
  clear hb ho hn2
  go_upto_region 2 with (fail)
  refine wp_w (fun W => W.heap[w.heap.size]? = some (.cells #[.slice Ar m cr, .int .i64 mc, .int .i64 mt, .int .i64 mf, .int .i64 wt] 24 (0, 0)) ∧ W.heap[w.heap.size + 1]? = some (.cells #[.int .i64 st, .int .i64 id, .int .i64 req, .slice A2 n2 c2, .int .i64 cnt, .int .i64 tim, .int .i64 nak] 28 (0, 0)) ∧ W.heap[w.heap.size + 1 + 1]? = some (.cells #[.int .i64 kp, .int .i64 ip, .slice Ap mp cp] 32 (0, 0)) ∧ Below w.heap.size w W ∧ W.ownsRow (w.heap.size + 1 + 1 + 1) 57 2 (.slice A2 n2 c2) n2 (cellsE (litE E))) ⟨(by (iterate 10 (with_reducible refine set_off ?_ (by omega))); refine rows5 (cs := #[.slice Ar nr cr, .int .i64 mc, .int .i64 mt, .int .i64 mf, .int .i64 wt]) ?_ rfl _ _ _ _ _; skip; exact H_c.out), (by (iterate 3 (with_reducible refine set_off ?_ (by omega))); refine row7 (cs := #[.int .i64 st, .int .i64 id, .int .i64 req, .slice Aa na ca, .int .i64 cnt, .int .i64 tim, .int .i64 nak]) ?_ rfl _ _ _ _ _ _ _; (iterate 5 (with_reducible refine set_off ?_ (by omega))); exact H_a.out), (by skip; refine row3l (cs := #[.int .i64 kp, .int .i64 ip, .slice Ap np cp]) ?_ rfl _ _ _; (iterate 12 (with_reducible refine set_off ?_ (by omega))); exact H_pp.out), (by (iterate 15 (with_reducible refine Below.setCell ?_ (by first | omega | (dsimp only; omega)) _)); exact HB_W2.out), (by refine own_base (own_keep HO2.out (fun k hk => ?_)) (by omega); have hle := own_le HO2.out hk; (iterate 15 (with_reducible refine set_off ?_ (by omega))); rfl)⟩ ?_
  clear l_c f_c H_c c_c0 c_c1 c_c2 c_c3 c_c4 l_a f_a H_a c_a0 c_a1 c_a2 c_a3 c_a4 c_a5 c_a6 l_pp f_pp H_pp c_pp0 c_pp1 c_pp2
  rintro W3 ⟨g_c, g_a, g_pp, hbw, ex0⟩
  have HB_W3 := Lib.hid hbw
  have hs_W3 := hbw.size
  clear hbw
  have l_c := lt_blk g_c
  obtain ⟨c_c0, c_c1, c_c2, c_c3, c_c4⟩ := cells5 g_c
  have f_c := frees g_c
  have H_c := Lib.hid g_c
  clear g_c
  have l_a := lt_blk g_a
  obtain ⟨c_a0, c_a1, c_a2, c_a3, c_a4, c_a5, c_a6⟩ := cells7 g_a
  have f_a := frees g_a
  have H_a := Lib.hid g_a
  clear g_a
  have l_pp := lt_blk g_pp
  obtain ⟨c_pp0, c_pp1, c_pp2⟩ := cells3 g_pp
  have f_pp := frees g_pp
  have H_pp := Lib.hid g_pp
  clear g_pp
  have HO3 := Lib.hid ex0
  clear ex0 HO2
  obtain ⟨kq, hkq⟩ : ∃ k, 2 + kp % 18446744073709551616 % 3 = k := ⟨_, rfl⟩
  have hk2 : 2 ≤ kq := by omega
  have hk4 : kq ≤ 4 := by omega
  have hcv : IntKind.u64.wrap kp = kp % 18446744073709551616 := by rfl
  have hcw : IntKind.i64.wrap (kp % 18446744073709551616 % 3) = kp % 18446744073709551616 % 3 := IntWalk.i64_in _ (by omega)
  have hrm : (kp % 18446744073709551616).tmod 3 = kp % 18446744073709551616 % 3 := Int.tmod_eq_emod_of_nonneg (by omega)
  have hcx : IntKind.i64.wrap (2 + kp % 18446744073709551616 % 3) = kq := by rw [hkq]; exact IntWalk.i64_in _ (by omega)
  go_upto_region 3 with (fail)
  refine wp_w (fun W => W.heap[w.heap.size]? = some (.cells #[.slice Ar m cr, .int .i64 mc, .int .i64 mt, .int .i64 mf, .int .i64 wt] 24 (0, 0)) ∧ W.heap[w.heap.size + 1]? = some (.cells #[.int .i64 st, .int .i64 id, .int .i64 req, .slice A2 n2 c2, .int .i64 cnt, .int .i64 tim, .int .i64 nak] 28 (0, 0)) ∧ W.heap[w.heap.size + 1 + 1]? = some (.cells #[.int .i64 kq, .int .i64 ip, .slice Ap mp cp] 32 (0, 0)) ∧ Below w.heap.size w W ∧ W.ownsRow (w.heap.size + 1 + 1 + 1) 57 2 (.slice A2 n2 c2) n2 (cellsE (litE E))) ⟨(set_off H_c.out (by omega)), (set_off H_a.out (by omega)), (by rw [← hcx]; exact set_in H_pp.out rfl), (Below.setCell HB_W3.out (by dsimp only; omega) _), (by refine own_base (own_keep HO3.out (fun k hk => ?_)) (by omega); have hle := own_le HO3.out hk; (iterate 1 (with_reducible refine set_off ?_ (by omega))); rfl)⟩ ?_
  clear l_c f_c H_c c_c0 c_c1 c_c2 c_c3 c_c4 l_a f_a H_a c_a0 c_a1 c_a2 c_a3 c_a4 c_a5 c_a6 l_pp f_pp H_pp c_pp0 c_pp1 c_pp2
  rintro W3c ⟨g_c, g_a, g_pp, hbw, ex0⟩
  have HB_W3c := Lib.hid hbw
  have hs_W3c := hbw.size
  clear hbw
  have l_c := lt_blk g_c
  obtain ⟨c_c0, c_c1, c_c2, c_c3, c_c4⟩ := cells5 g_c
  have f_c := frees g_c
  have H_c := Lib.hid g_c
  clear g_c
  have l_a := lt_blk g_a
  obtain ⟨c_a0, c_a1, c_a2, c_a3, c_a4, c_a5, c_a6⟩ := cells7 g_a
  have f_a := frees g_a
  have H_a := Lib.hid g_a
  clear g_a
  have l_pp := lt_blk g_pp
  obtain ⟨c_pp0, c_pp1, c_pp2⟩ := cells3 g_pp
  have f_pp := frees g_pp
  have H_pp := Lib.hid g_pp
  clear g_pp
  clear HO3
  have HO3 := Lib.hid ex0
  clear ex0 hcv hcw hrm hcx hkq
  have HR3 := Lib.hid ((rulesAt_take (HR.out.keep HB_W3c.out) 20).more hs_W3c)
  have HE3 := Lib.hid (lit_at HE.out (Nat.le_refl _) HB_W3c.out HO3.out)
  have HI3p := Lib.hid ((HIp.out.keep HB_W3c.out).more hs_W3c)
  have HLD := Lib.hid (lit_data E)
  generalize R.take 20 = R1 at HR3 HRM
  generalize litE E = F at HO3 HE3 HN2 HLD
  generalize lp.take 1500 = dp at HIp HI3p HDNp
  obtain ⟨L, hL⟩ : ∃ L, F.map Ent.o = L := ⟨_, rfl⟩
  have HL := Lib.hid hL
  have HLL := Lib.hid (show L.length ≤ 1000 by rw [← hL, List.length_map]; have := HN2.out; omega)
  clear hL
  by_cases hid : ip = req
  · have hid2 : (ip == req) = true := by simpa using hid
    go_wp2_with fail
    refine (awake_any _).mono ?_
    rintro x W11 ⟨rfl, hb11⟩
    have HQ11 := Lib.hid (HB_W3c.out.trans (hb11.mono hs_W3c))
    clear hb11
    go_wp2_with fail
    go_ret
    exact ⟨rfl, HQ11.out⟩
  · have hid2 : (ip == req) = false := by simpa using hid
    have HPS := Lib.hid (pack_stale (c := ⟨R1, mc, mt, mf, wt⟩) (a := ⟨st, id, req, L, cnt, tim, nak⟩) (inn := ⟨kq, ip, dp⟩) (tick := tick) hk2 hk4 hid)
    go_wp2_with fail
    refine (pack_any Ar A2 Ap m cr n2 c2 mp cp R1 mc mt mf wt st id req cnt tim nak kq ip tick F dp _ W3c.heap.size (Nat.le_refl _) HR3.out HRM.out (by omega) HE3.out HN2.out (by omega) (fun e he => by have := HLD.out e he; omega) HI3p.out HDNp.out hmcp (by omega)).mono ?_
    rw [HL.out]
    rw [HPS.out]
    unfold PackP auV
    dsimp only
    rintro x W4 ⟨va, vo, vd, rfl, hb, hO, hP, hA⟩
    have g_c := (hb.block _ l_c).trans H_c.out
    have g_a := (hb.block _ l_a).trans H_a.out
    have g_pp := (hb.block _ l_pp).trans H_pp.out
    have HQ_W4 := Lib.hid hb
    have hq_W4 := hb.size
    have HB_W4 := Lib.hid (HB_W3c.out.trans (HQ_W4.out.mono hs_W3c))
    have hs_W4 : w.heap.size ≤ W4.heap.size := HB_W4.out.size
    clear l_c f_c H_c c_c0 c_c1 c_c2 c_c3 c_c4 l_a f_a H_a c_a0 c_a1 c_a2 c_a3 c_a4 c_a5 c_a6 l_pp f_pp H_pp c_pp0 c_pp1 c_pp2
    have l_c := lt_blk g_c
    obtain ⟨c_c0, c_c1, c_c2, c_c3, c_c4⟩ := cells5 g_c
    have f_c := frees g_c
    have H_c := Lib.hid g_c
    clear g_c
    have l_a := lt_blk g_a
    obtain ⟨c_a0, c_a1, c_a2, c_a3, c_a4, c_a5, c_a6⟩ := cells7 g_a
    have f_a := frees g_a
    have H_a := Lib.hid g_a
    clear g_a
    have l_pp := lt_blk g_pp
    obtain ⟨c_pp0, c_pp1, c_pp2⟩ := cells3 g_pp
    have f_pp := frees g_pp
    have H_pp := Lib.hid g_pp
    clear g_pp
    have HO4 := Lib.hid hO
    obtain ⟨E4, hE4, hEL⟩ := hO
    obtain ⟨A4, c4, rfl, -, -⟩ := ownsRow_form hE4.1
    obtain ⟨n4, hn4⟩ : ∃ n, E4.length = n := ⟨_, rfl⟩
    rw [hn4] at HO4 ⊢
    obtain ⟨A8, n8, c8, P8, rfl, -, hn8, -, hP8⟩ := hP.v
    obtain rfl : n8 = 0 := by rw [hn8, List.map_eq_nil_iff.1 hP8]; rfl
    obtain ⟨A9, n9, c9, rfl, -, hn9, -⟩ := hA.v
    obtain rfl : n9 = 0 := hn9
    clear hb hE4 hEL hP hA hn4 hP8 hn8
    go_upto_region 6 with (fail)
    refine wp_w (fun W => W.heap[w.heap.size + 1]? = some (.cells #[.int .i64 st, .int .i64 id, .int .i64 req, .slice A2 n2 c2, .int .i64 cnt, .int .i64 tim, .int .i64 nak] 28 (0, 0)) ∧ W.heap[W4.heap.size]? = some (.cells #[.int .i64 st, .int .i64 id, .int .i64 req, .slice A4 n4 c4, .int .i64 cnt, .int .i64 tim, .int .i64 nak] 28 (0, 0)) ∧ Below w.heap.size w W ∧ Below W4.heap.size W4 W) ⟨(alloc_off H_a.out), (heap_alloc_new _ _), (Below.alloc HB_W4.out hs_W4 _), (Below.alloc (Below.refl _ _) (Nat.le_refl _) _)⟩ ?_
    clear l_c f_c H_c c_c0 c_c1 c_c2 c_c3 c_c4 l_a f_a H_a c_a0 c_a1 c_a2 c_a3 c_a4 c_a5 c_a6 l_pp f_pp H_pp c_pp0 c_pp1 c_pp2
    rintro W5 ⟨g_a, g_t, hbw, ex0⟩
    have HB_W5 := Lib.hid hbw
    have hs_W5 := hbw.size
    clear hbw
    have l_a := lt_blk g_a
    obtain ⟨c_a0, c_a1, c_a2, c_a3, c_a4, c_a5, c_a6⟩ := cells7 g_a
    have f_a := frees g_a
    have H_a := Lib.hid g_a
    clear g_a
    have l_t := lt_blk g_t
    obtain ⟨c_t0, c_t1, c_t2, c_t3, c_t4, c_t5, c_t6⟩ := cells7 g_t
    have f_t := frees g_t
    have H_t := Lib.hid g_t
    clear g_t
    have HQ5 := Lib.hid ex0
    have hq5 := ex0.size
    clear ex0
    have HO7 := Lib.hid (HO4.out.below HQ5.out).v
    have HB35 := Lib.hid (HQ_W4.out.trans (HQ5.out.mono hq_W4))
    have HE7 := Lib.hid (show OptsV W5 W5.heap.size (.slice A2 n2 c2) L from ⟨A2, n2, c2, F, rfl, (HE3.out.keep HB35.out).more HB35.out.size, HN2.out, HC2.out, HL.out⟩)
    go_wp2_with fail
    refine (sameAu_v ⟨st, id, req, L, cnt, tim, nak⟩ (.slice A2 n2 c2) (.slice A4 n4 c4) _ W5.heap.size (Nat.le_refl _) HE7.out HO7.out (by have := HLL.out; dsimp only; omega)).mono ?_
    rintro x W8 ⟨rfl, hb8⟩
    have HQ8 := Lib.hid hb8
    have hq8 := hb8.size
    clear hb8 l_a f_a H_a c_a0 c_a1 c_a2 c_a3 c_a4 c_a5 c_a6 l_t f_t H_t c_t0 c_t1 c_t2 c_t3 c_t4 c_t5 c_t6
    go_wp2_with fail
    refine (awake_any _).mono ?_
    rintro x W11 ⟨rfl, hb11⟩
    have HQ11 := Lib.hid (HQ8.out.trans (hb11.mono hq8))
    clear hb11
    go_wp2_with fail
    go_ret
    exact ⟨rfl, HB_W5.out.trans (HQ11.out.mono hs_W5)⟩
set_option maxRecDepth 100000
open Go.ChangeShapes Go.WideShapes Go.ChangeAt Go.RowKit Go.Joins Go.Deep
theorem autoStale_calls {H : Type} (enc : TypeId × Value → H) (W : World) (base : Nat) (v0 v1 v2 v3 : Value) (d0 d1 d2 d3 : DataW H) (p0 p1 p2 p3 : List MemPlace)
    (o0 : Value.okWide Tryz.prog W .any base 24 v0) (o1 : Value.okWide Tryz.prog W .any base 28 v1) (o2 : Value.okWide Tryz.prog W .any base 32 v2) (o3 : Value.okWide Tryz.prog W .any base 3 v3)
    (h0 : DataW.Trod enc Tryz.prog W 0 (fun _ => true) true 24 v0 d0 p0) (h1 : DataW.Trod enc Tryz.prog W 0 (fun _ => true) true 28 v1 d1 p1) (h2 : DataW.Trod enc Tryz.prog W 0 (fun _ => true) true 32 v2 d2 p2) (h3 : DataW.Trod enc Tryz.prog W 0 (fun _ => true) true 3 v3 d3 p3) :
    Calls Tryz.prog 6 #[v0, v1, v2, v3] W fun e W' => e = .returned (.bool true) ∧ Below W.heap.size W W' := by
  obtain ⟨Ar, nr, cr, R, mc, mt, mf, wt, rfl, hR, hnr, hcr, hlr⟩ := open_conf o0 h0
  obtain ⟨st, id, req, Aa, na, ca, E, cnt, tim, nak, rfl, hE, hna, hca, hla, hda⟩ := open_auto o1 h1
  obtain ⟨kp, ip, Ap, np, cp, lp, rfl, hpI, hpn, hpc, hpl⟩ := open_pk o2 h2
  obtain ⟨tick, rfl, rfl, rfl, w3⟩ := open_int Tryz.underlying3 o3 h3
  exact stale_walk Ar Aa Ap nr cr na ca np cp R mc mt mf wt st id req cnt tim nak kp ip tick E lp W hR hnr hcr hlr hE hna hla hda hpI hpn hpc hpl
end Go.Proofs.YthidhfkbfoejbaaGreat
