/- AutoTimeouts: its walk. -/
import Derived.Test.YthidhfkbfoejbaaGreatQ40
import Derived.Test.YthidhfkbfoejbaaGreatQ37
import Derived.Test.YthidhfkbfoejbaaGreatQ23r
namespace Go.Proofs.YthidhfkbfoejbaaGreat
open Go.RowKit
set_option linter.unusedSimpArgs false
set_option linter.unusedVariables false
set_option linter.ambiguousOpen false
open Ne (Rl Opt RulesAt areB)
open Fs (av hasB)

set_option maxRecDepth 100000 in
set_option maxHeartbeats 8000000 in
theorem timeouts_walk (Ar Aa  : Option Addr) (nr cr na ca  : Nat) (R : List Rl) (mc mt mf wt st id req cnt tim nak tick : Int) (E : List Ent) (w : World) (hR : RulesAt w w.heap.size Ar R) (hnr : nr = R.length) (hcr : nr ≤ cr) (hlr : (nr : Int) ≤ 9223372036854775807) (hE : OptsAt w w.heap.size Aa E) (hna : na = E.length) (hla : (na : Int) ≤ 9223372036854775807) (hda : ∀ e ∈ E, (e.d.length : Int) ≤ 9223372036854775807) :
    Calls Tryz.prog 4 #[.agg #[.slice Ar nr cr, .int .i64 mc, .int .i64 mt, .int .i64 mf, .int .i64 wt], .agg #[.int .i64 st, .int .i64 id, .int .i64 req, .slice Aa na ca, .int .i64 cnt, .int .i64 tim, .int .i64 nak], .int .i64 tick] w fun x w' => x = .returned (.bool true) ∧ Below w.heap.size w w' := by
  have HR := Lib.hid hR
  have HE := Lib.hid hE
  have HNA := Lib.hid hna
  have HDA := Lib.hid hda
  obtain ⟨m, hm⟩ : ∃ m, min nr 20 = m := ⟨_, rfl⟩
  have HM := Lib.hid hm
  have HRM := Lib.hid (show m = (R.take 20).length by rw [List.length_take]; omega)
  have hm20 : m ≤ 20 := by omega
  clear hR hE hna hda hm hnr
  go_enter Tryz.func4, Tryz.ntmps4
  go_upto_region 1 with (fail)
  refine wp_w (fun W => W.heap[w.heap.size]? = some (.cells #[.slice Ar nr cr, .int .i64 mc, .int .i64 mt, .int .i64 mf, .int .i64 wt] 24 (0, 0)) ∧ W.heap[w.heap.size + 1]? = some (.cells #[.int .i64 st, .int .i64 id, .int .i64 req, .slice Aa na ca, .int .i64 cnt, .int .i64 tim, .int .i64 nak] 28 (0, 0)) ∧ Below w.heap.size w W) ⟨by (repeat (first | ((refine heap_alloc_at _ _ _ ?_); (simp [go_sem]; done)) | ((refine (heap_ext _ _ _ _ ?_).trans ?_); (focus (simp [go_sem]; done))) | ((refine (heap_alloc_past _ _ _ ?_).trans ?_); (focus (simp [go_sem]; done))))), by (repeat (first | ((refine heap_alloc_at _ _ _ ?_); (simp [go_sem]; done)) | ((refine (heap_ext _ _ _ _ ?_).trans ?_); (focus (simp [go_sem]; done))) | ((refine (heap_alloc_past _ _ _ ?_).trans ?_); (focus (simp [go_sem]; done))))), by exact bel⟩ ?_
  rintro W1 ⟨g_c, g_a, hbw⟩
  have HB_W1 := Lib.hid hbw
  have hs_W1 := hbw.size
  clear hbw
  have l_c := lt_blk g_c
  obtain ⟨c_c0, c_c1, c_c2, c_c3, c_c4⟩ := cells5 g_c
  have f_c := frees g_c
  have H_c := Lib.hid g_c
  clear g_c
  have l_a := lt_blk g_a
  obtain ⟨c_a0, c_a1, c_a2, c_a3, c_a4, c_a5, c_a6⟩ := cells7 g_a
  have f_a := frees g_a
  have H_a := Lib.hid g_a
  clear g_a
  have hz1 : w.heap.size + 1 + 1 ≤ W1.heap.size := by omega
  go_wp2_with fail
  refine (light_any Ar Aa none nr cr na ca 0 0 mc mt mf wt st id req cnt tim nak 0 0 E _ w.heap.size hs_W1 (HE.out.keep HB_W1.out) HNA.out hla HDA.out hcr hlr (Nat.le_refl _) (by omega)).mono ?_
  rw [HM.out]
  rintro x W2 ⟨A2, n2, c2, rfl, hb, ho, hn2⟩
  have g_c := (hb.block _ l_c).trans H_c.out
  have g_a := (hb.block _ l_a).trans H_a.out
  have HQ_W2 := Lib.hid hb
  have hq_W2 := hb.size
  have HB_W2 := Lib.hid (HB_W1.out.trans (HQ_W2.out.mono hs_W1))
  have hs_W2 : w.heap.size ≤ W2.heap.size := HB_W2.out.size
  clear l_c f_c H_c c_c0 c_c1 c_c2 c_c3 c_c4 l_a f_a H_a c_a0 c_a1 c_a2 c_a3 c_a4 c_a5 c_a6
  have l_c := lt_blk g_c
  obtain ⟨c_c0, c_c1, c_c2, c_c3, c_c4⟩ := cells5 g_c
  have f_c := frees g_c
  have H_c := Lib.hid g_c
  clear g_c
  have l_a := lt_blk g_a
  obtain ⟨c_a0, c_a1, c_a2, c_a3, c_a4, c_a5, c_a6⟩ := cells7 g_a
  have f_a := frees g_a
  have H_a := Lib.hid g_a
  clear g_a
  have HO2 := Lib.hid ho
  have HN2 := Lib.hid hn2
  have hn70 : n2 ≤ 70 := by have := lit_len E; omega
  have HC2 := Lib.hid (show n2 ≤ c2 by obtain ⟨A5, c5, hv, hc, -⟩ := ownsRow_form ho; cases hv; exact hc)
  clear hb ho hn2
  go_upto_region 2 with (fail)
  refine wp_w (fun W => W.heap[w.heap.size]? = some (.cells #[.slice Ar m cr, .int .i64 mc, .int .i64 mt, .int .i64 mf, .int .i64 wt] 24 (0, 0)) ∧ W.heap[w.heap.size + 1]? = some (.cells #[.int .i64 st, .int .i64 id, .int .i64 req, .slice A2 n2 c2, .int .i64 cnt, .int .i64 tim, .int .i64 nak] 28 (0, 0)) ∧ Below w.heap.size w W ∧ W.ownsRow (w.heap.size + 1 + 1) 57 2 (.slice A2 n2 c2) n2 (cellsE (litE E))) ⟨(by (iterate 7 (with_reducible refine set_off ?_ (by omega))); refine rows5 (cs := #[.slice Ar nr cr, .int .i64 mc, .int .i64 mt, .int .i64 mf, .int .i64 wt]) ?_ rfl _ _ _ _ _; skip; exact H_c.out), (by skip; refine row7 (cs := #[.int .i64 st, .int .i64 id, .int .i64 req, .slice Aa na ca, .int .i64 cnt, .int .i64 tim, .int .i64 nak]) ?_ rfl _ _ _ _ _ _ _; (iterate 5 (with_reducible refine set_off ?_ (by omega))); exact H_a.out), (by (iterate 12 (with_reducible refine Below.setCell ?_ (by first | omega | (dsimp only; omega)) _)); exact HB_W2.out), (by refine own_base (own_keep HO2.out (fun k hk => ?_)) (by omega); have hle := own_le HO2.out hk; (iterate 12 (with_reducible refine set_off ?_ (by omega))); rfl)⟩ ?_
  clear l_c f_c H_c c_c0 c_c1 c_c2 c_c3 c_c4 l_a f_a H_a c_a0 c_a1 c_a2 c_a3 c_a4 c_a5 c_a6
  rintro W3 ⟨g_c, g_a, hbw, ex0⟩
  have HB_W3 := Lib.hid hbw
  have hs_W3 := hbw.size
  clear hbw
  have l_c := lt_blk g_c
  obtain ⟨c_c0, c_c1, c_c2, c_c3, c_c4⟩ := cells5 g_c
  have f_c := frees g_c
  have H_c := Lib.hid g_c
  clear g_c
  have l_a := lt_blk g_a
  obtain ⟨c_a0, c_a1, c_a2, c_a3, c_a4, c_a5, c_a6⟩ := cells7 g_a
  have f_a := frees g_a
  have H_a := Lib.hid g_a
  clear g_a
  have HO3 := Lib.hid ex0
  clear ex0 HO2
  have HR3 := Lib.hid ((rulesAt_take (HR.out.keep HB_W3.out) 20).more hs_W3)
  have HE3 := Lib.hid (lit_at HE.out (Nat.le_refl _) HB_W3.out HO3.out)
  have HLD := Lib.hid (lit_data E)
  generalize R.take 20 = R1 at HR3 HRM
  generalize litE E = F at HO3 HE3 HN2 HLD
  obtain ⟨L, hL⟩ : ∃ L, F.map Ent.o = L := ⟨_, rfl⟩
  have HL := Lib.hid hL
  have HLL := Lib.hid (show L.length ≤ 1000 by rw [← hL, List.length_map]; have := HN2.out; omega)
  clear hL
  go_wp2_with fail
  refine (timeout_any Ar A2 m cr n2 c2 R1 mc mt mf wt st id req cnt tim nak tick F _ W3.heap.size (Nat.le_refl _) HR3.out HRM.out (by omega) HE3.out HN2.out (by omega) (fun e he => by have := HLD.out e he; omega)).mono ?_
  rw [HL.out]
  obtain ⟨⟨⟨st1, id1, req1, ask1, cnt1, tim1, nak1⟩, out1, acts1⟩, hr⟩ : ∃ r, timO ⟨R1, mc, mt, mf, wt⟩ ⟨st, id, req, L, cnt, tim, nak⟩ tick = r := ⟨_, rfl⟩
  have HRES := Lib.hid hr
  have hask := timO_ask ⟨R1, mc, mt, mf, wt⟩ ⟨st, id, req, L, cnt, tim, nak⟩ tick
  have hlen := timO_lens ⟨R1, mc, mt, mf, wt⟩ ⟨st, id, req, L, cnt, tim, nak⟩ tick
  rw [hr] at hask hlen ⊢
  dsimp only at hask hlen
  subst hask
  have HLEN := Lib.hid hlen
  clear hr hlen
  unfold DoP auV
  dsimp only
  rintro x W4 ⟨va, vo, vd, rfl, hb, hO, hP, hA⟩
  have g_c := (hb.block _ l_c).trans H_c.out
  have g_a := (hb.block _ l_a).trans H_a.out
  have HQ_W4 := Lib.hid hb
  have hq_W4 := hb.size
  have HB_W4 := Lib.hid (HB_W3.out.trans (HQ_W4.out.mono hs_W3))
  have hs_W4 : w.heap.size ≤ W4.heap.size := HB_W4.out.size
  clear l_c f_c H_c c_c0 c_c1 c_c2 c_c3 c_c4 l_a f_a H_a c_a0 c_a1 c_a2 c_a3 c_a4 c_a5 c_a6
  have l_c := lt_blk g_c
  obtain ⟨c_c0, c_c1, c_c2, c_c3, c_c4⟩ := cells5 g_c
  have f_c := frees g_c
  have H_c := Lib.hid g_c
  clear g_c
  have l_a := lt_blk g_a
  obtain ⟨c_a0, c_a1, c_a2, c_a3, c_a4, c_a5, c_a6⟩ := cells7 g_a
  have f_a := frees g_a
  have H_a := Lib.hid g_a
  clear g_a
  have HO4 := Lib.hid hO
  have HP4 := Lib.hid hP
  have HA4 := Lib.hid hA
  obtain ⟨E4, hE4, hEL⟩ := hO
  obtain ⟨A4, c4, rfl, -, -⟩ := ownsRow_form hE4.1
  obtain ⟨n4, hn4⟩ : ∃ n, E4.length = n := ⟨_, rfl⟩
  rw [hn4] at HO4 ⊢
  clear hb hE4 hEL hP hA hn4
  go_upto_region 3 with (fail)
  refine wp_w (fun W => W.heap[w.heap.size]? = some (.cells #[.slice Ar m cr, .int .i64 mc, .int .i64 mt, .int .i64 mf, .int .i64 wt] 24 (0, 0)) ∧ W.heap[w.heap.size + 1]? = some (.cells #[.int .i64 st, .int .i64 id, .int .i64 req, .slice A2 n2 c2, .int .i64 cnt, .int .i64 tim, .int .i64 nak] 28 (0, 0)) ∧ W.heap[W4.heap.size]? = some (.cells #[.int .i64 st1, .int .i64 id1, .int .i64 req1, .slice A4 n4 c4, .int .i64 cnt1, .int .i64 tim1, .int .i64 nak1] 28 (0, 0)) ∧ Below w.heap.size w W ∧ Below W4.heap.size W4 W) ⟨(alloc_off H_c.out), (alloc_off H_a.out), (heap_alloc_new _ _), (Below.alloc HB_W4.out hs_W4 _), (Below.alloc (Below.refl _ _) (Nat.le_refl _) _)⟩ ?_
  clear l_c f_c H_c c_c0 c_c1 c_c2 c_c3 c_c4 l_a f_a H_a c_a0 c_a1 c_a2 c_a3 c_a4 c_a5 c_a6
  rintro W5 ⟨g_c, g_a, g_t, hbw, ex0⟩
  have HB_W5 := Lib.hid hbw
  have hs_W5 := hbw.size
  clear hbw
  have l_c := lt_blk g_c
  obtain ⟨c_c0, c_c1, c_c2, c_c3, c_c4⟩ := cells5 g_c
  have f_c := frees g_c
  have H_c := Lib.hid g_c
  clear g_c
  have l_a := lt_blk g_a
  obtain ⟨c_a0, c_a1, c_a2, c_a3, c_a4, c_a5, c_a6⟩ := cells7 g_a
  have f_a := frees g_a
  have H_a := Lib.hid g_a
  clear g_a
  have l_t := lt_blk g_t
  obtain ⟨c_t0, c_t1, c_t2, c_t3, c_t4, c_t5, c_t6⟩ := cells7 g_t
  have f_t := frees g_t
  have H_t := Lib.hid g_t
  clear g_t
  have HQ5 := Lib.hid ex0
  have hq5 := ex0.size
  clear ex0
  have HO5 := Lib.hid (HO4.out.below HQ5.out)
  have HP5 := Lib.hid (HP4.out.below HQ5.out)
  have HA5 := Lib.hid (HA4.out.below HQ5.out)
  have HB35 := Lib.hid (HQ_W4.out.trans (HQ5.out.mono hq_W4))
  have HR5 := Lib.hid ((HR3.out.keep HB35.out).more HB35.out.size)
  have HE5 := Lib.hid ((HE3.out.keep HB35.out).more HB35.out.size)
  clear HO4 HP4 HA4 HR3 HE3 HO3
  go_wp2_with fail
  refine (rtimeout_any Ar A2 m cr n2 c2 R1 mc mt mf wt st id req cnt tim nak tick F _ W5.heap.size (Nat.le_refl _) HR5.out HRM.out (by omega) HE5.out HN2.out).mono ?_
  rw [HL.out, HRES.out]
  unfold RDoP auV
  dsimp only
  rintro x W6 ⟨vo2, vd2, rfl, hb, hP, hA⟩
  have g_c := (hb.block _ l_c).trans H_c.out
  have g_a := (hb.block _ l_a).trans H_a.out
  have g_t := (hb.block _ l_t).trans H_t.out
  have HQ_W6 := Lib.hid hb
  have hq_W6 := hb.size
  have HB_W6 := Lib.hid (HB_W5.out.trans (HQ_W6.out.mono hs_W5))
  have hs_W6 : w.heap.size ≤ W6.heap.size := HB_W6.out.size
  clear l_c f_c H_c c_c0 c_c1 c_c2 c_c3 c_c4 l_a f_a H_a c_a0 c_a1 c_a2 c_a3 c_a4 c_a5 c_a6 l_t f_t H_t c_t0 c_t1 c_t2 c_t3 c_t4 c_t5 c_t6
  have l_c := lt_blk g_c
  obtain ⟨c_c0, c_c1, c_c2, c_c3, c_c4⟩ := cells5 g_c
  have f_c := frees g_c
  have H_c := Lib.hid g_c
  clear g_c
  have l_a := lt_blk g_a
  obtain ⟨c_a0, c_a1, c_a2, c_a3, c_a4, c_a5, c_a6⟩ := cells7 g_a
  have f_a := frees g_a
  have H_a := Lib.hid g_a
  clear g_a
  have l_t := lt_blk g_t
  obtain ⟨c_t0, c_t1, c_t2, c_t3, c_t4, c_t5, c_t6⟩ := cells7 g_t
  have f_t := frees g_t
  have H_t := Lib.hid g_t
  clear g_t
  have HP6 := Lib.hid hP
  have HA6 := Lib.hid hA
  clear hb hP hA
  go_upto_region 4 with (fail)
  refine wp_w (fun W => W.heap[W4.heap.size]? = some (.cells #[.int .i64 st1, .int .i64 id1, .int .i64 req1, .slice A4 n4 c4, .int .i64 cnt1, .int .i64 tim1, .int .i64 nak1] 28 (0, 0)) ∧ W.heap[W6.heap.size]? = some (.cells #[.int .i64 st1, .int .i64 id1, .int .i64 req1, .slice A2 n2 c2, .int .i64 cnt1, .int .i64 tim1, .int .i64 nak1] 28 (0, 0)) ∧ Below w.heap.size w W ∧ Below W6.heap.size W6 W) ⟨(alloc_off H_t.out), (heap_alloc_new _ _), (Below.alloc HB_W6.out hs_W6 _), (Below.alloc (Below.refl _ _) (Nat.le_refl _) _)⟩ ?_
  clear l_c f_c H_c c_c0 c_c1 c_c2 c_c3 c_c4 l_a f_a H_a c_a0 c_a1 c_a2 c_a3 c_a4 c_a5 c_a6 l_t f_t H_t c_t0 c_t1 c_t2 c_t3 c_t4 c_t5 c_t6
  rintro W7 ⟨g_t, g_u, hbw, ex0⟩
  have HB_W7 := Lib.hid hbw
  have hs_W7 := hbw.size
  clear hbw
  have l_t := lt_blk g_t
  obtain ⟨c_t0, c_t1, c_t2, c_t3, c_t4, c_t5, c_t6⟩ := cells7 g_t
  have f_t := frees g_t
  have H_t := Lib.hid g_t
  clear g_t
  have l_u := lt_blk g_u
  obtain ⟨c_u0, c_u1, c_u2, c_u3, c_u4, c_u5, c_u6⟩ := cells7 g_u
  have f_u := frees g_u
  have H_u := Lib.hid g_u
  clear g_u
  have HQ7 := Lib.hid ex0
  have hq7 := ex0.size
  clear ex0
  have HB57 := Lib.hid (HQ_W6.out.trans (HQ7.out.mono hq_W6))
  have HO7 := Lib.hid (HO5.out.below HB57.out).v
  have HP7 := Lib.hid (HP5.out.below HB57.out).v
  have HA7 := Lib.hid (HA5.out.below HB57.out).v
  have HPR7 := Lib.hid (HP6.out.below HQ7.out).v
  have HAR7 := Lib.hid (HA6.out.below HQ7.out).v
  have HE7 := Lib.hid (show OptsV W7 W7.heap.size (.slice A2 n2 c2) ask1 from ⟨A2, n2, c2, F, rfl, (HE5.out.keep HB57.out).more HB57.out.size, HN2.out, HC2.out, HL.out⟩)
  go_wp2_with fail
  refine (sameAu_v ⟨st1, id1, req1, ask1, cnt1, tim1, nak1⟩ (.slice A4 n4 c4) (.slice A2 n2 c2) _ W7.heap.size (Nat.le_refl _) HO7.out HE7.out (by have := HLL.out; dsimp only; omega)).mono ?_
  rintro x W8 ⟨rfl, hb8⟩
  have HQ8 := Lib.hid hb8
  have hq8 := hb8.size
  clear hb8 l_t f_t H_t c_t0 c_t1 c_t2 c_t3 c_t4 c_t5 c_t6 l_u f_u H_u c_u0 c_u1 c_u2 c_u3 c_u4 c_u5 c_u6
  go_wp2_with fail
  refine (sameAll_v vo vo2 out1 _ W7.heap.size hq8 (HP7.out.keep HQ8.out) (HPR7.out.keep HQ8.out) (by have := HLEN.out; omega)).mono ?_
  rintro x W9 ⟨rfl, hb9⟩
  have HQ9 := Lib.hid (HQ8.out.trans (hb9.mono hq8))
  have hq9 := HQ9.out.size
  clear hb9
  go_wp2_with fail
  refine (sameActs_v vd vd2 acts1 _ W7.heap.size hq9 (HA7.out.keep HQ9.out) (HAR7.out.keep HQ9.out) (by have := HLEN.out; omega)).mono ?_
  rintro x W10 ⟨rfl, hb10⟩
  have HQ10 := Lib.hid (HQ9.out.trans (hb10.mono hq9))
  have hq10 := HQ10.out.size
  clear hb10
  go_wp2_with fail
  refine (awake_any _).mono ?_
  rintro x W11 ⟨rfl, hb11⟩
  have HQ11 := Lib.hid (HQ10.out.trans (hb11.mono hq10))
  clear hb11
  go_wp2_with fail
  go_ret
  exact ⟨rfl, HB_W7.out.trans (HQ11.out.mono hs_W7)⟩
set_option maxRecDepth 100000
open Go.ChangeShapes Go.WideShapes Go.ChangeAt Go.RowKit Go.Joins Go.Deep
theorem autoTimeouts_calls {H : Type} (enc : TypeId × Value → H) (W : World) (base : Nat) (v0 v1 v2 : Value) (d0 d1 d2 : DataW H) (p0 p1 p2 : List MemPlace)
    (o0 : Value.okWide Tryz.prog W .any base 24 v0) (o1 : Value.okWide Tryz.prog W .any base 28 v1) (o2 : Value.okWide Tryz.prog W .any base 3 v2)
    (h0 : DataW.Trod enc Tryz.prog W 0 (fun _ => true) true 24 v0 d0 p0) (h1 : DataW.Trod enc Tryz.prog W 0 (fun _ => true) true 28 v1 d1 p1) (h2 : DataW.Trod enc Tryz.prog W 0 (fun _ => true) true 3 v2 d2 p2) :
    Calls Tryz.prog 4 #[v0, v1, v2] W fun e W' => e = .returned (.bool true) ∧ Below W.heap.size W W' := by
  obtain ⟨Ar, nr, cr, R, mc, mt, mf, wt, rfl, hR, hnr, hcr, hlr⟩ := open_conf o0 h0
  obtain ⟨st, id, req, Aa, na, ca, E, cnt, tim, nak, rfl, hE, hna, hca, hla, hda⟩ := open_auto o1 h1
  obtain ⟨tick, rfl, rfl, rfl, w2⟩ := open_int Tryz.underlying3 o2 h2
  exact timeouts_walk Ar Aa nr cr na ca R mc mt mf wt st id req cnt tim nak tick E W hR hnr hcr hlr hE hna hla hda
end Go.Proofs.YthidhfkbfoejbaaGreat
