/- AutoEnds: its walk. -/
import Derived.Test.YthidhfkbfoejbaaQH
namespace Go.Proofs.Ythidhfkbfoejbaa
open Go.RowKit
set_option linter.unusedSimpArgs false
set_option linter.unusedVariables false
set_option linter.ambiguousOpen false
open Ne (Rl Opt RulesAt areB)
open Fs (av hasB)

theorem ents_short {E : List Ent} {L : List Opt} {D : Nat} (h : E.map Ent.o = L) (hL : ∀ o ∈ L, o.2.length ≤ D) : ∀ e ∈ E, e.d.length ≤ D := fun e he => hL e.o (by rw [← h]; exact List.mem_map_of_mem he)
theorem tim_pos {a : Au} (h : isB a = true) (h0 : a.tim ≠ 0) : 1 ≤ a.tim := by
  obtain ⟨-, -, -, -, -, -, k7⟩ := isB_parts h
  unfold timB inB at k7
  split at k7
  · simp only [Bool.and_eq_true, decide_eq_true_eq] at k7; omega
  · exact absurd (by simpa using k7) h0
set_option maxRecDepth 100000 in
set_option maxHeartbeats 8000000 in
theorem autoEnds_walk (Ar Aa  : Option Addr) (nr cr na ca  : Nat) (R : List Rl) (mc mt mf wt st id req cnt tim nak  : Int) (E : List Ent) (w : World) (hR : RulesAt w w.heap.size Ar R) (hnr : nr = R.length) (hcr : nr ≤ cr) (hlr : (nr : Int) ≤ 9223372036854775807) (hE : OptsAt w w.heap.size Aa E) (hna : na = E.length) (hla : (na : Int) ≤ 9223372036854775807) (hda : ∀ e ∈ E, (e.d.length : Int) ≤ 9223372036854775807) :
    Calls Try.prog 3 #[.agg #[.slice Ar nr cr, .int .i64 mc, .int .i64 mt, .int .i64 mf, .int .i64 wt], .agg #[.int .i64 st, .int .i64 id, .int .i64 req, .slice Aa na ca, .int .i64 cnt, .int .i64 tim, .int .i64 nak]] w fun x w' => x = .returned (.bool true) ∧ Below w.heap.size w w' := by
  have HR := Lib.hid hR
  have HE := Lib.hid hE
  have HNA := Lib.hid hna
  have HDA := Lib.hid hda
  obtain ⟨m, hm⟩ : ∃ m, min nr 20 = m := ⟨_, rfl⟩
  have HM := Lib.hid hm
  have HRM := Lib.hid (show m = (R.take 20).length by rw [List.length_take]; omega)
  have hm20 : m ≤ 20 := by omega
  clear hR hE hna hda hm hnr
  go_enter Try.func3, Try.ntmps3
  go_upto_region 1 with (fail)
  refine wp_w (fun W => W.heap[w.heap.size]? = some (.cells #[.slice Ar nr cr, .int .i64 mc, .int .i64 mt, .int .i64 mf, .int .i64 wt] 24 (0, 0)) ∧ W.heap[w.heap.size + 1]? = some (.cells #[.int .i64 st, .int .i64 id, .int .i64 req, .slice Aa na ca, .int .i64 cnt, .int .i64 tim, .int .i64 nak] 28 (0, 0)) ∧ Below w.heap.size w W) ⟨by (repeat (first | ((refine heap_alloc_at _ _ _ ?_); (simp [go_sem]; done)) | ((refine (heap_ext _ _ _ _ ?_).trans ?_); (focus (simp [go_sem]; done))) | ((refine (heap_alloc_past _ _ _ ?_).trans ?_); (focus (simp [go_sem]; done))))), by (repeat (first | ((refine heap_alloc_at _ _ _ ?_); (simp [go_sem]; done)) | ((refine (heap_ext _ _ _ _ ?_).trans ?_); (focus (simp [go_sem]; done))) | ((refine (heap_alloc_past _ _ _ ?_).trans ?_); (focus (simp [go_sem]; done))))), by exact bel⟩ ?_
  rintro W1 ⟨g_c, g_a, hbw⟩
  have HB_W1 := Lib.hid hbw
  have hs_W1 := hbw.size
  clear hbw
  have l_c := lt_blk g_c
  obtain ⟨c_c0, c_c1, c_c2, c_c3, c_c4⟩ := cells5 g_c
  have f_c := frees g_c
  have H_c := Lib.hid g_c
  clear g_c
  have l_a := lt_blk g_a
  obtain ⟨c_a0, c_a1, c_a2, c_a3, c_a4, c_a5, c_a6⟩ := cells7 g_a
  have f_a := frees g_a
  have H_a := Lib.hid g_a
  clear g_a
  have hz1 : w.heap.size + 1 + 1 ≤ W1.heap.size := by omega
  go_wp2_with fail
  refine (light_any Ar Aa none nr cr na ca 0 0 mc mt mf wt st id req cnt tim nak 0 0 E _ w.heap.size hs_W1 (HE.out.keep HB_W1.out) HNA.out hla HDA.out hcr hlr (Nat.le_refl _) (by omega)).mono ?_
  rw [HM.out]
  rintro x W2 ⟨A2, n2, c2, rfl, hb, ho, hn2⟩
  have g_c := (hb.block _ l_c).trans H_c.out
  have g_a := (hb.block _ l_a).trans H_a.out
  have HQ_W2 := Lib.hid hb
  have hq_W2 := hb.size
  have HB_W2 := Lib.hid (HB_W1.out.trans (HQ_W2.out.mono hs_W1))
  have hs_W2 : w.heap.size ≤ W2.heap.size := HB_W2.out.size
  clear l_c f_c H_c c_c0 c_c1 c_c2 c_c3 c_c4 l_a f_a H_a c_a0 c_a1 c_a2 c_a3 c_a4 c_a5 c_a6
  have l_c := lt_blk g_c
  obtain ⟨c_c0, c_c1, c_c2, c_c3, c_c4⟩ := cells5 g_c
  have f_c := frees g_c
  have H_c := Lib.hid g_c
  clear g_c
  have l_a := lt_blk g_a
  obtain ⟨c_a0, c_a1, c_a2, c_a3, c_a4, c_a5, c_a6⟩ := cells7 g_a
  have f_a := frees g_a
  have H_a := Lib.hid g_a
  clear g_a
  have HO2 := Lib.hid ho
  have HN2 := Lib.hid hn2
  have hn70 : n2 ≤ 70 := by have := lit_len E; omega
  have HC2 := Lib.hid (show n2 ≤ c2 by obtain ⟨A5, c5, hv, hc, -⟩ := ownsRow_form ho; cases hv; exact hc)
  clear hb ho hn2
  go_upto_region 2 with (fail)
  refine wp_w (fun W => W.heap[w.heap.size]? = some (.cells #[.slice Ar m cr, .int .i64 mc, .int .i64 mt, .int .i64 mf, .int .i64 wt] 24 (0, 0)) ∧ W.heap[w.heap.size + 1]? = some (.cells #[.int .i64 st, .int .i64 id, .int .i64 req, .slice A2 n2 c2, .int .i64 cnt, .int .i64 tim, .int .i64 nak] 28 (0, 0)) ∧ Below w.heap.size w W ∧ W.ownsRow (w.heap.size + 1 + 1) 59 2 (.slice A2 n2 c2) n2 (cellsE (litE E))) ⟨(by (iterate 7 (with_reducible refine set_off ?_ (by omega))); refine rows5 (cs := #[.slice Ar nr cr, .int .i64 mc, .int .i64 mt, .int .i64 mf, .int .i64 wt]) ?_ rfl _ _ _ _ _; skip; exact H_c.out), (by skip; refine row7 (cs := #[.int .i64 st, .int .i64 id, .int .i64 req, .slice Aa na ca, .int .i64 cnt, .int .i64 tim, .int .i64 nak]) ?_ rfl _ _ _ _ _ _ _; (iterate 5 (with_reducible refine set_off ?_ (by omega))); exact H_a.out), (by (iterate 12 (with_reducible refine Below.setCell ?_ (by first | omega | (dsimp only; omega)) _)); exact HB_W2.out), (by refine own_base (own_keep HO2.out (fun k hk => ?_)) (by omega); have hle := own_le HO2.out hk; (iterate 12 (with_reducible refine set_off ?_ (by omega))); rfl)⟩ ?_
  clear l_c f_c H_c c_c0 c_c1 c_c2 c_c3 c_c4 l_a f_a H_a c_a0 c_a1 c_a2 c_a3 c_a4 c_a5 c_a6
  rintro W3 ⟨g_c, g_a, hbw, ex0⟩
  have HB_W3 := Lib.hid hbw
  have hs_W3 := hbw.size
  clear hbw
  have l_c := lt_blk g_c
  obtain ⟨c_c0, c_c1, c_c2, c_c3, c_c4⟩ := cells5 g_c
  have f_c := frees g_c
  have H_c := Lib.hid g_c
  clear g_c
  have l_a := lt_blk g_a
  obtain ⟨c_a0, c_a1, c_a2, c_a3, c_a4, c_a5, c_a6⟩ := cells7 g_a
  have f_a := frees g_a
  have H_a := Lib.hid g_a
  clear g_a
  have HO3 := Lib.hid ex0
  clear ex0 HO2
  have HRW := Lib.hid (rulesAt_take HR.out 20)
  have HR3 := Lib.hid ((rulesAt_take (HR.out.keep HB_W3.out) 20).more hs_W3)
  have HE3 := Lib.hid (lit_at HE.out (Nat.le_refl _) HB_W3.out HO3.out)
  have HLD := Lib.hid (lit_data E)
  generalize R.take 20 = R1 at HRW HR3 HRM
  generalize litE E = F at HO3 HE3 HN2 HLD
  obtain ⟨L, hL⟩ : ∃ L, F.map Ent.o = L := ⟨_, rfl⟩
  have HL := Lib.hid hL
  have HLL := Lib.hid (show L.length ≤ 1000 by rw [← hL, List.length_map]; have := HN2.out; omega)
  clear hL HO3
  obtain ⟨cb, hcb⟩ : ∃ b, confB ⟨R1, mc, mt, mf, wt⟩ = b := ⟨_, rfl⟩
  have HCB := Lib.hid hcb
  clear hcb
  obtain ⟨ib, hib⟩ : ∃ b, isB ⟨st, id, req, L, cnt, tim, nak⟩ = b := ⟨_, rfl⟩
  have HIB := Lib.hid hib
  clear hib
  go_wp2_with fail
  refine (conf_ref Ar m cr R1 mc mt mf wt _ W3.heap.size (Nat.le_refl _) HR3.out HRM.out (by omega)).mono ?_
  rw [HCB.out]
  rintro x Wc ⟨rfl, hb⟩
  have g_c := (hb.block _ l_c).trans H_c.out
  have g_a := (hb.block _ l_a).trans H_a.out
  have HQ_Wc := Lib.hid hb
  have hq_Wc := hb.size
  have HB_Wc := Lib.hid (HB_W3.out.trans (HQ_Wc.out.mono hs_W3))
  have hs_Wc : w.heap.size ≤ Wc.heap.size := HB_Wc.out.size
  clear l_c f_c H_c c_c0 c_c1 c_c2 c_c3 c_c4 l_a f_a H_a c_a0 c_a1 c_a2 c_a3 c_a4 c_a5 c_a6
  have l_c := lt_blk g_c
  obtain ⟨c_c0, c_c1, c_c2, c_c3, c_c4⟩ := cells5 g_c
  have f_c := frees g_c
  have H_c := Lib.hid g_c
  clear g_c
  have l_a := lt_blk g_a
  obtain ⟨c_a0, c_a1, c_a2, c_a3, c_a4, c_a5, c_a6⟩ := cells7 g_a
  have f_a := frees g_a
  have H_a := Lib.hid g_a
  clear g_a
  clear hb
  cases cb
  · skip
    go_wp2_with fail
    refine (awake_any _).mono ?_
    rintro x Wz ⟨rfl, hbz⟩
    have HZ := Lib.hid (HB_Wc.out.trans (hbz.mono hs_Wc))
    clear hbz
    go_wp2_with fail
    go_ret
    exact ⟨rfl, HZ.out⟩
  · skip
    go_wp2_with fail
    refine (is_ref st id req cnt tim nak A2 n2 c2 F L HL.out _ W3.heap.size hq_Wc (HE3.out.keep HQ_Wc.out) HN2.out).mono ?_
    rw [HIB.out]
    rintro x Wi ⟨rfl, hb⟩
    have g_c := (hb.block _ l_c).trans H_c.out
    have g_a := (hb.block _ l_a).trans H_a.out
    have HQ_Wi := Lib.hid hb
    have hq_Wi := hb.size
    have HB_Wi := Lib.hid (HB_Wc.out.trans (HQ_Wi.out.mono hs_Wc))
    have hs_Wi : w.heap.size ≤ Wi.heap.size := HB_Wi.out.size
    clear l_c f_c H_c c_c0 c_c1 c_c2 c_c3 c_c4 l_a f_a H_a c_a0 c_a1 c_a2 c_a3 c_a4 c_a5 c_a6
    have l_c := lt_blk g_c
    obtain ⟨c_c0, c_c1, c_c2, c_c3, c_c4⟩ := cells5 g_c
    have f_c := frees g_c
    have H_c := Lib.hid g_c
    clear g_c
    have l_a := lt_blk g_a
    obtain ⟨c_a0, c_a1, c_a2, c_a3, c_a4, c_a5, c_a6⟩ := cells7 g_a
    have f_a := frees g_a
    have H_a := Lib.hid g_a
    clear g_a
    have HQI := Lib.hid (HQ_Wc.out.trans (hb.mono hq_Wc))
    have hqI := HQI.out.size
    clear hb
    cases ib
    · skip
      go_wp2_with fail
      refine (awake_any _).mono ?_
      rintro x Wz ⟨rfl, hbz⟩
      have HZ := Lib.hid (HB_Wi.out.trans (hbz.mono hs_Wi))
      clear hbz
      go_wp2_with fail
      go_ret
      exact ⟨rfl, HZ.out⟩
    · skip
      by_cases hbig : 549755813888 < tim
      · skip
        go_wp2_with fail
        refine (awake_any _).mono ?_
        rintro x Wz ⟨rfl, hbz⟩
        have HZ := Lib.hid (HB_Wi.out.trans (hbz.mono hs_Wi))
        clear hbz
        go_wp2_with fail
        go_ret
        exact ⟨rfl, HZ.out⟩
      · skip
        have hbig2 : tim ≤ 549755813888 := by omega
        have HPT := Lib.hid (isB_parts HIB.out)
        have hc0 : 0 ≤ cnt ∧ cnt ≤ 1000 := HPT.out.2.2.2.1
        obtain ⟨left, rfl⟩ := Int.eq_ofNat_of_zero_le hc0.1
        have hl1000 : left ≤ 1000 := by omega
        have HWT := Lib.hid (show 1 ≤ wt ∧ wt ≤ 1048576 by have h := HCB.out; unfold confB inB at h; simp only [Bool.and_eq_true, decide_eq_true_eq] at h; omega)
        go_wp2_with fail
        go_loopw [6] (fun i wr => ∃ (k n c : Nat) (s d r q t v : Int) (A : Option Addr) (K : List Ent) (l : List Opt), i = .int .i64 k ∧ k ≤ left + 1 ∧ isB ⟨s, d, r, l, q, t, v⟩ = true ∧ (t = 0 ∨ (k ≤ left ∧ q = (left : Int) - k)) ∧ t ≤ 549755813888 + (k : Int) * 1048576 ∧ n = K.length ∧ n ≤ 1000 ∧ (∀ e ∈ K, e.d.length ≤ 1000000) ∧ K.map Ent.o = l ∧ wr.heap[w.heap.size]? = some (.cells #[.slice Ar m cr, .int .i64 mc, .int .i64 mt, .int .i64 mf, .int .i64 wt] 24 (0, 0)) ∧ wr.heap[w.heap.size + 1]? = some (.cells #[.int .i64 s, .int .i64 d, .int .i64 r, .slice A n c, .int .i64 q, .int .i64 t, .int .i64 v] 28 (0, 0)) ∧ OptsAt wr wr.heap.size A K ∧ Below w.heap.size w wr ∧ w.heap.size + 2 ≤ wr.heap.size) (fun i _ => left + 1 - (intOf i).toNat)
        case atStart => exact ⟨0, n2, c2, st, id, req, left, tim, nak, A2, F, L, rfl, by omega, HIB.out, .inr ⟨by omega, by omega⟩, by omega, HN2.out, by omega, fun e he => by have := HLD.out e he; omega, HL.out, H_c.out, H_a.out, (HE3.out.keep HQI.out).more hqI, HB_Wi.out, by omega⟩
        case round =>
          obtain ⟨k, n, c, s, d, r, q, t, v, A, K, l, rfl, hk, his, hor, htb, hn, hn1, hdat, hKl, g_c, g_a, hat, hbl, hz⟩ := hrel
          have HIS := Lib.hid his
          have HN := Lib.hid hn
          have HDAT := Lib.hid hdat
          have HKL := Lib.hid hKl
          have HAT := Lib.hid hat
          have HB_W4 := Lib.hid hbl
          have hs_W4 := hbl.size
          have HOR := Lib.hid hor
          clear his hn hdat hKl hat hbl hor l_c f_c H_c c_c0 c_c1 c_c2 c_c3 c_c4 l_a f_a H_a c_a0 c_a1 c_a2 c_a3 c_a4 c_a5 c_a6
          have HIP := Lib.hid (isB_parts HIS.out)
          obtain ⟨W4, hW4⟩ : ∃ W4, W4 = wr := ⟨_, rfl⟩
          subst hW4
          have HRU := Lib.hid ((HRW.out.keep HB_W4.out).more hs_W4)
          have l_c := lt_blk g_c
          obtain ⟨c_c0, c_c1, c_c2, c_c3, c_c4⟩ := cells5 g_c
          have f_c := frees g_c
          have H_c := Lib.hid g_c
          clear g_c
          have l_a := lt_blk g_a
          obtain ⟨c_a0, c_a1, c_a2, c_a3, c_a4, c_a5, c_a6⟩ := cells7 g_a
          have f_a := frees g_a
          have H_a := Lib.hid g_a
          clear g_a
          by_cases ht0 : t = 0
          · subst ht0
            have HRS := Lib.hid (rest_still HIS.out rfl)
            by_cases hkl : k ≤ left
            all_goals
              go_wp2_with fail
              refine (Fs.timed_r s _).mono ?_
              rintro x Wq ⟨rfl, rfl⟩
              rw [HRS.out]
              go_wp2_with fail
              refine (awake_any _).mono ?_
              rintro x Wz ⟨rfl, hbz⟩
              have HZ := Lib.hid (HB_W4.out.trans (hbz.mono hs_W4))
              clear hbz
              go_wp2_with fail
              go_ret
              exact ⟨rfl, HZ.out⟩
          · have HKK := Lib.hid (HOR.out.resolve_left ht0)
            have ht1 : (t == 0) = false := by simpa using ht0
            have hkL : (k : Int) ≤ (left : Int) := by have := HKK.out; omega
            have hkn : k ≤ left := by have := HKK.out; omega
            have hq0 := HIP.out.2.2.2.1
            dsimp only at hq0
            have HST0 := Lib.hid (ends_step (c := ⟨R1, mc, mt, mf, wt⟩) (a := ⟨s, d, r, l, q, t, v⟩) HCB.out HIS.out ht0 (by dsimp only; omega))
            go_wp2_with fail
            refine (timeout_any Ar A m cr n c R1 mc mt mf wt s d r q t v t K _ W4.heap.size (Nat.le_refl _) HRU.out HRM.out (by omega) HAT.out HN.out (by omega) (fun e he => by have := HDAT.out e he; omega)).mono ?_
            rw [HKL.out]
            have hask := timO_ask ⟨R1, mc, mt, mf, wt⟩ ⟨s, d, r, l, q, t, v⟩ t
            obtain ⟨⟨⟨s1, d1, r1, l1, q1, t1, v1⟩, out1, acts1⟩, hr⟩ : ∃ x, timO ⟨R1, mc, mt, mf, wt⟩ ⟨s, d, r, l, q, t, v⟩ t = x := ⟨_, rfl⟩
            have hst := HST0.out
            clear HST0
            try dsimp only at hst
            rw [hr] at hst hask ⊢
            try dsimp only at hst hask
            subst hask
            have HST := Lib.hid hst
            clear hr hst
            unfold DoP auV
            dsimp only
            rintro x W5 ⟨va, vo, vd, rfl, hb, hO, hP, -⟩
            have g_c := (hb.block _ l_c).trans H_c.out
            have g_a := (hb.block _ l_a).trans H_a.out
            have HQ_W5 := Lib.hid hb
            have hq_W5 := hb.size
            have HB_W5 := Lib.hid (HB_W4.out.trans (HQ_W5.out.mono hs_W4))
            have hs_W5 : w.heap.size ≤ W5.heap.size := HB_W5.out.size
            clear l_c f_c H_c c_c0 c_c1 c_c2 c_c3 c_c4 l_a f_a H_a c_a0 c_a1 c_a2 c_a3 c_a4 c_a5 c_a6
            have l_c := lt_blk g_c
            obtain ⟨c_c0, c_c1, c_c2, c_c3, c_c4⟩ := cells5 g_c
            have f_c := frees g_c
            have H_c := Lib.hid g_c
            clear g_c
            have l_a := lt_blk g_a
            obtain ⟨c_a0, c_a1, c_a2, c_a3, c_a4, c_a5, c_a6⟩ := cells7 g_a
            have f_a := frees g_a
            have H_a := Lib.hid g_a
            clear g_a
            obtain ⟨Ao, co, rfl⟩ := pks_form hP
            obtain ⟨E4, hE4, hEL⟩ := hO
            obtain ⟨A4, c4, rfl, -, -⟩ := ownsRow_form hE4.1
            have HE4 := Lib.hid hE4
            have HEL := Lib.hid hEL
            obtain ⟨n4, hn4⟩ : ∃ n, E4.length = n := ⟨_, rfl⟩
            rw [hn4] at HE4 ⊢
            have HN4 := Lib.hid hn4
            have hn4b : n4 ≤ 1000 := by have h1 := congrArg List.length hEL; rw [List.length_map] at h1; have h2 := congrArg List.length HKL.out; rw [List.length_map] at h2; have h3 := HN.out; omega
            obtain ⟨no, hno⟩ : ∃ n, out1.length = n := ⟨_, rfl⟩
            rw [hno] at HST ⊢
            clear hb hE4 hEL hP hn4 hno
            go_upto_region 10 with (fail)
            refine wp_w (fun W => W.heap[w.heap.size]? = some (.cells #[.slice Ar m cr, .int .i64 mc, .int .i64 mt, .int .i64 mf, .int .i64 wt] 24 (0, 0)) ∧ W.heap[w.heap.size + 1]? = some (.cells #[.int .i64 s, .int .i64 d, .int .i64 r, .slice A n c, .int .i64 q, .int .i64 t, .int .i64 v] 28 (0, 0)) ∧ W.heap[W5.heap.size]? = some (.cells #[.int .i64 s1, .int .i64 d1, .int .i64 r1, .slice A4 n4 c4, .int .i64 q1, .int .i64 t1, .int .i64 v1] 28 (0, 0)) ∧ Below w.heap.size w W ∧ Below W5.heap.size W5 W) ⟨(alloc_off H_c.out), (alloc_off H_a.out), (heap_alloc_new _ _), (Below.alloc HB_W5.out hs_W5 _), (Below.alloc (Below.refl _ _) (Nat.le_refl _) _)⟩ ?_
            clear l_c f_c H_c c_c0 c_c1 c_c2 c_c3 c_c4 l_a f_a H_a c_a0 c_a1 c_a2 c_a3 c_a4 c_a5 c_a6
            rintro W6 ⟨g_c, g_a, g_t, hbw, ex0⟩
            have HB_W6 := Lib.hid hbw
            have hs_W6 := hbw.size
            clear hbw
            have l_c := lt_blk g_c
            obtain ⟨c_c0, c_c1, c_c2, c_c3, c_c4⟩ := cells5 g_c
            have f_c := frees g_c
            have H_c := Lib.hid g_c
            clear g_c
            have l_a := lt_blk g_a
            obtain ⟨c_a0, c_a1, c_a2, c_a3, c_a4, c_a5, c_a6⟩ := cells7 g_a
            have f_a := frees g_a
            have H_a := Lib.hid g_a
            clear g_a
            have l_t := lt_blk g_t
            obtain ⟨c_t0, c_t1, c_t2, c_t3, c_t4, c_t5, c_t6⟩ := cells7 g_t
            have f_t := frees g_t
            have H_t := Lib.hid g_t
            clear g_t
            have HQ6 := Lib.hid ex0
            have hq6 := ex0.size
            clear ex0
            have HO6 := Lib.hid (HE4.out.below HQ6.out)
            have HE6 := Lib.hid HO6.out.at
            go_wp2_with fail
            refine (is_ref s1 d1 r1 q1 t1 v1 A4 n4 c4 E4 l1 HEL.out _ W6.heap.size (Nat.le_refl _) HE6.out HN4.out.symm).mono ?_
            rw [HST.out.1]
            rintro x W7 ⟨rfl, hb⟩
            have g_c := (hb.block _ l_c).trans H_c.out
            have g_a := (hb.block _ l_a).trans H_a.out
            have g_t := (hb.block _ l_t).trans H_t.out
            have HQ_W7 := Lib.hid hb
            have hq_W7 := hb.size
            have HB_W7 := Lib.hid (HB_W6.out.trans (HQ_W7.out.mono hs_W6))
            have hs_W7 : w.heap.size ≤ W7.heap.size := HB_W7.out.size
            clear l_c f_c H_c c_c0 c_c1 c_c2 c_c3 c_c4 l_a f_a H_a c_a0 c_a1 c_a2 c_a3 c_a4 c_a5 c_a6 l_t f_t H_t c_t0 c_t1 c_t2 c_t3 c_t4 c_t5 c_t6
            have l_c := lt_blk g_c
            obtain ⟨c_c0, c_c1, c_c2, c_c3, c_c4⟩ := cells5 g_c
            have f_c := frees g_c
            have H_c := Lib.hid g_c
            clear g_c
            have l_a := lt_blk g_a
            obtain ⟨c_a0, c_a1, c_a2, c_a3, c_a4, c_a5, c_a6⟩ := cells7 g_a
            have f_a := frees g_a
            have H_a := Lib.hid g_a
            clear g_a
            have l_t := lt_blk g_t
            obtain ⟨c_t0, c_t1, c_t2, c_t3, c_t4, c_t5, c_t6⟩ := cells7 g_t
            have f_t := frees g_t
            have H_t := Lib.hid g_t
            clear g_t
            have HO7 := Lib.hid (HO6.out.below hb)
            clear hb
            have HQ47 := Lib.hid (HQ_W5.out.trans ((HQ6.out.trans (HQ_W7.out.mono hq6)).mono hq_W5))
            have hT5 : w.heap.size + 2 ≤ W4.heap.size := hz
            have hq47 := HQ47.out.size
            have HD4 := Lib.hid (show ∀ e ∈ E4, e.d.length ≤ 1000000 from ents_short HEL.out (fun x hx => by obtain ⟨e, he, rfl⟩ := List.mem_map.1 (HKL.out ▸ hx); exact HDAT.out e he))
            have HTP := Lib.hid (show 1 ≤ t from tim_pos HIS.out ht0)
            by_cases hq : 0 < q
            · obtain ⟨e1, e2, e3⟩ := HST.out.2.1 hq
              subst e1 e2 e3
              have hne : (t + wt != 0) = true := by have := HWT.out; have h9 := HTP.out; simp; omega
              have hge : ¬ q ≤ q - 1 := by omega
              go_wp2_with fail
              go_roundw
              case rel => exact ⟨k + 1, n4, c4, s1, d1, r1, q - 1, t + wt, v1, A4, E4, l1, by go_num, by omega, HST.out.1, .inr ⟨by have := HKK.out; omega, by have := HKK.out; omega⟩, by have := HWT.out; omega, HN4.out.symm, hn4b, (fun e he => HD4.out e he), HEL.out, (by (iterate 7 (with_reducible refine set_off ?_ (by omega))); exact H_c.out), (by skip; refine row7 (cs := #[.int .i64 s, .int .i64 d, .int .i64 r, .slice A n c, .int .i64 q, .int .i64 t, .int .i64 v]) ?_ rfl _ _ _ _ _ _ _; skip; exact H_a.out), (HO7.out.stays (row := some (w.heap.size + 1)) (by exact grn) (fun r e => .inl (by cases e; omega))).at, (by (iterate 7 (with_reducible refine Below.setCell ?_ (by first | omega | (dsimp only; omega)) _)); exact HB_W7.out), by simp; omega⟩
              case measure => simp [intOf]; omega
            · obtain ⟨e1, e3⟩ := HST.out.2.2 (by omega)
              subst e1 e3
              have hq9 : decide (0 < q) = false := by simp; omega
              go_wp2_with fail
              go_roundw
              case rel => exact ⟨k + 1, n4, c4, s1, d1, r1, q1, 0, v1, A4, E4, l1, by go_num, by omega, HST.out.1, .inl rfl, by have := HWT.out; omega, HN4.out.symm, hn4b, (fun e he => HD4.out e he), HEL.out, (by (iterate 7 (with_reducible refine set_off ?_ (by omega))); exact H_c.out), (by skip; refine row7 (cs := #[.int .i64 s, .int .i64 d, .int .i64 r, .slice A n c, .int .i64 q, .int .i64 t, .int .i64 v]) ?_ rfl _ _ _ _ _ _ _; skip; exact H_a.out), (HO7.out.stays (row := some (w.heap.size + 1)) (by exact grn) (fun r e => .inl (by cases e; omega))).at, (by (iterate 7 (with_reducible refine Below.setCell ?_ (by first | omega | (dsimp only; omega)) _)); exact HB_W7.out), by simp; omega⟩
              case measure => simp [intOf]; omega
set_option maxRecDepth 100000
open Go.ChangeShapes Go.WideShapes Go.ChangeAt Go.RowKit Go.Joins Go.Deep
theorem autoEnds_calls {H : Type} (enc : TypeId × Value → H) (W : World) (base : Nat) (v0 v1 : Value) (d0 d1 : DataW H) (p0 p1 : List MemPlace)
    (o0 : Value.okWide Try.prog W .any base 24 v0) (o1 : Value.okWide Try.prog W .any base 28 v1)
    (h0 : DataW.Trod enc Try.prog W 0 (fun _ => true) true 24 v0 d0 p0) (h1 : DataW.Trod enc Try.prog W 0 (fun _ => true) true 28 v1 d1 p1) :
    Calls Try.prog 3 #[v0, v1] W fun e W' => e = .returned (.bool true) ∧ Below W.heap.size W W' := by
  obtain ⟨Ar, nr, cr, R, mc, mt, mf, wt, rfl, hR, hnr, hcr, hlr⟩ := open_conf o0 h0
  obtain ⟨st, id, req, Aa, na, ca, E, cnt, tim, nak, rfl, hE, hna, hca, hla, hda⟩ := open_auto o1 h1
  exact autoEnds_walk Ar Aa nr cr na ca R mc mt mf wt st id req cnt tim nak E W hR hnr hcr hlr hE hna hla hda
end Go.Proofs.Ythidhfkbfoejbaa
