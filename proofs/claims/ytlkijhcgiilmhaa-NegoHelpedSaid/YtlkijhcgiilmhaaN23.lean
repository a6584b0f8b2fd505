/- nego.Answer: what is answered to a peer that asks. -/
import Derived.Test.YtlkijhcgiilmhaaN22
import Derived.Test.YtlkijhcgiilmhaaN23a
namespace Go.Proofs.Ytlkijhcgiilmhaa
open Go.RowKit
set_option linter.unusedSimpArgs false
set_option linter.unusedVariables false
theorem Rows4.keep {w w' : World} {base : Nat} {vo vb vr vl : Value} {Eo Eb : List Ent} {Rr Rk : List Rl} (h : Rows4 w base vo vb vr vl Eo Eb Rr Rk) (hb : Below w.heap.size w w') : Rows4 w' base vo vb vr vl Eo Eb Rr Rk :=
  ⟨h.o.below hb, h.b.below hb, own_below h.r hb, own_below h.l hb⟩
set_option maxRecDepth 100000 in
set_option maxHeartbeats 4000000 in
theorem answer_any (A A2 : Option Addr) (n c n2 c2 : Nat) (naks most : Int) (R : List Rl) (E : List Ent) (L : List Opt) (hL : E.map Ent.o = L) (w : World) (B : Nat) (hB : B ≤ w.heap.size) (hR : RulesAt w B A R) (hn : n = R.length) (hl : n ≤ 1000000)
    (hA : OptsAt w B A2 E) (hn2 : n2 = E.length) (hc2 : n2 ≤ c2) (hl2 : n2 ≤ 1000000) (hd : ∀ e ∈ E, e.d.length ≤ 1000000) :
    Calls Try.prog 11 #[.slice A n c, .slice A2 n2 c2, .int .i64 naks, .int .i64 most] w (RowsI (answerO R L naks most).1 (answerO R L naks most).2 w) := by
  have HR := Lib.hid hR
  have HN := Lib.hid hn
  have HB := Lib.hid hB
  have HA := Lib.hid hA
  have HN2 := Lib.hid hn2
  have HD := Lib.hid hd
  have HL := Lib.hid hL
  have HWF := Lib.hid hR.2
  clear hR hn hB hA hn2 hd hL
  cases har : areB R with
  | false =>
    have HR0 := Lib.hid (show answerO R L naks most = (0, []) by unfold answerO; rw [if_pos har])
    have HAR := Lib.hid har
    clear har
    go_enter Try.func11, Try.ntmps11
    go_wp2_with fail
    refine (check_any A n c R _ B HB.out HR.out HN.out hl).mono ?_
    rw [HAR.out, chk_false]
    rintro e w1 ⟨rfl, hb⟩; obtain ⟨xs, d, rfl⟩ := ext_of hb; clear hb
    go_wp2_with fail
    go_ret2
    exact ⟨[], none, 0, 0, by rw [HR0.out]; rfl, by rw [HR0.out]; rfl, by rw [HR0.out]; rfl, by exact bel, OwnOpts.nil _ _⟩
  | true =>
    have HOK := Lib.hid har
    clear har
    by_cases hnm : naks < most
    · go_enter Try.func11, Try.ntmps11
      go_wp2_with fail
      refine (check_any A n c R _ B HB.out HR.out HN.out hl).mono ?_
      rw [HOK.out, chk_true]
      rintro e w1 ⟨rfl, hb⟩; obtain ⟨xs, d, rfl⟩ := ext_of hb; clear hb
      go_wp2_with fail
      refine (sort_any A A2 n c n2 c2 R E _ B (by have := HB.out; simp [size_ext, grow]; omega) (HR.out.keep (by have := HB.out; exact bel)) HN.out hl L HL.out (HA.out.keep (by have := HB.out; exact bel)) HN2.out hc2 hl2 HD.out HOK.out).mono ?_
      rintro e w1 ⟨Ao, Ab, Ar, Al, no, nb, nr, nl, co, cb, cr, cl, Eo, Eb, rfl, hb, hrows, heo, heb, hno, hnb, hnr, hnl⟩
      have HROWS := Lib.hid (show Rows4 w1 w.heap.size (.slice Ao no co) (.slice Ab nb cb) (.slice Ar nr cr) (.slice Al nl cl) Eo Eb (sortK R L L.length).2.2 (lackL R L) from ⟨hrows.o.base (by simp [size_ext, grow]), hrows.b.base (by simp [size_ext, grow]), own_base hrows.r (by simp [size_ext, grow]), own_base hrows.l (by simp [size_ext, grow])⟩)
      have HB1 := Lib.hid (show Below w.heap.size w w1 from Below.trans (by exact bel) (hb.mono (by simp [size_ext, grow])))
      have HEO := Lib.hid heo
      have HEB := Lib.hid heb
      have HNO := Lib.hid hno
      have HNB := Lib.hid hnb
      have HNR := Lib.hid hnr
      have HNL := Lib.hid hnl
      have hbounds : no ≤ 1000000 ∧ nb ≤ 1000000 ∧ nr ≤ 1000000 ∧ nl ≤ 1000000 := by
        have h := sort_len R L L.length
        have h2 := lack_len R L R.length
        rw [List.take_length] at h2
        have h3 : L.length = n2 := by rw [← HL.out, List.length_map]; exact HN2.out.symm
        rw [← heo, ← heb, List.length_map, List.length_map] at h
        unfold lackL at hnl
        have h4 := HN.out
        omega
      have HNB2 := Lib.hid (show nr = nb by
        have h := (sort_len R L L.length).2
        rw [← heb, List.length_map] at h
        omega)
      have hsz01 := HB1.out.size
      clear hb hrows heo heb hno hnb hnr hnl
      go_wp2_with fail
      refine wp_world (fun W1 => Rows4 W1 w.heap.size (.slice Ao no co) (.slice Ab nb cb) (.slice Ar nr cr) (.slice Al nl cl) Eo Eb (sortK R L L.length).2.2 (lackL R L) ∧ W1.heap[w1.heap.size]? = some (.cells #[.slice Ao no co, .slice Ab nb cb, .slice Ar nr cr, .slice Al nl cl] 49 (0, 0)) ∧ Below w.heap.size w W1) ⟨HROWS.out.keep (by exact bel), by exact heap_alloc_new _ _, by have h := HB1.out; exact bel⟩ ?_
      rintro W1 ⟨hrows1, hx1, hbl1⟩
      have HROWS1 := Lib.hid hrows1
      have HX := Lib.hid hx1
      have HBL1 := Lib.hid hbl1
      have hX1 := lt_of_block hx1
      have hsz1 := hbl1.size
      have hr1 := hrows1.r
      have hl1 := hrows1.l
      rw [← HNR.out] at hr1
      rw [← HNL.out] at hl1
      have HMEMA := Lib.hid (sort_mem R L L.length)
      have HMEML := Lib.hid (show ∀ r ∈ lackL R L, r ∈ R from fun r hr => (List.mem_filter.1 hr).1)
      have HLENA := Lib.hid HNR.out
      have HLENL := Lib.hid HNL.out
      have HRA := Lib.hid (RulesAt.of_cells (At.of_own hr1) (fun r hr => HWF.out r (sort_mem R L _ r hr)))
      have HRL := Lib.hid (RulesAt.of_cells (At.of_own hl1) (fun r hr => HWF.out r ((List.mem_filter.1 hr).1)))
      have hrl : (sortK R L L.length).2.2.length ≤ 1000000 := by rw [← HNR.out]; omega
      have hll : (lackL R L).length ≤ 1000000 := by rw [← HNL.out]; omega
      have HE0 := Lib.hid (OwnOpts.nil W1 W1.heap.size)
      obtain ⟨s0, s1, s2, s3, -⟩ := four_cells hx1
      clear hrows1 hx1 hbl1 hr1 hl1
      go_loopw [11, 28] (fun v i wr => ∃ (j kb cb' : Nat) (Ab' : Option Addr) (E' : List Ent), j ≤ nr ∧ i = .int .i64 j ∧ v = .slice Ab' kb cb' ∧ E'.length = kb ∧ E'.map Ent.o = ([] : List Opt) ++ ((sortK R L L.length).2.2.take j).map goodO ∧ Below W1.heap.size W1 wr ∧ OwnOpts wr W1.heap.size (.slice Ab' kb cb') E') (fun _ i _ => nr - (intOf i).toNat)
      case atStart => exact ⟨0, 0, 0, none, [], Nat.zero_le _, rfl, rfl, rfl, rfl, Below.refl _ _, HE0.out⟩
      case round =>
        obtain ⟨j, kb, cb', Ab', E', hj, rfl, rfl, hel, heo, hbl, hown⟩ := hrel
        have HEL := Lib.hid hel
        have HEO' := Lib.hid heo
        have HBW := Lib.hid hbl
        have HOW := Lib.hid hown
        have hszw := hbl.size
        have hkb : kb ≤ 2000000 := by
          have h1 := congrArg List.length heo
          have h2 : (([] : List Opt)).length ≤ 1000000 := (by simp)
          simp only [List.length_map, List.length_append, List.length_take, List.length_nil] at h1 h2
          omega
        obtain ⟨s0, s1, s2, s3, -⟩ := four_cells ((HBW.out.block _ hX1).trans HX.out)
        have hX1' : w1.heap.size < wr.heap.size := Nat.lt_of_lt_of_le hX1 hszw
        clear hel heo hbl hown
        by_cases hlt : j < nr
        · have HK := Lib.hid (show j < ((sortK R L L.length).2.2).length by have := HLENA.out; omega)
          obtain ⟨rb, ro, hq, hrb, hrat⟩ := (HRA.out.keep HBW.out).get HK.out
          cases hq
          have hrok := are_ok HOK.out (HMEMA.out _ (List.getElem_mem HK.out))
          have HTS := Lib.hid (map_take_snoc goodO (sortK R L L.length).2.2 j HK.out)
          obtain ⟨r, hr⟩ : ∃ r, ((sortK R L L.length).2.2)[j]'HK.out = r := ⟨_, rfl⟩
          rw [hr] at hrat hrok HTS
          clear hr
          obtain ⟨hb0, hb4, hg0, hg4, -, -⟩ := ok_bounds hrok
          obtain ⟨t, sz, kd, lo, hi, gd, mu⟩ := r
          simp only at hb0 hb4 hg0 hg4
          obtain ⟨s, rfl⟩ := Int.eq_ofNat_of_zero_le hb0
          obtain ⟨g, rfl⟩ := Int.eq_ofNat_of_zero_le hg0
          obtain ⟨c0, c1, c2', c3', c4', c5, c6⟩ := hrat
          simp only at c0 c1 c2' c3' c4' c5 c6
          have hrblt : rb < wr.heap.size := by omega
          have hix0 : (0 : Int) ≤ (j : Int) := by omega
          have hix1 : (j : Int) < (nr : Int) := by omega
          have HGO := Lib.hid (show goodO ⟨t, (s : Int), kd, lo, hi, (g : Int), mu⟩ = (t, putB g s) from rfl)
          clear hrok
          go_wp2_with fail
          refine (good_any t kd lo hi s g mu _ (by omega) (by omega)).mono ?_
          rintro e w2 ⟨A3, c3, rfl, hb, ho⟩
          have HB2 := Lib.hid (show Below wr.heap.size wr w2 from Below.trans (by exact bel) (hb.mono (by simp)))
          have HO2 := Lib.hid (own_base (base' := W1.heap.size) ho (by simp; omega))
          have HOK2 := Lib.hid (show wr.ownsRow W1.heap.size 42 2 (.slice Ab' kb cb') kb (cellsE E') by have h := HOW.out.1; rwa [HEL.out] at h)
          have hsz2 := HB2.out.size
          clear hb ho
          go_wp2_with (at_builtin; refine wpList_appv W1 rfl (.tmp 32) (.tmp 35) 23 rfl 42 Try.underlying23 (.agg #[.int .i64 0, .slice none 0 0]) 2 32 infoOpt rfl (by decide) (by decide) (.slice Ab' kb cb') kb (cellsE E') rfl (by exact own_below HOK2.out (by have := HB2.out; exact bel)) (w2.heap.size + 1) (some ⟨w2.heap.size, 0, none⟩) 1 1 [.int .i64 t, .slice A3 s c3] rfl rfl (by omega) (by exact At.newN _ _ _ _ _ rfl rfl) (by intro u hu; simp at hu; rcases hu with rfl | rfl <;> rfl) (by have h1 := HBW.out; have h2 := HB2.out; exact bel) ?_; intro A4 c4 w3 ho3 hc3 hb3 hg3; have HO3 := Lib.hid ho3; have HB3 := Lib.hid hb3; have HG3 := Lib.hid hg3; clear ho3 hc3 hb3 hg3)
          have HOE := Lib.hid (OwnOpts.pushed (tt := t) (dd := putB g s) (A2 := A3) (c2 := c3) (HOW.out.below (HB2.out.trans (Below.alloc (Below.refl _ w2) hsz2 _))) (by rw [putB_length]; exact own_below HO2.out (Below.alloc (Below.refl _ w2) (Nat.le_refl _) _)) (by rw [HEL.out, putB_length]; exact HO3.out) HG3.out)
          go_roundw
          case rel => exact ⟨j + 1, kb + 1, c4, A4, _, by omega, by go_num, rfl, by simp [HEL.out], by rw [List.map_append, HEO'.out, HTS.out, HGO.out, List.append_assoc]; rfl, HB3.out, HOE.out⟩
          case measure => simp [intOf]; omega
        · obtain rfl : j = nr := by omega
          have HEO2 := Lib.hid (show E'.map Ent.o = ([] : List Opt) ++ ((sortK R L L.length).2.2).map goodO by have h := HEO'.out; rwa [List.take_of_length_le (by have := HLENA.out; omega)] at h)
          go_wp2_with fail
          go_loopw [11, 50] (fun v i wr => ∃ (j kb cb' : Nat) (Ab' : Option Addr) (E' : List Ent), j ≤ nl ∧ i = .int .i64 j ∧ v = .slice Ab' kb cb' ∧ E'.length = kb ∧ E'.map Ent.o = ((sortK R L L.length).2.2.map goodO) ++ ((lackL R L).take j).map goodO ∧ Below W1.heap.size W1 wr ∧ OwnOpts wr W1.heap.size (.slice Ab' kb cb') E') (fun _ i _ => nl - (intOf i).toNat)
          case atStart => exact ⟨0, kb, cb', Ab', E', Nat.zero_le _, rfl, rfl, HEL.out, by rw [HEO2.out]; simp, HBW.out, HOW.out⟩
          case round =>
            obtain ⟨j, kb, cb', Ab', E', hj, rfl, rfl, hel, heo, hbl, hown⟩ := hrel
            have HEL := Lib.hid hel
            have HEO' := Lib.hid heo
            have HBW := Lib.hid hbl
            have HOW := Lib.hid hown
            have hszw := hbl.size
            have hkb : kb ≤ 2000000 := by
              have h1 := congrArg List.length heo
              have h2 : (((sortK R L L.length).2.2.map goodO)).length ≤ 1000000 := (by rw [List.length_map]; exact hrl)
              simp only [List.length_map, List.length_append, List.length_take, List.length_nil] at h1 h2
              omega
            obtain ⟨s0, s1, s2, s3, -⟩ := four_cells ((HBW.out.block _ hX1).trans HX.out)
            have hX1' : w1.heap.size < wr.heap.size := Nat.lt_of_lt_of_le hX1 hszw
            clear hel heo hbl hown
            by_cases hlt : j < nl
            · have HK := Lib.hid (show j < ((lackL R L)).length by have := HLENL.out; omega)
              obtain ⟨rb, ro, hq, hrb, hrat⟩ := (HRL.out.keep HBW.out).get HK.out
              cases hq
              have hrok := are_ok HOK.out (HMEML.out _ (List.getElem_mem HK.out))
              have HTS := Lib.hid (map_take_snoc goodO (lackL R L) j HK.out)
              obtain ⟨r, hr⟩ : ∃ r, ((lackL R L))[j]'HK.out = r := ⟨_, rfl⟩
              rw [hr] at hrat hrok HTS
              clear hr
              obtain ⟨hb0, hb4, hg0, hg4, -, -⟩ := ok_bounds hrok
              obtain ⟨t, sz, kd, lo, hi, gd, mu⟩ := r
              simp only at hb0 hb4 hg0 hg4
              obtain ⟨s, rfl⟩ := Int.eq_ofNat_of_zero_le hb0
              obtain ⟨g, rfl⟩ := Int.eq_ofNat_of_zero_le hg0
              obtain ⟨c0, c1, c2', c3', c4', c5, c6⟩ := hrat
              simp only at c0 c1 c2' c3' c4' c5 c6
              have hrblt : rb < wr.heap.size := by omega
              have hix0 : (0 : Int) ≤ (j : Int) := by omega
              have hix1 : (j : Int) < (nl : Int) := by omega
              have HGO := Lib.hid (show goodO ⟨t, (s : Int), kd, lo, hi, (g : Int), mu⟩ = (t, putB g s) from rfl)
              clear hrok
              go_wp2_with fail
              refine (good_any t kd lo hi s g mu _ (by omega) (by omega)).mono ?_
              rintro e w2 ⟨A3, c3, rfl, hb, ho⟩
              have HB2 := Lib.hid (show Below wr.heap.size wr w2 from Below.trans (by exact bel) (hb.mono (by simp)))
              have HO2 := Lib.hid (own_base (base' := W1.heap.size) ho (by simp; omega))
              have HOK2 := Lib.hid (show wr.ownsRow W1.heap.size 42 2 (.slice Ab' kb cb') kb (cellsE E') by have h := HOW.out.1; rwa [HEL.out] at h)
              have hsz2 := HB2.out.size
              clear hb ho
              go_wp2_with (at_builtin; refine wpList_appv W1 rfl (.tmp 54) (.tmp 57) 23 rfl 42 Try.underlying23 (.agg #[.int .i64 0, .slice none 0 0]) 2 32 infoOpt rfl (by decide) (by decide) (.slice Ab' kb cb') kb (cellsE E') rfl (by exact own_below HOK2.out (by have := HB2.out; exact bel)) (w2.heap.size + 1) (some ⟨w2.heap.size, 0, none⟩) 1 1 [.int .i64 t, .slice A3 s c3] rfl rfl (by omega) (by exact At.newN _ _ _ _ _ rfl rfl) (by intro u hu; simp at hu; rcases hu with rfl | rfl <;> rfl) (by have h1 := HBW.out; have h2 := HB2.out; exact bel) ?_; intro A4 c4 w3 ho3 hc3 hb3 hg3; have HO3 := Lib.hid ho3; have HB3 := Lib.hid hb3; have HG3 := Lib.hid hg3; clear ho3 hc3 hb3 hg3)
              have HOE := Lib.hid (OwnOpts.pushed (tt := t) (dd := putB g s) (A2 := A3) (c2 := c3) (HOW.out.below (HB2.out.trans (Below.alloc (Below.refl _ w2) hsz2 _))) (by rw [putB_length]; exact own_below HO2.out (Below.alloc (Below.refl _ w2) (Nat.le_refl _) _)) (by rw [HEL.out, putB_length]; exact HO3.out) HG3.out)
              go_roundw
              case rel => exact ⟨j + 1, kb + 1, c4, A4, _, by omega, by go_num, rfl, by simp [HEL.out], by rw [List.map_append, HEO'.out, HTS.out, HGO.out, List.append_assoc]; rfl, HB3.out, HOE.out⟩
              case measure => simp [intOf]; omega
            · obtain rfl : j = nl := by omega
              have HEO2 := Lib.hid (show E'.map Ent.o = ((sortK R L L.length).2.2.map goodO) ++ ((lackL R L)).map goodO by have h := HEO'.out; rwa [List.take_of_length_le (by have := HLENL.out; omega)] at h)
              have HEC2 := Lib.hid (show E'.map Ent.o = (nakR R L).map goodO by rw [HEO2.out]; unfold nakR; rw [List.map_append])
              have HKL := Lib.hid (show kb = (nakR R L).length by have h := congrArg List.length HEC2.out; rw [List.length_map, List.length_map] at h; rw [← h]; exact HEL.out.symm)
              by_cases h0 : 0 < no
              · have HR0 := Lib.hid (show answerO R L naks most = (4, (sortK R L L.length).1) by
                  unfold answerO; rw [if_neg (by rw [HOK.out]; simp), if_pos (by rw [← HEO.out, List.length_map, ← HNO.out]; exact h0)])
                have h1 : (0 : Int) < (no : Int) := by omega
                go_wp2_with fail
                go_quiet (fail)
                go_wp2_with fail
                go_ret2
                exact ⟨Eo, Ao, no, co, by rw [HR0.out]; rfl, by rw [HR0.out]; exact HEO.out, by rw [HR0.out]; simp only; rw [← HEO.out, List.length_map]; exact HNO.out, by have h := HBL1.out.trans (HBW.out.mono hsz1); exact bel, by exact (HROWS1.out.keep HBW.out).o⟩
              · obtain rfl : no = 0 := by omega
                have HS1 := Lib.hid (show ¬ 0 < (sortK R L L.length).1.length by rw [← HEO.out, List.length_map, ← HNO.out]; omega)
                clear h0
                by_cases hk0 : 0 < kb
                · have HR0 := Lib.hid (show answerO R L naks most = (3, (nakR R L).map goodO) by
                    unfold answerO; rw [if_neg (by rw [HOK.out]; simp), if_neg HS1.out, if_neg (by rw [← HKL.out]; omega), if_neg (fun h => by omega)])
                  have hk1 : (0 : Int) < (kb : Int) := by omega
                  go_wp2_with fail
                  go_ret2
                  exact ⟨E', Ab', kb, cb', by rw [HR0.out]; rfl, by rw [HR0.out]; exact HEC2.out, by rw [HR0.out, List.length_map]; exact HKL.out, HBL1.out.trans (HBW.out.mono hsz1), OwnOpts.base HOW.out hsz1⟩
                · obtain rfl : kb = 0 := by omega
                  have HR0 := Lib.hid (show answerO R L naks most = (2, L) by
                    unfold answerO; rw [if_neg (by rw [HOK.out]; simp), if_neg HS1.out, if_pos HKL.out.symm])
                  obtain rfl : nb = 0 := by have h1 := HNB2.out; have h2 := HLENA.out; have h3 := HKL.out; unfold nakR at h3; rw [List.length_append] at h3; omega
                  go_wp2_with fail
                  refine (owns_any A2 n2 c2 E _ B (by have := HB.out; have := HBW.out.size; omega) (by exact HA.out.keep ((HBL1.out.trans (HBW.out.mono hsz1)).mono HB.out)) HN2.out hl2 (by intro e he; have := HD.out e he; omega)).mono ?_
                  rw [HL.out]
                  rintro e w9 ⟨E9, A9, c9, rfl, hE9, hb9, ho9⟩
                  have HE9 := Lib.hid hE9
                  have HB9 := Lib.hid hb9
                  have HO9 := Lib.hid ho9
                  clear hE9 hb9 ho9
                  go_wp2_with fail
                  go_ret2
                  exact ⟨E9, A9, L.length, c9, by rw [HR0.out]; rfl, by rw [HR0.out]; exact HE9.out, by rw [HR0.out], (HBL1.out.trans (HBW.out.mono hsz1)).trans (HB9.out.mono (by have := HBW.out.size; omega)), HO9.out.base (by have := HBW.out.size; omega)⟩
    · have hnm2 : decide (naks < most) = false := by simpa using hnm
      go_enter Try.func11, Try.ntmps11
      go_wp2_with fail
      refine (check_any A n c R _ B HB.out HR.out HN.out hl).mono ?_
      rw [HOK.out, chk_true]
      rintro e w1 ⟨rfl, hb⟩; obtain ⟨xs, d, rfl⟩ := ext_of hb; clear hb
      go_wp2_with fail
      refine (sort_any A A2 n c n2 c2 R E _ B (by have := HB.out; simp [size_ext, grow]; omega) (HR.out.keep (by have := HB.out; exact bel)) HN.out hl L HL.out (HA.out.keep (by have := HB.out; exact bel)) HN2.out hc2 hl2 HD.out HOK.out).mono ?_
      rintro e w1 ⟨Ao, Ab, Ar, Al, no, nb, nr, nl, co, cb, cr, cl, Eo, Eb, rfl, hb, hrows, heo, heb, hno, hnb, hnr, hnl⟩
      have HROWS := Lib.hid (show Rows4 w1 w.heap.size (.slice Ao no co) (.slice Ab nb cb) (.slice Ar nr cr) (.slice Al nl cl) Eo Eb (sortK R L L.length).2.2 (lackL R L) from ⟨hrows.o.base (by simp [size_ext, grow]), hrows.b.base (by simp [size_ext, grow]), own_base hrows.r (by simp [size_ext, grow]), own_base hrows.l (by simp [size_ext, grow])⟩)
      have HB1 := Lib.hid (show Below w.heap.size w w1 from Below.trans (by exact bel) (hb.mono (by simp [size_ext, grow])))
      have HEO := Lib.hid heo
      have HEB := Lib.hid heb
      have HNO := Lib.hid hno
      have HNB := Lib.hid hnb
      have HNR := Lib.hid hnr
      have HNL := Lib.hid hnl
      have hbounds : no ≤ 1000000 ∧ nb ≤ 1000000 ∧ nr ≤ 1000000 ∧ nl ≤ 1000000 := by
        have h := sort_len R L L.length
        have h2 := lack_len R L R.length
        rw [List.take_length] at h2
        have h3 : L.length = n2 := by rw [← HL.out, List.length_map]; exact HN2.out.symm
        rw [← heo, ← heb, List.length_map, List.length_map] at h
        unfold lackL at hnl
        have h4 := HN.out
        omega
      have HNB2 := Lib.hid (show nr = nb by
        have h := (sort_len R L L.length).2
        rw [← heb, List.length_map] at h
        omega)
      have hsz01 := HB1.out.size
      clear hb hrows heo heb hno hnb hnr hnl
      have HNBL := Lib.hid (show nb = (sortK R L L.length).2.1.length by rw [← HEB.out, List.length_map]; exact HNB.out)
      by_cases hb0 : nb = 0
      · subst hb0
        have HNB0 := Lib.hid (show ¬ (most ≤ naks ∧ 0 < (sortK R L L.length).2.1.length) by rw [← HNBL.out]; omega)
        go_wp2_with fail
        refine wp_world (fun W1 => Rows4 W1 w.heap.size (.slice Ao no co) (.slice Ab 0 cb) (.slice Ar nr cr) (.slice Al nl cl) Eo Eb (sortK R L L.length).2.2 (lackL R L) ∧ W1.heap[w1.heap.size]? = some (.cells #[.slice Ao no co, .slice Ab 0 cb, .slice Ar nr cr, .slice Al nl cl] 49 (0, 0)) ∧ Below w.heap.size w W1) ⟨HROWS.out.keep (by exact bel), by exact heap_alloc_new _ _, by have h := HB1.out; exact bel⟩ ?_
        rintro W1 ⟨hrows1, hx1, hbl1⟩
        have HROWS1 := Lib.hid hrows1
        have HX := Lib.hid hx1
        have HBL1 := Lib.hid hbl1
        have hX1 := lt_of_block hx1
        have hsz1 := hbl1.size
        have hr1 := hrows1.r
        have hl1 := hrows1.l
        rw [← HNR.out] at hr1
        rw [← HNL.out] at hl1
        have HMEMA := Lib.hid (sort_mem R L L.length)
        have HMEML := Lib.hid (show ∀ r ∈ lackL R L, r ∈ R from fun r hr => (List.mem_filter.1 hr).1)
        have HLENA := Lib.hid HNR.out
        have HLENL := Lib.hid HNL.out
        have HRA := Lib.hid (RulesAt.of_cells (At.of_own hr1) (fun r hr => HWF.out r (sort_mem R L _ r hr)))
        have HRL := Lib.hid (RulesAt.of_cells (At.of_own hl1) (fun r hr => HWF.out r ((List.mem_filter.1 hr).1)))
        have hrl : (sortK R L L.length).2.2.length ≤ 1000000 := by rw [← HNR.out]; omega
        have hll : (lackL R L).length ≤ 1000000 := by rw [← HNL.out]; omega
        have HE0 := Lib.hid (OwnOpts.nil W1 W1.heap.size)
        obtain ⟨s0, s1, s2, s3, -⟩ := four_cells hx1
        clear hrows1 hx1 hbl1 hr1 hl1
        go_loopw [11, 50] (fun v i wr => ∃ (j kb cb' : Nat) (Ab' : Option Addr) (E' : List Ent), j ≤ nl ∧ i = .int .i64 j ∧ v = .slice Ab' kb cb' ∧ E'.length = kb ∧ E'.map Ent.o = ([] : List Opt) ++ ((lackL R L).take j).map goodO ∧ Below W1.heap.size W1 wr ∧ OwnOpts wr W1.heap.size (.slice Ab' kb cb') E') (fun _ i _ => nl - (intOf i).toNat)
        case atStart => exact ⟨0, 0, 0, none, [], Nat.zero_le _, rfl, rfl, rfl, rfl, Below.refl _ _, HE0.out⟩
        case round =>
          obtain ⟨j, kb, cb', Ab', E', hj, rfl, rfl, hel, heo, hbl, hown⟩ := hrel
          have HEL := Lib.hid hel
          have HEO' := Lib.hid heo
          have HBW := Lib.hid hbl
          have HOW := Lib.hid hown
          have hszw := hbl.size
          have hkb : kb ≤ 2000000 := by
            have h1 := congrArg List.length heo
            have h2 : (([] : List Opt)).length ≤ 1000000 := (by simp)
            simp only [List.length_map, List.length_append, List.length_take, List.length_nil] at h1 h2
            omega
          obtain ⟨s0, s1, s2, s3, -⟩ := four_cells ((HBW.out.block _ hX1).trans HX.out)
          have hX1' : w1.heap.size < wr.heap.size := Nat.lt_of_lt_of_le hX1 hszw
          clear hel heo hbl hown
          by_cases hlt : j < nl
          · have HK := Lib.hid (show j < ((lackL R L)).length by have := HLENL.out; omega)
            obtain ⟨rb, ro, hq, hrb, hrat⟩ := (HRL.out.keep HBW.out).get HK.out
            cases hq
            have hrok := are_ok HOK.out (HMEML.out _ (List.getElem_mem HK.out))
            have HTS := Lib.hid (map_take_snoc goodO (lackL R L) j HK.out)
            obtain ⟨r, hr⟩ : ∃ r, ((lackL R L))[j]'HK.out = r := ⟨_, rfl⟩
            rw [hr] at hrat hrok HTS
            clear hr
            obtain ⟨hb0, hb4, hg0, hg4, -, -⟩ := ok_bounds hrok
            obtain ⟨t, sz, kd, lo, hi, gd, mu⟩ := r
            simp only at hb0 hb4 hg0 hg4
            obtain ⟨s, rfl⟩ := Int.eq_ofNat_of_zero_le hb0
            obtain ⟨g, rfl⟩ := Int.eq_ofNat_of_zero_le hg0
            obtain ⟨c0, c1, c2', c3', c4', c5, c6⟩ := hrat
            simp only at c0 c1 c2' c3' c4' c5 c6
            have hrblt : rb < wr.heap.size := by omega
            have hix0 : (0 : Int) ≤ (j : Int) := by omega
            have hix1 : (j : Int) < (nl : Int) := by omega
            have HGO := Lib.hid (show goodO ⟨t, (s : Int), kd, lo, hi, (g : Int), mu⟩ = (t, putB g s) from rfl)
            clear hrok
            go_wp2_with fail
            refine (good_any t kd lo hi s g mu _ (by omega) (by omega)).mono ?_
            rintro e w2 ⟨A3, c3, rfl, hb, ho⟩
            have HB2 := Lib.hid (show Below wr.heap.size wr w2 from Below.trans (by exact bel) (hb.mono (by simp)))
            have HO2 := Lib.hid (own_base (base' := W1.heap.size) ho (by simp; omega))
            have HOK2 := Lib.hid (show wr.ownsRow W1.heap.size 42 2 (.slice Ab' kb cb') kb (cellsE E') by have h := HOW.out.1; rwa [HEL.out] at h)
            have hsz2 := HB2.out.size
            clear hb ho
            go_wp2_with (at_builtin; refine wpList_appv W1 rfl (.tmp 54) (.tmp 57) 23 rfl 42 Try.underlying23 (.agg #[.int .i64 0, .slice none 0 0]) 2 32 infoOpt rfl (by decide) (by decide) (.slice Ab' kb cb') kb (cellsE E') rfl (by exact own_below HOK2.out (by have := HB2.out; exact bel)) (w2.heap.size + 1) (some ⟨w2.heap.size, 0, none⟩) 1 1 [.int .i64 t, .slice A3 s c3] rfl rfl (by omega) (by exact At.newN _ _ _ _ _ rfl rfl) (by intro u hu; simp at hu; rcases hu with rfl | rfl <;> rfl) (by have h1 := HBW.out; have h2 := HB2.out; exact bel) ?_; intro A4 c4 w3 ho3 hc3 hb3 hg3; have HO3 := Lib.hid ho3; have HB3 := Lib.hid hb3; have HG3 := Lib.hid hg3; clear ho3 hc3 hb3 hg3)
            have HOE := Lib.hid (OwnOpts.pushed (tt := t) (dd := putB g s) (A2 := A3) (c2 := c3) (HOW.out.below (HB2.out.trans (Below.alloc (Below.refl _ w2) hsz2 _))) (by rw [putB_length]; exact own_below HO2.out (Below.alloc (Below.refl _ w2) (Nat.le_refl _) _)) (by rw [HEL.out, putB_length]; exact HO3.out) HG3.out)
            go_roundw
            case rel => exact ⟨j + 1, kb + 1, c4, A4, _, by omega, by go_num, rfl, by simp [HEL.out], by rw [List.map_append, HEO'.out, HTS.out, HGO.out, List.append_assoc]; rfl, HB3.out, HOE.out⟩
            case measure => simp [intOf]; omega
          · obtain rfl : j = nl := by omega
            have HEO2 := Lib.hid (show E'.map Ent.o = ([] : List Opt) ++ ((lackL R L)).map goodO by have h := HEO'.out; rwa [List.take_of_length_le (by have := HLENL.out; omega)] at h)
            have HEC2 := Lib.hid (show E'.map Ent.o = (nakR R L).map goodO by
              have h1 := HNB2.out
              have h2 := HLENA.out
              rw [HEO2.out]; unfold nakR
              rw [List.length_eq_zero_iff.1 (h2.symm.trans h1)]; rfl)
            have HKL := Lib.hid (show kb = (nakR R L).length by have h := congrArg List.length HEC2.out; rw [List.length_map, List.length_map] at h; rw [← h]; exact HEL.out.symm)
            by_cases h0 : 0 < no
            · have HR0 := Lib.hid (show answerO R L naks most = (4, (sortK R L L.length).1) by
                unfold answerO; rw [if_neg (by rw [HOK.out]; simp), if_pos (by rw [← HEO.out, List.length_map, ← HNO.out]; exact h0)])
              have h1 : (0 : Int) < (no : Int) := by omega
              go_wp2_with fail
              go_quiet (fail)
              go_wp2_with fail
              go_ret2
              exact ⟨Eo, Ao, no, co, by rw [HR0.out]; rfl, by rw [HR0.out]; exact HEO.out, by rw [HR0.out]; simp only; rw [← HEO.out, List.length_map]; exact HNO.out, by have h := HBL1.out.trans (HBW.out.mono hsz1); exact bel, by exact (HROWS1.out.keep HBW.out).o⟩
            · obtain rfl : no = 0 := by omega
              have HS1 := Lib.hid (show ¬ 0 < (sortK R L L.length).1.length by rw [← HEO.out, List.length_map, ← HNO.out]; omega)
              clear h0
              by_cases hk0 : 0 < kb
              · have HR0 := Lib.hid (show answerO R L naks most = (3, (nakR R L).map goodO) by
                  unfold answerO; rw [if_neg (by rw [HOK.out]; simp), if_neg HS1.out, if_neg (by rw [← HKL.out]; omega), if_neg HNB0.out])
                have hk1 : (0 : Int) < (kb : Int) := by omega
                go_wp2_with fail
                go_ret2
                exact ⟨E', Ab', kb, cb', by rw [HR0.out]; rfl, by rw [HR0.out]; exact HEC2.out, by rw [HR0.out, List.length_map]; exact HKL.out, HBL1.out.trans (HBW.out.mono hsz1), OwnOpts.base HOW.out hsz1⟩
              · obtain rfl : kb = 0 := by omega
                have HR0 := Lib.hid (show answerO R L naks most = (2, L) by
                  unfold answerO; rw [if_neg (by rw [HOK.out]; simp), if_neg HS1.out, if_pos HKL.out.symm])
                go_wp2_with fail
                refine (owns_any A2 n2 c2 E _ B (by have := HB.out; have := HBW.out.size; omega) (by exact HA.out.keep ((HBL1.out.trans (HBW.out.mono hsz1)).mono HB.out)) HN2.out hl2 (by intro e he; have := HD.out e he; omega)).mono ?_
                rw [HL.out]
                rintro e w9 ⟨E9, A9, c9, rfl, hE9, hb9, ho9⟩
                have HE9 := Lib.hid hE9
                have HB9 := Lib.hid hb9
                have HO9 := Lib.hid ho9
                clear hE9 hb9 ho9
                go_wp2_with fail
                go_ret2
                exact ⟨E9, A9, L.length, c9, by rw [HR0.out]; rfl, by rw [HR0.out]; exact HE9.out, by rw [HR0.out], (HBL1.out.trans (HBW.out.mono hsz1)).trans (HB9.out.mono (by have := HBW.out.size; omega)), HO9.out.base (by have := HBW.out.size; omega)⟩
      · have hb1 : (0 : Int) < (nb : Int) := by omega
        have hb2 : ((nb : Int) == 0) = false := by simp; omega
        have hb3 : 0 < nb := by omega
        by_cases h0 : 0 < no
        · have HR0 := Lib.hid (show answerO R L naks most = (4, (sortK R L L.length).1) by
            unfold answerO; rw [if_neg (by rw [HOK.out]; simp), if_pos (by rw [← HEO.out, List.length_map, ← HNO.out]; exact h0)])
          have h1 : (0 : Int) < (no : Int) := by omega
          go_wp2_with fail
          go_quiet (fail)
          go_wp2_with fail
          go_ret2
          exact ⟨Eo, Ao, no, co, by rw [HR0.out]; rfl, by rw [HR0.out]; exact HEO.out, by rw [HR0.out]; simp only; rw [← HEO.out, List.length_map]; exact HNO.out, by have h := HB1.out; exact bel, by exact (HROWS.out.keep (by exact bel)).o⟩
        · obtain rfl : no = 0 := by omega
          have HS1 := Lib.hid (show ¬ 0 < (sortK R L L.length).1.length by rw [← HEO.out, List.length_map, ← HNO.out]; omega)
          have HR0 := Lib.hid (show answerO R L naks most = (4, (sortK R L L.length).2.1) by
            unfold answerO; rw [if_neg (by rw [HOK.out]; simp), if_neg HS1.out, if_neg (by have h1 := HNB2.out; have h2 := HNR.out; unfold nakR; rw [List.length_append]; omega), if_pos ⟨by omega, by rw [← HNBL.out]; exact hb3⟩])
          clear h0
          go_wp2_with fail
          go_quiet (fail)
          go_wp2_with fail
          go_ret2
          exact ⟨Eb, Ab, nb, cb, by rw [HR0.out]; rfl, by rw [HR0.out]; exact HEB.out, by rw [HR0.out]; exact HNBL.out, by have h := HB1.out; exact bel, by exact (HROWS.out.keep (by exact bel)).b⟩
end Go.Proofs.Ytlkijhcgiilmhaa
