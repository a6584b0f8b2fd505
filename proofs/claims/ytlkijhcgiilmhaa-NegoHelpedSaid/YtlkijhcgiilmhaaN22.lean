/- nego.sort: what becomes of a question. -/
import Derived.Test.YtlkijhcgiilmhaaN21
import Derived.Deep.DrawnRows
import Derived.Deep.RegionLaw
import Derived.Test.YtlkijhcgiilmhaaT3
namespace Go.Proofs.Ytlkijhcgiilmhaa
open Go.RowKit
set_option linter.unusedSimpArgs false
set_option linter.unusedVariables false
attribute [local go_sem ↓] Go.wp_at_zero Go.wp_at_succ
theorem enter_own (args : Array Value) (w : World) : (callFunc 39 args).run Try.prog w = .ok (.enter 39 args) w := by kernel_rfl
set_option maxRecDepth 100000 in
set_option maxHeartbeats 4000000 in
theorem sort_any (A A2 : Option Addr) (n c n2 c2 : Nat) (R : List Rl) (E : List Ent) (w : World) (B : Nat) (hB : B ≤ w.heap.size) (hR : RulesAt w B A R) (hn : n = R.length) (hl : n ≤ 1000000)
    (L : List Opt) (hL : E.map Ent.o = L) (hA : OptsAt w B A2 E) (hn2 : n2 = E.length) (hc2 : n2 ≤ c2) (hl2 : n2 ≤ 1000000) (hd : ∀ e ∈ E, e.d.length ≤ 1000000) (hok : areB R = true) :
    Calls Try.prog 23 #[.slice A n c, .slice A2 n2 c2] w (SortP w R L) := by
  have HR := Lib.hid hR
  have HN := Lib.hid hn
  have HB := Lib.hid hB
  have HA := Lib.hid hA
  have HN2 := Lib.hid hn2
  have HD := Lib.hid hd
  have HOK := Lib.hid hok
  clear hR hn hB hA hn2 hd hok
  have HL := Lib.hid hL
  clear hL
  go_enter Try.func23, Try.ntmps23
  go_wp2_with fail
  go_loopw [15] (fun i wr => ∃ (k no co nb cb nr cr : Nat) (Ao Ab Ar : Option Addr) (Eo Eb : List Ent), k ≤ n2 ∧ i = .int .i64 k ∧ Below w.heap.size w wr ∧ SW wr w.heap.size w.heap.size (w.heap.size + 1) (w.heap.size + 1 + 1) (.slice A n c) (.slice Ao no co) (.slice Ab nb cb) (.slice Ar nr cr) (.slice none 0 0) Eo Eb (sortK R L k).2.2 [] ∧ Eo.map Ent.o = (sortK R L k).1 ∧ Eb.map Ent.o = (sortK R L k).2.1 ∧ no = Eo.length ∧ nb = Eb.length ∧ nr = (sortK R L k).2.2.length) (fun i _ => n2 - (intOf i).toNat)
  case atStart => exact ⟨0, 0, 0, 0, 0, 0, 0, none, none, none, [], [], Nat.zero_le _, rfl, by exact bel, ⟨OwnOpts.nil _ _, OwnOpts.nil _ _, own_nil _ _ _ _, own_nil _ _ _ _, by (repeat (first | ((refine heap_alloc_at _ _ _ ?_); (simp [go_sem]; done)) | ((refine (heap_ext _ _ _ _ ?_).trans ?_); (focus (simp [go_sem]; done))) | ((refine (heap_alloc_past _ _ _ ?_).trans ?_); (focus (simp [go_sem]; done))))), by (repeat (first | ((refine heap_alloc_at _ _ _ ?_); (simp [go_sem]; done)) | ((refine (heap_ext _ _ _ _ ?_).trans ?_); (focus (simp [go_sem]; done))) | ((refine (heap_alloc_past _ _ _ ?_).trans ?_); (focus (simp [go_sem]; done))))), by (repeat (first | ((refine heap_alloc_at _ _ _ ?_); (simp [go_sem]; done)) | ((refine (heap_ext _ _ _ _ ?_).trans ?_); (focus (simp [go_sem]; done))) | ((refine (heap_alloc_past _ _ _ ?_).trans ?_); (focus (simp [go_sem]; done))))), by omega, (fun _ h => by cases h), (fun _ h => by cases h)⟩, rfl, rfl, rfl, rfl, rfl⟩
  case round =>
    obtain ⟨k, no, co, nb, cb, nr, cr, Ao, Ab, Ar, Eo, Eb, hk, rfl, hbl, hsw, heo, heb, hno, hnb, hnr⟩ := hrel
    have HBL := Lib.hid hbl
    have HSW := Lib.hid hsw
    have HEO := Lib.hid heo
    have HEB := Lib.hid heb
    have HNO := Lib.hid hno
    have HNB := Lib.hid hnb
    have HNR := Lib.hid hnr
    have hsz := hbl.size
    have hnk : no + nb ≤ k ∧ nr ≤ k := by
      have h := sort_len R L k
      rw [← heo, ← heb, List.length_map, List.length_map] at h
      omega
    obtain ⟨s0, s1, s2, s3, f0, f1, f2, f3⟩ := four_cells hsw.s
    have x2 : wr.cell? ⟨w.heap.size, 0, none⟩ = some (.slice A n c) := by rw [cell_of_row _ _ 0 _ _ _ hsw.x2]; rfl
    have hz5 := lt_of_block hsw.s
    have hz2 := lt_of_block hsw.x2
    clear hbl hsw heo heb hno hnb hnr
    by_cases hlt : k < n2
    · have HK := Lib.hid (show k < E.length by have := HN2.out; omega)
      obtain ⟨b, o, rfl, hbB, hx, hy⟩ := (HA.out.keep (HBL.out.mono HB.out)).get HK.out
      obtain ⟨e0, he0⟩ : ∃ e0, E[k]'HK.out = e0 := ⟨_, rfl⟩
      have hat := HA.out.2 _ (List.getElem_mem HK.out)
      have hdl := HD.out _ (List.getElem_mem HK.out)
      have hlk : L[k]? = some e0.o := by rw [← HL.out, List.getElem?_map, List.getElem?_eq_getElem HK.out, he0]; rfl
      rw [he0] at hx hy hat hdl
      obtain ⟨t, d, a, ce⟩ := e0
      have hbz : b < wr.heap.size := by have := HB.out; omega
      have jj0 : (0 : Int) ≤ (k : Int) := by omega
      have jj1 : (k : Int) < (n2 : Int) := by omega
      have HAT := Lib.hid hat
      have HLK := Lib.hid hlk
      unfold Ent.v at hy
      simp only at hx hy hat hdl
      have hdl4 : d.length ≤ 400000000 := by omega
      clear hat he0 hlk
      go_wp2_with fail
      refine (fits_any A n c R t a d ce w.heap.size _ B (by have := HB.out; simp; omega) (HR.out.keep (by have := HB.out; have h := HBL.out.mono this; exact bel)) HN.out hl ?_ (by simp; omega)).mono ?_
      · exact (World.cell?_alloc_lt _ _ (a := ⟨w.heap.size, 0, none⟩) (by simp; omega)).trans x2
      cases hfi : fitI R (t, d) with
      | none =>
        unfold plV
        have HNX := Lib.hid (show sortK R L (k + 1) = ((sortK R L k).1 ++ [(t, d)], (sortK R L k).2.1, (sortK R L k).2.2) by
          rw [sortK_succ]; unfold stepS; rw [HLK.out]; simp only [kindO, Ent.o, hfi])
        clear hfi
        rintro e w1 ⟨rfl, hb⟩; obtain ⟨xs1, dr1, rfl⟩ := ext_of hb; clear hb
        go_upto_region 8 with (fail)
        go_quiet (fail)
        go_wp2_with fail
        refine wp_world (fun W5 => SW W5 w.heap.size w.heap.size (w.heap.size + 1) (w.heap.size + 1 + 1) (.slice A n c) (.slice Ao no co) (.slice Ab nb cb) (.slice Ar nr cr) (.slice none 0 0) Eo Eb (sortK R L k).2.2 [] ∧ W5.heap[wr.heap.size]? = some (.cells #[.int .i64 t, .slice a d.length ce] 42 (0, 0)) ∧ Below wr.heap.size wr W5) ⟨SW.keep HSW.out (by exact bel), by (repeat (first | ((refine heap_alloc_at _ _ _ ?_); (simp [go_sem]; done)) | ((refine (heap_ext _ _ _ _ ?_).trans ?_); (focus (simp [go_sem]; done))) | ((refine (heap_alloc_past _ _ _ ?_).trans ?_); (focus (simp [go_sem]; done))))), by exact bel⟩ ?_
        rintro W5 ⟨hsw5, hbx5, hb5⟩
        have HSW5 := Lib.hid hsw5
        have HB5 := Lib.hid hb5
        have hsz5 := hb5.size
        obtain ⟨s0, s1, s2, s3, f0, f1, f2, f3⟩ := four_cells hsw5.s
        obtain ⟨g0, g1, -, g3⟩ := two_cells hbx5
        have hz5' := lt_of_block hsw5.s
        clear hsw5 hb5 hbx5
        go_region_law (first | (refine step_call1 rfl 39 (.tmp 37) #[42] rfl enter_own (.agg #[.int .i64 t, .slice a d.length ce]) rfl ?_; go_must (refine (own_any t a d.length ce d _ B (by have := HB.out; have h := HBL.out.size; first | omega | (simp; omega)) (by exact HAT.out.1.keep (by have := HB.out; have h := HBL.out.mono this; have h2 := HB5.out.mono (Nat.le_trans this hsz); exact bel)) rfl hdl4 HAT.out.2).mono ?_); rintro e w2 ⟨A3, c3, rfl, hb, ho⟩; obtain ⟨xs2, dr2, rfl⟩ := ext_of hb; have HO2 := Lib.hid ho; clear hb ho; refine ⟨_, rfl, ?_⟩) | (refine step_appw w rfl (.tmp 36) (.tmp 39) 23 rfl 42 Try.underlying23 (.agg #[.int .i64 0, .slice none 0 0]) 2 32 infoOpt rfl (by decide) (by decide) (.slice Ao no co) no (cellsE Eo) rfl (by have h := HSW5.out.o.1; rw [← HNO.out] at h; exact own_below h (by exact bel)) (grow W5.heap.size xs2 + 1) (some ⟨grow W5.heap.size xs2, 0, none⟩) 1 1 [.int .i64 t, .slice A3 d.length c3] rfl rfl (by omega) (by exact At.newN _ _ _ _ _ (by simp [size_ext]) rfl) (by intro u hu; simp at hu; rcases hu with rfl | rfl <;> rfl) (by have h1 := HBL.out.trans (HB5.out.mono hsz); exact bel) ?_; intro A4 c4 w3 ho3 hc3 hb3 hg3 hw3; have hs3 := HSW5.out.s_o (by exact bel) hg3; obtain ⟨s30, -, -, -, f30, -, -, -⟩ := four_cells hs3; have hz3 := lt_of_block hs3; have HRES := Lib.hid (SW.odd (tt := t) (dd := d) (HSW5.out.keep (by exact bel)) (own_below (own_base HO2.out (by simp; omega)) (by exact bel)) (by rw [← HNO.out]; exact ho3) hg3 hw3); have HB3 := Lib.hid hb3; clear ho3 hc3 hb3 hg3 hw3 hs3))
        all_goals
          go_wp2_with fail
          go_roundw
          case rel => exact ⟨k + 1, no + 1, c4, nb, cb, nr, cr, A4, Ab, Ar, _, Eb, by omega, by go_num, by have h := HB3.out; exact bel, by rw [HNX.out]; exact HRES.out, by rw [HNX.out, List.map_append, HEO.out]; rfl, by rw [HNX.out]; exact HEB.out, by simp [HNO.out], HNB.out, by rw [HNX.out]; exact HNR.out⟩
          case measure => simp [intOf]; omega
      | some k2 =>
        have hk2 : (0 : Int) ≤ (k2 : Int) := by omega
        have hck : (k : Int) ≤ (c2 : Int) := by omega
        have HFI := Lib.hid hfi
        unfold plV
        clear hfi
        rintro e w1 ⟨rfl, hb⟩
        obtain ⟨xs1, dr1, rfl⟩ := ext_of hb
        clear hb
        have hkl : (E.take k).map Ent.o = L.take k := by rw [List.map_take, HL.out]
        have HKL := Lib.hid hkl
        cases hpl : plI (L.take k) t with
        | some j =>
          have HPL := Lib.hid hpl
          have HNX := Lib.hid (show sortK R L (k + 1) = ((sortK R L k).1 ++ [(t, d)], (sortK R L k).2.1, (sortK R L k).2.2) by
            rw [sortK_succ]; unfold stepS; rw [HLK.out]; simp only [kindO, Ent.o, HFI.out, hpl]; rfl)
          clear hpl hkl
          go_wp2_with fail
          go_region_held3 (fun w' => w'.cell? ⟨wr.heap.size, 0, none⟩ = some (.int .i64 t)) (first | (go_keep; done) | (go_simp; done) | (simp [go_sem]; done)) ((go_at_call 38; go_must (refine (placed_any (some ⟨b, o, none⟩) k c2 (E.take k) t _ B (by have := HB.out; simp [size_ext, grow]; omega) (by exact (HA.out.keep (by have := HB.out; have h := HBL.out.mono this; exact bel)).take k) (by rw [List.length_take]; have := HK.out; omega) (by omega)).mono ?_); rw [HKL.out, HPL.out]; unfold plV; rintro e w1 ⟨rfl, hb⟩; obtain ⟨xs3, dr3, rfl⟩ := ext_of hb; clear hb))
          all_goals
            go_wp2_with fail
            refine wp_world (fun W5 => SW W5 w.heap.size w.heap.size (w.heap.size + 1) (w.heap.size + 1 + 1) (.slice A n c) (.slice Ao no co) (.slice Ab nb cb) (.slice Ar nr cr) (.slice none 0 0) Eo Eb (sortK R L k).2.2 [] ∧ W5.heap[wr.heap.size]? = some (.cells #[.int .i64 t, .slice a d.length ce] 42 (0, 0)) ∧ Below wr.heap.size wr W5) ⟨SW.keep HSW.out (by exact bel), by (repeat (first | ((refine heap_alloc_at _ _ _ ?_); (simp [go_sem]; done)) | ((refine (heap_ext _ _ _ _ ?_).trans ?_); (focus (simp [go_sem]; done))) | ((refine (heap_alloc_past _ _ _ ?_).trans ?_); (focus (simp [go_sem]; done))))), by exact bel⟩ ?_
            rintro W5 ⟨hsw5, hbx5, hb5⟩
            have HSW5 := Lib.hid hsw5
            have HB5 := Lib.hid hb5
            have hsz5 := hb5.size
            obtain ⟨s0, s1, s2, s3, f0, f1, f2, f3⟩ := four_cells hsw5.s
            obtain ⟨g0, g1, -, g3⟩ := two_cells hbx5
            have hz5' := lt_of_block hsw5.s
            clear hsw5 hb5 hbx5
            go_region_law (first | (refine step_call1 rfl 39 (.tmp 37) #[42] rfl enter_own (.agg #[.int .i64 t, .slice a d.length ce]) rfl ?_; go_must (refine (own_any t a d.length ce d _ B (by have := HB.out; have h := HBL.out.size; first | omega | (simp; omega)) (by exact HAT.out.1.keep (by have := HB.out; have h := HBL.out.mono this; have h2 := HB5.out.mono (Nat.le_trans this hsz); exact bel)) rfl hdl4 HAT.out.2).mono ?_); rintro e w2 ⟨A3, c3, rfl, hb, ho⟩; obtain ⟨xs2, dr2, rfl⟩ := ext_of hb; have HO2 := Lib.hid ho; clear hb ho; refine ⟨_, rfl, ?_⟩) | (refine step_appw w rfl (.tmp 36) (.tmp 39) 23 rfl 42 Try.underlying23 (.agg #[.int .i64 0, .slice none 0 0]) 2 32 infoOpt rfl (by decide) (by decide) (.slice Ao no co) no (cellsE Eo) rfl (by have h := HSW5.out.o.1; rw [← HNO.out] at h; exact own_below h (by exact bel)) (grow W5.heap.size xs2 + 1) (some ⟨grow W5.heap.size xs2, 0, none⟩) 1 1 [.int .i64 t, .slice A3 d.length c3] rfl rfl (by omega) (by exact At.newN _ _ _ _ _ (by simp [size_ext]) rfl) (by intro u hu; simp at hu; rcases hu with rfl | rfl <;> rfl) (by have h1 := HBL.out.trans (HB5.out.mono hsz); exact bel) ?_; intro A4 c4 w3 ho3 hc3 hb3 hg3 hw3; have hs3 := HSW5.out.s_o (by exact bel) hg3; obtain ⟨s30, -, -, -, f30, -, -, -⟩ := four_cells hs3; have hz3 := lt_of_block hs3; have HRES := Lib.hid (SW.odd (tt := t) (dd := d) (HSW5.out.keep (by exact bel)) (own_below (own_base HO2.out (by simp; omega)) (by exact bel)) (by rw [← HNO.out]; exact ho3) hg3 hw3); have HB3 := Lib.hid hb3; clear ho3 hc3 hb3 hg3 hw3 hs3))
            all_goals
              go_wp2_with fail
              go_roundw
              case rel => exact ⟨k + 1, no + 1, c4, nb, cb, nr, cr, A4, Ab, Ar, _, Eb, by omega, by go_num, by have h := HB3.out; exact bel, by rw [HNX.out]; exact HRES.out, by rw [HNX.out, List.map_append, HEO.out]; rfl, by rw [HNX.out]; exact HEB.out, by simp [HNO.out], HNB.out, by rw [HNX.out]; exact HNR.out⟩
              case measure => simp [intOf]; omega
        | none =>
          have HPL := Lib.hid hpl
          have HKIND := Lib.hid (show kindO R L k (t, d) = R[k2]? by unfold kindO; rw [HFI.out]; simp only [hpl]; rfl)
          clear hpl hkl
          obtain ⟨hkr, hfb⟩ := fitI_lt HFI.out
          obtain ⟨rb, ro, rfl, hrb, hrat⟩ := (HR.out.keep (HBL.out.mono HB.out)).get hkr
          have hrok := are_ok HOK.out (List.getElem_mem hkr)
          have hrk : R[k2]? = some R[k2] := List.getElem?_eq_getElem hkr
          obtain ⟨r, hr⟩ : ∃ r, R[k2] = r := ⟨_, rfl⟩
          rw [hr] at hfb hrat hrok hrk
          clear hr
          have hbd := ok_bounds hrok
          have h4 : d.length ≤ 4 := by unfold fitB at hfb; simp only [Bool.and_eq_true, beq_iff_eq] at hfb; have := hbd.2.1; omega
          have HRK := Lib.hid hrk
          obtain ⟨rt, sz, kd, lo, hi, gd, mu⟩ := r
          obtain ⟨c0, c1, c2', c3', c4', c5, c6⟩ := hrat
          simp only at c0 c1 c2' c3' c4' c5 c6
          have hrblt : rb < wr.heap.size := by have := HB.out; omega
          have hix0 : (0 : Int) ≤ (k2 : Int) := by omega
          have hix1 : (k2 : Int) < (n : Int) := by have := HN.out; omega
          have hk2n : k2 < n := by have := HN.out; omega
          clear hrok hrk hbd hfb hkr
          cases htk : takesB kd lo hi gd (be d : Int) with
          | true =>
            have HTK := Lib.hid htk
            have HNX := Lib.hid (show sortK R L (k + 1) = sortK R L k by
              rw [sortK_succ]; unfold stepS; rw [HLK.out]
              simp only [Ent.o, HKIND.out, HRK.out]
              exact if_pos htk)
            clear htk
            go_wp2_with fail
            go_region_held3 (fun w' => w'.cell? ⟨wr.heap.size, 0, none⟩ = some (.int .i64 t)) (first | (go_keep; done) | (go_simp; done) | (simp [go_sem]; done)) ((go_at_call 38; go_must (refine (placed_any (some ⟨b, o, none⟩) k c2 (E.take k) t _ B (by have := HB.out; simp [size_ext, grow]; omega) (by exact (HA.out.keep (by have := HB.out; have h := HBL.out.mono this; exact bel)).take k) (by rw [List.length_take]; have := HK.out; omega) (by omega)).mono ?_); rw [HKL.out, HPL.out]; unfold plV; rintro e w1 ⟨rfl, hb⟩; obtain ⟨xs3, dr3, rfl⟩ := ext_of hb; clear hb))
            all_goals
              go_wp2_with fail
              refine wp_world (fun W4 => SW W4 w.heap.size w.heap.size (w.heap.size + 1) (w.heap.size + 1 + 1) (.slice (some ⟨rb, ro, none⟩) n c) (.slice Ao no co) (.slice Ab nb cb) (.slice Ar nr cr) (.slice none 0 0) Eo Eb (sortK R L k).2.2 [] ∧ W4.heap[wr.heap.size]? = some (.cells #[.int .i64 t, .slice a d.length ce] 42 (0, 0)) ∧ Below wr.heap.size wr W4) ⟨SW.keep HSW.out (by exact bel), by (repeat (first | ((refine heap_alloc_at _ _ _ ?_); (simp [go_sem]; done)) | ((refine (heap_ext _ _ _ _ ?_).trans ?_); (focus (simp [go_sem]; done))) | ((refine (heap_alloc_past _ _ _ ?_).trans ?_); (focus (simp [go_sem]; done))))), by exact bel⟩ ?_
              rintro W4 ⟨hsw4, hbx4, hb4⟩
              have HSW4 := Lib.hid hsw4
              have HBX4 := Lib.hid hbx4
              have HB4 := Lib.hid hb4
              have hsz4 := hb4.size
              obtain ⟨g0, g1, -, g3⟩ := two_cells hbx4
              have x2' : W4.cell? ⟨w.heap.size, 0, none⟩ = some (.slice (some ⟨rb, ro, none⟩) n c) := by rw [cell_of_row _ _ 0 _ _ _ hsw4.x2]; rfl
              have hz42 := lt_of_block hsw4.x2
              rw [← hb4.cell (p := ⟨rb, _, none⟩) hrblt] at c0 c1 c2' c3' c4' c5 c6
              have hrblt4 : rb < W4.heap.size := by omega
              clear hsw4 hbx4 hb4
              go_region_held3 (fun w' => w'.cell? ⟨w.heap.size, 0, none⟩ = some (.slice (some ⟨rb, ro, none⟩) n c) ∧ w'.cell? ⟨rb, ro + k2 * 7, none⟩ = some (.int .i64 rt) ∧ w'.cell? ⟨rb, ro + k2 * 7 + 1, none⟩ = some (.int .i64 sz) ∧ w'.cell? ⟨rb, ro + k2 * 7 + 2, none⟩ = some (.int .i64 kd) ∧ w'.cell? ⟨rb, ro + k2 * 7 + 3, none⟩ = some (.int .i64 lo) ∧ w'.cell? ⟨rb, ro + k2 * 7 + 4, none⟩ = some (.int .i64 hi) ∧ w'.cell? ⟨rb, ro + k2 * 7 + 5, none⟩ = some (.int .i64 gd) ∧ w'.cell? ⟨rb, ro + k2 * 7 + 6, none⟩ = some (.bool mu) ∧ w'.cell? ⟨wr.heap.size, 0, none⟩ = some (.int .i64 t) ∧ w'.cell? ⟨wr.heap.size, 1, none⟩ = some (.slice a d.length ce)) (first | (go_keep; done) | (go_simp; done) | (simp [go_sem]; done)) ((first | (go_at_call 41; go_must (refine (number_any t a d.length ce d _ B (by have := HB.out; first | omega | (simp [size_ext, grow]; omega)) (by exact HAT.out.1.keep (by have := HB.out; have h := HBL.out.mono this; have h2 := HB4.out.mono (Nat.le_trans this hsz); exact bel)) rfl h4 HAT.out.2).mono ?_); rintro e w1 ⟨rfl, hb⟩; obtain ⟨xs4, dr4, rfl⟩ := ext_of hb; clear hb) | (go_at_call 40; go_must (refine (takes_any rt sz kd lo hi gd _ mu _).mono ?_); rw [HTK.out]; rintro e w1 ⟨rfl, hb⟩; obtain ⟨xs5, dr5, rfl⟩ := ext_of hb; clear hb)))
              all_goals
                go_wp2_with fail
                go_roundw
                case rel => exact ⟨k + 1, no, co, nb, cb, nr, cr, Ao, Ab, Ar, Eo, Eb, by omega, by go_num, by have h := HBL.out; have h4 := HB4.out; exact bel, by rw [HNX.out]; exact HSW4.out.keep (by exact bel), by rw [HNX.out]; exact HEO.out, by rw [HNX.out]; exact HEB.out, HNO.out, HNB.out, by rw [HNX.out]; exact HNR.out⟩
                case measure => simp [intOf]; omega
          | false =>
            have HTK := Lib.hid htk
            have HNX := Lib.hid (show sortK R L (k + 1) = ((sortK R L k).1, (sortK R L k).2.1 ++ [(t, d)], (sortK R L k).2.2 ++ [⟨rt, sz, kd, lo, hi, gd, mu⟩]) by
              rw [sortK_succ]; unfold stepS; rw [HLK.out]
              simp only [Ent.o, HKIND.out, HRK.out]
              exact if_neg (by show ¬ takesB kd lo hi gd (be d : Int) = true; rw [htk]; simp))
            clear htk
            go_wp2_with fail
            go_region_held3 (fun w' => w'.cell? ⟨wr.heap.size, 0, none⟩ = some (.int .i64 t)) (first | (go_keep; done) | (go_simp; done) | (simp [go_sem]; done)) ((go_at_call 38; go_must (refine (placed_any (some ⟨b, o, none⟩) k c2 (E.take k) t _ B (by have := HB.out; simp [size_ext, grow]; omega) (by exact (HA.out.keep (by have := HB.out; have h := HBL.out.mono this; exact bel)).take k) (by rw [List.length_take]; have := HK.out; omega) (by omega)).mono ?_); rw [HKL.out, HPL.out]; unfold plV; rintro e w1 ⟨rfl, hb⟩; obtain ⟨xs3, dr3, rfl⟩ := ext_of hb; clear hb))
            all_goals
              go_wp2_with fail
              refine wp_world (fun W4 => SW W4 w.heap.size w.heap.size (w.heap.size + 1) (w.heap.size + 1 + 1) (.slice (some ⟨rb, ro, none⟩) n c) (.slice Ao no co) (.slice Ab nb cb) (.slice Ar nr cr) (.slice none 0 0) Eo Eb (sortK R L k).2.2 [] ∧ W4.heap[wr.heap.size]? = some (.cells #[.int .i64 t, .slice a d.length ce] 42 (0, 0)) ∧ Below wr.heap.size wr W4) ⟨SW.keep HSW.out (by exact bel), by (repeat (first | ((refine heap_alloc_at _ _ _ ?_); (simp [go_sem]; done)) | ((refine (heap_ext _ _ _ _ ?_).trans ?_); (focus (simp [go_sem]; done))) | ((refine (heap_alloc_past _ _ _ ?_).trans ?_); (focus (simp [go_sem]; done))))), by exact bel⟩ ?_
              rintro W4 ⟨hsw4, hbx4, hb4⟩
              have HSW4 := Lib.hid hsw4
              have HBX4 := Lib.hid hbx4
              have HB4 := Lib.hid hb4
              have hsz4 := hb4.size
              obtain ⟨g0, g1, -, g3⟩ := two_cells hbx4
              have x2' : W4.cell? ⟨w.heap.size, 0, none⟩ = some (.slice (some ⟨rb, ro, none⟩) n c) := by rw [cell_of_row _ _ 0 _ _ _ hsw4.x2]; rfl
              have hz42 := lt_of_block hsw4.x2
              rw [← hb4.cell (p := ⟨rb, _, none⟩) hrblt] at c0 c1 c2' c3' c4' c5 c6
              have hrblt4 : rb < W4.heap.size := by omega
              clear hsw4 hbx4 hb4
              go_region_held3 (fun w' => w'.cell? ⟨w.heap.size, 0, none⟩ = some (.slice (some ⟨rb, ro, none⟩) n c) ∧ w'.cell? ⟨rb, ro + k2 * 7, none⟩ = some (.int .i64 rt) ∧ w'.cell? ⟨rb, ro + k2 * 7 + 1, none⟩ = some (.int .i64 sz) ∧ w'.cell? ⟨rb, ro + k2 * 7 + 2, none⟩ = some (.int .i64 kd) ∧ w'.cell? ⟨rb, ro + k2 * 7 + 3, none⟩ = some (.int .i64 lo) ∧ w'.cell? ⟨rb, ro + k2 * 7 + 4, none⟩ = some (.int .i64 hi) ∧ w'.cell? ⟨rb, ro + k2 * 7 + 5, none⟩ = some (.int .i64 gd) ∧ w'.cell? ⟨rb, ro + k2 * 7 + 6, none⟩ = some (.bool mu) ∧ w'.cell? ⟨wr.heap.size, 0, none⟩ = some (.int .i64 t) ∧ w'.cell? ⟨wr.heap.size, 1, none⟩ = some (.slice a d.length ce)) (first | (go_keep; done) | (go_simp; done) | (simp [go_sem]; done)) ((first | (go_at_call 41; go_must (refine (number_any t a d.length ce d _ B (by have := HB.out; first | omega | (simp [size_ext, grow]; omega)) (by exact HAT.out.1.keep (by have := HB.out; have h := HBL.out.mono this; have h2 := HB4.out.mono (Nat.le_trans this hsz); exact bel)) rfl h4 HAT.out.2).mono ?_); rintro e w1 ⟨rfl, hb⟩; obtain ⟨xs4, dr4, rfl⟩ := ext_of hb; clear hb) | (go_at_call 40; go_must (refine (takes_any rt sz kd lo hi gd _ mu _).mono ?_); rw [HTK.out]; rintro e w1 ⟨rfl, hb⟩; obtain ⟨xs5, dr5, rfl⟩ := ext_of hb; clear hb)))
              all_goals
                go_wp2_with fail
                refine wp_world (fun W5 => SW W5 w.heap.size w.heap.size (w.heap.size + 1) (w.heap.size + 1 + 1) (.slice (some ⟨rb, ro, none⟩) n c) (.slice Ao no co) (.slice Ab nb cb) (.slice Ar nr cr) (.slice none 0 0) Eo Eb (sortK R L k).2.2 [] ∧ W5.heap[wr.heap.size]? = some (.cells #[.int .i64 t, .slice a d.length ce] 42 (0, 0)) ∧ Below wr.heap.size wr W5) ⟨SW.keep HSW4.out (by exact bel), by exact (heap_ext _ _ _ _ (by simp [size_ext, grow]; omega)).trans ((heap_ext _ _ _ _ (by omega)).trans HBX4.out), by have h4 := HB4.out; exact bel⟩ ?_
                rintro W5 ⟨hsw5, hbx5, hb5⟩
                have HSW5 := Lib.hid hsw5
                have HB5 := Lib.hid hb5
                have hsz5 := hb5.size
                obtain ⟨s0, s1, s2, s3, f0, f1, f2, f3⟩ := four_cells hsw5.s
                obtain ⟨g0, g1, -, g3⟩ := two_cells hbx5
                have hz5' := lt_of_block hsw5.s
                clear hsw5 hb5 hbx5
                go_region_law (first | (refine step_call1 rfl 39 (.tmp 53) #[42] rfl enter_own (.agg #[.int .i64 t, .slice a d.length ce]) rfl ?_; go_must (refine (own_any t a d.length ce d _ B (by have := HB.out; have h := HBL.out.size; first | omega | (simp; omega)) (by exact HAT.out.1.keep (by have := HB.out; have h := HBL.out.mono this; have h2 := HB5.out.mono (Nat.le_trans this hsz); exact bel)) rfl hdl4 HAT.out.2).mono ?_); rintro e w2 ⟨A3, c3, rfl, hb, ho⟩; obtain ⟨xs2, dr2, rfl⟩ := ext_of hb; have HO2 := Lib.hid ho; clear hb ho; refine ⟨_, rfl, ?_⟩) | (refine step_appw w rfl (.tmp 52) (.tmp 55) 23 rfl 42 Try.underlying23 (.agg #[.int .i64 0, .slice none 0 0]) 2 32 infoOpt rfl (by decide) (by decide) (.slice Ab nb cb) nb (cellsE Eb) rfl (by have h := HSW5.out.b.1; rw [← HNB.out] at h; exact own_below h (by exact bel)) (grow W5.heap.size xs2 + 1) (some ⟨grow W5.heap.size xs2, 0, none⟩) 1 1 [.int .i64 t, .slice A3 d.length c3] rfl rfl (by omega) (by exact At.newN _ _ _ _ _ (by simp [size_ext]) rfl) (by intro u hu; simp at hu; rcases hu with rfl | rfl <;> rfl) (by have h1 := HBL.out.trans (HB5.out.mono hsz); exact bel) ?_; intro A4 c4 w3 ho3 hc3 hb3 hg3 hw3; have hs3 := HSW5.out.s_b (by exact bel) hg3; obtain ⟨-, s31, -, -, -, f31, -, -⟩ := four_cells hs3; have hz3 := lt_of_block hs3; have HRES := Lib.hid (SW.bad (tt := t) (dd := d) (HSW5.out.keep (by exact bel)) (own_below (own_base HO2.out (by simp; omega)) (by exact bel)) (by rw [← HNB.out]; exact ho3) hg3 hw3); have HB3 := Lib.hid hb3; clear ho3 hc3 hb3 hg3 hw3 hs3))
                all_goals
                  go_wp2_with fail
                  refine wp_world (fun W6 => SW W6 w.heap.size w.heap.size (w.heap.size + 1) (w.heap.size + 1 + 1) (.slice (some ⟨rb, ro, none⟩) n c) (.slice Ao no co) (.slice A4 (nb + 1) c4) (.slice Ar nr cr) (.slice none 0 0) Eo (Eb ++ [⟨t, d, A3, c3⟩]) (sortK R L k).2.2 [] ∧ Below w.heap.size w W6) ⟨HRES.out, by have h := HB3.out; exact bel⟩ ?_
                  rintro W6 ⟨hsw6, hb6⟩
                  have HSW6 := Lib.hid hsw6
                  have HB6 := Lib.hid hb6
                  have hsz6 := hb6.size
                  obtain ⟨s0, s1, s2, s3, f0, f1, f2, f3⟩ := four_cells hsw6.s
                  have x2 : W6.cell? ⟨w.heap.size, 0, none⟩ = some (.slice (some ⟨rb, ro, none⟩) n c) := by rw [cell_of_row _ _ 0 _ _ _ hsw6.x2]; rfl
                  obtain ⟨rb', ro', hq, hrb', hrat⟩ := (HR.out.keep (HB6.out.mono HB.out)).get (k := k2) (by have := HN.out; omega)
                  cases hq
                  have hrk2 : R[k2]? = some (R[k2]'(by have := HN.out; omega)) := List.getElem?_eq_getElem _
                  rw [HRK.out] at hrk2
                  simp only [Option.some.injEq] at hrk2
                  rw [← hrk2] at hrat
                  obtain ⟨c0, c1, c2', c3', c4', c5, c6⟩ := hrat
                  simp only at c0 c1 c2' c3' c4' c5 c6
                  have hrblt : rb < W6.heap.size := by have := HB.out; omega
                  have hz6 := lt_of_block hsw6.s
                  have hz62 := lt_of_block hsw6.x2
                  clear hsw6 hb6 hrk2 HRES HB3
                  go_region_law (refine step_appw w rfl (.tmp 59) (.tmp 64) 22 rfl 39 Try.underlying22 (.agg #[.int .i64 0, .int .i64 0, .int .i64 0, .int .i64 0, .int .i64 0, .int .i64 0, .bool false]) 7 56 infoRu rfl (by decide) (by decide) (.slice Ar nr cr) nr (cellsR (sortK R L k).2.2) rfl (by have h := HSW6.out.r; rw [← HNR.out] at h; exact own_below h (by exact bel)) (W6.heap.size + 1) (some ⟨W6.heap.size, 0, none⟩) 1 1 (cell7 ⟨rt, sz, kd, lo, hi, gd, mu⟩) rfl rfl (by omega) (by exact At.newN _ _ _ _ _ (by simp) rfl) (cell7_one _) (by have h1 := HB6.out; exact bel) ?_; intro A7 c7 w7 ho7 hc7 hb7 hg7 hw7; have hs7 := HSW6.out.s_r (by exact bel) hg7; obtain ⟨-, -, s72, -, -, -, f72, -⟩ := four_cells hs7; have hz7 := lt_of_block hs7; have HRES7 := Lib.hid (SW.rule (r := ⟨rt, sz, kd, lo, hi, gd, mu⟩) (HSW6.out.keep (by exact bel)) (by rw [← HNR.out]; exact ho7) hg7 hw7); have HB7 := Lib.hid hb7; clear ho7 hc7 hb7 hg7 hw7 hs7)
                  all_goals
                    go_wp2_with fail
                    go_roundw
                    case rel => exact ⟨k + 1, no, co, nb + 1, c4, nr + 1, c7, Ao, A4, A7, Eo, _, by omega, by go_num, by have h := HB7.out; exact bel, by rw [HNX.out]; exact HRES7.out, by rw [HNX.out]; exact HEO.out, by rw [HNX.out, List.map_append, HEB.out]; rfl, HNO.out, by simp [HNB.out], by rw [HNX.out]; simp [HNR.out]⟩
                    case measure => simp [intOf]; omega
    · obtain rfl : k = n2 := by omega
      have HLN := Lib.hid (show k = L.length by rw [← HL.out, List.length_map]; exact HN2.out)
      go_wp2_with fail
      go_loopw [70] (fun i wr => ∃ (j nl cl : Nat) (Al : Option Addr), j ≤ n ∧ i = .int .i64 j ∧ Below w.heap.size w wr ∧ SW wr w.heap.size w.heap.size (w.heap.size + 1) (w.heap.size + 1 + 1) (.slice A n c) (.slice Ao no co) (.slice Ab nb cb) (.slice Ar nr cr) (.slice Al nl cl) Eo Eb (sortK R L k).2.2 ((R.take j).filter (lackB L)) ∧ nl = ((R.take j).filter (lackB L)).length) (fun i _ => n - (intOf i).toNat)
      case atStart => exact ⟨0, 0, 0, none, Nat.zero_le _, rfl, HBL.out, HSW.out, rfl⟩
      case round =>
        obtain ⟨j, nl, cl, Al, hj, rfl, hbl, hsw, hnl⟩ := hrel
        have HBL := Lib.hid hbl
        have HSW := Lib.hid hsw
        have HNL := Lib.hid hnl
        have hsz := hbl.size
        have hnlj : nl ≤ j := by rw [hnl]; exact lack_len R L j
        obtain ⟨s0, s1, s2, s3, f0, f1, f2, f3⟩ := four_cells hsw.s
        obtain ⟨r0, r1, r2, r3, e0, e1, e2, e3⟩ := four_cells hsw.x4
        have hz5 := lt_of_block hsw.s
        have hz4 := lt_of_block hsw.x4
        clear hbl hsw hnl
        by_cases hlt : j < n
        · have HK := Lib.hid (show j < R.length by have := HN.out; omega)
          obtain ⟨b, o, rfl, hbB, hat⟩ := (HR.out.keep (HBL.out.mono HB.out)).get HK.out
          obtain ⟨r, hr⟩ : ∃ r, R[j]'HK.out = r := ⟨_, rfl⟩
          have HFS := Lib.hid (filter_snoc (lackB L) R j HK.out)
          rw [hr] at hat HFS
          clear hr
          obtain ⟨rt, sz, kd, lo, hi, gd, mu⟩ := r
          obtain ⟨c0, c1, c2', c3', c4', c5, c6⟩ := hat
          simp only at c0 c1 c2' c3' c4' c5 c6
          have hblt : b < wr.heap.size := by have := HB.out; omega
          have hix0 : (0 : Int) ≤ (j : Int) := by omega
          have hix1 : (j : Int) < (n : Int) := by omega
          cases mu
          · have HNX := Lib.hid (show (R.take (j + 1)).filter (lackB L) = (R.take j).filter (lackB L) by rw [HFS.out]; simp [lackB])
            go_wp2_with fail
            go_roundw
            case rel => exact ⟨j + 1, nl, cl, Al, by omega, by go_num, by have h := HBL.out; exact bel, by rw [HNX.out]; exact HSW.out.keep (by exact bel), by rw [HNX.out]; exact HNL.out⟩
            case measure => simp [intOf]; omega
          · go_wp2_with fail
            refine (placed_any A2 k c2 E rt _ B (by have := HB.out; simp; omega) (by exact HA.out.keep (by have := HB.out; have h := HBL.out.mono this; exact bel)) HN2.out hl2).mono ?_
            rw [HL.out]
            cases hpl : plI L rt with
            | some q =>
              have HNX := Lib.hid (show (R.take (j + 1)).filter (lackB L) = (R.take j).filter (lackB L) by rw [HFS.out]; simp [lackB, hpl])
              have hq0 : (0 : Int) ≤ (q : Int) := by omega
              have hq1 : ¬ (q : Int) < 0 := by omega
              clear hpl
              unfold plV
              rintro e w1 ⟨rfl, hb⟩
              obtain ⟨xs3, dr3, rfl⟩ := ext_of hb
              clear hb
              go_wp2_with fail
              go_roundw
              case rel => exact ⟨j + 1, nl, cl, Al, by omega, by go_num, by have h := HBL.out; exact bel, by rw [HNX.out]; exact HSW.out.keep (by exact bel), by rw [HNX.out]; exact HNL.out⟩
              case measure => simp [intOf]; omega
            | none =>
              have HNX := Lib.hid (show (R.take (j + 1)).filter (lackB L) = (R.take j).filter (lackB L) ++ [⟨rt, sz, kd, lo, hi, gd, true⟩] by rw [HFS.out]; simp [lackB, hpl])
              clear hpl
              unfold plV
              rintro e w1 ⟨rfl, hb⟩
              obtain ⟨xs3, dr3, rfl⟩ := ext_of hb
              clear hb
              go_wp2_with (at_builtin; go_loud (refine wpList_appw w rfl (.tmp 84) (.tmp 86) 22 rfl 39 Try.underlying22 (.agg #[.int .i64 0, .int .i64 0, .int .i64 0, .int .i64 0, .int .i64 0, .int .i64 0, .bool false]) 7 56 infoRu rfl (by decide) (by decide) (.slice Al nl cl) nl (cellsR ((R.take j).filter (lackB L))) rfl (by have h := HSW.out.l; rw [← HNL.out] at h; exact own_below h (by exact bel)) (grow wr.heap.size xs3 + 1 + 1) (some ⟨grow wr.heap.size xs3 + 1, 0, none⟩) 1 1 (cell7 ⟨rt, sz, kd, lo, hi, gd, true⟩) rfl rfl (by omega) (by exact At.newN _ _ _ _ _ (by simp [size_ext, grow]; omega) rfl) (cell7_one _) (by have h1 := HBL.out; exact bel) ?_); intro A7 c7 w7 ho7 hc7 hb7 hg7 hw7; have hs7 := HSW.out.s_l (by exact bel) hg7; obtain ⟨-, -, -, s73, -, -, -, f73⟩ := four_cells hs7; have hz7 := lt_of_block hs7; have HRES7 := Lib.hid (SW.lack (r := ⟨rt, sz, kd, lo, hi, gd, true⟩) (HSW.out.keep (by exact bel)) (by rw [← HNL.out]; exact ho7) hg7 hw7); have HB7 := Lib.hid hb7; clear ho7 hc7 hb7 hg7 hw7 hs7)
              go_roundw
              case rel => exact ⟨j + 1, nl + 1, c7, A7, by omega, by go_num, by have h := HB7.out; exact bel, by rw [HNX.out]; exact HRES7.out, by rw [HNX.out]; simp [HNL.out]⟩
              case measure => simp [intOf]; omega
        · obtain rfl : j = n := by omega
          have HLK2 := Lib.hid (show (R.take j).filter (lackB L) = lackL R L by unfold lackL; rw [List.take_of_length_le (by have := HN.out; omega)])
          go_wp2_with fail
          have hrow := row4 HSW.out.x4 rfl (.slice Ao no co) (.slice Ab nb cb) (.slice Ar nr cr) (.slice Al nl cl)
          have hout := HSW.out.out (.slice Ao no co) (.slice Ab nb cb) (.slice Ar nr cr) (.slice Al nl cl)
          have hbel : Below w.heap.size w ((((wr.setCell ⟨w.heap.size + 1, 0, none⟩ (.slice Ao no co)).setCell ⟨w.heap.size + 1, 1, none⟩ (.slice Ab nb cb)).setCell ⟨w.heap.size + 1, 2, none⟩ (.slice Ar nr cr)).setCell ⟨w.heap.size + 1, 3, none⟩ (.slice Al nl cl)) := by have h := HBL.out; exact bel
          generalize ((((wr.setCell ⟨w.heap.size + 1, 0, none⟩ (.slice Ao no co)).setCell ⟨w.heap.size + 1, 1, none⟩ (.slice Ab nb cb)).setCell ⟨w.heap.size + 1, 2, none⟩ (.slice Ar nr cr)).setCell ⟨w.heap.size + 1, 3, none⟩ (.slice Al nl cl)) = w9 at *
          obtain ⟨u0, u1, u2, u3, -⟩ := four_cells hrow
          refine bodyPost_ret (v := .agg #[.slice Ao no co, .slice Ab nb cb, .slice Ar nr cr, .slice Al nl cl]) (by simp [results, Try.results23, go_sem, u0, u1, u2, u3]) rfl ?_
          rw [HLK2.out] at hout
          have hkl := HLN.out
          have hnl := HNL.out
          rw [HLK2.out] at hnl
          subst hkl
          exact ⟨Ao, Ab, Ar, Al, no, nb, nr, nl, co, cb, cr, cl, Eo, Eb, rfl, hbel, hout, HEO.out, HEB.out, HNO.out, HNB.out, HNR.out, hnl⟩
end Go.Proofs.Ytlkijhcgiilmhaa
