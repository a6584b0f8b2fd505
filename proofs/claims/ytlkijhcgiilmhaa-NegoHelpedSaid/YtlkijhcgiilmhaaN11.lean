/- The reference's Learn: behind a Reject, and behind anything. -/
import Derived.Test.YtlkijhcgiilmhaaN10
namespace Go.Proofs.Ytlkijhcgiilmhaa
open Go.RowKit
set_option linter.unusedSimpArgs false
set_option linter.unusedVariables false
set_option maxHeartbeats 4000000 in
set_option maxRecDepth 100000 in
theorem rlearn_rej (A1 A2 : Option Addr) (n1 n2 c1 c2 : Nat) (E1 E2 : List Ent) (w : World) (B : Nat) (hB : B ≤ w.heap.size) (hA1 : OptsAt w B A1 E1) (hA2 : OptsAt w B A2 E2) (hn1 : n1 = E1.length) (hn2 : n2 = E2.length) (hc1 : n1 ≤ c1) (h0 : 0 < n2) (hl1 : n1 ≤ 1000000) (hl2 : n2 ≤ 1000000) :
    Calls Try.prog 18 #[.slice A1 n1 c1, .int .i64 4, .slice A2 n2 c2] w (RowsR (learnO (E1.map Ent.o) 4 (E2.map Ent.o)).1 (learnO (E1.map Ent.o) 4 (E2.map Ent.o)).2 w) := by
  have HA1 := Lib.hid hA1
  have HA2 := Lib.hid hA2
  have HN1 := Lib.hid hn1
  have HN2 := Lib.hid hn2
  have HB := Lib.hid hB
  have HOL := Lib.hid (show (E1.map Ent.o).length = n1 by simp [hn1])
  have HLL := Lib.hid (show (E2.map Ent.o).length = n2 by simp [hn2])
  clear hA1 hA2 hn1 hn2 hB
  obtain ⟨O, hO⟩ : ∃ O, E1.map Ent.o = O := ⟨_, rfl⟩
  obtain ⟨L, hL⟩ : ∃ L, E2.map Ent.o = L := ⟨_, rfl⟩
  rw [hO, hL]
  rw [hO] at HOL
  rw [hL] at HLL
  have HL := Lib.hid hL
  have HO := Lib.hid hO
  clear hO hL
  have e0 : ((n2 : Int) == 0) = false := by simp; omega
  go_enter Try.func18, Try.ntmps18
  go_wp2_with fail
  go_loopw [8, 12, 13] (fun v l i wr => ∃ (k k2 j c : Nat) (A : Option Addr) (E : List Ent), k ≤ n1 ∧ i = .int .i64 k ∧ l = .int .i64 j ∧ v = .slice A k2 c ∧ E.length = k2 ∧ E.map Ent.o = (rejS (O.take k) L).1 ∧ j = (rejS (O.take k) L).2 ∧ Below w.heap.size w wr ∧ wr.ownsRow w.heap.size 42 2 (.slice A k2 c) k2 (cellsE E) ∧ ∀ e ∈ E, At w B e.a (e.d.map bv) ∧ e.d.length ≤ e.c) (fun _ _ i _ => n1 - (intOf i).toNat)
  case atStart => exact ⟨0, 0, 0, 0, none, [], Nat.zero_le _, rfl, rfl, rfl, rfl, rfl, rfl, Below.refl _ _, own_nil _ _ _ _, fun _ h => by cases h⟩
  case round =>
    obtain ⟨k, k2, j, c, A, E, hk, rfl, rfl, rfl, hEl, hE, hj, hbl, hown, hdat⟩ := hrel
    have HEL := Lib.hid hEl
    have HE := Lib.hid hE
    have HJ := Lib.hid hj
    have HBL := Lib.hid hbl
    have HOW := Lib.hid hown
    have HDAT := Lib.hid hdat
    have hsz := hbl.size
    have HJL := Lib.hid (show j ≤ n2 by have := rej_le (O.take k) L; rw [← hj, HLL.out] at this; exact this)
    have hk2 : k2 ≤ 1000000 := by have h1 := rej_count (O.take k) L; rw [← hE, List.length_map, hEl, List.length_take] at h1; omega
    clear hEl hE hj hbl hown hdat
    by_cases hlt : k < n1
    · have HK := Lib.hid (show k < E1.length by have := HN1.out; omega)
      have HKO := Lib.hid (show k < O.length by have := HOL.out; omega)
      obtain ⟨b, o, rfl, hbB, hx, hy⟩ := (HA1.out.keep (HBL.out.mono HB.out)).get HK.out
      obtain ⟨e0', he0⟩ : ∃ e0, E1[k]'HK.out = e0 := ⟨_, rfl⟩
      have hat := HA1.out.2 _ (List.getElem_mem HK.out)
      have hok : O[k]'(HKO.out) = e0'.o := by
        have h1 : O[k]? = some e0'.o := by rw [← HO.out, List.getElem?_map, List.getElem?_eq_getElem HK.out, he0]; rfl
        rw [List.getElem?_eq_getElem HKO.out] at h1
        simpa using h1
      rw [he0] at hx hy hat
      obtain ⟨t, d, a, ce⟩ := e0'
      have hbz : b < wr.heap.size := by have := HB.out; omega
      have jj0 : (0 : Int) ≤ (k : Int) := by omega
      have jj1 : (k : Int) < (n1 : Int) := by omega
      have HAT := Lib.hid hat
      have HOKK := Lib.hid hok
      unfold Ent.v at hy
      simp only at hx hy hat
      clear hat he0 hok
      rcases Nat.lt_or_ge j n2 with hj2 | hj2
      · have HJE := Lib.hid (show j < E2.length by have := HN2.out; omega)
        obtain ⟨b2, o2, rfl, hb2, hx2, hy2⟩ := (HA2.out.keep (HBL.out.mono HB.out)).get HJE.out
        have hbz2 : b2 < wr.heap.size := by have := HB.out; omega
        have hat2 := HA2.out.2 _ (List.getElem_mem HJE.out)
        obtain ⟨e2, he2⟩ : ∃ e2, E2[j]'HJE.out = e2 := ⟨_, rfl⟩
        have HLJ := Lib.hid (show L[j]? = some e2.o by rw [← HL.out, List.getElem?_map, List.getElem?_eq_getElem HJE.out, he2]; rfl)
        rw [he2] at hx2 hy2 hat2
        obtain ⟨t2, d2, a2, ce2⟩ := e2
        have HAT2 := Lib.hid hat2
        unfold Ent.v at hy2
        simp only at hx2 hy2
        have q0 : (0 : Int) ≤ (j : Int) := by omega
        have q1 : (j : Int) < (n2 : Int) := by omega
        have r1 : ∀ n : Nat, (convert 40 9 (.slice a d.length ce)).run Try.prog (wr.drewN n) = .ok (.string ⟨d.toArray⟩) (wr.drewN n) := fun n => run_str Try.underlying40 Try.underlying5 Try.underlying9 rfl (by rw [At_drewN]; exact HAT.out.1.keep (HBL.out.mono HB.out))
        have r2 : ∀ n : Nat, (convert 40 9 (.slice a2 d2.length ce2)).run Try.prog (wr.drewN n) = .ok (.string ⟨d2.toArray⟩) (wr.drewN n) := fun n => run_str Try.underlying40 Try.underlying5 Try.underlying9 rfl (by rw [At_drewN]; exact HAT2.out.1.keep (HBL.out.mono HB.out))
        clear he2 hat2
        cases ht : (t2 == t)
        · have HNX := Lib.hid (show rejS (O.take (k + 1)) L = ((rejS (O.take k) L).1 ++ [(t, d)], (rejS (O.take k) L).2) by
            rw [rejS_succ HKO.out, HOKK.out]
            unfold rejStep
            rw [if_neg]; · rfl
            rw [← HJ.out, HLJ.out]
            intro e
            simp [Ent.o] at e
            simp at ht
            exact ht e.1)
          clear r1 r2
          go_upto_region 22 with (fail)
          go_quiet (fail)
          go_wp2_with (at_builtin; refine wpList_appv w rfl (.tmp 104) (.tmp 109) 23 rfl 42 Try.underlying23 (.agg #[.int .i64 0, .slice none 0 0]) 2 32 infoOpt rfl (by decide) (by decide) (.slice A k2 c) k2 (cellsE E) rfl (by exact own_below HOW.out (by exact bel)) (wr.heap.size + 1) (some ⟨wr.heap.size, 0, none⟩) 1 1 [.int .i64 t, .slice a d.length ce] rfl rfl (by omega) (by exact At.newN _ _ _ _ _ rfl rfl) (by intro u hu; simp at hu; rcases hu with rfl | rfl <;> rfl) (by have h1 := HBL.out; exact bel) ?_; intro A4 c4 w3 ho3 hc3 hb3 hg3; have HO3 := Lib.hid ho3; have HB3 := Lib.hid hb3; have HG3 := Lib.hid hg3; clear ho3 hc3 hb3 hg3)
          go_roundw
          case rel => exact ⟨k + 1, k2 + 1, j, c4, A4, E ++ [⟨t, d, a, ce⟩], by omega, by go_num, rfl, rfl, by simp [HEL.out], by rw [HNX.out]; simp only; rw [List.map_append, HE.out]; rfl, by rw [HNX.out]; exact HJ.out, HB3.out, by rw [cellsE_snoc]; exact HO3.out, by
            intro e he
            rcases List.mem_append.1 he with he | he
            · exact HDAT.out e he
            · simp only [List.mem_singleton] at he; subst he; exact HAT.out⟩
          case measure => simp [intOf]; omega
        · cases hd : (d2 == d)
          · have HNX := Lib.hid (show rejS (O.take (k + 1)) L = ((rejS (O.take k) L).1 ++ [(t, d)], (rejS (O.take k) L).2) by
              rw [rejS_succ HKO.out, HOKK.out]
              unfold rejStep
              rw [if_neg]; · rfl
              rw [← HJ.out, HLJ.out]
              intro e
              simp [Ent.o] at e
              simp at hd
              exact hd e.2)
            go_upto_region 22 with (fail)
            go_quiet (fail)
            clear r1 r2
            go_wp2_with (at_builtin; refine wpList_appv w rfl (.tmp 104) (.tmp 109) 23 rfl 42 Try.underlying23 (.agg #[.int .i64 0, .slice none 0 0]) 2 32 infoOpt rfl (by decide) (by decide) (.slice A k2 c) k2 (cellsE E) rfl (by exact own_below HOW.out (by exact bel)) (wr.heap.size + 1) (some ⟨wr.heap.size, 0, none⟩) 1 1 [.int .i64 t, .slice a d.length ce] rfl rfl (by omega) (by exact At.newN _ _ _ _ _ rfl rfl) (by intro u hu; simp at hu; rcases hu with rfl | rfl <;> rfl) (by have h1 := HBL.out; exact bel) ?_; intro A4 c4 w3 ho3 hc3 hb3 hg3; have HO3 := Lib.hid ho3; have HB3 := Lib.hid hb3; have HG3 := Lib.hid hg3; clear ho3 hc3 hb3 hg3)
            go_roundw
            case rel => exact ⟨k + 1, k2 + 1, j, c4, A4, E ++ [⟨t, d, a, ce⟩], by omega, by go_num, rfl, rfl, by simp [HEL.out], by rw [HNX.out]; simp only; rw [List.map_append, HE.out]; rfl, by rw [HNX.out]; exact HJ.out, HB3.out, by rw [cellsE_snoc]; exact HO3.out, by
              intro e he
              rcases List.mem_append.1 he with he | he
              · exact HDAT.out e he
              · simp only [List.mem_singleton] at he; subst he; exact HAT.out⟩
            case measure => simp [intOf]; omega
          · have HNX := Lib.hid (show rejS (O.take (k + 1)) L = ((rejS (O.take k) L).1, (rejS (O.take k) L).2 + 1) by
              rw [rejS_succ HKO.out, HOKK.out]
              unfold rejStep
              rw [if_pos]
              rw [← HJ.out, HLJ.out]
              simp [Ent.o]
              simp at hd ht
              exact ⟨ht, hd⟩)
            go_upto_region 22 with (fail)
            go_quiet (fail)
            clear r1 r2
            go_wp2_with fail
            go_roundw
            case rel => exact ⟨k + 1, k2, j + 1, c, A, E, by omega, by go_num, by go_num, rfl, HEL.out, by rw [HNX.out]; exact HE.out, by rw [HNX.out]; show j + 1 = _ + 1; rw [HJ.out], by have := HBL.out; exact bel, HOW.out, HDAT.out⟩
            case measure => simp [intOf]; omega
      · have HNX := Lib.hid (show rejS (O.take (k + 1)) L = ((rejS (O.take k) L).1 ++ [(t, d)], (rejS (O.take k) L).2) by
          rw [rejS_succ HKO.out, HOKK.out]
          unfold rejStep
          rw [if_neg]; · rfl
          rw [List.getElem?_eq_none (by rw [← HJ.out, HLL.out]; exact hj2)]
          simp)
        have hj4 : decide (j < n2) = false := by simp; omega
        go_upto_region 22 with (fail)
        go_quiet (fail)
        go_wp2_with (at_builtin; refine wpList_appv w rfl (.tmp 104) (.tmp 109) 23 rfl 42 Try.underlying23 (.agg #[.int .i64 0, .slice none 0 0]) 2 32 infoOpt rfl (by decide) (by decide) (.slice A k2 c) k2 (cellsE E) rfl (by exact own_below HOW.out (by exact bel)) (wr.heap.size + 1) (some ⟨wr.heap.size, 0, none⟩) 1 1 [.int .i64 t, .slice a d.length ce] rfl rfl (by omega) (by exact At.newN _ _ _ _ _ rfl rfl) (by intro u hu; simp at hu; rcases hu with rfl | rfl <;> rfl) (by have h1 := HBL.out; exact bel) ?_; intro A4 c4 w3 ho3 hc3 hb3 hg3; have HO3 := Lib.hid ho3; have HB3 := Lib.hid hb3; have HG3 := Lib.hid hg3; clear ho3 hc3 hb3 hg3)
        go_roundw
        case rel => exact ⟨k + 1, k2 + 1, j, c4, A4, E ++ [⟨t, d, a, ce⟩], by omega, by go_num, rfl, rfl, by simp [HEL.out], by rw [HNX.out]; simp only; rw [List.map_append, HE.out]; rfl, by rw [HNX.out]; exact HJ.out, HB3.out, by rw [cellsE_snoc]; exact HO3.out, by
          intro e he
          rcases List.mem_append.1 he with he | he
          · exact HDAT.out e he
          · simp only [List.mem_singleton] at he; subst he; exact HAT.out⟩
        case measure => simp [intOf]; omega
    · obtain rfl : k = n1 := by omega
      have hT : O.take k = O := by rw [← HOL.out, List.take_length]
      have HT := Lib.hid hT
      clear hT
      have hL0 : ¬ L.length = 0 := by rw [HLL.out]; omega
      rcases Nat.lt_or_ge j n2 with hj2 | hj2
      · have HR := Lib.hid (show learnO O 4 L = (O, false) by
          unfold learnO; rw [if_neg hL0, if_neg (by decide), if_pos rfl, if_neg (by have := HJ.out; rw [HT.out] at this; rw [← this, HLL.out]; omega)])
        clear hL0
        go_wp2_with fail
        go_ret2
        exact ⟨E1, A1, k, c1, by rw [HR.out]; rfl, by rw [HR.out]; exact HO.out, HN1.out, hc1, HBL.out, (HA1.out.keep (HBL.out.mono HB.out)).more (by have := HB.out; omega)⟩
      · have HR := Lib.hid (show learnO O 4 L = ((rejS O L).1, true) by
          unfold learnO; rw [if_neg hL0, if_neg (by decide), if_pos rfl, if_pos (by have := HJ.out; rw [HT.out] at this; rw [← this, HLL.out]; have := HJL.out; omega)])
        have hj3 : decide (j < n2) = false := by simp; omega
        have hj4 : decide ((j : Int) < (n2 : Int)) = false := by simp; omega
        clear hL0
        go_wp2_with fail
        go_ret2
        obtain ⟨_, _, hq, hkc, -⟩ := ownsRow_form HOW.out
        cases hq
        exact ⟨E, A, k2, c, by rw [HR.out]; rfl, by rw [HR.out]; have h := HE.out; rwa [HT.out] at h, HEL.out.symm, hkc, HBL.out, At.of_own HOW.out, fun e he => ⟨((HDAT.out e he).1.keep (HBL.out.mono HB.out)).more (by have := HB.out; omega), (HDAT.out e he).2⟩⟩
theorem rlearn_any (A1 A2 : Option Addr) (n1 n2 c1 c2 : Nat) (code : Int) (E1 E2 : List Ent) (w : World) (B : Nat) (hB : B ≤ w.heap.size) (hA1 : OptsAt w B A1 E1) (hA2 : OptsAt w B A2 E2) (hn1 : n1 = E1.length) (hn2 : n2 = E2.length) (hc1 : n1 ≤ c1) (hl1 : n1 ≤ 1000000) (hl2 : n2 ≤ 1000000) :
    Calls Try.prog 18 #[.slice A1 n1 c1, .int .i64 code, .slice A2 n2 c2] w (RowsR (learnO (E1.map Ent.o) code (E2.map Ent.o)).1 (learnO (E1.map Ent.o) code (E2.map Ent.o)).2 w) := by
  by_cases h0 : n2 = 0
  · subst h0
    have HR := Lib.hid (show learnO (E1.map Ent.o) code (E2.map Ent.o) = (E1.map Ent.o, false) by unfold learnO; rw [if_pos (by simp; exact List.length_eq_zero_iff.1 hn2.symm)])
    have HA1 := Lib.hid hA1
    have HN1 := Lib.hid hn1
    have HB := Lib.hid hB
    clear hA1 hA2 hn1 hn2 hB
    go_enter Try.func18, Try.ntmps18
    go_wp2
    go_ret2
    exact ⟨E1, A1, n1, c1, by rw [HR.out]; rfl, by rw [HR.out], HN1.out, hc1, Below.refl _ _, HA1.out.more HB.out⟩
  · by_cases h3 : code = 3
    · subst h3
      have HR : learnO (E1.map Ent.o) 3 (E2.map Ent.o) = (nakL (E1.map Ent.o) (E2.map Ent.o), true) := by unfold learnO; rw [if_neg (by simp; intro e; rw [e] at hn2; exact h0 hn2), if_pos rfl]
      rw [HR]
      exact rlearn_nak A1 A2 n1 n2 c1 c2 E1 E2 w B hB hA1 hA2 hn1 hn2 (by omega) hl1 hl2
    · by_cases h4 : code = 4
      · subst h4
        exact rlearn_rej A1 A2 n1 n2 c1 c2 E1 E2 w B hB hA1 hA2 hn1 hn2 hc1 (by omega) hl1 hl2
      · have HR := Lib.hid (show learnO (E1.map Ent.o) code (E2.map Ent.o) = (E1.map Ent.o, false) by unfold learnO; rw [if_neg (by simp; intro e; rw [e] at hn2; exact h0 hn2), if_neg h3, if_neg h4])
        have e0 : ((n2 : Int) == 0) = false := by simp; omega
        have e3 : (code != 3) = true := by simpa using h3
        have e4 : (code != 4) = true := by simpa using h4
        have HA1 := Lib.hid hA1
        have HN1 := Lib.hid hn1
        have HB := Lib.hid hB
        clear hA1 hA2 hn1 hn2 hB h0 h3 h4
        go_enter Try.func18, Try.ntmps18
        go_wp2
        go_ret2
        exact ⟨E1, A1, n1, c1, by rw [HR.out]; rfl, by rw [HR.out], HN1.out, hc1, Below.refl _ _, HA1.out.more HB.out⟩
end Go.Proofs.Ytlkijhcgiilmhaa
