/- The reference's Learn: behind a Nak. -/
import Derived.Test.YtlkijhcgiilmhaaN9
import Derived.Laws.Rows
namespace Go.Proofs.Ytlkijhcgiilmhaa
open Go.RowKit
set_option linter.unusedSimpArgs false
set_option linter.unusedVariables false
/-- Options told that can be read, and a Bool. -/
def RowsR (L : List Opt) (b : Bool) (w : World) (x : Ending) (w' : World) : Prop :=
  ∃ (E : List Ent) (A : Option Addr) (n c : Nat), x = .returned (.tuple #[.slice A n c, .bool b]) ∧ E.map Ent.o = L ∧ n = E.length ∧ n ≤ c ∧ Below w.heap.size w w' ∧ OptsAt w' w'.heap.size A E
theorem nakO_nil (o : Opt) : nakO [] o = o := rfl
theorem nakO_drop {L : List Opt} {j : Nat} (hj : j < L.length) (o : Opt) : nakO (L.drop j) o = if L[j].1 = o.1 then (o.1, L[j].2) else nakO (L.drop (j + 1)) o := by
  rw [List.drop_eq_getElem_cons hj]
  unfold nakO plI
  rw [List.findIdx?_cons]
  by_cases h : L[j].1 = o.1
  · simp [h, hj]
  · have h2 : (L[j].1 == o.1) = false := by simpa using h
    simp only [h2, if_neg h]
    cases List.findIdx? (fun e => e.1 == o.1) (L.drop (j + 1)) with
    | none => simp
    | some i => simp [show j + (i + 1) = j + 1 + i by omega]
theorem two_cells {W : World} {X : Nat} {t : Int} {v : Value} (h : W.heap[X]? = some (.cells #[.int .i64 t, v] 42 (0, 0))) : W.cell? ⟨X, 0, none⟩ = some (.int .i64 t) ∧ W.cell? ⟨X, 1, none⟩ = some v ∧ W.frozen? ⟨X, 1, none⟩ = false ∧ X < W.heap.size := by
  refine ⟨?_, ?_, frozen_of_row W X 1 _ _ h, ?_⟩
  · rw [cell_of_row W X 0 _ _ _ h]; rfl
  · rw [cell_of_row W X 1 _ _ _ h]; rfl
  · rw [Array.getElem?_eq_some_iff] at h; exact h.1
theorem map_take_snoc {α β : Type} (f : α → β) (O : List α) (k : Nat) (hk : k < O.length) : (O.take (k + 1)).map f = (O.take k).map f ++ [f O[k]] := by
  rw [List.take_succ_eq_append_getElem hk, List.map_append]; rfl
set_option maxHeartbeats 2000000 in
theorem rlearn_nak (A1 A2 : Option Addr) (n1 n2 c1 c2 : Nat) (E1 E2 : List Ent) (w : World) (B : Nat) (hB : B ≤ w.heap.size) (hA1 : OptsAt w B A1 E1) (hA2 : OptsAt w B A2 E2) (hn1 : n1 = E1.length) (hn2 : n2 = E2.length) (h0 : 0 < n2) (hl1 : n1 ≤ 1000000) (hl2 : n2 ≤ 1000000) :
    Calls Try.prog 18 #[.slice A1 n1 c1, .int .i64 3, .slice A2 n2 c2] w (RowsR (nakL (E1.map Ent.o) (E2.map Ent.o)) true w) := by
  have HA1 := Lib.hid hA1
  have HA2 := Lib.hid hA2
  have HN1 := Lib.hid hn1
  have HN2 := Lib.hid hn2
  have HB := Lib.hid hB
  have HOL := Lib.hid (show (E1.map Ent.o).length = n1 by simp [hn1])
  have HLL := Lib.hid (show (E2.map Ent.o).length = n2 by simp [hn2])
  clear hA1 hA2 hn1 hn2 hB
  obtain ⟨O, hO⟩ : ∃ O, E1.map Ent.o = O := ⟨_, rfl⟩
  obtain ⟨L, hL⟩ : ∃ L, E2.map Ent.o = L := ⟨_, rfl⟩
  rw [hO, hL]
  rw [hO] at HOL
  rw [hL] at HLL
  have HL := Lib.hid hL
  have HO := Lib.hid hO
  clear hO hL
  have e0 : ((n2 : Int) == 0) = false := by simp; omega
  go_enter Try.func18, Try.ntmps18
  go_wp2_with fail
  go_loopw [8, 9] (fun v i wr => ∃ (k c : Nat) (A : Option Addr) (E : List Ent), k ≤ n1 ∧ i = .int .i64 k ∧ v = .slice A k c ∧ E.length = k ∧ E.map Ent.o = (O.take k).map (nakO L) ∧ Below w.heap.size w wr ∧ wr.ownsRow w.heap.size 42 2 (.slice A k c) k (cellsE E) ∧ ∀ e ∈ E, At w B e.a (e.d.map bv) ∧ e.d.length ≤ e.c) (fun _ i _ => n1 - (intOf i).toNat)
  case atStart => exact ⟨0, 0, none, [], Nat.zero_le _, rfl, rfl, rfl, rfl, Below.refl _ _, own_nil _ _ _ _, fun _ h => by cases h⟩
  case round =>
    obtain ⟨k, c, A, E, hk, rfl, rfl, hEl, hE, hbl, hown, hdat⟩ := hrel
    have HEL := Lib.hid hEl
    have HE := Lib.hid hE
    have HBL := Lib.hid hbl
    have HOW := Lib.hid hown
    have HDAT := Lib.hid hdat
    have hszo := hbl.size
    clear hEl hE hbl hown hdat
    by_cases hlt : k < n1
    · have HK := Lib.hid (show k < E1.length by have := HN1.out; omega)
      have HKO := Lib.hid (show k < O.length by have := HOL.out; omega)
      obtain ⟨b, o, rfl, hbB, hx, hy⟩ := (HA1.out.keep (HBL.out.mono HB.out)).get HK.out
      obtain ⟨e0', he0⟩ : ∃ e0, E1[k]'HK.out = e0 := ⟨_, rfl⟩
      have hat := HA1.out.2 _ (List.getElem_mem HK.out)
      have hok : O[k]'(HKO.out) = e0'.o := by
        have h1 : O[k]? = some e0'.o := by rw [← HO.out, List.getElem?_map, List.getElem?_eq_getElem HK.out, he0]; rfl
        rw [List.getElem?_eq_getElem HKO.out] at h1
        simpa using h1
      rw [he0] at hx hy hat
      obtain ⟨t, d, a, ce⟩ := e0'
      have hbz : b < wr.heap.size := by have := HB.out; omega
      have jj0 : (0 : Int) ≤ (k : Int) := by omega
      have jj1 : (k : Int) < (n1 : Int) := by omega
      have HAT := Lib.hid hat
      have HOKK := Lib.hid hok
      unfold Ent.v at hy
      simp only at hx hy hat
      clear hat he0 hok
      go_wp2_with fail
      obtain ⟨wo, hwo⟩ : ∃ wo : World, wo = wr := ⟨_, rfl⟩
      rw [← hwo] at HBL HOW hszo hx hy hbz ⊢
      clear hwo
      go_loopw [11] (fun i wi => ∃ (j : Nat) (q : Int) (e : Ent), j ≤ n2 ∧ i = .int .i64 q ∧ q = (j : Int) - 1 ∧ e.t = t ∧ e.o = nakO (L.drop j) (t, d) ∧ At w B e.a (e.d.map bv) ∧ e.d.length ≤ e.c ∧ Below wo.heap.size wo wi ∧ wi.heap[wo.heap.size]? = some (.cells #[.int .i64 t, .slice e.a e.d.length e.c] 42 (0, 0))) (fun i _ => (intOf i + 1).toNat)
      case atStart => exact ⟨n2, _, ⟨t, d, a, ce⟩, Nat.le_refl _, rfl, by go_num, rfl, by rw [List.drop_eq_nil_iff.2 (by rw [HLL.out]; exact Nat.le_refl _)]; rfl, HAT.out.1, HAT.out.2, by exact bel, by rw [heap_alloc_new]⟩
      case round =>
        obtain ⟨j, q, e, hj, rfl, hq, het, heo, hea, hec, hbi, hbox⟩ := hrel
        obtain ⟨t', d', a', ce'⟩ := e
        simp only at het heo hea hec hbox
        subst het
        have HEO := Lib.hid heo
        have HEA := Lib.hid (And.intro hea hec)
        have HBI := Lib.hid hbi
        have HBOX := Lib.hid hbox
        obtain ⟨g0, g1, g2, g3⟩ := two_cells hbox
        have hszi := hbi.size
        clear heo hea hec hbi hbox
        cases j with
        | zero =>
          obtain rfl : q = -1 := by omega
          clear hq
          go_wp2_with (at_builtin; refine wpList_appv w rfl (.tmp 59) (.tmp 61) 23 rfl 42 Try.underlying23 (.agg #[.int .i64 0, .slice none 0 0]) 2 32 infoOpt rfl (by decide) (by decide) (.slice A k c) k (cellsE E) rfl (by exact own_below (own_below HOW.out HBI.out) (by exact bel)) (wr.heap.size + 1) (some ⟨wr.heap.size, 0, none⟩) 1 1 [.int .i64 t', .slice a' d'.length ce'] rfl rfl (by omega) (by exact At.newN _ _ _ _ _ rfl rfl) (by intro u hu; simp at hu; rcases hu with rfl | rfl <;> rfl) (by have h1 := HBL.out.trans (HBI.out.mono hszo); exact bel) ?_; intro A4 c4 w3 ho3 hc3 hb3 hg3; have HO3 := Lib.hid ho3; have HB3 := Lib.hid hb3; have HG3 := Lib.hid hg3; clear ho3 hc3 hb3 hg3)
          go_roundw
          case rel => exact ⟨k + 1, c4, A4, E ++ [⟨t', d', a', ce'⟩], by omega, by go_num, rfl, by simp [HEL.out], by rw [List.map_append, HE.out, map_take_snoc _ _ _ HKO.out, HOKK.out]; have := HEO.out; simp only [List.drop_zero] at this; rw [List.map_cons, List.map_nil, this]; rfl, HB3.out, by rw [cellsE_snoc]; exact HO3.out, by
            intro e he
            rcases List.mem_append.1 he with he | he
            · exact HDAT.out e he
            · simp only [List.mem_singleton] at he; subst he; exact HEA.out⟩
          case measure => simp [intOf]; omega
        | succ j =>
          obtain rfl : q = (j : Int) := by omega
          clear hq
          have HJ := Lib.hid (show j < E2.length by have := HN2.out; omega)
          have HJL := Lib.hid (show j < L.length by have := HLL.out; omega)
          obtain ⟨b2, o2, rfl, hb2, hx2, hy2⟩ := (HA2.out.keep (HBL.out.mono HB.out)).get HJ.out
          have hbz2 : b2 < wo.heap.size := by have := HB.out; omega
          rw [← HBI.out.cell (p := ⟨b2, _, none⟩) hbz2] at hx2 hy2
          have hat2 := HA2.out.2 _ (List.getElem_mem HJ.out)
          obtain ⟨e2, he2⟩ : ∃ e2, E2[j]'HJ.out = e2 := ⟨_, rfl⟩
          have hlj : L[j]'(HJL.out) = e2.o := by
            have h1 : L[j]? = some e2.o := by rw [← HL.out, List.getElem?_map, List.getElem?_eq_getElem HJ.out, he2]; rfl
            rw [List.getElem?_eq_getElem HJL.out] at h1
            simpa using h1
          rw [he2] at hx2 hy2 hat2
          obtain ⟨t2, d2, a2, ce2⟩ := e2
          have HAT2 := Lib.hid hat2
          have HLJ := Lib.hid hlj
          unfold Ent.v at hy2
          simp only at hx2 hy2
          have q0 : (0 : Int) ≤ (j : Int) := by omega
          have q1 : (j : Int) < (n2 : Int) := by omega
          clear he2 hat2 hlj
          cases ht : (t2 == t')
          · have HNX := Lib.hid (show nakO (L.drop (j + 1)) (t', d) = nakO (L.drop j) (t', d) by rw [nakO_drop HJL.out, HLJ.out, if_neg (by simpa [Ent.o] using ht)])
            go_upto_region 13 with (fail)
            go_quiet (fail)
            go_wp2_with fail
            go_roundw
            case rel => exact ⟨j, _, ⟨t', d', a', ce'⟩, by omega, rfl, by go_num, rfl, by rw [← HNX.out]; exact HEO.out, HEA.out.1, HEA.out.2, by have := HBI.out; exact bel, by exact HBOX.out⟩
            case measure => simp [intOf] <;> omega
          · have HNX := Lib.hid (show nakO (L.drop j) (t', d) = (t', d2) by rw [nakO_drop HJL.out, HLJ.out, if_pos (by simpa [Ent.o] using ht)]; rfl)
            go_upto_region 13 with (fail)
            go_quiet (fail)
            go_wp2_with fail
            go_roundw
            case rel => exact ⟨j, _, ⟨t', d2, a2, ce2⟩, by omega, rfl, by go_num, rfl, by rw [HNX.out]; rfl, HAT2.out.1, HAT2.out.2, by have := HBI.out; exact bel, by exact (heap_setCell_same _ _ 1 _ _ _ HBOX.out)⟩
            case measure => simp [intOf] <;> omega
    · obtain rfl : k = n1 := by omega
      go_wp2_with fail
      go_ret2
      have h := HE.out
      rw [← HOL.out, List.take_length] at h
      obtain ⟨_, _, hq, hkc, -⟩ := ownsRow_form HOW.out
      cases hq
      exact ⟨E, A, k, c, rfl, h, HEL.out.symm, hkc, HBL.out, At.of_own HOW.out, fun e he => ⟨((HDAT.out e he).1.keep (HBL.out.mono HB.out)).more (by have := HB.out; omega), (HDAT.out e he).2⟩⟩
end Go.Proofs.Ytlkijhcgiilmhaa
