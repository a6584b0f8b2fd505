/- nego.nak: what is asked for behind a Nak. -/
import Derived.Test.YtlkijhcgiilmhaaN5
namespace Go.Proofs.Ytlkijhcgiilmhaa
open Go.RowKit
set_option linter.unusedSimpArgs false
set_option linter.unusedVariables false
/-- What a Nak makes of an option, of a row. -/
def nakO (L : List (Int × List UInt8)) (o : Int × List UInt8) : Int × List UInt8 :=
  match plI L o.1 with
  | some j => (o.1, (L.getD j (0, [])).2)
  | none => o
def nakL (O L : List (Int × List UInt8)) : List (Int × List UInt8) := O.map (nakO L)
theorem nak_len (O L : List (Int × List UInt8)) : (nakL O L).length = O.length := by simp [nakL]
theorem nak_type (L : List (Int × List UInt8)) (o : Int × List UInt8) : (nakO L o).1 = o.1 := by
  unfold nakO; split <;> rfl
theorem set_step {α : Type} (f : α → α) (O : List α) (k : Nat) (hk : k < O.length) : ((O.take k).map f ++ O.drop k).set k (f O[k]) = (O.take (k + 1)).map f ++ O.drop (k + 1) := by
  have hl : ((O.take k).map f).length = k := by simp; omega
  rw [List.set_append_right _ _ (by omega), hl, Nat.sub_self, List.drop_eq_getElem_cons hk, List.set_cons_zero, List.take_succ_eq_append_getElem hk, List.map_append]
  simp
theorem get_step {α : Type} (f : α → α) (O : List α) (k : Nat) (hk : k < O.length) : ((O.take k).map f ++ O.drop k)[k]? = some O[k] := by
  have hl : ((O.take k).map f).length = k := by simp; omega
  rw [List.getElem?_append_right (by omega), hl, Nat.sub_self, List.getElem?_drop]
  simp [hk]
theorem plI_lt {L : List (Int × List UInt8)} {t : Int} {j : Nat} (h : plI L t = some j) : j < L.length := by
  unfold plI at h
  exact (List.findIdx?_eq_some_iff_getElem.1 h).1
theorem cellsE_set : ∀ (E : List Ent) (k : Nat) (hk : k < E.length) (e : Ent), e.t = E[k].t → cellsE (E.set k e) = (cellsE E).set (k * 2 + 1) e.v
  | x :: E, 0, _, e, h => by
    have h' : e.t = x.t := h
    simp [cellsE, h']
  | x :: E, k + 1, hk, e, h => by
    have := cellsE_set E k (by simpa using hk) e (by simpa using h)
    have e1 : ∀ (y : Ent) (F : List Ent), cellsE (y :: F) = .int .i64 y.t :: y.v :: cellsE F := fun _ _ => rfl
    rw [List.set_cons_succ, e1, this, e1, show (k + 1) * 2 + 1 = (k * 2 + 1) + 1 + 1 by omega, List.set_cons_succ, List.set_cons_succ]
/-- An option's data is turned, in a row of one's own. -/
theorem OwnOpts.turned {W : World} {base g n c : Nat} {E : List Ent} {k : Nat} {e : Ent} (h : OwnOpts W base (.slice (some ⟨g, 0, none⟩) n c) E) (hk : k < E.length) (hn : n = E.length) (ht : e.t = E[k].t)
    (h2 : W.ownsRow base 5 1 e.v e.d.length (e.d.map bv)) : OwnOpts (W.setCell ⟨g, k * 2 + 1, none⟩ e.v) base (.slice (some ⟨g, 0, none⟩) n c) (E.set k e) := by
  subst hn
  obtain ⟨g1, g2⟩ := h.1.stored (k * 2 + 1) e.v
  have hr : ∀ r, some g = some r → r < base ∨ (∃ o : Obj, W.heap[r]? = some o ∧ o.isCells = false) ∨ (∃ cur e', W.heap[r]? = some (.cells cur e' (0, 0)) ∧ e' ≠ 5) := fun r e => by
    cases e
    obtain ⟨cur, hc⟩ := own_type h.1 rfl
    exact .inr (.inr ⟨cur, 42, hc, by decide⟩)
  refine ⟨by rw [cellsE_set E k hk e ht, List.length_set]; exact g1, fun x hx => ?_⟩
  rcases List.mem_or_eq_of_mem_set hx with hx | rfl
  · exact own_stays (h.2 x hx) g2 hr
  · exact own_stays h2 g2 hr
theorem OwnOpts.head {W : World} {base n c : Nat} {A : Option Addr} {E : List Ent} (h : OwnOpts W base (.slice A n c) E) {k : Nat} (hk : k < E.length) :
    ∃ g, A = some ⟨g, 0, none⟩ ∧ n = E.length ∧ base ≤ g ∧ g < W.heap.size ∧ W.cell? ⟨g, k * 2, none⟩ = some (.int .i64 E[k].t) ∧ W.cell? ⟨g, k * 2 + 1, none⟩ = some E[k].v ∧ W.frozen? ⟨g, k * 2 + 1, none⟩ = false := by
  have h1 := h.1
  have hlen : n = E.length := by
    obtain ⟨A', c', e, -⟩ := ownsRow_form h1
    cases e; rfl
  subst hlen
  rcases h1.2 with ⟨h', h0⟩ | ⟨g, cap, cur, h', hb, hg, -⟩
  · omega
  · cases h'
    obtain ⟨q0, q1⟩ := cellsE_get E k hk
    refine ⟨g, rfl, rfl, hb, ?_, ?_, ?_, h1.frozenAt _⟩
    · exact own_lt h1 rfl
    · rw [h1.cellAt _ (by omega), show k * 2 = 2 * k by omega]; exact q0
    · rw [h1.cellAt _ (by omega), show k * 2 = 2 * k by omega]; exact q1
set_option maxHeartbeats 1000000 in
theorem nak_any (A1 A2 : Option Addr) (n1 n2 c1 c2 : Nat) (E1 E2 : List Ent) (w : World) (B : Nat) (hB : B ≤ w.heap.size) (hA1 : OptsAt w B A1 E1) (hA2 : OptsAt w B A2 E2) (hn1 : n1 = E1.length) (hn2 : n2 = E2.length) (hl1 : n1 ≤ 1000000) (hl2 : n2 ≤ 1000000) (hd1 : ∀ e ∈ E1, e.d.length ≤ 400000000) (hd2 : ∀ e ∈ E2, e.d.length ≤ 400000000) :
    Calls Try.prog 33 #[.slice A1 n1 c1, .slice A2 n2 c2] w (RowsP (nakL (E1.map Ent.o) (E2.map Ent.o)) w) := by
  have HA1 := Lib.hid hA1
  have HA2 := Lib.hid hA2
  have HN1 := Lib.hid hn1
  have HN2 := Lib.hid hn2
  have HB := Lib.hid hB
  have HD1 := Lib.hid hd1
  have HD2 := Lib.hid hd2
  have HOL := Lib.hid (show (E1.map Ent.o).length = n1 by simp [hn1])
  have HLL := Lib.hid (show (E2.map Ent.o).length = n2 by simp [hn2])
  clear hA1 hA2 hn1 hn2 hB hd1 hd2
  obtain ⟨O, hO⟩ : ∃ O, E1.map Ent.o = O := ⟨_, rfl⟩
  obtain ⟨L, hL⟩ : ∃ L, E2.map Ent.o = L := ⟨_, rfl⟩
  rw [hO, hL]
  rw [hO] at HOL
  rw [hL] at HLL
  have HLE := Lib.hid hL
  go_enter Try.func33, Try.ntmps33
  go_wp2_with fail
  refine (owns_any A1 n1 c1 E1 w B HB.out HA1.out HN1.out hl1 HD1.out).mono ?_
  rw [hO]
  rintro e w0 ⟨E, A, c, rfl, hE, hb, ho⟩
  rw [HOL.out]
  rw [HOL.out] at ho
  have HE0 := Lib.hid hE
  have HB0 := Lib.hid hb
  have HO0 := Lib.hid ho
  have hsz0 := hb.size
  clear hE hb ho hO hL
  go_wp2_with fail
  go_loopw [13] (fun i wr => ∃ (k : Nat) (E : List Ent), k ≤ n1 ∧ i = .int .i64 k ∧ E.map Ent.o = (O.take k).map (nakO L) ++ O.drop k ∧ Below w.heap.size w wr ∧ OwnOpts wr w.heap.size (.slice A n1 c) E) (fun i _ => n1 - (intOf i).toNat)
  case atStart => exact ⟨0, E, Nat.zero_le _, rfl, by simpa using HE0.out, HB0.out, HO0.out⟩
  case round =>
    obtain ⟨k, E, hk, rfl, hE, hbl, hown⟩ := hrel
    have HE := Lib.hid hE
    have HBL := Lib.hid hbl
    have HOW := Lib.hid hown
    have hsz := hbl.size
    have HEL := Lib.hid (show E.length = n1 by have := congrArg List.length hE; simp at this; have h2 := HOL.out; omega)
    clear hE hbl hown
    by_cases hlt : k < n1
    · have HK := Lib.hid (show k < O.length by have := HOL.out; omega)
      have HKE := Lib.hid (show k < E.length by have := HEL.out; omega)
      obtain ⟨g, rfl, -, hg0, hgz, hx, hy, hf⟩ := HOW.out.head HKE.out
      have HG := Lib.hid (show E[k]'(HKE.out) = E[k]'(HKE.out) ∧ (E[k]'(HKE.out)).o = O[k]'(HK.out) by
        refine ⟨rfl, ?_⟩
        have h1 := get_step (nakO L) O k HK.out
        rw [← HE.out, List.getElem?_map, List.getElem?_eq_getElem HKE.out] at h1
        simpa using h1)
      obtain ⟨e0, he0⟩ : ∃ e0, E[k]'HKE.out = e0 := ⟨_, rfl⟩
      rw [he0] at hx hy HG
      have HEK := Lib.hid he0
      obtain ⟨t, d, a, ce⟩ := e0
      unfold Ent.v at hy
      simp only at hx hy
      have jj0 : (0 : Int) ≤ (k : Int) := by omega
      have jj1 : (k : Int) < (n1 : Int) := by omega
      clear he0
      cases hpl : plI L t with
      | none =>
        have HP := Lib.hid hpl
        have HR := Lib.hid (show E.map Ent.o = (O.take (k + 1)).map (nakO L) ++ O.drop (k + 1) by
          have h1 := set_step (nakO L) O k HK.out
          have h2 : nakO L (O[k]'(HK.out)) = O[k]'(HK.out) := by rw [← HG.out.2]; unfold nakO Ent.o; simp only; rw [hpl]
          rw [← h1, h2, ← HE.out, ← HG.out.2, ← HEK.out, ← List.map_set, List.set_getElem_self])
        clear hpl
        go_wp2_with fail
        refine (placed_any A2 n2 c2 E2 t _ B (by have := HB.out; simp; omega) (HA2.out.keep (by have := HB.out; have h := HBL.out.mono this; exact bel)) HN2.out hl2).mono ?_
        rw [HLE.out, HP.out]
        rintro e w1 ⟨rfl, hb⟩; obtain ⟨xs, d, rfl⟩ := ext_of hb; clear hb
        go_wp2_with fail
        go_roundw
        case rel => exact ⟨k + 1, E, by omega, by go_num, HR.out, by have := HBL.out; exact bel, HOW.out.below (by exact bel)⟩
        case measure => simp [intOf]; omega
      | some j =>
        have HP := Lib.hid hpl
        have HJ := Lib.hid (show j < E2.length by have := plI_lt hpl; have h2 := HLL.out; have h3 := HN2.out; omega)
        have hj2 : j < n2 := by have := HJ.out; have := HN2.out; omega
        obtain ⟨b2, o2, rfl, hb2, hx2, hy2⟩ := (HA2.out.keep (HBL.out.mono HB.out)).get HJ.out
        obtain ⟨e2, he2⟩ : ∃ e2, E2[j]'HJ.out = e2 := ⟨_, rfl⟩
        rw [he2] at hx2 hy2
        have hat2 := (HA2.out.keep (HBL.out.mono HB.out)).2 _ (List.getElem_mem HJ.out)
        have hdl := HD2.out _ (List.getElem_mem HJ.out)
        rw [he2] at hat2 hdl
        obtain ⟨t2, d2, a2, ce2⟩ := e2
        unfold Ent.v at hy2
        simp only at hx2 hy2 hat2 hdl
        have HAT := Lib.hid hat2
        have HR := Lib.hid (show ∀ (a3 : Option Addr) (c3 : Nat), (E.set k ⟨t, d2, a3, c3⟩).map Ent.o = (O.take (k + 1)).map (nakO L) ++ O.drop (k + 1) by
          intro a3 c3
          have h1 := set_step (nakO L) O k HK.out
          have h2 : nakO L (O[k]'(HK.out)) = (t, d2) := by
            rw [← HG.out.2]; unfold nakO Ent.o; simp only; rw [hpl]
            have h3 : L.getD j (0, []) = (t2, d2) := by
              rw [← HLE.out, List.getD_eq_getElem?_getD, List.getElem?_map, List.getElem?_eq_getElem HJ.out, he2]; rfl
            simp only [h3]
          rw [← h1, h2, ← HE.out, List.map_set]; rfl)
        have HT := Lib.hid (show t = (E[k]'HKE.out).t by rw [HEK.out])
        have z2 : b2 < wr.heap.size := by have := HB.out; omega
        have q0 : (0 : Int) ≤ (j : Int) := by omega
        have q1 : (j : Int) < (n2 : Int) := by omega
        clear hpl he2 hat2
        go_wp2_with fail
        refine (placed_any _ n2 c2 E2 t _ B (by have := HB.out; simp; omega) (HA2.out.keep (by have := HB.out; have h := HBL.out.mono this; exact bel)) HN2.out hl2).mono ?_
        rw [HLE.out, HP.out]
        rintro e w1 ⟨rfl, hb⟩; obtain ⟨xs, d, rfl⟩ := ext_of hb; clear hb
        unfold plV
        go_wp2_with fail
        refine (clone_any a2 d2.length ce2 d2 _ B (by have := HB.out; simp [size_ext, grow]; omega) (HAT.out.1.keep (by have := HB.out; exact bel)) rfl hdl HAT.out.2).mono ?_
        rintro e w2 ⟨v, rfl, hb, ho⟩
        obtain ⟨A3, c3, rfl, -, -⟩ := ownsRow_form ho
        obtain ⟨ys, dr, rfl⟩ := ext_of hb
        have HO := Lib.hid ho
        clear hb ho
        go_wp2_with fail
        go_roundw
        case rel =>
          have e9 : ∀ (o : Obj) (v : Value), (ext (ext (wr.alloc o) xs d) ys dr).setCell ⟨g, k * 2 + 1, none⟩ v = ext (ext ((wr.setCell ⟨g, k * 2 + 1, none⟩ v).alloc o) xs d) ys dr := fun o v => by
            have : g < grow (wr.heap.size + 1) xs := by simp only [grow]; omega
            simp [go_sem, hgz, this]
          refine ⟨k + 1, _, by omega, by go_num, HR.out A3 c3, ?_, ?_⟩
          · have := HBL.out; exact bel
          · rw [← e9]
            refine OwnOpts.turned (e := ⟨t, d2, A3, c3⟩) (by exact HOW.out.below (by exact bel)) HKE.out HEL.out.symm HT.out ?_
            exact own_base HO.out (by simp [size_ext, grow]; omega)
        case measure => simp [intOf]; omega
    · obtain rfl : k = n1 := by omega
      go_wp2_with fail
      go_ret
      have h := HE.out
      rw [← HOL.out, List.take_length, List.drop_length, List.append_nil] at h
      refine ⟨E, A, c, ?_, h, HBL.out, ?_⟩
      · rw [nak_len, HOL.out]; rfl
      · rw [nak_len, HOL.out]; exact HOW.out
end Go.Proofs.Ytlkijhcgiilmhaa
