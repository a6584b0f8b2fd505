/- nego.rej: what is asked for behind a Reject. -/
import Derived.Test.YtlkijhcgiilmhaaN6
namespace Go.Proofs.Ytlkijhcgiilmhaa
open Go.RowKit
set_option linter.unusedSimpArgs false
set_option linter.unusedVariables false
abbrev Opt := Int × List UInt8
def rejStep (L : List Opt) (s : List Opt × Nat) (o : Opt) : List Opt × Nat := if L[s.2]? = some o then (s.1, s.2 + 1) else (s.1 ++ [o], s.2)
def rejS (O L : List Opt) : List Opt × Nat := O.foldl (rejStep L) ([], 0)
theorem rejS_succ {O L : List Opt} {k : Nat} (hk : k < O.length) : rejS (O.take (k + 1)) L = rejStep L (rejS (O.take k) L) O[k] := by
  unfold rejS
  rw [List.take_succ_eq_append_getElem hk, List.foldl_append]; rfl
theorem rej_le (O L : List Opt) : (rejS O L).2 ≤ L.length := by
  unfold rejS
  have : ∀ (O : List Opt) (s : List Opt × Nat), s.2 ≤ L.length → (O.foldl (rejStep L) s).2 ≤ L.length := by
    intro O
    induction O with
    | nil => intro s h; exact h
    | cons o O ih =>
      intro s h
      rw [List.foldl_cons]
      apply ih
      unfold rejStep
      split
      · rename_i h2
        have := (List.getElem?_eq_some_iff.1 h2).1
        simp only; omega
      · exact h
  exact this O _ (Nat.zero_le _)
theorem rej_count (O L : List Opt) : (rejS O L).1.length + (rejS O L).2 = O.length := by
  unfold rejS
  have : ∀ (O : List Opt) (s : List Opt × Nat), (O.foldl (rejStep L) s).1.length + (O.foldl (rejStep L) s).2 = s.1.length + s.2 + O.length := by
    intro O
    induction O with
    | nil => intro s; simp
    | cons o O ih =>
      intro s
      rw [List.foldl_cons, ih]
      unfold rejStep
      split <;> simp <;> omega
  have := this O ([], 0)
  simpa using this
/-- Options told, and a Bool. -/
def RowsB (L : List Opt) (b : Bool) (w : World) (x : Ending) (w' : World) : Prop :=
  ∃ (E : List Ent) (A : Option Addr) (c : Nat), x = .returned (.tuple #[.slice A L.length c, .bool b]) ∧ E.map Ent.o = L ∧ Below w.heap.size w w' ∧ OwnOpts w' w.heap.size (.slice A L.length c) E
theorem OptsAt.tail {W : World} {B b o : Nat} {E : List Ent} {j : Nat} (h : OptsAt W B (some ⟨b, o, none⟩) (E.drop j)) : OptsAt W B (some ⟨b, o + 2, none⟩) (E.drop (j + 1)) := by
  refine ⟨?_, fun e he => h.2 e ?_⟩
  · rcases h.1 with h0 | ⟨b', o', e, hb, hc⟩
    · refine .inl ?_
      have := congrArg List.length h0
      rw [cellsE_len] at this
      have h2 : E.drop (j + 1) = [] := by
        rw [List.drop_eq_nil_iff]; simp at this; omega
      rw [h2]; rfl
    · cases e
      refine .inr ⟨b, o + 2, rfl, hb, fun i u hu => ?_⟩
      have := hc (i + 2) u (by
        by_cases hj : j < E.length
        · rw [List.drop_eq_getElem_cons hj]
          have e1 : ∀ (y : Ent) (F : List Ent), cellsE (y :: F) = .int .i64 y.t :: y.v :: cellsE F := fun _ _ => rfl
          rw [e1]
          simpa using hu
        · rw [List.drop_eq_nil_iff.2 (by omega)] at hu; simp [cellsE] at hu)
      rwa [show o + (i + 2) = o + 2 + i by omega] at this
  · rw [← List.drop_drop] at he
    exact List.mem_of_mem_drop he
theorem OptsAt.none {W : World} {B : Nat} {A : Option Addr} {E : List Ent} {j : Nat} (h : E.length ≤ j) : OptsAt W B A (E.drop j) := by
  rw [List.drop_eq_nil_iff.2 h]
  exact ⟨At.nil _ _ _, fun _ h => by cases h⟩
theorem drop_get {α : Type} {E : List α} {j : Nat} (h : 0 < (E.drop j).length) : j < E.length := by simp at h; omega
set_option maxHeartbeats 2000000 in
theorem rej_any (A1 A0 : Option Addr) (n1 n2 c1 c0 : Nat) (E1 EL : List Ent) (w : World) (B : Nat) (hB : B ≤ w.heap.size) (hA1 : OptsAt w B A1 E1) (hA0 : OptsAt w B A0 EL) (hn1 : n1 = E1.length) (hn2 : n2 = EL.length) (hc0 : n2 ≤ c0) (hl1 : n1 ≤ 1000000) (hl2 : n2 ≤ 1000000) (hd1 : ∀ e ∈ E1, e.d.length ≤ 1000000) (hd2 : ∀ e ∈ EL, e.d.length ≤ 1000000) :
    Calls Try.prog 34 #[.slice A1 n1 c1, .slice A0 n2 c0] w (RowsB (rejS (E1.map Ent.o) (EL.map Ent.o)).1 (decide ((rejS (E1.map Ent.o) (EL.map Ent.o)).2 = EL.length)) w) := by
  have HA1 := Lib.hid hA1
  have HA0 := Lib.hid hA0
  have HN1 := Lib.hid hn1
  have HN2 := Lib.hid hn2
  have HB := Lib.hid hB
  have HD1 := Lib.hid hd1
  have HD2 := Lib.hid hd2
  have HOL := Lib.hid (show (E1.map Ent.o).length = n1 by simp [hn1])
  have HLL := Lib.hid (show (EL.map Ent.o).length = n2 by simp [hn2])
  clear hA1 hA0 hn1 hn2 hB hd1 hd2
  obtain ⟨O, hO⟩ : ∃ O, E1.map Ent.o = O := ⟨_, rfl⟩
  obtain ⟨L, hL⟩ : ∃ L, EL.map Ent.o = L := ⟨_, rfl⟩
  rw [hO, hL]
  rw [hO] at HOL
  rw [hL] at HLL
  have HLE := Lib.hid hL
  have HOE1 := Lib.hid hO
  clear hO hL
  go_enter Try.func34, Try.ntmps34
  go_wp2_with fail
  go_loopw [1, 6, 11] (fun l v i wr => ∃ (k j k2 c2 : Nat) (A2 : Option Addr) (E2 : List Ent) (m c' : Nat) (AL : Option Addr), k ≤ n1 ∧ i = .int .i64 k ∧ v = .slice A2 k2 c2 ∧ l = .slice AL m c' ∧ E2.map Ent.o = (rejS (O.take k) L).1 ∧ j = (rejS (O.take k) L).2 ∧ (m = n2 - j ∧ m ≤ c') ∧ E2.length = k2 ∧ Below w.heap.size w wr ∧ OwnOpts wr w.heap.size (.slice A2 k2 c2) E2 ∧ OptsAt w B AL (EL.drop j)) (fun _ _ i _ => n1 - (intOf i).toNat)
  case atStart => exact ⟨0, 0, 0, 0, none, [], n2, c0, A0, Nat.zero_le _, rfl, rfl, rfl, rfl, rfl, ⟨rfl, hc0⟩, rfl, Below.refl _ _, OwnOpts.nil _ _, HA0.out⟩
  case round =>
    obtain ⟨k, j, k2, c2, A2, E2, m, c', AL, hk, rfl, rfl, rfl, hE2, hj, hm, hl, hbl, hown, hal⟩ := hrel
    have HE2 := Lib.hid hE2
    have HJ := Lib.hid hj
    have HM := Lib.hid hm
    have HBL := Lib.hid hbl
    have HOW := Lib.hid hown
    have HAL := Lib.hid hal
    have HL2 := Lib.hid hl
    have hsz := hbl.size
    have hmc := hm.2
    have HJL := Lib.hid (show j ≤ n2 by have := rej_le (O.take k) L; rw [← hj, HLL.out] at this; exact this)
    have HK2 := Lib.hid (show k2 ≤ k by have h1 := rej_count (O.take k) L; rw [← hE2, List.length_map, hl, List.length_take] at h1; omega)
    have hk2 : k2 ≤ 1000000 := by have := HK2.out; omega
    have hm2 : m ≤ 1000000 := by have := hm.1; omega
    clear hE2 hj hm hbl hown hal hl
    by_cases hlt : k < n1
    · have HK := Lib.hid (show k < E1.length by have := HN1.out; omega)
      have HKO := Lib.hid (show k < O.length by have := HOL.out; omega)
      have HOK := Lib.hid (show wr.ownsRow w.heap.size 42 2 (.slice A2 k2 c2) k2 (cellsE E2) by have h := HOW.out.1; rwa [HL2.out] at h)
      obtain ⟨b, o, rfl, hbB, hx, hy⟩ := (HA1.out.keep (HBL.out.mono HB.out)).get HK.out
      obtain ⟨e0, he0⟩ : ∃ e0, E1[k]'HK.out = e0 := ⟨_, rfl⟩
      have hat := (HA1.out.keep (HBL.out.mono HB.out)).2 _ (List.getElem_mem HK.out)
      have hdl := HD1.out _ (List.getElem_mem HK.out)
      have hok : O[k]'(HKO.out) = e0.o := by
        have h1 : O[k]? = some e0.o := by rw [← HOE1.out, List.getElem?_map, List.getElem?_eq_getElem HK.out, he0]; rfl
        rw [List.getElem?_eq_getElem HKO.out] at h1
        simpa using h1
      rw [he0] at hx hy hat hdl
      obtain ⟨t, d, a, ce⟩ := e0
      have hbz : b < wr.heap.size := by have := HB.out; omega
      have jj0 : (0 : Int) ≤ (k : Int) := by omega
      have jj1 : (k : Int) < (n1 : Int) := by omega
      have HAT := Lib.hid hat
      have HOKK := Lib.hid hok
      unfold Ent.v at hy
      simp only at hx hy hdl hat
      clear hat he0 hok
      have hdl4 : d.length ≤ 400000000 := by omega
      rcases Nat.eq_zero_or_pos m with hm0 | hm0
      · subst hm0
        have HNX := Lib.hid (show rejS (O.take (k + 1)) L = ((rejS (O.take k) L).1 ++ [(t, d)], (rejS (O.take k) L).2) by
          rw [rejS_succ HKO.out, HOKK.out]
          unfold rejStep
          rw [if_neg]; · rfl
          rw [List.getElem?_eq_none (by rw [← HJ.out, HLL.out]; have := HM.out.1; have := HJL.out; omega)]
          simp)
        go_upto_region 7 with (fail)
        go_quiet (fail)
        go_wp2_with fail
        refine (own_any t a d.length ce d _ B (by have := HB.out; simp [size_ext, grow]; omega) (by exact HAT.out.1.keep (by have := HB.out; exact bel)) rfl hdl4 HAT.out.2).mono ?_
        rintro e w2 ⟨A3, c3, rfl, hb, ho⟩
        have HB2 := Lib.hid (show Below wr.heap.size wr w2 from Below.trans (by exact bel) (hb.mono (by simp [size_ext, grow] <;> omega)))
        have HO2 := Lib.hid (own_base (base' := w.heap.size) ho (by simp [size_ext, grow]; omega))
        have hsz2 := HB2.out.size
        clear hb ho
        go_wp2_with (at_builtin; refine wpList_appv w rfl (.tmp 38) (.tmp 41) 23 rfl 42 Try.underlying23 (.agg #[.int .i64 0, .slice none 0 0]) 2 32 infoOpt rfl (by decide) (by decide) (.slice A2 k2 c2) k2 (cellsE E2) rfl (by exact own_below HOK.out (by have := HB2.out; exact bel)) (w2.heap.size + 1) (some ⟨w2.heap.size, 0, none⟩) 1 1 [.int .i64 t, .slice A3 d.length c3] rfl rfl (by omega) (by exact At.newN _ _ _ _ _ rfl rfl) (by intro u hu; simp at hu; rcases hu with rfl | rfl <;> rfl) (by have h1 := HBL.out; have h2 := HB2.out; exact bel) ?_; intro A4 c4 w3 ho3 hc3 hb3 hg3; have HO3 := Lib.hid ho3; have HB3 := Lib.hid hb3; have HG3 := Lib.hid hg3; clear ho3 hc3 hb3 hg3)
        have HOE := Lib.hid (OwnOpts.pushed (tt := t) (dd := d) (A2 := A3) (c2 := c3) (HOW.out.below (HB2.out.trans (Below.alloc (Below.refl _ w2) hsz2 _))) (own_below HO2.out (Below.alloc (Below.refl _ w2) (Nat.le_refl _) _)) (by rw [HL2.out]; exact HO3.out) HG3.out)
        go_roundw
        case rel => exact ⟨k + 1, j, k2 + 1, c4, A4, _, _, c', _, by omega, by go_num, rfl, rfl, by rw [HNX.out]; simp only; rw [List.map_append, HE2.out]; rfl, by rw [HNX.out]; exact HJ.out, HM.out, by simp [HL2.out], HB3.out, HOE.out, HAL.out⟩
        case measure => simp [intOf]; omega
      · have HLD := Lib.hid (show 0 < (EL.drop j).length by have := HM.out.1; have := HN2.out; simp; omega)
        have HJE := Lib.hid (drop_get HLD.out)
        obtain ⟨b2, o2, rfl, hb2, hx2, hy2⟩ := (HAL.out.keep (HBL.out.mono HB.out)).get HLD.out
        have hat2 := (HAL.out.keep (HBL.out.mono HB.out)).2 _ (List.getElem_mem HLD.out)
        have hdl2 := HD2.out _ (List.mem_of_mem_drop (List.getElem_mem HLD.out))
        obtain ⟨e2, he2⟩ : ∃ e2, (EL.drop j)[0]'HLD.out = e2 := ⟨_, rfl⟩
        have HLJ := Lib.hid (show L[j]? = some e2.o by
          rw [← HLE.out, List.getElem?_map, List.getElem?_eq_getElem HJE.out, ← he2]; simp)
        rw [he2] at hx2 hy2 hat2 hdl2
        obtain ⟨t2, d2, a2, ce2⟩ := e2
        unfold Ent.v at hy2
        simp only at hx2 hy2 hat2 hdl2
        rw [show o2 + 0 * 2 = o2 by omega] at hx2 hy2
        have HAT2 := Lib.hid hat2
        have z2 : b2 < wr.heap.size := by have := HB.out; omega
        have mm0 : (0 : Int) < (m : Int) := by omega
        have mm1 : (1 : Int) ≤ (m : Int) := by omega
        clear he2 hat2
        cases ht : (t == t2)
        · have HNX := Lib.hid (show rejS (O.take (k + 1)) L = ((rejS (O.take k) L).1 ++ [(t, d)], (rejS (O.take k) L).2) by
            rw [rejS_succ HKO.out, HOKK.out]
            unfold rejStep
            rw [if_neg]; · rfl
            rw [← HJ.out, HLJ.out]
            intro e
            simp [Ent.o] at e
            simp at ht
            exact ht e.1.symm)
          go_upto_region 7 with (fail)
          go_quiet (fail)
          go_wp2_with fail
          refine (own_any t a d.length ce d _ B (by have := HB.out; simp [size_ext, grow]; omega) (by exact HAT.out.1.keep (by have := HB.out; exact bel)) rfl hdl4 HAT.out.2).mono ?_
          rintro e w2 ⟨A3, c3, rfl, hb, ho⟩
          have HB2 := Lib.hid (show Below wr.heap.size wr w2 from Below.trans (by exact bel) (hb.mono (by simp [size_ext, grow] <;> omega)))
          have HO2 := Lib.hid (own_base (base' := w.heap.size) ho (by simp [size_ext, grow]; omega))
          have hsz2 := HB2.out.size
          clear hb ho
          go_wp2_with (at_builtin; refine wpList_appv w rfl (.tmp 38) (.tmp 41) 23 rfl 42 Try.underlying23 (.agg #[.int .i64 0, .slice none 0 0]) 2 32 infoOpt rfl (by decide) (by decide) (.slice A2 k2 c2) k2 (cellsE E2) rfl (by exact own_below HOK.out (by have := HB2.out; exact bel)) (w2.heap.size + 1) (some ⟨w2.heap.size, 0, none⟩) 1 1 [.int .i64 t, .slice A3 d.length c3] rfl rfl (by omega) (by exact At.newN _ _ _ _ _ rfl rfl) (by intro u hu; simp at hu; rcases hu with rfl | rfl <;> rfl) (by have h1 := HBL.out; have h2 := HB2.out; exact bel) ?_; intro A4 c4 w3 ho3 hc3 hb3 hg3; have HO3 := Lib.hid ho3; have HB3 := Lib.hid hb3; have HG3 := Lib.hid hg3; clear ho3 hc3 hb3 hg3)
          have HOE := Lib.hid (OwnOpts.pushed (tt := t) (dd := d) (A2 := A3) (c2 := c3) (HOW.out.below (HB2.out.trans (Below.alloc (Below.refl _ w2) hsz2 _))) (own_below HO2.out (Below.alloc (Below.refl _ w2) (Nat.le_refl _) _)) (by rw [HL2.out]; exact HO3.out) HG3.out)
          go_roundw
          case rel => exact ⟨k + 1, j, k2 + 1, c4, A4, _, _, c', _, by omega, by go_num, rfl, rfl, by rw [HNX.out]; simp only; rw [List.map_append, HE2.out]; rfl, by rw [HNX.out]; exact HJ.out, HM.out, by simp [HL2.out], HB3.out, HOE.out, HAL.out⟩
          case measure => simp [intOf]; omega
        · cases hd : decide (d = d2)
          · have HNX := Lib.hid (show rejS (O.take (k + 1)) L = ((rejS (O.take k) L).1 ++ [(t, d)], (rejS (O.take k) L).2) by
              rw [rejS_succ HKO.out, HOKK.out]
              unfold rejStep
              rw [if_neg]; · rfl
              rw [← HJ.out, HLJ.out]
              intro e
              simp [Ent.o] at e
              simp at hd
              exact hd e.2.symm)
            have HDD := Lib.hid hd
            clear hd
            go_wp2_with fail
            go_region_held3 (fun w' => w'.cell? ⟨wr.heap.size, 0, none⟩ = some (.int .i64 t) ∧ w'.cell? ⟨wr.heap.size, 1, none⟩ = some (.slice a d.length ce) ∧ w'.cell? ⟨b2, o2, none⟩ = some (.int .i64 t2) ∧ w'.cell? ⟨b2, o2 + 1, none⟩ = some (.slice a2 d2.length ce2)) (first | (go_keep; done) | (go_simp; done) | (simp [go_sem]; done)) ((go_at_call 48; go_must (refine (equal_any a a2 d.length d2.length ce ce2 d d2 _ B (by have := HB.out; simp [size_ext, grow]; omega) (by exact HAT.out.1.keep (by have := HB.out; exact bel)) (by exact HAT2.out.1.keep (by have := HB.out; exact bel)) rfl rfl (by omega) (by omega)).mono ?_); rw [HDD.out]; rintro e w2 ⟨rfl, hb⟩; obtain ⟨xs, dr, rfl⟩ := ext_of hb; clear hb))
            all_goals
              go_wp2_with fail
              refine (own_any t a d.length ce d _ B (by have := HB.out; simp [size_ext, grow]; omega) (by exact HAT.out.1.keep (by have := HB.out; exact bel)) rfl hdl4 HAT.out.2).mono ?_
              rintro e w2 ⟨A3, c3, rfl, hb, ho⟩
              have HB2 := Lib.hid (show Below wr.heap.size wr w2 from Below.trans (by exact bel) (hb.mono (by simp [size_ext, grow] <;> omega)))
              have HO2 := Lib.hid (own_base (base' := w.heap.size) ho (by simp [size_ext, grow]; omega))
              have hsz2 := HB2.out.size
              clear hb ho
              go_wp2_with (at_builtin; refine wpList_appv w rfl (.tmp 38) (.tmp 41) 23 rfl 42 Try.underlying23 (.agg #[.int .i64 0, .slice none 0 0]) 2 32 infoOpt rfl (by decide) (by decide) (.slice A2 k2 c2) k2 (cellsE E2) rfl (by exact own_below HOK.out (by have := HB2.out; exact bel)) (w2.heap.size + 1) (some ⟨w2.heap.size, 0, none⟩) 1 1 [.int .i64 t, .slice A3 d.length c3] rfl rfl (by omega) (by exact At.newN _ _ _ _ _ rfl rfl) (by intro u hu; simp at hu; rcases hu with rfl | rfl <;> rfl) (by have h1 := HBL.out; have h2 := HB2.out; exact bel) ?_; intro A4 c4 w3 ho3 hc3 hb3 hg3; have HO3 := Lib.hid ho3; have HB3 := Lib.hid hb3; have HG3 := Lib.hid hg3; clear ho3 hc3 hb3 hg3)
              have HOE := Lib.hid (OwnOpts.pushed (tt := t) (dd := d) (A2 := A3) (c2 := c3) (HOW.out.below (HB2.out.trans (Below.alloc (Below.refl _ w2) hsz2 _))) (own_below HO2.out (Below.alloc (Below.refl _ w2) (Nat.le_refl _) _)) (by rw [HL2.out]; exact HO3.out) HG3.out)
              go_roundw
              case rel => exact ⟨k + 1, j, k2 + 1, c4, A4, _, _, c', _, by omega, by go_num, rfl, rfl, by rw [HNX.out]; simp only; rw [List.map_append, HE2.out]; rfl, by rw [HNX.out]; exact HJ.out, HM.out, by simp [HL2.out], HB3.out, HOE.out, HAL.out⟩
              case measure => simp [intOf]; omega
          · have HNX := Lib.hid (show rejS (O.take (k + 1)) L = ((rejS (O.take k) L).1, (rejS (O.take k) L).2 + 1) by
              rw [rejS_succ HKO.out, HOKK.out]
              unfold rejStep
              rw [if_pos]
              rw [← HJ.out, HLJ.out]
              simp [Ent.o]
              simp at hd ht
              exact ⟨ht.symm, hd.symm⟩)
            have HDD := Lib.hid hd
            clear hd
            rcases Nat.lt_or_ge 1 c' with hc1 | hc1
            · have cc1 : (1 : Int) ≤ (c' : Int) := by omega
              go_wp2_with fail
              go_region_held3 (fun w' => w'.cell? ⟨wr.heap.size, 0, none⟩ = some (.int .i64 t) ∧ w'.cell? ⟨wr.heap.size, 1, none⟩ = some (.slice a d.length ce) ∧ w'.cell? ⟨b2, o2, none⟩ = some (.int .i64 t2) ∧ w'.cell? ⟨b2, o2 + 1, none⟩ = some (.slice a2 d2.length ce2)) (first | (go_keep; done) | (go_simp; done) | (simp [go_sem]; done)) ((go_at_call 48; go_must (refine (equal_any a a2 d.length d2.length ce ce2 d d2 _ B (by have := HB.out; simp [size_ext, grow]; omega) (by exact HAT.out.1.keep (by have := HB.out; exact bel)) (by exact HAT2.out.1.keep (by have := HB.out; exact bel)) rfl rfl (by omega) (by omega)).mono ?_); rw [HDD.out]; rintro e w2 ⟨rfl, hb⟩; obtain ⟨xs, dr, rfl⟩ := ext_of hb; clear hb))
              all_goals
                go_wp2_with fail
                go_roundw
                case rel => exact ⟨k + 1, j + 1, k2, c2, A2, E2, m - 1, c' - 1, _, by omega, by go_num, rfl, rfl, by rw [HNX.out]; exact HE2.out, by rw [HNX.out]; show j + 1 = _ + 1; rw [HJ.out], ⟨by have := HM.out.1; omega, by omega⟩, HL2.out, by have := HBL.out; exact bel, HOW.out.below (by exact bel), HAL.out.tail⟩
                case measure => simp [intOf]; omega
            · obtain rfl : c' = 1 := by omega
              obtain rfl : m = 1 := by omega
              go_wp2_with fail
              go_region_held3 (fun w' => w'.cell? ⟨wr.heap.size, 0, none⟩ = some (.int .i64 t) ∧ w'.cell? ⟨wr.heap.size, 1, none⟩ = some (.slice a d.length ce) ∧ w'.cell? ⟨b2, o2, none⟩ = some (.int .i64 t2) ∧ w'.cell? ⟨b2, o2 + 1, none⟩ = some (.slice a2 d2.length ce2)) (first | (go_keep; done) | (go_simp; done) | (simp [go_sem]; done)) ((go_at_call 48; go_must (refine (equal_any a a2 d.length d2.length ce ce2 d d2 _ B (by have := HB.out; simp [size_ext, grow]; omega) (by exact HAT.out.1.keep (by have := HB.out; exact bel)) (by exact HAT2.out.1.keep (by have := HB.out; exact bel)) rfl rfl (by omega) (by omega)).mono ?_); rw [HDD.out]; rintro e w2 ⟨rfl, hb⟩; obtain ⟨xs, dr, rfl⟩ := ext_of hb; clear hb))
              all_goals
                go_wp2_with fail
                go_roundw
                case rel => exact ⟨k + 1, j + 1, k2, c2, A2, E2, 0, 0, _, by omega, by go_num, rfl, rfl, by rw [HNX.out]; exact HE2.out, by rw [HNX.out]; show j + 1 = _ + 1; rw [HJ.out], ⟨by have := HM.out.1; omega, by omega⟩, HL2.out, by have := HBL.out; exact bel, HOW.out.below (by exact bel), OptsAt.none (by have := HM.out.1; have := HN2.out; omega)⟩
                case measure => simp [intOf]; omega
    · obtain rfl : k = n1 := by omega
      have hT : O.take k = O := by rw [← HOL.out, List.take_length]
      have HT := Lib.hid hT
      clear hT
      go_wp2_with fail
      refine bodyPost_ret (v := .tuple #[.slice A2 k2 c2, .bool (decide ((rejS O L).2 = EL.length))]) (by simp [results, Try.results34, go_sem]; have h1 := HM.out.1; have h2 := HJ.out; have h3 := HN2.out; have h4 := HJL.out; rw [HT.out] at h2; rw [← h2, ← h3, Bool.eq_iff_iff]; simp; omega) rfl ⟨E2, A2, c2, ?_, ?_, HBL.out, ?_⟩
      · have h := HE2.out
        rw [HT.out] at h
        rw [← h, List.length_map, HL2.out]
      · have h := HE2.out
        rwa [HT.out] at h
      · have h := HE2.out
        rw [HT.out] at h
        rw [← h, List.length_map, HL2.out]
        exact HOW.out
end Go.Proofs.Ytlkijhcgiilmhaa
