/- OptsBack: there and back, in plain words; its walk. -/
import Derived.Test.YtbdkapmiioiikaaH20
namespace Go.Proofs.Ytbdkapmiioiikaa
open Go.ChangeShapes Go.WideShapes Go.ChangeAt Go.RowKit Go.Joins Go.Deep
set_option linter.unusedSimpArgs false
set_option linter.unusedVariables false
theorem cutOne_enc {o : Int × List UInt8} (h : okO o = true) (r : List UInt8) : cutOne (encO o ++ r) = some (o, r) := by
  obtain ⟨t, d⟩ := o
  simp only [okO, inB, Bool.and_eq_true, decide_eq_true_eq] at h
  obtain ⟨⟨h1, h2⟩, h3⟩ := h
  have e1 : (UInt8.ofNat t.toNat).toNat = t.toNat := by simp; omega
  have e2 : (UInt8.ofNat (d.length + 2)).toNat = d.length + 2 := by simp; omega
  simp only [encO, List.cons_append]
  rw [cutOne_cons, e2, if_pos (by simp), e1]
  simp
  omega
theorem encs_cons (o : Int × List UInt8) (L : List (Int × List UInt8)) : encs (o :: L) = encO o ++ encs L := rfl
theorem decW_encs : ∀ (L : List (Int × List UInt8)) (f : Nat) (acc : List (Int × List UInt8)), L.all okO = true → (encs L).length ≤ f → acc.length + L.length ≤ 64 → decW f (encs L) acc = (acc ++ L, 0)
  | [], f, acc, _, _, _ => by simp [encs, decW_nil]
  | o :: L, f, acc, h, hf, hl => by
    simp only [List.all_cons, Bool.and_eq_true] at h
    have hc := cutOne_enc h.1 (encs L)
    rw [← encs_cons] at hc
    simp only [List.length_cons] at hl
    obtain ⟨f', hf', hd⟩ := decW_step (acc := acc) hf hc (by omega)
    rw [hd, decW_encs L f' (acc ++ [o]) h.2 hf' (by simp; omega)]
    simp
theorem back_enc {L : List (Int × List UInt8)} {x : List UInt8} (h : encR L = (x, 0)) : decR x = (L, 0) := by
  unfold encR at h
  split at h
  · simp at h
  · split at h
    · split at h
      · simp at h
      · rename_i h1 h2 h3
        simp only [Prod.mk.injEq, and_true] at h
        subst h
        unfold decR
        rw [if_neg h3, decW_encs L _ [] h2 (Nat.le_refl _) (by simp; omega)]
        rfl
    · simp at h
theorem cutOne_back {l : List UInt8} {o : Int × List UInt8} {r : List UInt8} (h : cutOne l = some (o, r)) : okO o = true ∧ l = encO o ++ r := by
  match l, h with
  | t :: n :: q, h =>
    rw [cutOne_cons] at h
    by_cases hh : 2 ≤ n.toNat ∧ n.toNat ≤ q.length + 2
    · rw [if_pos hh] at h
      simp only [Option.some.injEq, Prod.mk.injEq] at h
      obtain ⟨rfl, rfl⟩ := h
      have ht := t.toNat_lt
      have hn := n.toNat_lt
      have hl : (q.take (n.toNat - 2)).length = n.toNat - 2 := by rw [List.length_take]; omega
      refine ⟨?_, ?_⟩
      · unfold okO inB
        simp only [hl]
        simp
        omega
      · simp only [encO, hl, List.cons_append, List.take_append_drop]
        have e1 : UInt8.ofNat (t.toNat : Int).toNat = t := by simp
        have e2 : UInt8.ofNat (n.toNat - 2 + 2) = n := by rw [show n.toNat - 2 + 2 = n.toNat by omega]; simp
        rw [e1, e2]
    · rw [if_neg hh] at h; cases h
theorem decW_back : ∀ (f : Nat) (l : List UInt8) (acc Y : List (Int × List UInt8)), l.length ≤ f → acc.length ≤ 64 → decW f l acc = (Y, 0) → ∃ L, Y = acc ++ L ∧ encs L = l ∧ L.all okO = true ∧ Y.length ≤ 64
  | 0, l, acc, Y, hl, ha, h => by
    have : l = [] := List.eq_nil_of_length_eq_zero (by omega)
    subst this
    simp only [decW, Prod.mk.injEq, and_true] at h
    subst h
    exact ⟨[], by simp, rfl, rfl, ha⟩
  | f + 1, l, acc, Y, hl, ha, h => by
    unfold decW at h
    by_cases h0 : l = []
    · rw [if_pos h0] at h
      simp only [Prod.mk.injEq, and_true] at h
      subst h h0
      exact ⟨[], by simp, rfl, rfl, ha⟩
    · rw [if_neg h0] at h
      cases hc : cutOne l with
      | none => rw [hc] at h; simp at h
      | some x =>
        obtain ⟨o, r⟩ := x
        rw [hc] at h
        simp only at h
        by_cases h6 : acc.length = 64
        · rw [if_pos h6] at h; simp at h
        · rw [if_neg h6] at h
          obtain ⟨ok, hle⟩ := cutOne_back hc
          have := cutOne_len hc
          obtain ⟨L, h1, h2, h3, h4⟩ := decW_back f r (acc ++ [o]) Y (by omega) (by simp; omega) h
          refine ⟨o :: L, by rw [h1]; simp, by rw [encs_cons, h2, hle], by simp [ok]; simpa using h3, h4⟩
theorem back_dec {l : List UInt8} {Y : List (Int × List UInt8)} (h : decR l = (Y, 0)) : encR Y = (l, 0) := by
  unfold decR at h
  split at h
  · simp at h
  · rename_i h1
    obtain ⟨L, hL, h2, h3, h4⟩ := decW_back _ _ _ _ (Nat.le_refl _) (by simp) h
    obtain rfl : Y = L := hL
    unfold encR
    rw [if_neg (by omega), if_pos h3, h2, if_neg h1]
theorem decW_err : ∀ (f : Nat) (l : List UInt8) (acc Y : List (Int × List UInt8)) (e : Int), decW f l acc = (Y, e) → e ≠ 0 → Y = []
  | 0, l, acc, Y, e, h, he => by simp only [decW, Prod.mk.injEq] at h; omega
  | f + 1, l, acc, Y, e, h, he => by
    unfold decW at h
    by_cases h0 : l = []
    · rw [if_pos h0] at h; simp only [Prod.mk.injEq] at h; omega
    · rw [if_neg h0] at h
      cases hc : cutOne l with
      | none => rw [hc] at h; simp at h; exact h.1
      | some x =>
        obtain ⟨o, r⟩ := x
        rw [hc] at h
        simp only at h
        by_cases h6 : acc.length = 64
        · rw [if_pos h6] at h; simp at h; exact h.1
        · rw [if_neg h6] at h; exact decW_err f _ _ _ _ h he
theorem decR_err {l : List UInt8} {Y : List (Int × List UInt8)} {e : Int} (h : decR l = (Y, e)) (he : e ≠ 0) : Y = [] := by
  unfold decR at h
  split at h
  · simp at h; exact h.1
  · exact decW_err _ _ _ _ _ h he
set_option maxRecDepth 100000 in
set_option maxHeartbeats 2000000 in
theorem back_any (A : Option Addr) (n c : Nat) (E : List Ent) (A' : Option Addr) (n' c' : Nat) (l : List UInt8) (w : World) (hE : OptsAt w w.heap.size A E) (hn : n = E.length) (hn2 : (n : Int) ≤ 9223372036854775807) (hd : ∀ e ∈ E, (e.d.length : Int) ≤ 9223372036854775807)
    (hA : At w w.heap.size A' (l.map bv)) (hl : n' = l.length) (hc : n' ≤ c') (hl2 : (n' : Int) ≤ 9223372036854775807) :
    Calls Try.prog 5 #[.slice A n c, .slice A' n' c'] w fun e w' => e = .returned (.bool true) ∧ Below w.heap.size w w' := by
  have HE := Lib.hid hE
  have HN := Lib.hid hn
  have HD := Lib.hid hd
  have HL := Lib.hid (show At w w.heap.size A' ((l.take 1500).map bv) ∧ min n' 1500 = (l.take 1500).length by
    rw [List.map_take]; exact ⟨hA.take 1500, by simp; omega⟩)
  obtain ⟨m, hm⟩ : ∃ m, min n' 1500 = m := ⟨_, rfl⟩
  rw [hm] at HL
  have HM := Lib.hid hm
  have hmc : m ≤ c' := by omega
  clear hE hn hd hA hl hm
  generalize l.take 1500 = b at HL
  go_enter Try.func5, Try.ntmps5
  go_wp2_with fail
  refine (few_any A n c E _ _ (Nat.le_refl _) HE.out HN.out hn2 HD.out).mono ?_
  rintro e w1 ⟨A1, n1, c1, rfl, hb, ho, hn⟩
  have HA1 := Lib.hid (few_at (HE.out) (Nat.le_refl _) hb ho)
  obtain ⟨xs1, dr1, rfl⟩ := ext_of hb
  clear hb ho
  have hl1 : n1 ≤ 70 := by rw [hn]; exact few_len _
  have HN1 := Lib.hid hn
  clear hn
  generalize fewE E = F at HA1 HN1
  go_wp2_with fail
  refine (cut_any A' n' c' _ (by omega) hl2).mono ?_
  rintro e w1 ⟨rfl, rfl⟩
  rw [HM.out]
  go_wp2_with fail
  obtain ⟨⟨y, ye⟩, hR⟩ : ∃ R, encR (F.map Ent.o) = R := ⟨_, rfl⟩
  obtain ⟨yn, hyn⟩ : ∃ n, y.length = n := ⟨_, rfl⟩
  have HR := Lib.hid hR
  have HYN := Lib.hid hyn
  clear hR hyn
  refine (enc_any A1 n1 c1 F _ _ (Nat.le_refl _) HA1.out HN1.out).mono ?_
  rintro e w1 h1
  obtain ⟨A2, c2, rfl, hb, ho, hc2⟩ := h1.get HR.out HYN.out
  clear h1
  obtain ⟨xs2, dr2, rfl⟩ := ext_of hb
  clear hb
  have HO2 := Lib.hid ho
  clear ho
  go_wp2_with fail
  refine (awake_any _).mono ?_
  rintro e w1 ⟨rfl, hb⟩
  obtain ⟨xs3, dr3, rfl⟩ := ext_of hb
  clear hb
  obtain ⟨⟨Y, Ye⟩, hS⟩ : ∃ S, decR b = S := ⟨_, rfl⟩
  have HS := Lib.hid hS
  clear hS
  obtain ⟨W3, hW3⟩ : ∃ W3, W3 = (ext (ext (ext w xs1 dr1) xs2 dr2) xs3 dr3) := ⟨_, rfl⟩
  have HBW := Lib.hid (show Below w.heap.size w W3 by rw [hW3]; (repeat (first | exact Below.refl _ _ | exact Nat.le_refl _ | (refine below_ext ?_ (by first | (simp [size_ext, grow]; done) | (simp [size_ext, grow]; omega) | omega) _ _) | (refine Below.setCell ?_ (by first | (simp [size_ext, grow]; done) | (simp [size_ext, grow]; omega) | omega) _) | (refine Below.alloc ?_ (by first | (simp [size_ext, grow]; done) | (simp [size_ext, grow]; omega) | omega) _) | refine Below.drew ?_ | refine below_drewN ?_ _ | (refine Below.trans ?_ (Below.mono (by assumption) (by first | (simp [size_ext, grow]; done) | (simp [size_ext, grow]; omega) | omega))))))
  have HA1 := Lib.hid (show OptsAt W3 W3.heap.size A1 F by rw [hW3]; exact OptsAt.move HA1.out (by (repeat (first | exact Below.refl _ _ | exact Nat.le_refl _ | (refine below_ext ?_ (by first | (simp [size_ext, grow]; done) | (simp [size_ext, grow]; omega) | omega) _ _) | (refine Below.setCell ?_ (by first | (simp [size_ext, grow]; done) | (simp [size_ext, grow]; omega) | omega) _) | (refine Below.alloc ?_ (by first | (simp [size_ext, grow]; done) | (simp [size_ext, grow]; omega) | omega) _) | refine Below.drew ?_ | refine below_drewN ?_ _ | (refine Below.trans ?_ (Below.mono (by assumption) (by first | (simp [size_ext, grow]; done) | (simp [size_ext, grow]; omega) | omega)))))) (by simp [go_sem]))
  have HO2 := Lib.hid (show At W3 W3.heap.size A2 (y.map bv) by rw [hW3]; exact (At.of_own HO2.out).move (by (repeat (first | exact Below.refl _ _ | exact Nat.le_refl _ | (refine below_ext ?_ (by first | (simp [size_ext, grow]; done) | (simp [size_ext, grow]; omega) | omega) _ _) | (refine Below.setCell ?_ (by first | (simp [size_ext, grow]; done) | (simp [size_ext, grow]; omega) | omega) _) | (refine Below.alloc ?_ (by first | (simp [size_ext, grow]; done) | (simp [size_ext, grow]; omega) | omega) _) | refine Below.drew ?_ | refine below_drewN ?_ _ | (refine Below.trans ?_ (Below.mono (by assumption) (by first | (simp [size_ext, grow]; done) | (simp [size_ext, grow]; omega) | omega)))))) (by simp [go_sem]))
  rw [← hW3]
  clear hW3
  by_cases hye : ye = 0
  · subst hye
    go_wp2_with fail
    refine (dec_any A2 yn c2 y _ W3.heap.size (Nat.le_refl _) HO2.out HYN.out.symm hc2).mono ?_
    rintro e w1 h1
    obtain ⟨E4, A4, n4, c4, rfl, hb, ho, he, hne, hc4, hl4⟩ := h1.get (back_enc HR.out)
    clear h1
    obtain ⟨xs4, dr4, rfl⟩ := ext_of hb
    clear hb
    have HO4 := Lib.hid ho
    have HE4 := Lib.hid he
    have HN4 := Lib.hid hne
    clear ho he hne
    go_wp2_with fail
    refine (same_ref A4 A1 n4 n1 c4 c1 E4 F _ _ (Nat.le_refl _) HO4.out.at (OptsAt.move HA1.out (by (repeat (first | exact Below.refl _ _ | exact Nat.le_refl _ | (refine below_ext ?_ (by first | (simp [size_ext, grow]; done) | (simp [size_ext, grow]; omega) | omega) _ _) | (refine Below.setCell ?_ (by first | (simp [size_ext, grow]; done) | (simp [size_ext, grow]; omega) | omega) _) | (refine Below.alloc ?_ (by first | (simp [size_ext, grow]; done) | (simp [size_ext, grow]; omega) | omega) _) | refine Below.drew ?_ | refine below_drewN ?_ _ | (refine Below.trans ?_ (Below.mono (by assumption) (by first | (simp [size_ext, grow]; done) | (simp [size_ext, grow]; omega) | omega)))))) (by simp [go_sem])) HN4.out HN1.out (by omega)).mono ?_
    rw [HE4.out, same_self]
    rintro e w1 ⟨rfl, hb⟩
    obtain ⟨xs5, dr5, rfl⟩ := ext_of hb
    clear hb
    go_wp2_with fail
    refine (dec_any A' m c' b _ w.heap.size (by have := HBW.out.size; simp [size_ext, grow]; omega) (HL.out.1.keep (by have := HBW.out; have hz := this.size; (repeat (first | exact Below.refl _ _ | exact Nat.le_refl _ | (refine below_ext ?_ (by first | (simp [size_ext, grow]; done) | (simp [size_ext, grow]; omega) | omega) _ _) | (refine Below.setCell ?_ (by first | (simp [size_ext, grow]; done) | (simp [size_ext, grow]; omega) | omega) _) | (refine Below.alloc ?_ (by first | (simp [size_ext, grow]; done) | (simp [size_ext, grow]; omega) | omega) _) | refine Below.drew ?_ | refine below_drewN ?_ _ | (refine Below.trans ?_ (Below.mono (by assumption) (by first | (simp [size_ext, grow]; done) | (simp [size_ext, grow]; omega) | omega))))))) HL.out.2 hmc).mono ?_
    rintro e w1 h1
    obtain ⟨E7, A7, n7, c7, rfl, hb, ho, he, hne, hc7, hl7⟩ := h1.get HS.out
    clear h1
    obtain ⟨xs7, dr7, rfl⟩ := ext_of hb
    clear hb
    have HO7 := Lib.hid ho
    have HE7 := Lib.hid he
    have HN7 := Lib.hid hne
    clear ho he hne
    obtain ⟨W7, hW7⟩ : ∃ W7, W7 = (ext (ext (ext W3 xs4 dr4) xs5 dr5) xs7 dr7) := ⟨_, rfl⟩
    have HB7 := Lib.hid (show Below w.heap.size w W7 by rw [hW7]; have := HBW.out; have hz := this.size; (repeat (first | exact Below.refl _ _ | exact Nat.le_refl _ | (refine below_ext ?_ (by first | (simp [size_ext, grow]; done) | (simp [size_ext, grow]; omega) | omega) _ _) | (refine Below.setCell ?_ (by first | (simp [size_ext, grow]; done) | (simp [size_ext, grow]; omega) | omega) _) | (refine Below.alloc ?_ (by first | (simp [size_ext, grow]; done) | (simp [size_ext, grow]; omega) | omega) _) | refine Below.drew ?_ | refine below_drewN ?_ _ | (refine Below.trans ?_ (Below.mono (by assumption) (by first | (simp [size_ext, grow]; done) | (simp [size_ext, grow]; omega) | omega))))))
    have H7 := Lib.hid (show OptsAt W7 W7.heap.size A7 E7 by rw [hW7]; exact HO7.out.at)
    rw [← hW7]
    clear hW7
    by_cases hYe : Ye = 0
    · subst hYe
      go_wp2_with fail
      refine (enc_any A7 n7 c7 E7 _ _ (Nat.le_refl _) H7.out HN7.out).mono ?_
      rintro e w1 h1
      obtain ⟨A8, c8, rfl, hb, ho, hc8⟩ := h1.get (by rw [HE7.out]; exact back_dec HS.out) HL.out.2.symm
      clear h1
      obtain ⟨xs8, dr8, rfl⟩ := ext_of hb
      clear hb
      have HO8 := Lib.hid ho
      clear ho
      have q1 : ∀ W : World, At W w.heap.size A' (b.map bv) → (convert 23 9 (.slice A' m c')).run Try.prog W = .ok (.string ⟨b.toArray⟩) W := fun W h => run_str Try.underlying23 Try.underlying5 Try.underlying9 HL.out.2 h
      have q2 : ∀ W : World, At W W.heap.size A8 (b.map bv) → (convert 23 9 (.slice A8 m c8)).run Try.prog W = .ok (.string ⟨b.toArray⟩) W := fun W h => run_str Try.underlying23 Try.underlying5 Try.underlying9 HL.out.2 h
      obtain ⟨W8, hW8⟩ : ∃ W8, W8 = ext W7 xs8 dr8 := ⟨_, rfl⟩
      have HB8 := Lib.hid (show Below w.heap.size w W8 by rw [hW8]; have := HB7.out; have hz := this.size; (repeat (first | exact Below.refl _ _ | exact Nat.le_refl _ | (refine below_ext ?_ (by first | (simp [size_ext, grow]; done) | (simp [size_ext, grow]; omega) | omega) _ _) | (refine Below.setCell ?_ (by first | (simp [size_ext, grow]; done) | (simp [size_ext, grow]; omega) | omega) _) | (refine Below.alloc ?_ (by first | (simp [size_ext, grow]; done) | (simp [size_ext, grow]; omega) | omega) _) | refine Below.drew ?_ | refine below_drewN ?_ _ | (refine Below.trans ?_ (Below.mono (by assumption) (by first | (simp [size_ext, grow]; done) | (simp [size_ext, grow]; omega) | omega))))))
      have g1 : At W8 w.heap.size A' (b.map bv) := HL.out.1.keep HB8.out
      have g2 : At W8 W8.heap.size A8 (b.map bv) := by rw [hW8]; exact At.of_own HO8.out
      rw [← hW8]
      clear hW8
      go_wp2_with fail
      go_ret
      exact ⟨rfl, HB8.out⟩
    · have HY0 := decR_err HS.out hYe
      have hn0 : n7 = 0 := by rw [HN7.out]; have h := HE7.out; rw [HY0] at h; simpa using h
      subst hn0
      clear HY0
      have y1 : (Ye == 0) = false := by simpa using hYe
      have y2 : (Ye != 0) = true := by simpa using hYe
      go_wp2_with fail
      go_ret
      exact ⟨rfl, HB7.out⟩
  · have x1 : (ye == 0) = false := by simpa using hye
    have x2 : (ye != 0) = true := by simpa using hye
    go_wp2_with fail
    refine (dec_any A' m c' b _ w.heap.size (by have := HBW.out.size; simp [size_ext, grow]; omega) (HL.out.1.keep (by have := HBW.out; have hz := this.size; (repeat (first | exact Below.refl _ _ | exact Nat.le_refl _ | (refine below_ext ?_ (by first | (simp [size_ext, grow]; done) | (simp [size_ext, grow]; omega) | omega) _ _) | (refine Below.setCell ?_ (by first | (simp [size_ext, grow]; done) | (simp [size_ext, grow]; omega) | omega) _) | (refine Below.alloc ?_ (by first | (simp [size_ext, grow]; done) | (simp [size_ext, grow]; omega) | omega) _) | refine Below.drew ?_ | refine below_drewN ?_ _ | (refine Below.trans ?_ (Below.mono (by assumption) (by first | (simp [size_ext, grow]; done) | (simp [size_ext, grow]; omega) | omega))))))) HL.out.2 hmc).mono ?_
    rintro e w1 h1
    obtain ⟨E7, A7, n7, c7, rfl, hb, ho, he, hne, hc7, hl7⟩ := h1.get HS.out
    clear h1
    obtain ⟨xs7, dr7, rfl⟩ := ext_of hb
    clear hb
    have HO7 := Lib.hid ho
    have HE7 := Lib.hid he
    have HN7 := Lib.hid hne
    clear ho he hne
    obtain ⟨W7, hW7⟩ : ∃ W7, W7 = (ext W3 xs7 dr7) := ⟨_, rfl⟩
    have HB7 := Lib.hid (show Below w.heap.size w W7 by rw [hW7]; have := HBW.out; have hz := this.size; (repeat (first | exact Below.refl _ _ | exact Nat.le_refl _ | (refine below_ext ?_ (by first | (simp [size_ext, grow]; done) | (simp [size_ext, grow]; omega) | omega) _ _) | (refine Below.setCell ?_ (by first | (simp [size_ext, grow]; done) | (simp [size_ext, grow]; omega) | omega) _) | (refine Below.alloc ?_ (by first | (simp [size_ext, grow]; done) | (simp [size_ext, grow]; omega) | omega) _) | refine Below.drew ?_ | refine below_drewN ?_ _ | (refine Below.trans ?_ (Below.mono (by assumption) (by first | (simp [size_ext, grow]; done) | (simp [size_ext, grow]; omega) | omega))))))
    have H7 := Lib.hid (show OptsAt W7 W7.heap.size A7 E7 by rw [hW7]; exact HO7.out.at)
    rw [← hW7]
    clear hW7
    by_cases hYe : Ye = 0
    · subst hYe
      go_wp2_with fail
      refine (enc_any A7 n7 c7 E7 _ _ (Nat.le_refl _) H7.out HN7.out).mono ?_
      rintro e w1 h1
      obtain ⟨A8, c8, rfl, hb, ho, hc8⟩ := h1.get (by rw [HE7.out]; exact back_dec HS.out) HL.out.2.symm
      clear h1
      obtain ⟨xs8, dr8, rfl⟩ := ext_of hb
      clear hb
      have HO8 := Lib.hid ho
      clear ho
      have q1 : ∀ W : World, At W w.heap.size A' (b.map bv) → (convert 23 9 (.slice A' m c')).run Try.prog W = .ok (.string ⟨b.toArray⟩) W := fun W h => run_str Try.underlying23 Try.underlying5 Try.underlying9 HL.out.2 h
      have q2 : ∀ W : World, At W W.heap.size A8 (b.map bv) → (convert 23 9 (.slice A8 m c8)).run Try.prog W = .ok (.string ⟨b.toArray⟩) W := fun W h => run_str Try.underlying23 Try.underlying5 Try.underlying9 HL.out.2 h
      obtain ⟨W8, hW8⟩ : ∃ W8, W8 = ext W7 xs8 dr8 := ⟨_, rfl⟩
      have HB8 := Lib.hid (show Below w.heap.size w W8 by rw [hW8]; have := HB7.out; have hz := this.size; (repeat (first | exact Below.refl _ _ | exact Nat.le_refl _ | (refine below_ext ?_ (by first | (simp [size_ext, grow]; done) | (simp [size_ext, grow]; omega) | omega) _ _) | (refine Below.setCell ?_ (by first | (simp [size_ext, grow]; done) | (simp [size_ext, grow]; omega) | omega) _) | (refine Below.alloc ?_ (by first | (simp [size_ext, grow]; done) | (simp [size_ext, grow]; omega) | omega) _) | refine Below.drew ?_ | refine below_drewN ?_ _ | (refine Below.trans ?_ (Below.mono (by assumption) (by first | (simp [size_ext, grow]; done) | (simp [size_ext, grow]; omega) | omega))))))
      have g1 : At W8 w.heap.size A' (b.map bv) := HL.out.1.keep HB8.out
      have g2 : At W8 W8.heap.size A8 (b.map bv) := by rw [hW8]; exact At.of_own HO8.out
      rw [← hW8]
      clear hW8
      go_wp2_with fail
      go_ret
      exact ⟨rfl, HB8.out⟩
    · have HY0 := decR_err HS.out hYe
      have hn0 : n7 = 0 := by rw [HN7.out]; have h := HE7.out; rw [HY0] at h; simpa using h
      subst hn0
      clear HY0
      have y1 : (Ye == 0) = false := by simpa using hYe
      have y2 : (Ye != 0) = true := by simpa using hYe
      go_wp2_with fail
      go_ret
      exact ⟨rfl, HB7.out⟩
theorem optsBack_calls {H : Type} (enc : TypeId × Value → H) (W : World) (base : Nat) (v0 v1 : Value) (d0 d1 : DataW H) (p0 p1 : List MemPlace)
    (o0 : Value.okWide Try.prog W .any base 22 v0) (o1 : Value.okWide Try.prog W .any base 23 v1)
    (h0 : DataW.Trod enc Try.prog W 0 (fun _ => true) true 22 v0 d0 p0) (h1 : DataW.Trod enc Try.prog W 0 (fun _ => true) true 23 v1 d1 p1) :
    Calls Try.prog 5 #[v0, v1] W fun e W' => e = .returned (.bool true) ∧ Below W.heap.size W W' := by
  obtain ⟨A, n, c, E, rfl, hE, hn, hc, hl, hd⟩ := open_opts_arg o0 h0
  obtain ⟨A', n', c', l, rfl, hA, hn', hc', hl'⟩ := open_bytes_arg o1 h1
  exact back_any A n c E A' n' c' l W hE hn hl hd hA hn' hc' hl'
end Go.Proofs.Ytbdkapmiioiikaa
