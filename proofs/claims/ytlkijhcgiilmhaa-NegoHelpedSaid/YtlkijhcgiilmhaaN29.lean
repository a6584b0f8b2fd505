/- NegoLess: its walk. -/
import Derived.Test.YtlkijhcgiilmhaaN28
import Derived.Deep.QuietTactic
import Derived.BigQuiet
namespace Go.Proofs.Ytlkijhcgiilmhaa
open Go.ChangeShapes Go.WideShapes Go.ChangeAt Go.RowKit Go.Joins Go.Deep
set_option linter.unusedSimpArgs false
set_option linter.unusedVariables false
theorem learn_nak (O L : List Opt) : (learnO O 3 L).2 = decide (0 < L.length) ∧ (learnO O 3 L).1.length = O.length ∧ ∀ k (h1 : k < (learnO O 3 L).1.length) (h2 : k < O.length), (learnO O 3 L).1[k].1 = O[k].1 := by
  unfold learnO
  by_cases h : L.length = 0
  · rw [if_pos h]; simp [h]
  · rw [if_neg h, if_pos rfl]
    refine ⟨by simp; omega, nak_len _ _, fun k h1 h2 => ?_⟩
    simp [nakL, nak_type]
theorem learn_rej (O L : List Opt) : (learnO O 4 L).2 = true → 0 < L.length ∧ (learnO O 4 L).1.length + L.length = O.length := by
  unfold learnO
  by_cases h : L.length = 0
  · rw [if_pos h]; simp
  · rw [if_neg h, if_neg (by decide), if_pos rfl]
    by_cases h2 : (rejS O L).2 = L.length
    · rw [if_pos h2]
      intro _
      have := rej_count O L
      exact ⟨by omega, by simp only; omega⟩
    · rw [if_neg h2]; simp
set_option maxHeartbeats 4000000 in
theorem less_walk (A A' : Option Addr) (n c n' c' : Nat) (E E' : List Ent) (w : World) (hE : OptsAt w w.heap.size A E) (hn : n = E.length) (hl : (n : Int) ≤ 9223372036854775807) (hd : ∀ e ∈ E, (e.d.length : Int) ≤ 9223372036854775807)
    (hE' : OptsAt w w.heap.size A' E') (hn' : n' = E'.length) (hl' : (n' : Int) ≤ 9223372036854775807) (hd' : ∀ e ∈ E', (e.d.length : Int) ≤ 9223372036854775807) :
    Calls Try.prog 7 #[.slice A n c, .slice A' n' c'] w fun x w' => x = .returned (.bool true) ∧ Below w.heap.size w w' := by
  have HE := Lib.hid hE
  have HN := Lib.hid hn
  have HD := Lib.hid hd
  have HE' := Lib.hid hE'
  have HN' := Lib.hid hn'
  have HD' := Lib.hid hd'
  clear hE hn hd hE' hn' hd'
  go_enter Try.func7, Try.ntmps7
  go_wp2_with fail
  refine (few_any A n c E _ _ (Nat.le_refl _) HE.out HN.out hl HD.out).mono ?_
  rintro e W1 h1
  obtain ⟨A1, n1, c1, rfl, hb, hcut⟩ := h1.get (HE.out) (Nat.le_refl _)
  have HB1 := Lib.hid hb
  have hz1 := hb.size
  have HC1 := Lib.hid hcut.opts
  have HN1 := Lib.hid hcut.len
  have HD1 := Lib.hid hcut.data
  have hl1 := hcut.le
  have hc1 := hcut.cap
  clear h1 hb hcut
  go_wp2_with fail
  refine (few_any A' n' c' E' _ w.heap.size hz1 (HE'.out.keep HB1.out) HN'.out hl' HD'.out).mono ?_
  rintro e W2 h1
  obtain ⟨A2, n2, c2, rfl, hb, hcut⟩ := h1.get (HE'.out.keep HB1.out) (hz1)
  have HB2 := Lib.hid hb
  have hz2 := hb.size
  have HC2 := Lib.hid hcut.opts
  have HN2 := Lib.hid hcut.len
  have HD2 := Lib.hid hcut.data
  have hl2 := hcut.le
  have hc2 := hcut.cap
  clear h1 hb hcut
  have HC1' := Lib.hid (HC1.out.keep HB2.out)
  generalize fewE E = F1 at HC1' HC1 HN1 HD1
  generalize fewE E' = F2 at HC2 HN2 HD2
  obtain ⟨O, hO⟩ : ∃ O, F1.map Ent.o = O := ⟨_, rfl⟩
  obtain ⟨L, hL⟩ : ∃ L, F2.map Ent.o = L := ⟨_, rfl⟩
  have HOO := Lib.hid hO
  have HLL := Lib.hid hL
  have HOL := Lib.hid (show O.length = n1 by rw [← hO, List.length_map]; exact HN1.out.symm)
  have HLN := Lib.hid (show L.length = n2 by rw [← hL, List.length_map]; exact HN2.out.symm)
  clear hO hL
  go_wp2_with fail
  refine (learn_any A1 A2 n1 n2 c1 c2 4 F1 F2 _ _ (Nat.le_refl _) (HC1'.out.more hz2) HC2.out HN1.out HN2.out hc2 (by omega) (by omega) HD1.out HD2.out).mono ?_
  rw [HOO.out, HLL.out]
  obtain ⟨⟨X, b⟩, hX⟩ : ∃ Y, learnO O 4 L = Y := ⟨_, rfl⟩
  have HX := Lib.hid (show b = true → 0 < n2 ∧ X.length + n2 = n1 by have h := learn_rej O L; rw [hX] at h; rw [HOL.out, HLN.out] at h; exact h)
  rw [hX]
  clear hX
  rintro e W3 h1
  obtain ⟨E3, A3, n3, c3, rfl, he, hn3, hc3, hb, ho⟩ := h1.get
  replace he : E3.map Ent.o = X := he
  have HN3 := Lib.hid (show n3 = X.length by rw [hn3, ← he, List.length_map])
  have HB3 := Lib.hid hb
  have hz3 := hb.size
  clear h1 he hn3 hb ho hc3
  go_wp2_with fail
  refine (learn_any A1 A2 n1 n2 c1 c2 3 F1 F2 _ _ hz3 ((HC1'.out.more hz2).keep HB3.out) (HC2.out.keep HB3.out) HN1.out HN2.out hc2 (by omega) (by omega) HD1.out HD2.out).mono ?_
  rw [HOO.out, HLL.out]
  have HNK := Lib.hid (learn_nak O L)
  obtain ⟨⟨Y, b2⟩, hY⟩ : ∃ Y, learnO O 3 L = Y := ⟨_, rfl⟩
  rw [hY] at HNK
  rw [hY]
  clear hY
  obtain rfl : b2 = decide (0 < n2) := by have h := HNK.out.1; rw [HLN.out] at h; exact h
  rintro e W4 h1
  obtain ⟨E4, A4, n4, c4, rfl, he, hn4, hc4, hb, ho⟩ := h1.get
  replace he : E4.map Ent.o = Y := he
  have HE4 := Lib.hid he
  have HN4 := Lib.hid hn4
  obtain rfl : n4 = n1 := by have h := HNK.out.2.1; rw [HOL.out] at h; rw [hn4, ← h, ← he, List.length_map]
  have HB4 := Lib.hid hb
  have HO4 := Lib.hid ho.at
  have hz4 := hb.size
  have HT := Lib.hid (show ∀ k (h1 : k < E4.length) (h2 : k < F1.length), E4[k].t = F1[k].t from fun k h1 h2 => by
    have h := HNK.out.2.2 k (by simp only; rw [← he, List.length_map]; exact h1) (by rw [← HOO.out, List.length_map]; exact h2)
    simp only at h
    have e1 : Y[k]'(by rw [← he, List.length_map]; exact h1) = E4[k].o := by simp only [← he, List.getElem_map]
    have e2 : O[k]'(by rw [← HOO.out, List.length_map]; exact h2) = F1[k].o := by simp only [← HOO.out, List.getElem_map]
    rw [e1, e2] at h
    exact h)
  clear h1 he hn4 hb ho hc4 HNK
  have HBW14 := Lib.hid (HB2.out.trans ((HB3.out.trans (HB4.out.mono hz3)).mono hz2))
  have hz14 : W1.heap.size ≤ W4.heap.size := by omega
  have HBW4 := Lib.hid (HB1.out.trans (HBW14.out.mono hz1))
  have hzw : w.heap.size ≤ W4.heap.size := by omega
  rcases Nat.eq_zero_or_pos n2 with h0 | h0
  · subst h0
    obtain rfl : b = false := by
      cases b
      · rfl
      · have := (HX.out rfl).1; omega
    go_wp2_with fail
    go_loopw [9] (fun i wr => ∃ k : Nat, k ≤ n4 ∧ i = .int .i64 k ∧ Below W4.heap.size W4 wr) (fun i _ => n4 - (intOf i).toNat)
    case atStart => exact ⟨0, Nat.zero_le _, rfl, Below.refl _ _⟩
    case round =>
      obtain ⟨k, hk, rfl, hbl⟩ := hrel
      have HBL := Lib.hid hbl
      have hsz := hbl.size
      clear hbl
      by_cases hlt : k < n4
      · have HK := Lib.hid (show k < E4.length by have := HN4.out; omega)
        have HK1 := Lib.hid (show k < F1.length by have := HN1.out; omega)
        obtain ⟨b4, o4, rfl, hb4, hx4, -⟩ := (HO4.out.keep HBL.out).get HK.out
        obtain ⟨b1, o1, rfl, hb1, hx1, -⟩ := (HC1.out.keep (HBW14.out.trans (HBL.out.mono hz14))).get HK1.out
        have ht := HT.out k HK.out HK1.out
        obtain ⟨ty, hty⟩ : ∃ ty, (E4[k]'HK.out).t = ty := ⟨_, rfl⟩
        rw [hty] at hx4 ht
        rw [← ht] at hx1
        clear ht hty
        have jj0 : (0 : Int) ≤ (k : Int) := by omega
        have jj4 : (k : Int) < (n4 : Int) := by omega
        go_upto_region 9 with (fail)
        go_quiet (fail)
        go_wp2_with fail
        go_roundw
        case rel => exact ⟨k + 1, by omega, by go_num, by have := HBL.out; exact bel⟩
        case measure => simp [intOf]; omega
      · obtain rfl : k = n4 := by omega
        go_wp2_with fail
        refine (awake_any _).mono ?_
        rintro e w1 ⟨rfl, hb⟩; obtain ⟨xs, d, rfl⟩ := ext_of hb; clear hb
        go_wp2_with fail
        go_ret
        exact ⟨rfl, by have h := HBW4.out.trans (HBL.out.mono hzw); exact bel⟩
  · have d1 : decide (0 < n2) = true := by simpa using h0
    have d2 : (0 : Int) < (n2 : Int) := by omega
    rw [d1]
    have d3 : ((n2 : Int) == 0) = false := by simp; omega
    cases b
    · go_wp2_with fail
      go_loopw [9] (fun i wr => ∃ k : Nat, k ≤ n4 ∧ i = .int .i64 k ∧ Below W4.heap.size W4 wr) (fun i _ => n4 - (intOf i).toNat)
      case atStart => exact ⟨0, Nat.zero_le _, rfl, Below.refl _ _⟩
      case round =>
        obtain ⟨k, hk, rfl, hbl⟩ := hrel
        have HBL := Lib.hid hbl
        have hsz := hbl.size
        clear hbl
        by_cases hlt : k < n4
        · have HK := Lib.hid (show k < E4.length by have := HN4.out; omega)
          have HK1 := Lib.hid (show k < F1.length by have := HN1.out; omega)
          obtain ⟨b4, o4, rfl, hb4, hx4, -⟩ := (HO4.out.keep HBL.out).get HK.out
          obtain ⟨b1, o1, rfl, hb1, hx1, -⟩ := (HC1.out.keep (HBW14.out.trans (HBL.out.mono hz14))).get HK1.out
          have ht := HT.out k HK.out HK1.out
          obtain ⟨ty, hty⟩ : ∃ ty, (E4[k]'HK.out).t = ty := ⟨_, rfl⟩
          rw [hty] at hx4 ht
          rw [← ht] at hx1
          clear ht hty
          have jj0 : (0 : Int) ≤ (k : Int) := by omega
          have jj4 : (k : Int) < (n4 : Int) := by omega
          go_upto_region 9 with (fail)
          go_quiet (fail)
          go_wp2_with fail
          go_roundw
          case rel => exact ⟨k + 1, by omega, by go_num, by have := HBL.out; exact bel⟩
          case measure => simp [intOf]; omega
        · obtain rfl : k = n4 := by omega
          go_wp2_with fail
          refine (awake_any _).mono ?_
          rintro e w1 ⟨rfl, hb⟩; obtain ⟨xs, d, rfl⟩ := ext_of hb; clear hb
          go_wp2_with fail
          go_ret
          exact ⟨rfl, by have h := HBW4.out.trans (HBL.out.mono hzw); exact bel⟩
    · have hx := HX.out rfl
      have e1 : ((n3 : Int) != (n4 : Int) - (n2 : Int)) = false := by have := HN3.out; simp; omega
      clear hx
      go_wp2_with fail
      go_loopw [9] (fun i wr => ∃ k : Nat, k ≤ n4 ∧ i = .int .i64 k ∧ Below W4.heap.size W4 wr) (fun i _ => n4 - (intOf i).toNat)
      case atStart => exact ⟨0, Nat.zero_le _, rfl, Below.refl _ _⟩
      case round =>
        obtain ⟨k, hk, rfl, hbl⟩ := hrel
        have HBL := Lib.hid hbl
        have hsz := hbl.size
        clear hbl
        by_cases hlt : k < n4
        · have HK := Lib.hid (show k < E4.length by have := HN4.out; omega)
          have HK1 := Lib.hid (show k < F1.length by have := HN1.out; omega)
          obtain ⟨b4, o4, rfl, hb4, hx4, -⟩ := (HO4.out.keep HBL.out).get HK.out
          obtain ⟨b1, o1, rfl, hb1, hx1, -⟩ := (HC1.out.keep (HBW14.out.trans (HBL.out.mono hz14))).get HK1.out
          have ht := HT.out k HK.out HK1.out
          obtain ⟨ty, hty⟩ : ∃ ty, (E4[k]'HK.out).t = ty := ⟨_, rfl⟩
          rw [hty] at hx4 ht
          rw [← ht] at hx1
          clear ht hty
          have jj0 : (0 : Int) ≤ (k : Int) := by omega
          have jj4 : (k : Int) < (n4 : Int) := by omega
          go_upto_region 9 with (fail)
          go_quiet (fail)
          go_wp2_with fail
          go_roundw
          case rel => exact ⟨k + 1, by omega, by go_num, by have := HBL.out; exact bel⟩
          case measure => simp [intOf]; omega
        · obtain rfl : k = n4 := by omega
          go_wp2_with fail
          refine (awake_any _).mono ?_
          rintro e w1 ⟨rfl, hb⟩; obtain ⟨xs, d, rfl⟩ := ext_of hb; clear hb
          go_wp2_with fail
          go_ret
          exact ⟨rfl, by have h := HBW4.out.trans (HBL.out.mono hzw); exact bel⟩
theorem negoLess_calls {H : Type} (enc : TypeId × Value → H) (W : World) (base : Nat) (v0 v1 : Value) (d0 d1 : DataW H) (p0 p1 : List MemPlace)
    (o0 : Value.okWide Try.prog W .any base 23 v0) (o1 : Value.okWide Try.prog W .any base 23 v1)
    (h0 : DataW.Trod enc Try.prog W 0 (fun _ => true) true 23 v0 d0 p0) (h1 : DataW.Trod enc Try.prog W 0 (fun _ => true) true 23 v1 d1 p1) :
    Calls Try.prog 7 #[v0, v1] W fun e W' => e = .returned (.bool true) ∧ Below W.heap.size W W' := by
  obtain ⟨A, n, c, E, rfl, hE, hn, hc, hl, hd⟩ := open_opts_arg o0 h0
  obtain ⟨A', n', c', E', rfl, hE', hn', hc', hl', hd'⟩ := open_opts_arg o1 h1
  exact less_walk A A' n c n' c' E E' W hE hn hl hd hE' hn' hl' hd'
end Go.Proofs.Ytlkijhcgiilmhaa
