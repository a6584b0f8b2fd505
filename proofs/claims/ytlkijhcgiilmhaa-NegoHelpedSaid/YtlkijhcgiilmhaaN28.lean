/- NegoAnswers, NegoLess: their walks; the calls of three laws. -/
import Derived.Test.YtlkijhcgiilmhaaN27
namespace Go.Proofs.Ytlkijhcgiilmhaa
open Go.ChangeShapes Go.WideShapes Go.ChangeAt Go.RowKit Go.Joins Go.Deep
set_option linter.unusedSimpArgs false
set_option linter.unusedVariables false
theorem negoLearns_calls {H : Type} (enc : TypeId × Value → H) (W : World) (base : Nat) (v0 v1 v2 : Value) (d0 d1 d2 : DataW H) (p0 p1 p2 : List MemPlace)
    (o0 : Value.okWide Try.prog W .any base 23 v0) (o1 : Value.okWide Try.prog W .any base 3 v1) (o2 : Value.okWide Try.prog W .any base 23 v2)
    (h0 : DataW.Trod enc Try.prog W 0 (fun _ => true) true 23 v0 d0 p0) (h1 : DataW.Trod enc Try.prog W 0 (fun _ => true) true 3 v1 d1 p1) (h2 : DataW.Trod enc Try.prog W 0 (fun _ => true) true 23 v2 d2 p2) :
    Calls Try.prog 4 #[v0, v1, v2] W fun e W' => e = .returned (.bool true) ∧ Below W.heap.size W W' := by
  obtain ⟨A, n, c, E, rfl, hE, hn, hc, hl, hd⟩ := open_opts_arg o0 h0
  obtain ⟨i1, rfl, rfl, rfl, w1⟩ := open_int Try.underlying3 o1 h1
  obtain ⟨A', n', c', E', rfl, hE', hn', hc', hl', hd'⟩ := open_opts_arg o2 h2
  exact learns_walk A A' n c n' c' i1 E E' W hE hn hl hd hE' hn' hl' hd'
theorem answer_len {R : List Rl} {L : List Opt} {naks most : Int} (hR : R.length ≤ 1000) (hL : L.length ≤ 1000) : (answerO R L naks most).2.length ≤ 2000 := by
  have h1 := sort_len R L L.length
  have h2 := lack_len R L R.length
  rw [List.take_length] at h2
  unfold answerO
  split
  · simp
  · split
    · simp only; omega
    · split
      · simp only; omega
      · split
        · simp only; omega
        · simp only [List.length_map, nakR, List.length_append]
          unfold lackL
          omega
set_option maxHeartbeats 4000000 in
theorem answers_walk (A A' : Option Addr) (n c n' c' : Nat) (naks most : Int) (R : List Rl) (E' : List Ent) (w : World) (hR : RulesAt w w.heap.size A R) (hn : n = R.length) (hc : n ≤ c) (hl : (n : Int) ≤ 9223372036854775807)
    (hE' : OptsAt w w.heap.size A' E') (hn' : n' = E'.length) (hl' : (n' : Int) ≤ 9223372036854775807) (hd' : ∀ e ∈ E', (e.d.length : Int) ≤ 9223372036854775807) :
    Calls Try.prog 3 #[.slice A n c, .slice A' n' c', .int .i64 naks, .int .i64 most] w fun x w' => x = .returned (.bool true) ∧ Below w.heap.size w w' := by
  have HR := Lib.hid (hR.take 18)
  have HN := Lib.hid (show min n 18 = (R.take 18).length by rw [List.length_take]; omega)
  obtain ⟨m, hm⟩ : ∃ m, min n 18 = m := ⟨_, rfl⟩
  have hm18 : m ≤ 18 := by omega
  rw [hm] at HN
  have HM := Lib.hid hm
  generalize R.take 18 = R1 at HR HN
  have HE' := Lib.hid hE'
  have HN' := Lib.hid hn'
  have HD' := Lib.hid hd'
  clear hR hn hE' hn' hd' hm
  go_enter Try.func3, Try.ntmps3
  go_wp2_with fail
  refine (rules_any A n c _ hc hl).mono ?_
  rw [HM.out]
  rintro e W1 ⟨rfl, rfl⟩
  go_wp2_with fail
  refine (few_any A' n' c' E' _ _ (Nat.le_refl _) HE'.out HN'.out hl' HD'.out).mono ?_
  rintro e W2 h1
  obtain ⟨A2, n2, c2, rfl, hb, hcut⟩ := h1.get (HE'.out) (Nat.le_refl _)
  have HB2 := Lib.hid hb
  have hz2 := hb.size
  have HC2 := Lib.hid hcut.opts
  have HN2 := Lib.hid hcut.len
  have HD2 := Lib.hid hcut.data
  have hl2 := hcut.le
  have hc2 := hcut.cap
  clear h1 hb hcut
  generalize fewE E' = F2 at HC2 HN2 HD2
  obtain ⟨L, hL⟩ : ∃ L, F2.map Ent.o = L := ⟨_, rfl⟩
  have HL := Lib.hid hL
  clear hL
  go_wp2_with fail
  refine (answer_any A A2 m c n2 c2 naks most R1 F2 L HL.out _ _ (Nat.le_refl _) ((HR.out.keep HB2.out).more hz2) HN.out (by omega) (HC2.out) HN2.out hc2 (by omega) HD2.out).mono ?_
  obtain ⟨⟨co, Y⟩, hY⟩ : ∃ Y, answerO R1 L naks most = Y := ⟨_, rfl⟩
  have hyl : Y.length ≤ 2000 := by
    have h := answer_len (R := R1) (L := L) (naks := naks) (most := most) (by have := HN.out; omega) (by have := HN2.out; rw [← HL.out, List.length_map]; omega)
    rwa [hY] at h
  have HY := Lib.hid hY
  rw [hY]
  clear hY
  obtain ⟨ny, hny⟩ : ∃ ny, Y.length = ny := ⟨_, rfl⟩
  rw [hny] at hyl
  have HNY := Lib.hid hny
  clear hny
  rintro e W3 h1
  obtain ⟨E3, A3, c3, rfl, he, hn3, hc3, hb, ho⟩ := h1.get HNY.out
  have HE3 := Lib.hid he
  have HN3 := Lib.hid hn3
  have HB3 := Lib.hid hb
  have HO3 := Lib.hid ho.at
  have hz3 := hb.size
  clear h1 he hn3 hb ho
  go_wp2_with fail
  refine (ranswer_any A A2 m c n2 c2 naks most R1 F2 L HL.out _ _ hz3 ((HR.out.keep (HB2.out.trans (HB3.out.mono hz2))).more hz2) HN.out (by omega) (HC2.out.keep HB3.out) HN2.out hc2 (by omega) HD2.out).mono ?_
  rw [HY.out]
  rintro e W4 ⟨E4, A4, n4, c4, rfl, he, hn4, -, hb, ho⟩
  have HE4 := Lib.hid he
  have HN4 := Lib.hid (show n4 = E4.length by rw [hn4, ← he, List.length_map])
  have HB4 := Lib.hid hb
  have HO4 := Lib.hid ho
  have hz4 := hb.size
  have HBW4 := Lib.hid (HB2.out.trans ((HB3.out.trans (HB4.out.mono hz3)).mono hz2))
  have hzw : w.heap.size ≤ W4.heap.size := by omega
  clear he hn4 hb ho
  obtain ⟨b, hb⟩ : ∃ b, areB R1 = b := ⟨_, rfl⟩
  have HAR := Lib.hid hb
  clear hb
  go_wp2_with fail
  refine (check_any A m c R1 _ _ hzw (HR.out.keep HBW4.out) HN.out (by omega)).mono ?_
  rw [HAR.out]
  rintro e W5 ⟨rfl, hb⟩
  have HB5 := Lib.hid hb
  have hz5 := hb.size
  have HBW5 := Lib.hid (HBW4.out.trans (HB5.out.mono hzw))
  clear hb
  have HS := Lib.hid (same_ref A3 A4 ny n4 c3 c4 E3 E4 W5 W4.heap.size hz5 (((HO3.out.keep HB4.out).more hz4).keep HB5.out) (HO4.out.keep HB5.out) HN3.out HN4.out (by omega))
  cases b
  · rw [chk_false]
    go_wp2_with fail
    refine HS.out.mono ?_
    rw [HE3.out, HE4.out, sameB_self]
    rintro e W6 ⟨rfl, hb⟩
    have HBW6 := Lib.hid (HBW5.out.trans (hb.mono (by omega)))
    have hz6 := hb.size
    clear hb
    go_wp2_with fail
    refine (are_ref A m c R1 _ w.heap.size (by omega) (HR.out.keep HBW6.out) HN.out (by omega)).mono ?_
    rw [HAR.out]
    rintro e w1 ⟨rfl, hb⟩; obtain ⟨xs, d, rfl⟩ := ext_of hb; clear hb
    go_wp2_with fail
    refine (check_any A m c R1 _ w.heap.size (by simp [go_sem, grow]; omega) (HR.out.keep (by have := HBW6.out; exact bel)) HN.out (by omega)).mono ?_
    rw [HAR.out, chk_false]
    rintro e w1 ⟨rfl, hb⟩; obtain ⟨xs2, d2, rfl⟩ := ext_of hb; clear hb
    go_wp2_with fail
    refine (awake_any _).mono ?_
    rintro e w1 ⟨rfl, hb⟩; obtain ⟨xs3, d3, rfl⟩ := ext_of hb; clear hb
    go_wp2_with fail
    go_ret
    exact ⟨rfl, by have := HBW6.out; exact bel⟩
  · rw [chk_true]
    go_wp2_with fail
    refine HS.out.mono ?_
    rw [HE3.out, HE4.out, sameB_self]
    rintro e W6 ⟨rfl, hb⟩
    have HBW6 := Lib.hid (HBW5.out.trans (hb.mono (by omega)))
    have hz6 := hb.size
    clear hb
    go_wp2_with fail
    refine (are_ref A m c R1 _ w.heap.size (by omega) (HR.out.keep HBW6.out) HN.out (by omega)).mono ?_
    rw [HAR.out]
    rintro e w1 ⟨rfl, hb⟩; obtain ⟨xs, d, rfl⟩ := ext_of hb; clear hb
    go_wp2_with fail
    refine (awake_any _).mono ?_
    rintro e w1 ⟨rfl, hb⟩; obtain ⟨xs3, d3, rfl⟩ := ext_of hb; clear hb
    go_wp2_with fail
    go_ret
    exact ⟨rfl, by have := HBW6.out; exact bel⟩
theorem negoAnswers_calls {H : Type} (enc : TypeId × Value → H) (W : World) (base : Nat) (v0 v1 v2 v3 : Value) (d0 d1 d2 d3 : DataW H) (p0 p1 p2 p3 : List MemPlace)
    (o0 : Value.okWide Try.prog W .any base 22 v0) (o1 : Value.okWide Try.prog W .any base 23 v1) (o2 : Value.okWide Try.prog W .any base 3 v2) (o3 : Value.okWide Try.prog W .any base 3 v3)
    (h0 : DataW.Trod enc Try.prog W 0 (fun _ => true) true 22 v0 d0 p0) (h1 : DataW.Trod enc Try.prog W 0 (fun _ => true) true 23 v1 d1 p1) (h2 : DataW.Trod enc Try.prog W 0 (fun _ => true) true 3 v2 d2 p2) (h3 : DataW.Trod enc Try.prog W 0 (fun _ => true) true 3 v3 d3 p3) :
    Calls Try.prog 3 #[v0, v1, v2, v3] W fun e W' => e = .returned (.bool true) ∧ Below W.heap.size W W' := by
  obtain ⟨A, n, c, R, rfl, hR, hn, hc, hl⟩ := open_rules o0 h0
  obtain ⟨A', n', c', E', rfl, hE', hn', hc', hl', hd'⟩ := open_opts_arg o1 h1
  obtain ⟨i2, rfl, rfl, rfl, w2⟩ := open_int Try.underlying3 o2 h2
  obtain ⟨i3, rfl, rfl, rfl, w3⟩ := open_int Try.underlying3 o3 h3
  exact answers_walk A A' n c n' c' i2 i3 R E' W hR hn hc hl hE' hn' hl' hd'
end Go.Proofs.Ytlkijhcgiilmhaa
