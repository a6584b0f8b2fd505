/- NegoLearns, NegoAnswers: their walks. -/
import Derived.Test.YtlkijhcgiilmhaaN26
import Derived.Test.YtlkijhcgiilmhaaOA
namespace Go.Proofs.Ytlkijhcgiilmhaa
open Go.RowKit
set_option linter.unusedSimpArgs false
set_option linter.unusedVariables false
/-- Options cut, as they can be read: what Opts leaves. -/
structure CutAt (w W : World) (E : List Ent) (A : Option Addr) (n c : Nat) : Prop where
  opts : OptsAt W W.heap.size A (fewE E)
  len : n = (fewE E).length
  le : n ≤ 20
  cap : n ≤ c
  data : ∀ e ∈ fewE E, e.d.length ≤ 1000000
theorem FewP.get {w w' : World} {B : Nat} {A0 : Option Addr} {E : List Ent} {x : Ending} (h : FewP w E x w') (hE : OptsAt w B A0 E) (hB : B ≤ w.heap.size) :
    ∃ A n c, x = .returned (.slice A n c) ∧ Below w.heap.size w w' ∧ CutAt w w' E A n c := by
  obtain ⟨A, n, c, rfl, hb, ho, hn⟩ := h
  obtain ⟨_, _, hq, hc, -⟩ := ownsRow_form ho
  cases hq
  exact ⟨A, n, c, rfl, hb, ⟨few_at hE hB hb ho, hn, by rw [hn]; exact few_len _, hc, fun e he => by have := few_data E e he; omega⟩⟩
theorem RowsB.get {L : List Opt} {b : Bool} {w w' : World} {x : Ending} (h : RowsB L b w x w') :
    ∃ (E : List Ent) (A : Option Addr) (n c : Nat), x = .returned (.tuple #[.slice A n c, .bool b]) ∧ E.map Ent.o = L ∧ n = E.length ∧ n ≤ c ∧ Below w.heap.size w w' ∧ OwnOpts w' w.heap.size (.slice A n c) E := by
  obtain ⟨E, A, c, rfl, he, hb, ho⟩ := h
  obtain ⟨_, _, hq, hc, -⟩ := ownsRow_form ho.1
  simp only [Value.slice.injEq] at hq
  obtain ⟨-, -, rfl⟩ := hq
  have : E.length = L.length := by rw [← he, List.length_map]
  exact ⟨E, A, L.length, c, rfl, he, this.symm, by omega, hb, ho⟩
set_option maxHeartbeats 4000000 in
theorem learns_walk (A A' : Option Addr) (n c n' c' : Nat) (code : Int) (E E' : List Ent) (w : World) (hE : OptsAt w w.heap.size A E) (hn : n = E.length) (hl : (n : Int) ≤ 9223372036854775807) (hd : ∀ e ∈ E, (e.d.length : Int) ≤ 9223372036854775807)
    (hE' : OptsAt w w.heap.size A' E') (hn' : n' = E'.length) (hl' : (n' : Int) ≤ 9223372036854775807) (hd' : ∀ e ∈ E', (e.d.length : Int) ≤ 9223372036854775807) :
    Calls Try.prog 4 #[.slice A n c, .int .i64 code, .slice A' n' c'] w fun x w' => x = .returned (.bool true) ∧ Below w.heap.size w w' := by
  have HE := Lib.hid hE
  have HN := Lib.hid hn
  have HD := Lib.hid hd
  have HE' := Lib.hid hE'
  have HN' := Lib.hid hn'
  have HD' := Lib.hid hd'
  clear hE hn hd hE' hn' hd'
  go_enter Try.func4, Try.ntmps4
  go_wp2_with fail
  refine (few_any A n c E _ _ (Nat.le_refl _) HE.out HN.out hl HD.out).mono ?_
  rintro e W1 h1
  obtain ⟨A1, n1, c1, rfl, hb, hcut⟩ := h1.get (HE.out) (Nat.le_refl _)
  have HB1 := Lib.hid hb
  have hz1 := hb.size
  have HC1 := Lib.hid hcut.opts
  have HN1 := Lib.hid hcut.len
  have HD1 := Lib.hid hcut.data
  have hl1 := hcut.le
  have hc1 := hcut.cap
  clear h1 hb hcut
  go_wp2_with fail
  refine (few_any A' n' c' E' _ w.heap.size hz1 (HE'.out.keep HB1.out) HN'.out hl' HD'.out).mono ?_
  rintro e W2 h1
  obtain ⟨A2, n2, c2, rfl, hb, hcut⟩ := h1.get (HE'.out.keep HB1.out) (hz1)
  have HB2 := Lib.hid hb
  have hz2 := hb.size
  have HC2 := Lib.hid hcut.opts
  have HN2 := Lib.hid hcut.len
  have HD2 := Lib.hid hcut.data
  have hl2 := hcut.le
  have hc2 := hcut.cap
  clear h1 hb hcut
  have HC1' := Lib.hid (HC1.out.keep HB2.out)
  clear HC1
  generalize fewE E = F1 at HC1' HN1 HD1
  generalize fewE E' = F2 at HC2 HN2 HD2
  go_wp2_with fail
  refine (learn_any A1 A2 n1 n2 c1 c2 code F1 F2 _ _ (Nat.le_refl _) (HC1'.out.more hz2) HC2.out HN1.out HN2.out hc2 (by omega) (by omega) HD1.out HD2.out).mono ?_
  obtain ⟨⟨Y, b⟩, hY⟩ : ∃ Y, learnO (F1.map Ent.o) code (F2.map Ent.o) = Y := ⟨_, rfl⟩
  have HY := Lib.hid hY
  rw [hY]
  clear hY
  rintro e W3 h1
  obtain ⟨E3, A3, n3, c3, rfl, he, hn3, hc3, hb, ho⟩ := h1.get
  have HE3 := Lib.hid he
  have HN3 := Lib.hid hn3
  have HB3 := Lib.hid hb
  have HO3 := Lib.hid ho.at
  have hz3 := hb.size
  clear h1 he hn3 hb ho
  go_wp2_with fail
  refine (rlearn_any A1 A2 n1 n2 c1 c2 code F1 F2 _ _ hz3 ((HC1'.out.more hz2).keep HB3.out) (HC2.out.keep HB3.out) HN1.out HN2.out hc1 (by omega) (by omega)).mono ?_
  rw [HY.out]
  rintro e W4 ⟨E4, A4, n4, c4, rfl, he, hn4, -, hb, ho⟩
  have HE4 := Lib.hid he
  have HN4 := Lib.hid hn4
  have HB4 := Lib.hid hb
  have HO4 := Lib.hid ho
  have hz4 := hb.size
  have hl3 : n3 ≤ 1000000 := by
    have h1 := HN3.out
    have h2 := congrArg List.length HE3.out
    have h3 : (learnO (F1.map Ent.o) code (F2.map Ent.o)).1.length ≤ F1.length := by
      unfold learnO
      split
      · simp
      · split
        · simp [nakL]
        · split
          · split
            · have := rej_count (F1.map Ent.o) (F2.map Ent.o); simp at this ⊢; omega
            · simp
          · simp
    rw [HY.out] at h3
    simp only [List.length_map] at h2 h3
    have := HN1.out
    omega
  clear he hn4 hb ho
  go_wp2_with fail
  refine (same_ref A3 A4 n3 n4 c3 c4 E3 E4 _ _ (Nat.le_refl _) ((HO3.out.keep HB4.out).more hz4) HO4.out HN3.out HN4.out hl3).mono ?_
  rw [HE3.out, HE4.out, sameB_self]
  rintro e W5 ⟨rfl, hb⟩
  have HB5 := Lib.hid (((HB1.out.trans ((HB2.out.trans ((HB3.out.trans ((HB4.out.trans (hb.mono hz4)).mono hz3)).mono hz2)).mono hz1))))
  clear hb
  go_wp2_with fail
  refine (awake_any _).mono ?_
  rintro e w1 ⟨rfl, hb⟩; obtain ⟨xs, d, rfl⟩ := ext_of hb; clear hb
  have hz5 := HB5.out.size
  cases b
  all_goals
    go_wp2_with fail
    go_ret
    exact ⟨rfl, by have h := HB5.out; exact bel⟩
end Go.Proofs.Ytlkijhcgiilmhaa
