/- follow: its walk. -/
import Derived.Test.YtlkijhcgiilmhaaN34
import Derived.Test.YtlkijhcgiilmhaaN29
namespace Go.Proofs.Ytlkijhcgiilmhaa
open Go.RowKit
set_option linter.unusedSimpArgs false
set_option linter.unusedVariables false
theorem answer_len2 {R : List Rl} {L : List Opt} {naks most : Int} : (answerO R L naks most).2.length ≤ L.length + R.length := by
  have h1 := sort_len R L L.length
  have h2 := lack_len R L R.length
  rw [List.take_length] at h2
  unfold answerO
  split
  · simp
  · split
    · simp only; omega
    · split
      · simp only; omega
      · split
        · simp only; omega
        · simp only [List.length_map, nakR, List.length_append]
          unfold lackL
          omega
theorem sort_sub (R : List Rl) (L : List Opt) : ∀ k, (∀ o ∈ (sortK R L k).1, o ∈ L) ∧ ∀ o ∈ (sortK R L k).2.1, o ∈ L
  | 0 => ⟨(fun _ h => by cases h), (fun _ h => by cases h)⟩
  | k + 1 => by
    obtain ⟨h1, h2⟩ := sort_sub R L k
    rw [sortK_succ]
    unfold stepS
    split
    · exact ⟨h1, h2⟩
    · rename_i o ho
      have hm : o ∈ L := List.mem_of_getElem? ho
      split
      · refine ⟨fun x hx => ?_, h2⟩
        rcases List.mem_append.1 hx with hx | hx
        · exact h1 x hx
        · simp only [List.mem_singleton] at hx; subst hx; exact hm
      · split
        · exact ⟨h1, h2⟩
        · refine ⟨h1, fun x hx => ?_⟩
          rcases List.mem_append.1 hx with hx | hx
          · exact h2 x hx
          · simp only [List.mem_singleton] at hx; subst hx; exact hm
def short (D : Nat) (L : List Opt) : Prop := ∀ o ∈ L, o.2.length ≤ D
theorem answer_short {R : List Rl} {L : List Opt} {naks most : Int} {D : Nat} (hR : areB R = true) (hD : 4 ≤ D) (h : short D L) : short D (answerO R L naks most).2 := by
  obtain ⟨s1, s2⟩ := sort_sub R L L.length
  unfold answerO
  split
  · intro o ho; cases ho
  · split
    · exact fun o ho => h o (s1 o ho)
    · split
      · exact h
      · split
        · exact fun o ho => h o (s2 o ho)
        · intro o ho
          obtain ⟨r, hr, rfl⟩ := List.mem_map.1 ho
          have hrm : r ∈ R := by
            unfold nakR at hr
            rcases List.mem_append.1 hr with hr | hr
            · exact sort_mem R L _ r hr
            · exact (List.mem_filter.1 hr).1
          have := ok_bounds (are_ok hR hrm)
          unfold goodO
          simp only [putB_length]
          omega
theorem rej_sub (L : List Opt) : ∀ (O acc : List Opt) (j : Nat), ∀ o ∈ (O.foldl (rejStep L) (acc, j)).1, o ∈ acc ∨ o ∈ O
  | [], acc, j, o, ho => .inl ho
  | x :: O, acc, j, o, ho => by
    rw [List.foldl_cons] at ho
    by_cases h : L[j]? = some x
    · rw [show rejStep L (acc, j) x = (acc, j + 1) from if_pos h] at ho
      rcases rej_sub L O acc (j + 1) o ho with h1 | h1
      · exact .inl h1
      · exact .inr (List.mem_cons_of_mem _ h1)
    · rw [show rejStep L (acc, j) x = (acc ++ [x], j) from if_neg h] at ho
      rcases rej_sub L O (acc ++ [x]) j o ho with h1 | h1
      · rcases List.mem_append.1 h1 with h1 | h1
        · exact .inl h1
        · simp only [List.mem_singleton] at h1; subst h1; exact .inr (List.mem_cons_self ..)
      · exact .inr (List.mem_cons_of_mem _ h1)
theorem learn_short {O X : List Opt} {code : Int} {D : Nat} (h : short D O) (hX : short D X) : short D (learnO O code X).1 := by
  unfold learnO
  split
  · exact h
  · split
    · intro o ho
      unfold nakL at ho
      obtain ⟨o', h1, rfl⟩ := List.mem_map.1 ho
      unfold nakO
      cases hp : plI X o'.1 with
      | some j =>
        obtain ⟨hj, -⟩ := plI_fst hp
        simp only
        rw [List.getD_eq_getElem?_getD, List.getElem?_eq_getElem hj]
        exact hX _ (List.getElem_mem hj)
      | none => exact h o' h1
    · split
      · split
        · intro o ho
          rcases rej_sub X O [] 0 o ho with h1 | h1
          · cases h1
          · exact h o h1
        · exact h
      · exact h
theorem learn_len (O X : List Opt) (code : Int) : (learnO O code X).1.length ≤ O.length := by
  unfold learnO
  split
  · simp
  · split
    · simp [nakL]
    · split
      · split
        · have := rej_count O X; simp only; omega
        · simp
      · simp
theorem follow_short {O X : List Opt} {code : Int} {D : Nat} (h : short D O) (hX : short D X) : short D (followO O code X).1 := by
  unfold followO
  split
  · intro o ho
    rcases List.mem_append.1 ho with ho | ho
    · exact learn_short h hX o ho
    · exact hX o (List.mem_filter.1 ho).1
  · exact learn_short h hX
theorem follow_len (O X : List Opt) (code : Int) : (followO O code X).1.length ≤ O.length + X.length := by
  have h1 := learn_len O X code
  unfold followO
  split
  · have := List.length_filter_le (fun x => !(plI O x.1).isSome) X
    simp only [List.length_append]
    omega
  · omega
theorem At.beside {w w' : World} {B b o : Nat} {xs : List Value} {r : Option Nat} (hg : w.grownBy w' r) (h : At w B (some ⟨b, o, none⟩) xs) (hB : b < w.heap.size) (hr : r ≠ some b) : At w' B (some ⟨b, o, none⟩) xs := by
  rcases h with h | ⟨b', o', e, hb, hc⟩
  · exact .inl h
  · simp only [Option.some.injEq, Addr.mk.injEq, and_true] at e
    obtain ⟨rfl, rfl⟩ := e
    refine .inr ⟨b, o, rfl, hb, fun j u hu => ?_⟩
    rw [World.cell?_of_block (w := w) (a := ⟨b, o + j, none⟩) (hg.block b hB (fun e => hr e.symm))]
    exact hc j u hu
def anyT (L : List Opt) (t : Int) (q : Nat) : Bool := (L.take q).any fun o => o.1 == t
theorem anyT_zero (L : List Opt) (t : Int) : anyT L t 0 = false := by unfold anyT; simp
theorem anyT_succ {L : List Opt} {t : Int} {q : Nat} (hq : q < L.length) : anyT L t (q + 1) = (anyT L t q || L[q].1 == t) := by
  unfold anyT
  rw [List.take_succ_eq_append_getElem hq, List.any_append]
  simp
theorem anyT_all (L : List Opt) (t : Int) : anyT L t L.length = (plI L t).isSome := by
  unfold anyT plI
  rw [List.take_length, List.findIdx?_isSome]
theorem RowsR.of_own {L : List Opt} {b : Bool} {w w' : World} {E : List Ent} {A : Option Addr} {n c : Nat} (he : E.map Ent.o = L) (hn : n = E.length) (hc : n ≤ c) (hb : Below w.heap.size w w') (ho : OptsAt w' w'.heap.size A E) : RowsR L b w (.returned (.tuple #[.slice A n c, .bool b])) w' :=
  ⟨E, A, n, c, rfl, he, hn, hc, hb, ho⟩
set_option maxHeartbeats 4000000 in
theorem follow_any (A1 A2 : Option Addr) (n1 n2 c1 c2 : Nat) (code : Int) (E1 E2 : List Ent) (w : World) (B : Nat) (hB : B ≤ w.heap.size) (hA1 : OptsAt w B A1 E1) (hA2 : OptsAt w B A2 E2) (hn1 : n1 = E1.length) (hn2 : n2 = E2.length) (hc2 : n2 ≤ c2) (hl1 : n1 ≤ 10000) (hl2 : n2 ≤ 10000) (hd1 : ∀ e ∈ E1, e.d.length ≤ 1000000) (hd2 : ∀ e ∈ E2, e.d.length ≤ 1000000) :
    Calls Try.prog 21 #[.slice A1 n1 c1, .int .i64 code, .slice A2 n2 c2] w (RowsR (followO (E1.map Ent.o) code (E2.map Ent.o)).1 (followO (E1.map Ent.o) code (E2.map Ent.o)).2 w) := by
  have HA1 := Lib.hid hA1
  have HA2 := Lib.hid hA2
  have HN1 := Lib.hid hn1
  have HN2 := Lib.hid hn2
  have HB := Lib.hid hB
  have HD1 := Lib.hid hd1
  have HD2 := Lib.hid hd2
  obtain ⟨O, hO⟩ : ∃ O, E1.map Ent.o = O := ⟨_, rfl⟩
  obtain ⟨X, hX⟩ : ∃ L, E2.map Ent.o = L := ⟨_, rfl⟩
  have HO := Lib.hid hO
  have HX := Lib.hid hX
  have HOL := Lib.hid (show O.length = n1 by rw [← hO, List.length_map]; exact hn1.symm)
  have HXL := Lib.hid (show X.length = n2 by rw [← hX, List.length_map]; exact hn2.symm)
  rw [hO, hX]
  clear hA1 hA2 hn1 hn2 hB hd1 hd2 hO hX
  go_enter Try.func21, Try.ntmps21
  go_wp2_with fail
  refine (learn_any A1 A2 n1 n2 c1 c2 code E1 E2 _ B HB.out HA1.out HA2.out HN1.out HN2.out hc2 (by omega) (by omega) HD1.out HD2.out).mono ?_
  rw [HO.out, HX.out]
  have HLEN := Lib.hid (learn_len O X code)
  have HFO := Lib.hid (show followO O code X = if code = 3 then ((learnO O code X).1 ++ X.filter (fun x => !(plI O x.1).isSome), (learnO O code X).2) else learnO O code X from rfl)
  obtain ⟨⟨Y, bo⟩, hY⟩ : ∃ Y, learnO O code X = Y := ⟨_, rfl⟩
  rw [hY] at HLEN HFO
  rw [hY]
  clear hY
  rintro e W1 h1
  obtain ⟨E3, A3, n3, c3, rfl, he, hn3, hc3, hb, ho⟩ := h1.get
  replace he : E3.map Ent.o = Y := he
  have hl3 : n3 ≤ 10000 := by
    have h := HLEN.out
    simp only at h
    rw [HOL.out, ← he, List.length_map] at h
    omega
  have HE3 := Lib.hid he
  have HN3 := Lib.hid hn3
  have HB3 := Lib.hid hb
  have HO3 := Lib.hid ho.at
  have hz3 := hb.size
  have HC3 := Lib.hid hc3
  clear h1 he hn3 hb ho hc3 HLEN
  by_cases hc : code = 3
  · subst hc
    have HFO2 := Lib.hid (show followO O 3 X = (Y ++ X.filter (fun x => !(plI O x.1).isSome), bo) by rw [HFO.out, if_pos rfl])
    clear HFO
    go_wp2_with fail
    go_loopw [10, 8] (fun i v wr => ∃ (k kn c : Nat) (A : Option Addr) (E : List Ent), k ≤ n2 ∧ i = .int .i64 k ∧ v = .slice A kn c ∧ kn = E.length ∧ kn ≤ c ∧ kn ≤ n3 + k ∧ E.map Ent.o = Y ++ (X.take k).filter (fun x => !(plI O x.1).isSome) ∧ Below w.heap.size w wr ∧ OptsAt wr wr.heap.size A E) (fun i _ _ => n2 - (intOf i).toNat)
    case atStart => exact ⟨0, n3, c3, A3, E3, Nat.zero_le _, rfl, rfl, HN3.out, HC3.out, by omega, by rw [HE3.out]; simp, HB3.out, HO3.out⟩
    case round =>
      obtain ⟨k, kn, c, A, E, hk, rfl, rfl, hkn, hkc, hkl, hE, hbl, hat⟩ := hrel
      have HKN := Lib.hid hkn
      have HKC := Lib.hid hkc
      have HE := Lib.hid hE
      have HBL := Lib.hid hbl
      have HAT := Lib.hid hat
      have hsz := hbl.size
      clear hkn hE hbl hat
      by_cases hlt : k < n2
      · have HK := Lib.hid (show k < E2.length by have := HN2.out; omega)
        have HEQ := Lib.hid (show X[k]'(by have := HXL.out; omega) = (E2[k]'HK.out).o by simp only [← HX.out, List.getElem_map])
        have HTK := Lib.hid (show X.take (k + 1) = X.take k ++ [(E2[k]'HK.out).o] by rw [List.take_succ_eq_append_getElem (by have := HXL.out; omega), HEQ.out])
        have HAL := Lib.hid (anyT_all O (E2[k]'HK.out).o.1)
        have HTZ := Lib.hid (anyT_zero O (E2[k]'HK.out).o.1)
        obtain ⟨wo, hwo⟩ : ∃ wo : World, wo = wr := ⟨_, rfl⟩
        rw [← hwo] at HBL hsz HAT ⊢
        clear hwo
        go_wp2_with fail
        go_loopw [11, 12] (fun f j wr => ∃ q : Nat, q ≤ n1 ∧ j = .int .i64 q ∧ f = .bool (anyT O (E2[k]'HK.out).o.1 q) ∧ Below wo.heap.size wo wr) (fun _ j _ => n1 - (intOf j).toNat)
        case atStart => exact ⟨0, Nat.zero_le _, rfl, congrArg Value.bool HTZ.out.symm, Below.refl _ _⟩
        case round =>
          obtain ⟨q, hq, rfl, rfl, hbi⟩ := hrel
          have HBI := Lib.hid hbi
          have HBW := Lib.hid (HBL.out.trans (hbi.mono hsz))
          have hszi := hbi.size
          clear hbi
          by_cases hqm : q < n1
          · have HQ := Lib.hid (show q < E1.length by have := HN1.out; omega)
            have HEQ1 := Lib.hid (show O[q]'(by have := HOL.out; omega) = (E1[q]'HQ.out).o by simp only [← HO.out, List.getElem_map])
            have HNX := Lib.hid (anyT_succ (t := (E2[k]'HK.out).o.1) (show q < O.length by have := HOL.out; omega))
            rw [HEQ1.out] at HNX
            obtain ⟨b, o, rfl, hbB, hx, -⟩ := (HA1.out.keep (HBW.out.mono HB.out)).get HQ.out
            obtain ⟨b2, o2, hq2, hbB2, hx2, -⟩ := (HA2.out.keep (HBW.out.mono HB.out)).get HK.out
            subst hq2
            obtain ⟨t1, ht1⟩ : ∃ t, (E1[q]'HQ.out).t = t := ⟨_, rfl⟩
            obtain ⟨t2, ht2⟩ : ∃ t, (E2[k]'HK.out).t = t := ⟨_, rfl⟩
            have HT1 := Lib.hid (show (E1[q]'HQ.out).o.1 = t1 from ht1)
            have HT2 := Lib.hid (show (E2[k]'HK.out).o.1 = t2 from ht2)
            rw [HT1.out, HT2.out] at HNX
            rw [ht1] at hx
            rw [ht2] at hx2
            rw [HT2.out]
            clear ht1 ht2
            have hbz : b < wr.heap.size := by have := HB.out; omega
            have hbz2 : b2 < wr.heap.size := by have := HB.out; omega
            have kk0 : (0 : Int) ≤ (q : Int) := by omega
            have kk1 : (q : Int) < (n1 : Int) := by omega
            have jj0 : (0 : Int) ≤ (k : Int) := by omega
            have jj1 : (k : Int) < (n2 : Int) := by omega
            cases hth : anyT O t2 q
            · rw [hth] at HNX
              simp only [Bool.false_or] at HNX
              clear hth
              go_upto_region 11 with (fail)
              go_quiet (fail)
              go_wp2_with fail
              go_roundw
              case rel => exact ⟨q + 1, by omega, by go_num, congrArg Value.bool HNX.out.symm, by have := HBI.out; exact bel⟩
              case measure => simp [intOf]; omega
            · rw [hth] at HNX
              simp only [Bool.true_or] at HNX
              clear hth
              go_upto_region 11 with (fail)
              go_quiet (fail)
              go_wp2_with fail
              go_roundw
              case rel => exact ⟨q + 1, by omega, by go_num, congrArg Value.bool HNX.out.symm, by have := HBI.out; exact bel⟩
              case measure => simp [intOf]; omega
          · obtain rfl : q = n1 := by omega
            have HAL2 := Lib.hid (show anyT O (E2[k]'HK.out).o.1 q = (plI O (E2[k]'HK.out).o.1).isSome by have h := HAL.out; rwa [HOL.out] at h)
            rw [HAL2.out]
            cases hpl : (plI O (E2[k]'HK.out).o.1).isSome
            · have HPL := Lib.hid hpl
              clear hpl
              have HAT2 := Lib.hid ((HAT.out.keep HBI.out).more hszi)
              obtain ⟨b2, o2, rfl, hbB2, hx2, hy2⟩ := (HA2.out.keep (HBW.out.mono HB.out)).get HK.out
              have hatd := (HA2.out.2 _ (List.getElem_mem HK.out))
              obtain ⟨e0, he0⟩ : ∃ e, E2[k]'HK.out = e := ⟨_, rfl⟩
              have HE0 := Lib.hid he0
              rw [he0] at hx2 hy2 hatd
              clear he0
              obtain ⟨t2, d2, a2, ce2⟩ := e0
              unfold Ent.v at hy2
              simp only at hx2 hy2 hatd
              have HATD := Lib.hid hatd
              clear hatd
              have hbz2 : b2 < wr.heap.size := by have := HB.out; omega
              have jj0 : (0 : Int) ≤ (k : Int) := by omega
              have jj1 : (k : Int) < (n2 : Int) := by omega
              have HX2 := Lib.hid (And.intro hx2 hy2)
              go_upto_region 13 with (fail)
              have HP2 := Lib.hid (show (plI O t2).isSome = false from by have h := HPL.out; rw [HE0.out] at h; exact h)
              have HTK2 := Lib.hid (show X.take (k + 1) = X.take k ++ [(t2, d2)] by have h := HTK.out; rw [HE0.out] at h; exact h)
              go_region_held3 (fun w' => w'.cell? ⟨b2, o2 + k * 2, none⟩ = some (.int .i64 t2) ∧ w'.cell? ⟨b2, o2 + k * 2 + 1, none⟩ = some (.slice a2 d2.length ce2)) (first | (go_keep; done) | (go_simp; done) | (simp [go_sem]; done)) (first | ((refine step_appv wr rfl (.tmp 52) (.tmp 53) 23 rfl 42 Try.underlying23 (.agg #[.int .i64 0, .slice none 0 0]) 2 32 infoOpt rfl (by decide) (by decide) (.slice (some ⟨wr.heap.size, 0, none⟩) 0 0) 0 [] rfl (by exact own_below (own_empty wr wr.heap.size 42 2 (Nat.le_refl _)) (by exact bel)) wr.heap.size A kn c (cellsE E) rfl (by have h := cellsE_len E; have := HKN.out; omega) (by omega) (by exact HAT2.out.1.keep (by exact bel)) (cellsE_one _) (by exact bel) ?_); intro A5 c5 w1 ho1 hc1 hb1 hg1; have q0 : w1.cell? ⟨b2, o2 + k * 2, none⟩ = some (.int .i64 t2) := (hb1.cell (p := ⟨b2, _, none⟩) hbz2).trans hx2; have q1 : w1.cell? ⟨b2, o2 + k * 2 + 1, none⟩ = some (.slice a2 d2.length ce2) := (hb1.cell (p := ⟨b2, _, none⟩) hbz2).trans hy2; simp only [Nat.zero_add, List.nil_append] at ho1; have HO1 := Lib.hid ho1; have HB1 := Lib.hid hb1; have HG1 := Lib.hid hg1; have HNEW := Lib.hid (At.newN w1 #[.int .i64 t2, .slice a2 d2.length ce2] 42 [.int .i64 t2, .slice a2 d2.length ce2] w1.heap.size rfl rfl); clear ho1 hc1 hb1 hg1; rw [Nat.zero_add]) | ((refine step_appv wr rfl (.tmp 52) (.tmp 53) 23 rfl 42 Try.underlying23 (.agg #[.int .i64 0, .slice none 0 0]) 2 32 infoOpt rfl (by decide) (by decide) (.slice (some ⟨wr.heap.size + 1, 0, none⟩) 0 0) 0 [] rfl (by have h := own_empty (wr.alloc (.cells #[.int .i64 t2, .slice a2 d2.length ce2] 42)) wr.heap.size 42 2 (by simp); simp only [World.size_alloc] at h; exact h) wr.heap.size A kn c (cellsE E) rfl (by have h := cellsE_len E; have := HKN.out; omega) (by omega) (by exact HAT2.out.1.keep (by exact bel)) (cellsE_one _) (by exact bel) ?_); intro A5 c5 w1 ho1 hc1 hb1 hg1; have q0 : w1.cell? ⟨b2, o2 + k * 2, none⟩ = some (.int .i64 t2) := (hb1.cell (p := ⟨b2, _, none⟩) hbz2).trans hx2; have q1 : w1.cell? ⟨b2, o2 + k * 2 + 1, none⟩ = some (.slice a2 d2.length ce2) := (hb1.cell (p := ⟨b2, _, none⟩) hbz2).trans hy2; simp only [Nat.zero_add, List.nil_append] at ho1; have HO1 := Lib.hid ho1; have HB1 := Lib.hid hb1; have HG1 := Lib.hid hg1; have HNEW := Lib.hid (At.newN w1 #[.int .i64 t2, .slice a2 d2.length ce2] 42 [.int .i64 t2, .slice a2 d2.length ce2] w1.heap.size rfl rfl); clear ho1 hc1 hb1 hg1; rw [Nat.zero_add]) | ((refine step_appv wr rfl (.tmp 54) (.tmp 59) 23 rfl 42 Try.underlying23 (.agg #[.int .i64 0, .slice none 0 0]) 2 32 infoOpt rfl (by decide) (by decide) (.slice A5 kn c5) kn (cellsE E) rfl (by exact own_below HO1.out (by exact bel)) (w1.heap.size + 1) (some ⟨w1.heap.size, 0, none⟩) 1 1 [.int .i64 t2, .slice a2 d2.length ce2] rfl rfl (by omega) (by exact HNEW.out) (by intro u hu; simp at hu; rcases hu with rfl | rfl <;> rfl) (by have hh := HB1.out; have hk := hh.size; exact bel) ?_); intro A6 c6 w3 ho3 hc3 hb3 hg3; have q3 : w3.cell? ⟨b2, o2 + k * 2, none⟩ = some (.int .i64 t2) := (hb3.cell (p := ⟨b2, _, none⟩) hbz2).trans hx2; have q4 : w3.cell? ⟨b2, o2 + k * 2 + 1, none⟩ = some (.slice a2 d2.length ce2) := (hb3.cell (p := ⟨b2, _, none⟩) hbz2).trans hy2; have HO6 := Lib.hid ho3; have HB6 := Lib.hid hb3; have HC6 := Lib.hid hc3; clear ho3 hc3 hb3 hg3) | ((refine step_appv wr rfl (.tmp 54) (.tmp 59) 23 rfl 42 Try.underlying23 (.agg #[.int .i64 0, .slice none 0 0]) 2 32 infoOpt rfl (by decide) (by decide) (.slice A5 kn c5) kn (cellsE E) rfl (by exact own_below HO1.out (by exact bel)) (wr.heap.size + 1 + 1) (some ⟨wr.heap.size + 1, 0, none⟩) 1 1 [.int .i64 t2, .slice a2 d2.length ce2] rfl rfl (by omega) (by exact At.beside HG1.out (by exact At.newN (wr.alloc (.cells #[] 42)) #[.int .i64 t2, .slice a2 d2.length ce2] 42 [.int .i64 t2, .slice a2 d2.length ce2] (wr.heap.size + 1) (by simp) rfl) (by simp) (by simp [Value.ownBlock])) (by intro u hu; simp at hu; rcases hu with rfl | rfl <;> rfl) (by have hh := HB1.out; have hk := hh.size; exact bel) ?_); intro A6 c6 w3 ho3 hc3 hb3 hg3; have q3 : w3.cell? ⟨b2, o2 + k * 2, none⟩ = some (.int .i64 t2) := (hb3.cell (p := ⟨b2, _, none⟩) hbz2).trans hx2; have q4 : w3.cell? ⟨b2, o2 + k * 2 + 1, none⟩ = some (.slice a2 d2.length ce2) := (hb3.cell (p := ⟨b2, _, none⟩) hbz2).trans hy2; have HO6 := Lib.hid ho3; have HB6 := Lib.hid hb3; have HC6 := Lib.hid hc3; clear ho3 hc3 hb3 hg3) | ((refine step_appv wr rfl (.tmp 54) (.tmp 59) 23 rfl 42 Try.underlying23 (.agg #[.int .i64 0, .slice none 0 0]) 2 32 infoOpt rfl (by decide) (by decide) (.slice A5 kn c5) kn (cellsE E) rfl (by exact own_below HO1.out (by exact bel)) (wr.heap.size + 1) (some ⟨wr.heap.size, 0, none⟩) 1 1 [.int .i64 t2, .slice a2 d2.length ce2] rfl rfl (by omega) (by exact At.beside HG1.out (by exact (At.newN wr #[.int .i64 t2, .slice a2 d2.length ce2] 42 [.int .i64 t2, .slice a2 d2.length ce2] wr.heap.size rfl rfl).keep (w' := (wr.alloc (.cells #[.int .i64 t2, .slice a2 d2.length ce2] 42)).alloc (.cells #[] 42)) (by exact bel)) (by simp [go_sem]) (by simp [Value.ownBlock])) (by intro u hu; simp at hu; rcases hu with rfl | rfl <;> rfl) (by have hh := HB1.out; have hk := hh.size; exact bel) ?_); intro A6 c6 w3 ho3 hc3 hb3 hg3; have q3 : w3.cell? ⟨b2, o2 + k * 2, none⟩ = some (.int .i64 t2) := (hb3.cell (p := ⟨b2, _, none⟩) hbz2).trans hx2; have q4 : w3.cell? ⟨b2, o2 + k * 2 + 1, none⟩ = some (.slice a2 d2.length ce2) := (hb3.cell (p := ⟨b2, _, none⟩) hbz2).trans hy2; have HO6 := Lib.hid ho3; have HB6 := Lib.hid hb3; have HC6 := Lib.hid hc3; clear ho3 hc3 hb3 hg3))
              all_goals
                have hz6 := HB6.out.size
                go_wp2_with fail
                go_roundw
                case rel => exact ⟨k + 1, kn + 1, c6, A6, E ++ [⟨t2, d2, a2, ce2⟩], by omega, by go_num, rfl, by simp [HKN.out], HC6.out, by omega, by rw [HTK2.out, List.filter_append, List.map_append, HE.out, List.filter_cons_of_pos (by simp only; rw [HP2.out]; rfl), List.append_assoc]; rfl, by have h := HBW.out.trans (HB6.out.mono HBW.out.size); exact bel, ⟨by rw [cellsE_snoc]; exact At.of_own HO6.out, fun e he => by
                  rcases List.mem_append.1 he with he | he
                  · obtain ⟨g1, g2⟩ := HAT2.out.2 e he
                    exact ⟨(g1.keep HB6.out).more (by simpa using hz6), g2⟩
                  · simp only [List.mem_singleton] at he
                    subst he
                    exact ⟨(HATD.out.1.keep ((HBW.out.trans (HB6.out.mono HBW.out.size)).mono HB.out)).more (by have := HB.out; have := HBW.out.size; simp; omega), HATD.out.2⟩⟩⟩
                case measure => simp [intOf]; omega
            · have HPL := Lib.hid hpl
              clear hpl
              go_wp2_with fail
              go_roundw
              case rel => exact ⟨k + 1, kn, c, A, E, by omega, by go_num, rfl, HKN.out, HKC.out, by omega, by rw [HTK.out, List.filter_append, HE.out, List.filter_cons_of_neg (by rw [HPL.out]; simp)]; simp, HBW.out, (HAT.out.keep HBI.out).more hszi⟩
              case measure => simp [intOf]; omega
      · obtain rfl : k = n2 := by omega
        go_wp2_with fail
        go_ret2
        rw [HFO2.out]
        exact RowsR.of_own (by rw [HE.out, ← HXL.out, List.take_length]) HKN.out HKC.out HBL.out HAT.out
  · have HFO2 := Lib.hid (show followO O code X = (Y, bo) by rw [HFO.out, if_neg hc])
    have hc1 : (code != 3) = true := by simpa using hc
    clear HFO
    go_wp2_with fail
    go_ret2
    rw [HFO2.out]
    exact RowsR.of_own HE3.out HN3.out HC3.out HB3.out HO3.out
end Go.Proofs.Ytlkijhcgiilmhaa
