/- NegoHelped: the plain law. -/
import Derived.Test.YtlkijhcgiilmhaaN30
namespace Go.Proofs.Ytlkijhcgiilmhaa
open Go.RowKit
set_option linter.unusedSimpArgs false
set_option linter.unusedVariables false
def apartL (L : List Opt) : Prop := L.Pairwise fun a b => a.1 ≠ b.1
theorem are_apart {R : List Rl} (h : areB R = true) : R.Pairwise fun a b => a.t ≠ b.t := by
  rw [List.pairwise_iff_getElem]
  intro i j hi hj hij e
  unfold areB goodK at h
  simp only [Bool.and_eq_true, List.all_eq_true, List.mem_range] at h
  have h2 := h.2 j hj
  rw [item_at hj] at h2
  simp only [Bool.and_eq_true, decide_eq_true_eq] at h2
  have h3 := h2.2
  unfold cntB at h3
  rw [List.countP_eq_zero] at h3
  have hm : R[i] ∈ R.take j := by
    rw [List.mem_take_iff_getElem]
    exact ⟨i, by omega, rfl⟩
  have h4 := h3 _ hm
  simp [e] at h4
theorem rule_eq {R : List Rl} (h : R.Pairwise fun a b => a.t ≠ b.t) {a b : Rl} (ha : a ∈ R) (hb : b ∈ R) (e : a.t = b.t) : a = b := by
  obtain ⟨i, hi, rfl⟩ := List.mem_iff_getElem.1 ha
  obtain ⟨j, hj, rfl⟩ := List.mem_iff_getElem.1 hb
  rw [List.pairwise_iff_getElem] at h
  rcases Nat.lt_trichotomy i j with hij | rfl | hij
  · exact absurd e (h i j hi hj hij)
  · rfl
  · exact absurd e.symm (h j i hj hi hij)
theorem plI_none_iff {L : List Opt} {t : Int} : plI L t = none ↔ ∀ o ∈ L, o.1 ≠ t := by
  unfold plI
  rw [List.findIdx?_eq_none_iff]
  constructor
  · intro h o ho e
    have := h o ho
    simp [e] at this
  · intro h o ho
    simpa using h o ho
theorem plI_fst {L : List Opt} {t : Int} {j : Nat} (h : plI L t = some j) : ∃ hj : j < L.length, L[j].1 = t := by
  unfold plI at h
  obtain ⟨hk, h1, -⟩ := List.findIdx?_eq_some_iff_getElem.1 h
  exact ⟨hk, by simpa using h1⟩
theorem fitI_none_iff {R : List Rl} {o : Opt} : fitI R o = none ↔ ∀ r ∈ R, fitB o r = false := by
  unfold fitI
  rw [List.findIdx?_eq_none_iff]
theorem apart_fresh {L : List Opt} (h : apartL L) {k : Nat} (hk : k < L.length) : plI (L.take k) L[k].1 = none := by
  rw [plI_none_iff]
  intro o ho
  rw [List.mem_take_iff_getElem] at ho
  obtain ⟨i, hi, rfl⟩ := ho
  unfold apartL at h
  rw [List.pairwise_iff_getElem] at h
  exact h i k (by omega) hk (by omega)
def looseB (R : List Rl) (o : Opt) : Bool := (fitI R o).isNone
theorem sort_apart {R : List Rl} {L : List Opt} (h : apartL L) : ∀ k, k ≤ L.length → (sortK R L k).1 = (L.take k).filter (looseB R) ∧
    (∀ r ∈ (sortK R L k).2.2, ∃ o ∈ L, fitB o r = true) ∧
    (∀ o ∈ L.take k, looseB R o = false → (∃ r ∈ R, fitB o r = true ∧ r.takes (be o.2 : Int) = true) ∨ ∃ r ∈ (sortK R L k).2.2, fitB o r = true)
  | 0, _ => ⟨by simp [sortK], (fun _ hr => by cases hr), by simp⟩
  | k + 1, hk => by
    obtain ⟨i1, i2, i3⟩ := sort_apart h k (by omega)
    have hkl : k < L.length := by omega
    rw [sortK_succ]
    unfold stepS
    rw [List.getElem?_eq_getElem hkl]
    simp only
    have hfr := apart_fresh h hkl
    rw [List.take_succ_eq_append_getElem hkl, List.filter_append]
    cases hf : fitI R L[k] with
    | none =>
      have hko : kindO R L k L[k] = none := by unfold kindO; rw [hf]
      rw [hko]
      simp only
      refine ⟨by rw [i1]; simp [looseB, hf], i2, fun o ho hl => ?_⟩
      rcases List.mem_append.1 ho with ho | ho
      · exact i3 o ho hl
      · simp only [List.mem_singleton] at ho
        subst ho
        simp [looseB, hf] at hl
    | some j =>
      obtain ⟨hj, hfit⟩ := fitI_lt hf
      have hko : kindO R L k L[k] = some R[j] := by unfold kindO; rw [hf]; simp only; rw [hfr]; simp [List.getElem?_eq_getElem hj]
      rw [hko]
      simp only
      by_cases ht : R[j].takes (be L[k].2 : Int) = true
      · rw [if_pos ht]
        refine ⟨by rw [i1]; simp [looseB, hf], i2, fun o ho hl => ?_⟩
        rcases List.mem_append.1 ho with ho | ho
        · exact i3 o ho hl
        · simp only [List.mem_singleton] at ho
          subst ho
          exact .inl ⟨_, List.getElem_mem hj, hfit, ht⟩
      · rw [if_neg ht]
        refine ⟨by simp only; rw [i1]; simp [looseB, hf], fun r hr => ?_, fun o ho hl => ?_⟩
        · rcases List.mem_append.1 hr with hr | hr
          · exact i2 r hr
          · simp only [List.mem_singleton] at hr
            subst hr
            exact ⟨_, List.getElem_mem hkl, hfit⟩
        · rcases List.mem_append.1 ho with ho | ho
          · rcases i3 o ho hl with h1 | ⟨r, hr, h1⟩
            · exact .inl h1
            · exact .inr ⟨r, List.mem_append_left _ hr, h1⟩
          · simp only [List.mem_singleton] at ho
            subst ho
            exact .inr ⟨_, List.mem_append_right _ (List.mem_singleton.2 rfl), hfit⟩
/-- What each option of a row is, if it is taken. -/
def TakenL (R : List Rl) (L : List Opt) : Prop := ∀ o ∈ L, ∃ r ∈ R, fitB o r = true ∧ r.takes (be o.2 : Int) = true
theorem sort_all {R : List Rl} {L : List Opt} (hR : R.Pairwise fun a b => a.t ≠ b.t) (h : apartL L) (ht : TakenL R L) : ∀ k, k ≤ L.length → sortK R L k = ([], [], [])
  | 0, _ => by simp [sortK]
  | k + 1, hk => by
    have ih := sort_all hR h ht k (by omega)
    have hkl : k < L.length := by omega
    rw [sortK_succ, ih]
    unfold stepS
    rw [List.getElem?_eq_getElem hkl]
    simp only
    obtain ⟨r, hr, hf, htk⟩ := ht _ (List.getElem_mem hkl)
    cases hfi : fitI R L[k] with
    | none =>
      rw [fitI_none_iff] at hfi
      rw [hfi r hr] at hf
      cases hf
    | some j =>
      obtain ⟨hj, hfit⟩ := fitI_lt hfi
      have e : R[j] = r := rule_eq hR (List.getElem_mem hj) hr (by
        unfold fitB at hfit hf
        simp only [Bool.and_eq_true, beq_iff_eq] at hfit hf
        rw [hfit.1, hf.1])
      have hko : kindO R L k L[k] = some R[j] := by unfold kindO; rw [hfi]; simp only; rw [apart_fresh h hkl]; simp [List.getElem?_eq_getElem hj]
      rw [hko]
      simp only
      rw [e, if_pos htk]
theorem rej_filter (p : Opt → Bool) : ∀ (O pre : List Opt) (acc : List Opt) (X : List Opt) (j : Nat), X.drop j = O.filter p → j ≤ X.length → O.foldl (rejStep X) (acc, j) = (acc ++ O.filter (fun o => !p o), X.length)
  | [], pre, acc, X, j, h, hj => by
    simp only [List.filter_nil, List.drop_eq_nil_iff] at h
    simp; omega
  | o :: O, pre, acc, X, j, h, hj => by
    rw [List.foldl_cons]
    cases hp : p o
    · rw [List.filter_cons_of_neg (by simp [hp])] at h
      have hne : X[j]? ≠ some o := by
        intro e
        have h2 : (X.drop j)[0]? = some o := by rw [List.getElem?_drop]; simpa using e
        rw [h] at h2
        have h3 : o ∈ O.filter p := List.mem_of_getElem? h2
        rw [List.mem_filter] at h3
        rw [hp] at h3
        cases h3.2
      rw [show rejStep X (acc, j) o = (acc ++ [o], j) from if_neg hne, rej_filter p O pre (acc ++ [o]) X j h hj, List.filter_cons_of_pos (by simp [hp])]
      simp
    · rw [List.filter_cons_of_pos hp] at h
      have hjl : j < X.length := by
        rcases Nat.lt_or_ge j X.length with h1 | h1
        · exact h1
        · rw [List.drop_eq_nil_of_le h1] at h; cases h
      have heq : X[j]? = some o := by
        have h2 : (X.drop j)[0]? = some o := by rw [h]; rfl
        rw [List.getElem?_drop] at h2
        simpa using h2
      rw [show rejStep X (acc, j) o = (acc, j + 1) from if_pos heq, rej_filter p O pre acc X (j + 1) (by
        rw [List.drop_eq_getElem_cons hjl] at h
        exact (List.cons.inj h).2) (by omega), List.filter_cons_of_neg (by simp [hp])]
def followO (L : List Opt) (code : Int) (X : List Opt) : List Opt × Bool :=
  if code = 3 then ((learnO L code X).1 ++ X.filter (fun x => !(plI L x.1).isSome), (learnO L code X).2) else learnO L code X
theorem be_putB (k : Nat) : ∀ n : Nat, be (putB n k) = n % 256 ^ k := by
  induction k with
  | zero => intro n; show 0 = n % 1; omega
  | succ k ih =>
    intro n
    rw [show putB n (k + 1) = putB (n / 256) k ++ [UInt8.ofNat n] from rfl, be_snoc, ih]
    have h1 : (UInt8.ofNat n).toNat = n % 256 := UInt8.toNat_ofNat'
    rw [h1, Nat.pow_succ, Nat.mul_comm (256 ^ k) 256, Nat.mod_mul]
    omega
theorem learn_nak' (O L : List Opt) : (learnO O 3 L).2 = decide (0 < L.length) ∧ True := by
  refine ⟨?_, trivial⟩
  unfold learnO
  by_cases h : L.length = 0
  · rw [if_pos h]; simp [h]
  · rw [if_neg h, if_pos rfl]
    simp; omega
/-- What a rule asks for is taken by it. -/
theorem good_taken {R : List Rl} (hR : areB R = true) {r : Rl} (hr : r ∈ R) : fitB (goodO r) r = true ∧ r.takes (be (goodO r).2 : Int) = true := by
  obtain ⟨h0, h4, g0, g4, ht, hl⟩ := ok_bounds (are_ok hR hr)
  unfold goodO fitB
  refine ⟨by rw [Bool.and_eq_true]; exact ⟨beq_self_eq_true _, by rw [beq_iff_eq, putB_length]; omega⟩, ?_⟩
  simp only
  rw [be_putB]
  have : r.gd.toNat % 256 ^ r.sz.toNat = r.gd.toNat := by
    apply Nat.mod_eq_of_lt
    unfold lim at hl
    have h1 : ((r.gd.toNat : Nat) : Int) < ((256 ^ r.sz.toNat : Nat) : Int) := by
      rw [Int.toNat_of_nonneg g0, Int.natCast_pow]; exact hl
    exact Int.ofNat_lt.1 h1
  rw [this, Int.toNat_of_nonneg g0]
  exact ht
/-- Where all fit: what takes over what is told is taken. -/
theorem helped_nak {R : List Rl} {L : List Opt} {n : Int} (hR : areB R = true) (h : apartL L) (hfit : ∀ o ∈ L, looseB R o = false) (hc : (answerO R L n (n + 3)).1 ≠ 2) :
    (answerO R L n (n + 3)).1 = 3 ∧ (followO L 3 (answerO R L n (n + 3)).2).2 = true ∧ ∀ m : Int, (answerO R (followO L 3 (answerO R L n (n + 3)).2).1 m (m + 3)).1 = 2 := by
  obtain ⟨s1, s2, s3⟩ := sort_apart (R := R) h L.length (Nat.le_refl _)
  rw [List.take_length] at s1 s3
  have e1 : (sortK R L L.length).1 = [] := by
    rw [s1, List.filter_eq_nil_iff]
    intro o ho
    rw [hfit o ho]; simp
  have hRA := are_apart hR
  have hmem : ∀ r ∈ nakR R L, r ∈ R := fun r hr => by
    unfold nakR at hr
    rcases List.mem_append.1 hr with hr | hr
    · exact sort_mem R L _ r hr
    · exact (List.mem_filter.1 hr).1
  by_cases h2 : (nakR R L).length = 0
  · exfalso
    apply hc
    unfold answerO
    rw [if_neg (by rw [hR]; simp), if_neg (by rw [e1]; simp), if_pos h2]
  · have ha : answerO R L n (n + 3) = (3, (nakR R L).map goodO) := by
      unfold answerO
      rw [if_neg (by rw [hR]; simp), if_neg (by rw [e1]; simp), if_neg h2, if_neg (fun h => by omega)]
    rw [ha]
    refine ⟨rfl, ?_, fun m => ?_⟩
    · unfold followO
      rw [if_pos rfl]
      rw [(learn_nak' L _).1]
      simp only [List.length_map, decide_eq_true_eq]
      omega
    · obtain ⟨X, hX⟩ : ∃ X, (nakR R L).map goodO = X := ⟨_, rfl⟩
      have hXm : ∀ x ∈ X, ∃ r ∈ nakR R L, goodO r = x := by
        rw [← hX]; intro x hx; exact List.mem_map.1 hx
      simp only
      rw [hX]
      have hl : (learnO L 3 X).1 = nakL L X := by
        unfold learnO
        rw [if_neg (by rw [← hX, List.length_map]; exact h2), if_pos rfl]
      have hF : (followO L 3 X).1 = nakL L X ++ X.filter (fun x => !(plI L x.1).isSome) := by
        unfold followO; rw [if_pos rfl, hl]
      rw [hF]
      obtain ⟨N, hN⟩ : ∃ N, nakL L X ++ X.filter (fun x => !(plI L x.1).isSome) = N := ⟨_, rfl⟩
      rw [hN]
      have hnakmem : ∀ o ∈ nakL L X, ∃ o' ∈ L, o = nakO X o' := by
        intro o ho
        unfold nakL at ho
        obtain ⟨o', h1, h2⟩ := List.mem_map.1 ho
        exact ⟨o', h1, h2.symm⟩
      have hnew : ∀ x ∈ X.filter (fun x => !(plI L x.1).isSome), x ∈ X ∧ ∀ o ∈ L, o.1 ≠ x.1 := by
        intro x hx
        rw [List.mem_filter] at hx
        refine ⟨hx.1, ?_⟩
        have := hx.2
        rw [← plI_none_iff]
        simpa using this
      have hT : TakenL R N := by
        rw [← hN]
        intro o ho
        rcases List.mem_append.1 ho with ho | ho
        · obtain ⟨o', ho', rfl⟩ := hnakmem o ho
          unfold nakO
          cases hp : plI X o'.1 with
          | some j =>
            obtain ⟨hj, ht⟩ := plI_fst hp
            obtain ⟨r, hr, hx⟩ := hXm _ (List.getElem_mem hj)
            refine ⟨r, hmem r hr, ?_⟩
            simp only
            have e : X.getD j (0, []) = goodO r := by rw [List.getD_eq_getElem?_getD, List.getElem?_eq_getElem hj]; exact hx.symm
            have e2 : o'.1 = (goodO r).1 := by rw [← ht, hx]
            rw [e, e2]
            exact good_taken hR (hmem r hr)
          | none =>
            simp only
            rcases s3 o' ho' (hfit o' ho') with h1 | ⟨r, hr, h1⟩
            · exact h1
            · exfalso
              rw [plI_none_iff] at hp
              refine hp (goodO r) (by rw [← hX]; exact List.mem_map_of_mem (by unfold nakR; exact List.mem_append_left _ hr)) ?_
              unfold fitB at h1
              simp only [Bool.and_eq_true, beq_iff_eq] at h1
              exact h1.1
        · obtain ⟨r, hr, rfl⟩ := hXm o (hnew o ho).1
          exact ⟨r, hmem r hr, good_taken hR (hmem r hr)⟩
      have hA : apartL N := by
        rw [← hN]
        unfold apartL
        rw [List.pairwise_append]
        refine ⟨?_, ?_, ?_⟩
        · unfold nakL
          rw [List.pairwise_map]
          exact List.Pairwise.imp (fun {a b} hab => by rw [nak_type, nak_type]; exact hab) h
        · rw [← hX, List.filter_map, List.pairwise_map]
          have : (nakR R L).filter ((fun x => !(plI L x.1).isSome) ∘ goodO) = (lackL R L).filter ((fun x => !(plI L x.1).isSome) ∘ goodO) := by
            unfold nakR
            rw [List.filter_append]
            have h0 : (sortK R L L.length).2.2.filter ((fun x => !(plI L x.1).isSome) ∘ goodO) = [] := by
              rw [List.filter_eq_nil_iff]
              intro r hr
              obtain ⟨o, ho, hf⟩ := s2 r hr
              simp only [Function.comp]
              intro hh
              have h1 : plI L (goodO r).1 = none := by simpa using hh
              rw [plI_none_iff] at h1
              refine h1 o ho ?_
              unfold fitB at hf
              simp only [Bool.and_eq_true, beq_iff_eq] at hf
              exact hf.1.symm
            rw [h0, List.nil_append]
          rw [this]
          refine List.Pairwise.filter _ ?_
          unfold lackL
          exact List.Pairwise.imp (fun {a b} hab => hab) (List.Pairwise.filter _ hRA)
        · intro a ha b hb
          obtain ⟨o', ho', rfl⟩ := hnakmem a ha
          rw [nak_type]
          exact (hnew b hb).2 o' ho'
      have hS := sort_all hRA hA hT N.length (Nat.le_refl _)
      have hLk : lackL R N = [] := by
        unfold lackL
        rw [List.filter_eq_nil_iff]
        intro r hr
        unfold lackB
        intro hh
        simp only [Bool.and_eq_true] at hh
        obtain ⟨hm1, hm2⟩ := hh
        have hm3 : plI N r.t = none := by simpa using hm2
        rw [plI_none_iff] at hm3
        cases hpl : plI L r.t with
        | some j =>
          obtain ⟨hj, ht⟩ := plI_fst hpl
          refine hm3 (nakO X L[j]) (by rw [← hN]; exact List.mem_append_left _ (by unfold nakL; exact List.mem_map_of_mem (List.getElem_mem hj))) ?_
          rw [nak_type]; exact ht
        | none =>
          refine hm3 (goodO r) ?_ rfl
          rw [← hN]
          refine List.mem_append_right _ ?_
          rw [List.mem_filter]
          refine ⟨?_, by show (!(plI L r.t).isSome) = true; rw [hpl]; rfl⟩
          rw [← hX]
          refine List.mem_map_of_mem ?_
          unfold nakR lackL
          refine List.mem_append_right _ ?_
          rw [List.mem_filter]
          exact ⟨hr, by unfold lackB; rw [hm1, hpl]; rfl⟩
      unfold answerO
      rw [if_neg (by rw [hR]; simp), hS, if_neg (by simp), if_pos]
      unfold nakR
      rw [hS, hLk]; rfl
/-- A question that is rejected: what is left fits. -/
theorem helped_rej {R : List Rl} {L : List Opt} {n : Int} (hR : areB R = true) (h : apartL L) (hodd : ¬ ∀ o ∈ L, looseB R o = false) :
    (answerO R L n (n + 3)).1 = 4 ∧ (followO L 4 (answerO R L n (n + 3)).2).2 = true ∧ apartL (followO L 4 (answerO R L n (n + 3)).2).1 ∧ ∀ o ∈ (followO L 4 (answerO R L n (n + 3)).2).1, looseB R o = false := by
  obtain ⟨s1, s2, s3⟩ := sort_apart (R := R) h L.length (Nat.le_refl _)
  rw [List.take_length] at s1
  have hne : 0 < (L.filter (looseB R)).length := by
    rcases Nat.eq_zero_or_pos (L.filter (looseB R)).length with h0 | h0
    · exfalso
      apply hodd
      intro o ho
      have := List.filter_eq_nil_iff.1 (List.length_eq_zero_iff.1 h0) o ho
      simpa using this
    · exact h0
  have ha : answerO R L n (n + 3) = (4, L.filter (looseB R)) := by
    unfold answerO
    rw [if_neg (by rw [hR]; simp), if_pos (by rw [s1]; exact hne), s1]
  have hr : rejS L (L.filter (looseB R)) = (L.filter (fun o => !looseB R o), (L.filter (looseB R)).length) := by
    unfold rejS
    have := rej_filter (looseB R) L [] [] (L.filter (looseB R)) 0 rfl (Nat.zero_le _)
    simpa using this
  have hF : followO L 4 (L.filter (looseB R)) = (L.filter (fun o => !looseB R o), true) := by
    unfold followO learnO
    rw [if_neg (by decide), if_neg (by omega), if_neg (by decide), if_pos rfl, hr, if_pos rfl]
  rw [ha]
  simp only
  rw [hF]
  refine ⟨by trivial, by trivial, List.Pairwise.filter _ h, fun o ho => ?_⟩
  have := (List.mem_filter.1 ho).2
  simpa using this
end Go.Proofs.Ytlkijhcgiilmhaa
