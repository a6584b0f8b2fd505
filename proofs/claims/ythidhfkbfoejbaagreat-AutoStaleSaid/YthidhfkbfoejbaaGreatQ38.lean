/- Plain laws: an automaton that may be goes on to one that may be; an answer to an elder request. -/
import Derived.Test.YthidhfkbfoejbaaGreatQ23
namespace Go.Proofs.YthidhfkbfoejbaaGreat
open Go.RowKit
set_option linter.unusedSimpArgs false
set_option linter.unusedVariables false
set_option linter.ambiguousOpen false
open Ne (Rl Opt RulesAt areB)
open Fs (av hasB)
/-- Is the timer set? -/
def setsB (l : List Int) : Bool := l.any fun x => x == 6 || (x == 7 || x == 10)
theorem act_tim (c : Cf) (inn ans : Pk) (tick : Int) (acts : List Int) (a : Au) (x : Int) : (actO c inn ans tick acts a x).1.tim = if (x == 6 || (x == 7 || x == 10)) = true then tick + c.wt else a.tim := by
  unfold actO
  by_cases h5 : x = 5
  · subst h5; rfl
  rw [if_neg h5]
  by_cases h6 : x = 6
  · subst h6; rfl
  rw [if_neg h6]
  by_cases h7 : x = 7
  · subst h7; rfl
  rw [if_neg h7]
  by_cases h8 : x = 8
  · subst h8; rfl
  rw [if_neg h8]
  by_cases h9 : x = 9
  · subst h9; rfl
  rw [if_neg h9]
  by_cases h10 : x = 10
  · subst h10; rfl
  rw [if_neg h10]
  have hf : (x == 6 || (x == 7 || x == 10)) = false := by simp [h6, h7, h10]
  rw [hf]
  split
  · rfl
  · split
    · rfl
    · split <;> rfl
theorem act_st (c : Cf) (inn ans : Pk) (tick : Int) (acts : List Int) (a : Au) (x : Int) : (actO c inn ans tick acts a x).1.st = a.st := by
  unfold actO
  repeat' split
  all_goals rfl
theorem runO_st (c : Cf) (inn ans : Pk) (tick : Int) (acts : List Int) : ∀ (l : List Int) (s : Au × List Pk), (runO c inn ans tick acts s l).1.st = s.1.st
  | [], _ => rfl
  | x :: l, s => by
    unfold runO
    rw [List.foldl_cons]
    exact (runO_st c inn ans tick acts l _).trans (act_st ..)
theorem runO_tim (c : Cf) (inn ans : Pk) (tick : Int) (acts : List Int) : ∀ (l : List Int) (s : Au × List Pk), (runO c inn ans tick acts s l).1.tim = if setsB l = true then tick + c.wt else s.1.tim
  | [], _ => rfl
  | x :: l, s => by
    have h := runO_tim c inn ans tick acts l ((actO c inn ans tick acts s.1 x).1, s.2 ++ (actO c inn ans tick acts s.1 x).2)
    have h2 : runO c inn ans tick acts s (x :: l) = runO c inn ans tick acts ((actO c inn ans tick acts s.1 x).1, s.2 ++ (actO c inn ans tick acts s.1 x).2) l := by
      unfold runO; rw [List.foldl_cons]
    rw [h2, h]
    dsimp only
    rw [act_tim]
    unfold setsB
    rw [List.any_cons]
    cases (x == 6 || (x == 7 || x == 10)) <;> simp
theorem tab_sets (s e : Int) (h : Fs.stepErr s e = 0) : Fs.timedB (Fs.tabNext e s) = true → Fs.timedB s = true ∨ setsB (Fs.tabActs e s) = true := by
  unfold Fs.stepErr at h
  split at h
  · rename_i hi
    simp only [Fs.inTab, decide_eq_true_eq] at hi
    obtain ⟨h1, h2, h3, h4⟩ := hi
    revert h
    rcases Fs.sixteen h1 h2 with rfl | rfl | rfl | rfl | rfl | rfl | rfl | rfl | rfl | rfl | rfl | rfl | rfl | rfl | rfl | rfl <;> rcases Fs.ten h3 h4 with rfl | rfl | rfl | rfl | rfl | rfl | rfl | rfl | rfl | rfl <;> decide
  · omega
theorem isB_parts {a : Au} (h : isB a = true) : (0 ≤ a.st ∧ a.st ≤ 9) ∧ (0 ≤ a.id ∧ a.id ≤ 255) ∧ (0 ≤ a.req ∧ a.req ≤ 255) ∧ (0 ≤ a.cnt ∧ a.cnt ≤ 1000) ∧ (0 ≤ a.nak ∧ a.nak ≤ 1000) ∧ (Op.encR a.ask).2 = 0 ∧ timB a = true := by
  unfold isB numsB inB at h
  simp only [Bool.and_eq_true, decide_eq_true_eq, beq_iff_eq] at h
  obtain ⟨⟨h1, h2, h3, h4, h5⟩, h6, h7⟩ := h
  exact ⟨h1, h2, h3, h4, h5, h6, h7⟩
theorem isB_of {a : Au} (h : (0 ≤ a.st ∧ a.st ≤ 9) ∧ (0 ≤ a.id ∧ a.id ≤ 255) ∧ (0 ≤ a.req ∧ a.req ≤ 255) ∧ (0 ≤ a.cnt ∧ a.cnt ≤ 1000) ∧ (0 ≤ a.nak ∧ a.nak ≤ 1000) ∧ (Op.encR a.ask).2 = 0 ∧ timB a = true) : isB a = true := by
  unfold isB numsB inB
  simp only [Bool.and_eq_true, decide_eq_true_eq, beq_iff_eq]
  obtain ⟨h1, h2, h3, h4, h5, h6, h7⟩ := h
  exact ⟨⟨h1, h2, h3, h4, h5⟩, h6, h7⟩
theorem isB_ask {a : Au} {L : List Opt} (h : isB a = true) (hL : (Op.encR L).2 = 0) : isB { a with ask := L } = true := by
  obtain ⟨h1, h2, h3, h4, h5, h6, h7⟩ := isB_parts h
  exact isB_of ⟨h1, h2, h3, h4, h5, hL, h7⟩
theorem doO_is {c : Cf} {a : Au} {tick : Int} (ha : isB a = true) (e : Int) (inn ans : Pk) : isB (doO c a e inn ans tick).1 = true := by
  obtain ⟨h1, h2, h3, h4, h5, h6, h7⟩ := isB_parts ha
  unfold doO
  split
  · rename_i hf
    have hN := runO_ok c inn ans tick (Fs.tabActs e a.st) (Fs.tabActs e a.st) ({ a with st := Fs.tabNext e a.st }, []) ((NumOk.of_fine hf.1).state _)
    have hst := runO_st c inn ans tick (Fs.tabActs e a.st) (Fs.tabActs e a.st) ({ a with st := Fs.tabNext e a.st }, [])
    have hask := runO_ask c inn ans tick (Fs.tabActs e a.st) (Fs.tabActs e a.st) ({ a with st := Fs.tabNext e a.st }, [])
    have htim := runO_tim c inn ans tick (Fs.tabActs e a.st) (Fs.tabActs e a.st) ({ a with st := Fs.tabNext e a.st }, [])
    have h9 := (Fs.fins a.st e hf.2).1
    have hset := tab_sets a.st e hf.2
    obtain ⟨r, hr⟩ : ∃ r, (runO c inn ans tick (Fs.tabActs e a.st) ({ a with st := Fs.tabNext e a.st }, []) (Fs.tabActs e a.st)).1 = r := ⟨_, rfl⟩
    rw [hr] at hN hst hask htim
    rw [hr]
    dsimp only at hst hask htim ⊢
    clear hr
    obtain ⟨t0, t1, w0, w1, m0, m1, n0, n1, c0, c1, i0, i1, r0, r1, k0, k1⟩ := hN
    by_cases ht : Fs.timedB (Fs.tabNext e a.st) = true
    · rw [if_pos ht]
      refine isB_of ⟨by rw [hst]; exact h9, ⟨i0, i1⟩, ⟨r0, r1⟩, ⟨c0, c1⟩, ⟨k0, k1⟩, by rw [hask]; exact h6, ?_⟩
      unfold timB
      rw [hst, if_pos ht, htim]
      rcases hset ht with hs | hs
      · split
        · simp [inB]; omega
        · unfold timB at h7
          rw [if_pos hs] at h7
          exact h7
      · rw [if_pos hs]
        simp [inB]; omega
    · rw [if_neg ht]
      refine isB_of ⟨by dsimp only; rw [hst]; exact h9, ⟨i0, i1⟩, ⟨r0, r1⟩, ⟨c0, c1⟩, ⟨k0, k1⟩, by dsimp only; rw [hask]; exact h6, ?_⟩
      unfold timB
      dsimp only
      rw [hst, if_neg ht]
      rfl
  · exact ha
theorem timO_is {c : Cf} {a : Au} {tick : Int} (ha : isB a = true) : isB (timO c a tick).1 = true := by
  unfold timO
  split
  · exact ha
  · exact doO_is ha _ _ _
end Go.Proofs.YthidhfkbfoejbaaGreat
