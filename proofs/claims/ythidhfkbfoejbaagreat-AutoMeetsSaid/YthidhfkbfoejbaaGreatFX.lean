/- A law of the elder chapter that the bundle leaves out. -/
import Derived.Test.YthidhfkbfoejbaaGreatG2
namespace Go.Proofs.YthidhfkbfoejbaaGreat.Fs
theorem fins (s e : Int) (h : stepErr s e = 0) : (0 ≤ tabNext e s ∧ tabNext e s ≤ 9) ∧ (hasB (tabActs e s) 4 = true → tabNext e s = 0 ∨ tabNext e s = 2 ∨ tabNext e s = 3) ∧ (hasB (tabActs e s) 7 = true → tabNext e s = 6 ∨ tabNext e s = 7 ∨ tabNext e s = 8) ∧ (hasB (tabActs e s) 10 = true → tabNext e s = 4 ∨ tabNext e s = 5) := by
 unfold stepErr at h
 split at h
 ·rename_i hi
  simp only [inTab, decide_eq_true_eq] at hi
  obtain ⟨h1, h2, h3, h4⟩ := hi
  revert h
  rcases sixteen h1 h2 with rfl | rfl | rfl | rfl | rfl | rfl | rfl | rfl | rfl | rfl | rfl | rfl | rfl | rfl | rfl | rfl <;> rcases ten h3 h4 with rfl | rfl | rfl | rfl | rfl | rfl | rfl | rfl | rfl | rfl <;> decide
 ·omega
end Go.Proofs.YthidhfkbfoejbaaGreat.Fs
