/- Plain laws: an automaton that may be goes on to one that may be; an answer to an elder request. -/
import Derived.Test.YthidhfkbfoejbaaGreatQ38
import Derived.Test.YthidhfkbfoejbaaGreatQ28
import Derived.Test.YthidhfkbfoejbaaGreatQ40
namespace Go.Proofs.YthidhfkbfoejbaaGreat
open Go.RowKit
set_option linter.unusedSimpArgs false
set_option linter.unusedVariables false
set_option linter.ambiguousOpen false
open Ne (Rl Opt RulesAt areB)
open Fs (av hasB)
theorem packO_lens (c : Cf) (a : Au) (inn : Pk) (tick : Int) (h : a.ask.length ≤ 1000) : (packO c a inn tick).1.1.ask.length ≤ 1000 ∧ (packO c a inn tick).1.2.1.length ≤ 13 ∧ (packO c a inn tick).1.2.2.length ≤ 3 := by
  unfold packO
  split
  · exact ⟨h, by simp, by simp⟩
  · split
    · exact ⟨h, by simp, by simp⟩
    · split
      · exact ⟨h, by simp, by simp⟩
      · rename_i e ans next hw
        split
        · exact ⟨h, by simp, by simp⟩
        · refine ⟨?_, doO_lens _ _ _ _ _ _⟩
          rw [doO_ask]
          dsimp only
          obtain ⟨-, -, h1, h2⟩ := whichO_facts hw
          by_cases he : e = 10
          · have := (h2 he).1; omega
          · rw [h1 he]; exact h
theorem which_enc {c : Cf} {a : Au} {inn : Pk} {e : Int} {ans : Pk} {next : List Opt} (ha : (Op.encR a.ask).2 = 0) (h : whichO c a inn = some (e, ans, next)) : (Op.encR next).2 = 0 := by
  unfold whichO at h
  split at h
  · unfold askedO at h
    split at h
    · cases h
    · split at h
      · cases h
      · cases h; exact ha
  · split at h
    · split at h
      · cases h; exact ha
      · cases h
    · split at h
      · unfold learnedO at h
        split at h
        · cases h
        · split at h
          · rename_i h5
            cases h
            exact h5.2
          · cases h
      · split at h
        · cases h; exact ha
        · split at h
          · cases h; exact ha
          · split at h
            · cases h
            · split at h
              · cases h; exact ha
              · cases h; exact ha
theorem packO_is {c : Cf} {a : Au} {inn : Pk} {tick : Int} (ha : isB a = true) : isB (packO c a inn tick).1.1 = true := by
  unfold packO
  split
  · exact ha
  · split
    · exact ha
    · split
      · exact ha
      · rename_i e ans next hw
        split
        · exact ha
        · exact doO_is (isB_ask ha (which_enc (isB_parts ha).2.2.2.2.2.1 hw)) _ _ _
/-- An answer to a request that is not the last one. -/
theorem pack_stale {c : Cf} {a : Au} {inn : Pk} {tick : Int} (h1 : 2 ≤ inn.code) (h2 : inn.code ≤ 4) (hid : inn.id ≠ a.req) : packO c a inn tick = ((a, [], []), true) := by
  unfold packO
  rw [if_neg (by simp [inB]; omega)]
  split
  · rfl
  · have hw : whichO c a inn = none := by
      unfold whichO
      rw [if_neg (by omega)]
      split
      · rw [if_neg (fun h => hid h.1)]
      · rw [if_pos (by omega)]
        unfold learnedO
        rw [if_pos (.inl hid)]
    rw [hw]
end Go.Proofs.YthidhfkbfoejbaaGreat
