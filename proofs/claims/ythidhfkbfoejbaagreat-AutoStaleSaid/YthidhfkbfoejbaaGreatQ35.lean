/- Settings without rules; the page's example. -/
import Derived.Test.YthidhfkbfoejbaaGreatQ13
namespace Go.Proofs.YthidhfkbfoejbaaGreat
open Go.RowKit
set_option linter.unusedSimpArgs false
set_option linter.unusedVariables false
set_option linter.ambiguousOpen false
open Ne (Rl Opt RulesAt areB)
open Fs (av hasB)
theorem plain_any (w : World) : Calls Tryz.prog 40 #[] w fun x w' => x = .returned (.agg #[.slice none 0 0, .int .i64 2, .int .i64 2, .int .i64 2, .int .i64 3]) ∧ Below w.heap.size w w' := by
  go_enter Tryz.func40, Tryz.ntmps40
  go_wp2_with fail
  exact bodyPost_ret (v := .agg #[.slice none 0 0, .int .i64 2, .int .i64 2, .int .i64 2, .int .i64 3]) (by simp [results, Tryz.results40, go_sem]) rfl ⟨rfl, by exact bel⟩
def cf0 : Cf := ⟨[], 2, 2, 2, 3⟩
def au0 : Au := ⟨0, 0, 0, [], 0, 0, 0⟩
theorem new0 : auNew [] = au0 ∧ errNew [] = 0 := ⟨rfl, rfl⟩
theorem do0 : doO cf0 au0 1 ⟨0, 0, []⟩ ⟨0, 0, []⟩ 1 = (⟨2, 0, 0, [], 0, 0, 0⟩, [], Fs.tabActs 1 0) := by rfl
theorem do1 : doO cf0 ⟨2, 0, 0, [], 0, 0, 0⟩ 3 ⟨0, 0, []⟩ ⟨0, 0, []⟩ 5 = (⟨6, 1, 1, [], 1, 8, 0⟩, [⟨1, 1, []⟩], Fs.tabActs 3 2) ∧ (Fs.tabActs 3 2).length = 2 := by exact ⟨rfl, rfl⟩
end Go.Proofs.YthidhfkbfoejbaaGreat
