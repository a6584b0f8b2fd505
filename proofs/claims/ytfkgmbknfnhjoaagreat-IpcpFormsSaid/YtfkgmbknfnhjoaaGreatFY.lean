/- Bundle FY. -/
import Derived.Test.YtfkgmbknfnhjoaaGreatN4
namespace Go.Proofs.YtfkgmbknfnhjoaaGreat.Ne
open Go.RowKit
set_option linter.unusedVariables false
theorem taken_same {R:List Rl} {L:List Opt} {naks most:Int} (h:(answerO R L naks most).1=2):(answerO R L naks most).2=L:=by
 unfold answerO at h ⊢
 by_cases h0:areB R=false
 ·rw[if_pos h0] at h;simp at h
 ·rw[if_neg h0] at h ⊢
  by_cases h1:0<(sortK R L L.length).1.length
  ·rw[if_pos h1] at h;simp at h
  ·rw[if_neg h1] at h ⊢
   by_cases h2:(nakR R L).length=0
   ·rw[if_pos h2]
   ·rw[if_neg h2] at h
    split at h<;>simp at h
end Go.Proofs.YtfkgmbknfnhjoaaGreat.Ne
