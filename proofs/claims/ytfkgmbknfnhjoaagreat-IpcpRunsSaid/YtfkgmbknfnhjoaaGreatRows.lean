/-
  No cell of these rows narrows 'for every input' (looked for: loops, veiled, ifaces, maps, wideKeys, modest, calm, conditions, laid).
  DERIVED. THE GIVEN ROWS OF THIS SEAT. 7 by the template 'for every input the law returns true; each argument reads behind the call as it read before'; 0 by the template 'total and deterministic' (their statements: YtfkgmbknfnhjoaaGreatTotals.lean).
  GIVEN WITH THE SEED: the statements are not yours to turn. If you find one false, say at which input.
  Laid BY PROGRAM, IN A SANDBOX (cutbox-rows.mjs): the forced cells as the released guide's own fill.sh prints them over the translation 4e8947b0fc8e53c5… (all of the seat's roots in one cut). By AI agents, Wed Nov 11 2026. No macro, syntax, notation, axiom, sorry.
-/
import Derived.Test.YtfkgmbknfnhjoaaGreatChecked
import GoSem.Claim
import GoSem.ClaimJoined
import GoSem.ClaimMapViews
import Derived.JoinedTies
import Derived.KernelRfl
namespace Go.Proofs.YtfkgmbknfnhjoaaGreat
/- THE CELL 'sum', in the pinned program and in every row, IS THE sha256 OF THE DUMP (.gsa) THAT YtfkgmbknfnhjoaaGreatProg.lean LOADS. Nothing in Lean hashes anything: it is a label: what it is worth is what the hold of that sum in a sandbox is worth. -/
noncomputable def Tryz.pinned : Pinned := { name := "ytfkgmbknfnhjoaagreat", sum := "4e8947b0fc8e53c5128d5c82ca2838a5dca4b19178348893b5f7888360d8f65e", checked := Tryz.checked }
namespace Rows
def none {H : Type} : Left H := { results := [], args := [] }

/-- 'conciergelaw16.AutoRuns': WHATEVER THE INPUT: true; the input reads as it did. -/
def autoRunsSpec : ChangeSpec := { name := "autoRuns", fn := fun _ => fun
  | [d1, d2, d3] => { results := [.lit (.bool true)], args := [d1, d2, d3] }
  | _ => none }
def autoRunsRow : OpenClaim := { program := "ytfkgmbknfnhjoaagreat", sum := "4e8947b0fc8e53c5128d5c82ca2838a5dca4b19178348893b5f7888360d8f65e", func := "concierge/conciergelaw16.AutoRuns", spec := "autoRuns", unfollowed := true, recurses := true, apart := false }
def AutoRunsSaid : Prop := autoRunsRow.holds Tryz.pinned (OpenSpec.ofChange autoRunsSpec)

/-- ITS FALSE NEIGHBOUR: 'it returns false'. Refute it at one input. -/
def autoRunsWrong : ChangeSpec := { name := "autoRuns", fn := fun _ => fun
  | [d1, d2, d3] => { results := [.lit (.bool false)], args := [d1, d2, d3] }
  | _ => none }
def AutoRunsWrongFalsely : Prop := autoRunsRow.holds Tryz.pinned (OpenSpec.ofChange autoRunsWrong)

/-- 'conciergelaw18.IpcpTold': WHATEVER THE INPUT: true; the input reads as it did. -/
def ipcpToldSpec : ChangeSpec := { name := "ipcpTold", fn := fun _ => fun
  | [d1, d2, d3, d4, d5] => { results := [.lit (.bool true)], args := [d1, d2, d3, d4, d5] }
  | _ => none }
def ipcpToldRow : OpenClaim := { program := "ytfkgmbknfnhjoaagreat", sum := "4e8947b0fc8e53c5128d5c82ca2838a5dca4b19178348893b5f7888360d8f65e", func := "concierge/conciergelaw18.IpcpTold", spec := "ipcpTold", unfollowed := true, recurses := true, apart := false }
def IpcpToldSaid : Prop := ipcpToldRow.holds Tryz.pinned (OpenSpec.ofChange ipcpToldSpec)

/-- ITS FALSE NEIGHBOUR: 'it returns false'. Refute it at one input. -/
def ipcpToldWrong : ChangeSpec := { name := "ipcpTold", fn := fun _ => fun
  | [d1, d2, d3, d4, d5] => { results := [.lit (.bool false)], args := [d1, d2, d3, d4, d5] }
  | _ => none }
def IpcpToldWrongFalsely : Prop := ipcpToldRow.holds Tryz.pinned (OpenSpec.ofChange ipcpToldWrong)

/-- 'conciergelaw18.IpcpInsists': WHATEVER THE INPUT: true; the input reads as it did. -/
def ipcpInsistsSpec : ChangeSpec := { name := "ipcpInsists", fn := fun _ => fun
  | [d1, d2, d3] => { results := [.lit (.bool true)], args := [d1, d2, d3] }
  | _ => none }
def ipcpInsistsRow : OpenClaim := { program := "ytfkgmbknfnhjoaagreat", sum := "4e8947b0fc8e53c5128d5c82ca2838a5dca4b19178348893b5f7888360d8f65e", func := "concierge/conciergelaw18.IpcpInsists", spec := "ipcpInsists", unfollowed := true, recurses := true, apart := false }
def IpcpInsistsSaid : Prop := ipcpInsistsRow.holds Tryz.pinned (OpenSpec.ofChange ipcpInsistsSpec)

/-- ITS FALSE NEIGHBOUR: 'it returns false'. Refute it at one input. -/
def ipcpInsistsWrong : ChangeSpec := { name := "ipcpInsists", fn := fun _ => fun
  | [d1, d2, d3] => { results := [.lit (.bool false)], args := [d1, d2, d3] }
  | _ => none }
def IpcpInsistsWrongFalsely : Prop := ipcpInsistsRow.holds Tryz.pinned (OpenSpec.ofChange ipcpInsistsWrong)

/-- 'conciergelaw18.IpcpMeet': WHATEVER THE INPUT: true; the input reads as it did. -/
def ipcpMeetSpec : ChangeSpec := { name := "ipcpMeet", fn := fun _ => fun
  | [d1, d2, d3] => { results := [.lit (.bool true)], args := [d1, d2, d3] }
  | _ => none }
def ipcpMeetRow : OpenClaim := { program := "ytfkgmbknfnhjoaagreat", sum := "4e8947b0fc8e53c5128d5c82ca2838a5dca4b19178348893b5f7888360d8f65e", func := "concierge/conciergelaw18.IpcpMeet", spec := "ipcpMeet", unfollowed := true, recurses := true, apart := false }
def IpcpMeetSaid : Prop := ipcpMeetRow.holds Tryz.pinned (OpenSpec.ofChange ipcpMeetSpec)

/-- ITS FALSE NEIGHBOUR: 'it returns false'. Refute it at one input. -/
def ipcpMeetWrong : ChangeSpec := { name := "ipcpMeet", fn := fun _ => fun
  | [d1, d2, d3] => { results := [.lit (.bool false)], args := [d1, d2, d3] }
  | _ => none }
def IpcpMeetWrongFalsely : Prop := ipcpMeetRow.holds Tryz.pinned (OpenSpec.ofChange ipcpMeetWrong)

/-- 'conciergelaw18.IpcpSteps': WHATEVER THE INPUT: true; the input reads as it did. -/
def ipcpStepsSpec : ChangeSpec := { name := "ipcpSteps", fn := fun _ => fun
  | [d1, d2, d3, d4] => { results := [.lit (.bool true)], args := [d1, d2, d3, d4] }
  | _ => none }
def ipcpStepsRow : OpenClaim := { program := "ytfkgmbknfnhjoaagreat", sum := "4e8947b0fc8e53c5128d5c82ca2838a5dca4b19178348893b5f7888360d8f65e", func := "concierge/conciergelaw18.IpcpSteps", spec := "ipcpSteps", unfollowed := true, recurses := true, apart := false }
def IpcpStepsSaid : Prop := ipcpStepsRow.holds Tryz.pinned (OpenSpec.ofChange ipcpStepsSpec)

/-- ITS FALSE NEIGHBOUR: 'it returns false'. Refute it at one input. -/
def ipcpStepsWrong : ChangeSpec := { name := "ipcpSteps", fn := fun _ => fun
  | [d1, d2, d3, d4] => { results := [.lit (.bool false)], args := [d1, d2, d3, d4] }
  | _ => none }
def IpcpStepsWrongFalsely : Prop := ipcpStepsRow.holds Tryz.pinned (OpenSpec.ofChange ipcpStepsWrong)

/-- 'conciergelaw18.IpcpRuns': WHATEVER THE INPUT: true; the input reads as it did. -/
def ipcpRunsSpec : ChangeSpec := { name := "ipcpRuns", fn := fun _ => fun
  | [d1, d2, d3, d4] => { results := [.lit (.bool true)], args := [d1, d2, d3, d4] }
  | _ => none }
def ipcpRunsRow : OpenClaim := { program := "ytfkgmbknfnhjoaagreat", sum := "4e8947b0fc8e53c5128d5c82ca2838a5dca4b19178348893b5f7888360d8f65e", func := "concierge/conciergelaw18.IpcpRuns", spec := "ipcpRuns", unfollowed := true, recurses := true, apart := false }
def IpcpRunsSaid : Prop := ipcpRunsRow.holds Tryz.pinned (OpenSpec.ofChange ipcpRunsSpec)

/-- ITS FALSE NEIGHBOUR: 'it returns false'. Refute it at one input. -/
def ipcpRunsWrong : ChangeSpec := { name := "ipcpRuns", fn := fun _ => fun
  | [d1, d2, d3, d4] => { results := [.lit (.bool false)], args := [d1, d2, d3, d4] }
  | _ => none }
def IpcpRunsWrongFalsely : Prop := ipcpRunsRow.holds Tryz.pinned (OpenSpec.ofChange ipcpRunsWrong)

/-- 'conciergelaw18.IpcpForms': WHATEVER THE INPUT: true; the input reads as it did. -/
def ipcpFormsSpec : ChangeSpec := { name := "ipcpForms", fn := fun _ => fun
  | [d1, d2, d3, d4] => { results := [.lit (.bool true)], args := [d1, d2, d3, d4] }
  | _ => none }
def ipcpFormsRow : OpenClaim := { program := "ytfkgmbknfnhjoaagreat", sum := "4e8947b0fc8e53c5128d5c82ca2838a5dca4b19178348893b5f7888360d8f65e", func := "concierge/conciergelaw18.IpcpForms", spec := "ipcpForms", unfollowed := true, recurses := true, apart := false }
def IpcpFormsSaid : Prop := ipcpFormsRow.holds Tryz.pinned (OpenSpec.ofChange ipcpFormsSpec)

/-- ITS FALSE NEIGHBOUR: 'it returns false'. Refute it at one input. -/
def ipcpFormsWrong : ChangeSpec := { name := "ipcpForms", fn := fun _ => fun
  | [d1, d2, d3, d4] => { results := [.lit (.bool false)], args := [d1, d2, d3, d4] }
  | _ => none }
def IpcpFormsWrongFalsely : Prop := ipcpFormsRow.holds Tryz.pinned (OpenSpec.ofChange ipcpFormsWrong)

/- THE SECOND FORM. 'bulk': how many values and letters a reading holds, each counted each time it is reached (what is shared counts as often as it is met; a slice's spare places count too). A statement '..UptoSaid' is the law's where the arguments, and the package variables that the reading takes, are together of bulk at most 1048576: NARROWER than '..Said'. Prove '..Said' where nothing that the law and all that it calls make is longer than what came in: it says more and counts as full. Else prove '..UptoSaid'. A law counts once. -/
mutual
def uptoBulk {H : Type} : DataW H → Nat
  | .lit (.string bytes) => bytes.length + 1
  | .lit _ => 1
  | .nil => 1
  | .ptr d => uptoBulk d + 1
  | .slice elems spare => uptoBulkAll elems + uptoBulkAll spare + 1
  | .agg parts => uptoBulkAll parts + 1
  | .iface _ d => uptoBulk d + 1
  | .map entries => uptoBulkEntries entries + 1
  | .held _ => 1
def uptoBulkAll {H : Type} : List (DataW H) → Nat
  | [] => 0
  | d :: r => uptoBulk d + uptoBulkAll r
def uptoBulkEntries {H : Type} : List (Lit × DataW H) → Nat
  | [] => 0
  | x :: r => uptoBulkEntry x + uptoBulkEntries r
def uptoBulkEntry {H : Type} : Lit × DataW H → Nat
  | (.string bytes, d) => bytes.length + uptoBulk d + 1
  | (_, d) => uptoBulk d + 1
 end
def uptoSmall : (H : Type) → List (DataW H) → Bool := fun _ ds => decide (uptoBulkAll ds ≤ 1048576)
def OpenSpec.upto (s : _root_.Go.ChangeSpec) : _root_.Go.OpenSpec := { _root_.Go.OpenSpec.ofChange s with cond := some uptoSmall }

/-- 'conciergelaw16.AutoRuns', WHERE WHAT IT READS IS OF BULK AT MOST 1048576: true; the input reads as it did. -/
def autoRunsUptoRow : OpenClaim := { program := "ytfkgmbknfnhjoaagreat", sum := "4e8947b0fc8e53c5128d5c82ca2838a5dca4b19178348893b5f7888360d8f65e", func := "concierge/conciergelaw16.AutoRuns", spec := "autoRuns", unfollowed := true, recurses := true, apart := false, narrowed := true }
def AutoRunsUptoSaid : Prop := autoRunsUptoRow.holds Tryz.pinned (OpenSpec.upto autoRunsSpec)

/-- 'conciergelaw18.IpcpTold', WHERE WHAT IT READS IS OF BULK AT MOST 1048576: true; the input reads as it did. -/
def ipcpToldUptoRow : OpenClaim := { program := "ytfkgmbknfnhjoaagreat", sum := "4e8947b0fc8e53c5128d5c82ca2838a5dca4b19178348893b5f7888360d8f65e", func := "concierge/conciergelaw18.IpcpTold", spec := "ipcpTold", unfollowed := true, recurses := true, apart := false, narrowed := true }
def IpcpToldUptoSaid : Prop := ipcpToldUptoRow.holds Tryz.pinned (OpenSpec.upto ipcpToldSpec)

/-- 'conciergelaw18.IpcpInsists', WHERE WHAT IT READS IS OF BULK AT MOST 1048576: true; the input reads as it did. -/
def ipcpInsistsUptoRow : OpenClaim := { program := "ytfkgmbknfnhjoaagreat", sum := "4e8947b0fc8e53c5128d5c82ca2838a5dca4b19178348893b5f7888360d8f65e", func := "concierge/conciergelaw18.IpcpInsists", spec := "ipcpInsists", unfollowed := true, recurses := true, apart := false, narrowed := true }
def IpcpInsistsUptoSaid : Prop := ipcpInsistsUptoRow.holds Tryz.pinned (OpenSpec.upto ipcpInsistsSpec)

/-- 'conciergelaw18.IpcpMeet', WHERE WHAT IT READS IS OF BULK AT MOST 1048576: true; the input reads as it did. -/
def ipcpMeetUptoRow : OpenClaim := { program := "ytfkgmbknfnhjoaagreat", sum := "4e8947b0fc8e53c5128d5c82ca2838a5dca4b19178348893b5f7888360d8f65e", func := "concierge/conciergelaw18.IpcpMeet", spec := "ipcpMeet", unfollowed := true, recurses := true, apart := false, narrowed := true }
def IpcpMeetUptoSaid : Prop := ipcpMeetUptoRow.holds Tryz.pinned (OpenSpec.upto ipcpMeetSpec)

/-- 'conciergelaw18.IpcpSteps', WHERE WHAT IT READS IS OF BULK AT MOST 1048576: true; the input reads as it did. -/
def ipcpStepsUptoRow : OpenClaim := { program := "ytfkgmbknfnhjoaagreat", sum := "4e8947b0fc8e53c5128d5c82ca2838a5dca4b19178348893b5f7888360d8f65e", func := "concierge/conciergelaw18.IpcpSteps", spec := "ipcpSteps", unfollowed := true, recurses := true, apart := false, narrowed := true }
def IpcpStepsUptoSaid : Prop := ipcpStepsUptoRow.holds Tryz.pinned (OpenSpec.upto ipcpStepsSpec)

/-- 'conciergelaw18.IpcpRuns', WHERE WHAT IT READS IS OF BULK AT MOST 1048576: true; the input reads as it did. -/
def ipcpRunsUptoRow : OpenClaim := { program := "ytfkgmbknfnhjoaagreat", sum := "4e8947b0fc8e53c5128d5c82ca2838a5dca4b19178348893b5f7888360d8f65e", func := "concierge/conciergelaw18.IpcpRuns", spec := "ipcpRuns", unfollowed := true, recurses := true, apart := false, narrowed := true }
def IpcpRunsUptoSaid : Prop := ipcpRunsUptoRow.holds Tryz.pinned (OpenSpec.upto ipcpRunsSpec)

/-- 'conciergelaw18.IpcpForms', WHERE WHAT IT READS IS OF BULK AT MOST 1048576: true; the input reads as it did. -/
def ipcpFormsUptoRow : OpenClaim := { program := "ytfkgmbknfnhjoaagreat", sum := "4e8947b0fc8e53c5128d5c82ca2838a5dca4b19178348893b5f7888360d8f65e", func := "concierge/conciergelaw18.IpcpForms", spec := "ipcpForms", unfollowed := true, recurses := true, apart := false, narrowed := true }
def IpcpFormsUptoSaid : Prop := ipcpFormsUptoRow.holds Tryz.pinned (OpenSpec.upto ipcpFormsSpec)

end Rows
end Go.Proofs.YtfkgmbknfnhjoaaGreat
