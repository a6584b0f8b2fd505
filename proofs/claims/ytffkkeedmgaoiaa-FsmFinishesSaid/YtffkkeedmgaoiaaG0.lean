/- The table of the automaton, as numbers and as rows of bytes. -/
import Derived.Test.YtffkkeedmgaoiaaS
namespace Go.Proofs.Ytffkkeedmgaoiaa
open Go.RowKit
/-- The rows, by event and state: the next state, what is done; none: it does not come. -/
def tabL : List (List (Option (Int × List Int))) :=
  [[some (2, []), some (6, [5, 7]), none, none, none, none, none, none, none, none],
   [none, none, some (0, []), some (1, [3]), some (0, []), some (1, []), some (1, []), some (1, []), some (1, []), some (1, [2])],
   [some (1, [3]), some (1, []), some (6, [5, 7]), some (3, []), some (5, []), some (5, []), some (6, []), some (7, []), some (8, []), some (9, [])],
   [some (0, []), some (0, [4]), some (2, []), some (2, []), some (4, []), some (4, []), some (4, [5, 10]), some (4, [5, 10]), some (4, [5, 10]), some (4, [2, 5, 10])],
   [none, none, none, none, some (4, [10]), some (5, [10]), some (6, [7]), some (6, [7]), some (8, [7]), none],
   [none, none, none, none, some (2, [4]), some (3, [4]), some (3, [4]), some (3, [4]), some (3, [4]), none],
   [none, none, some (2, [11]), some (8, [5, 7, 8]), some (4, []), some (5, []), some (8, [8]), some (9, [8, 1]), some (8, [8]), some (8, [2, 7, 8])],
   [none, none, some (2, [11]), some (6, [5, 7, 9]), some (4, []), some (5, []), some (6, [9]), some (7, [9]), some (6, [9]), some (6, [2, 7, 9])],
   [none, none, some (2, [11]), some (3, [11]), some (4, []), some (5, []), some (7, [5]), some (6, [7]), some (9, [5, 1]), some (6, [2, 7])],
   [none, none, some (2, [11]), some (3, [11]), some (4, []), some (5, []), some (6, [5, 7]), some (6, [7]), some (8, [5, 7]), some (6, [2, 7])],
   [none, none, some (2, [11]), some (3, [11]), some (4, [11]), some (5, [11]), some (6, [11]), some (6, [11]), some (6, [11]), some (5, [2, 6, 11])],
   [none, none, some (2, []), some (3, []), some (2, [4]), some (3, [4]), some (6, []), some (6, []), some (8, []), some (6, [2, 7])],
   [none, none, some (2, [12]), some (3, [12]), some (4, [12]), some (5, [12]), some (6, [12]), some (7, [12]), some (8, [12]), some (9, [12])],
   [none, none, some (2, []), some (3, []), some (4, []), some (5, []), some (6, []), some (6, []), some (8, []), some (9, [])],
   [none, none, some (2, [4]), some (3, [4]), some (2, [4]), some (3, [4]), some (3, [4]), some (3, [4]), some (3, [4]), some (5, [2, 5, 10])],
   [none, none, some (2, []), some (3, []), some (4, []), some (5, []), some (6, []), some (7, []), some (8, []), some (9, [13])]]
/-- The same rows, as they are spelled. -/
def rowL : List (List (List UInt8)) :=
  [[[50], [105, 114, 99, 32, 115, 99, 114, 47, 54], [45], [45], [45], [45], [45], [45], [45], [45]],
   [[45], [45], [48], [116, 108, 115, 47, 49], [48], [49], [49], [49], [49], [116, 108, 100, 47, 49]],
   [[116, 108, 115, 47, 49], [49], [105, 114, 99, 32, 115, 99, 114, 47, 54], [51], [53], [53], [54], [55], [56], [57]],
   [[48], [116, 108, 102, 47, 48], [50], [50], [52], [52], [105, 114, 99, 32, 115, 116, 114, 47, 52], [105, 114, 99, 32, 115, 116, 114, 47, 52], [105, 114, 99, 32, 115, 116, 114, 47, 52], [116, 108, 100, 32, 105, 114, 99, 32, 115, 116, 114, 47, 52]],
   [[45], [45], [45], [45], [115, 116, 114, 47, 52], [115, 116, 114, 47, 53], [115, 99, 114, 47, 54], [115, 99, 114, 47, 54], [115, 99, 114, 47, 56], [45]],
   [[45], [45], [45], [45], [116, 108, 102, 47, 50], [116, 108, 102, 47, 51], [116, 108, 102, 47, 51], [116, 108, 102, 47, 51], [116, 108, 102, 47, 51], [45]],
   [[45], [45], [115, 116, 97, 47, 50], [105, 114, 99, 32, 115, 99, 114, 32, 115, 99, 97, 47, 56], [52], [53], [115, 99, 97, 47, 56], [115, 99, 97, 32, 116, 108, 117, 47, 57], [115, 99, 97, 47, 56], [116, 108, 100, 32, 115, 99, 114, 32, 115, 99, 97, 47, 56]],
   [[45], [45], [115, 116, 97, 47, 50], [105, 114, 99, 32, 115, 99, 114, 32, 115, 99, 110, 47, 54], [52], [53], [115, 99, 110, 47, 54], [115, 99, 110, 47, 55], [115, 99, 110, 47, 54], [116, 108, 100, 32, 115, 99, 114, 32, 115, 99, 110, 47, 54]],
   [[45], [45], [115, 116, 97, 47, 50], [115, 116, 97, 47, 51], [52], [53], [105, 114, 99, 47, 55], [115, 99, 114, 47, 54], [105, 114, 99, 32, 116, 108, 117, 47, 57], [116, 108, 100, 32, 115, 99, 114, 47, 54]],
   [[45], [45], [115, 116, 97, 47, 50], [115, 116, 97, 47, 51], [52], [53], [105, 114, 99, 32, 115, 99, 114, 47, 54], [115, 99, 114, 47, 54], [105, 114, 99, 32, 115, 99, 114, 47, 56], [116, 108, 100, 32, 115, 99, 114, 47, 54]],
   [[45], [45], [115, 116, 97, 47, 50], [115, 116, 97, 47, 51], [115, 116, 97, 47, 52], [115, 116, 97, 47, 53], [115, 116, 97, 47, 54], [115, 116, 97, 47, 54], [115, 116, 97, 47, 54], [116, 108, 100, 32, 122, 114, 99, 32, 115, 116, 97, 47, 53]],
   [[45], [45], [50], [51], [116, 108, 102, 47, 50], [116, 108, 102, 47, 51], [54], [54], [56], [116, 108, 100, 32, 115, 99, 114, 47, 54]],
   [[45], [45], [115, 99, 106, 47, 50], [115, 99, 106, 47, 51], [115, 99, 106, 47, 52], [115, 99, 106, 47, 53], [115, 99, 106, 47, 54], [115, 99, 106, 47, 55], [115, 99, 106, 47, 56], [115, 99, 106, 47, 57]],
   [[45], [45], [50], [51], [52], [53], [54], [54], [56], [57]],
   [[45], [45], [116, 108, 102, 47, 50], [116, 108, 102, 47, 51], [116, 108, 102, 47, 50], [116, 108, 102, 47, 51], [116, 108, 102, 47, 51], [116, 108, 102, 47, 51], [116, 108, 102, 47, 51], [116, 108, 100, 32, 105, 114, 99, 32, 115, 116, 114, 47, 53]],
   [[45], [45], [50], [51], [52], [53], [54], [55], [56], [115, 101, 114, 47, 57]]]
def actL : List (List UInt8) := [[], [116, 108, 117], [116, 108, 100], [116, 108, 115], [116, 108, 102], [105, 114, 99], [122, 114, 99], [115, 99, 114], [115, 99, 97], [115, 99, 110], [115, 116, 114], [115, 116, 97], [115, 99, 106], [115, 101, 114]]
def tabC (e s : Int) : Option (Int × List Int) := if 1 ≤ e ∧ e ≤ 16 ∧ 0 ≤ s ∧ s ≤ 9 then (tabL.getD (e.toNat - 1) []).getD s.toNat none else none
def tabOk (e s : Int) : Bool := (tabC e s).isSome
def tabNext (e s : Int) : Int := ((tabC e s).map (·.1)).getD 0
def tabActs (e s : Int) : List Int := ((tabC e s).map (·.2)).getD []
def inTab (e s : Int) : Bool := decide (1 ≤ e ∧ e ≤ 16 ∧ 0 ≤ s ∧ s ≤ 9)
def stepErr (s e : Int) : Int := if inTab e s = true then (if tabOk e s = true then 0 else 5) else 140
def av (x : Int) : Value := .int .i64 x
/-- A row of actions is told: some slice that reads as l, in memory of the call's own. -/
def Told (w : World) (l : List Int) (v : Value) (w' : World) : Prop := Below w.heap.size w w' ∧ w'.ownsRow w.heap.size 37 1 v l.length (l.map av)
def StepP (s e : Int) (w : World) (x : Ending) (w' : World) : Prop :=
  ∃ v, x = .returned (.tuple #[.int .i64 (tabNext e s), v, .int .i64 (stepErr s e)]) ∧ Told w (tabActs e s) v w'
/-- What a method says of a state where the event comes. -/
def MYes (e s : Int) (w : World) (x : Ending) (w' : World) : Prop := ∃ v, x = .returned (.tuple #[.agg #[v, .int .i64 (tabNext e s)], .bool true]) ∧ Told w (tabActs e s) v w'
def MNo (w : World) (x : Ending) (w' : World) : Prop := ∃ A n c y, x = .returned (.tuple #[.agg #[.slice A n c, .int .i64 y], .bool false]) ∧ Below w.heap.size w w'
theorem ten {s : Int} (h0 : 0 ≤ s) (h9 : s ≤ 9) : s = 0 ∨ s = 1 ∨ s = 2 ∨ s = 3 ∨ s = 4 ∨ s = 5 ∨ s = 6 ∨ s = 7 ∨ s = 8 ∨ s = 9 := by omega
theorem sixteen {e : Int} (h0 : 1 ≤ e) (h9 : e ≤ 16) : e = 1 ∨ e = 2 ∨ e = 3 ∨ e = 4 ∨ e = 5 ∨ e = 6 ∨ e = 7 ∨ e = 8 ∨ e = 9 ∨ e = 10 ∨ e = 11 ∨ e = 12 ∨ e = 13 ∨ e = 14 ∨ e = 15 ∨ e = 16 := by omega
theorem tabOk_in {e s : Int} (h : tabOk e s = true) : 1 ≤ e ∧ e ≤ 16 ∧ 0 ≤ s ∧ s ≤ 9 := by
  unfold tabOk tabC at h
  split at h
  · assumption
  · simp at h
theorem tab_out {e s : Int} (h : tabOk e s = false) : tabNext e s = 0 ∧ tabActs e s = [] := by
  unfold tabOk at h
  have : tabC e s = none := by simpa using h
  simp [tabNext, tabActs, this]
theorem tabOk_out {e s : Int} (h : inTab e s = false) : tabOk e s = false := by
  unfold tabOk tabC
  unfold inTab at h
  rw [if_neg (by simpa using h)]; rfl
theorem av_one (x : Int) : (av x).oneCell' = true := rfl
end Go.Proofs.Ytffkkeedmgaoiaa
