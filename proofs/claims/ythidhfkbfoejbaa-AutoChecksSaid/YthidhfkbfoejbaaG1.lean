/- Bundle G1. -/
import Derived.Test.YthidhfkbfoejbaaA
namespace Go.Proofs.Ythidhfkbfoejbaa.Fs
open Go.RowKit
/-- The rows, by event and state: the next state, what is done; none: it does not come. -/
def tabL : List (List (Option (Int × List Int))) :=
  [[some (2, []), some (6, [5, 7]), none, none, none, none, none, none, none, none],
   [none, none, some (0, []), some (1, [3]), some (0, []), some (1, []), some (1, []), some (1, []), some (1, []), some (1, [2])],
   [some (1, [3]), some (1, []), some (6, [5, 7]), some (3, []), some (5, []), some (5, []), some (6, []), some (7, []), some (8, []), some (9, [])],
   [some (0, []), some (0, [4]), some (2, []), some (2, []), some (4, []), some (4, []), some (4, [5, 10]), some (4, [5, 10]), some (4, [5, 10]), some (4, [2, 5, 10])],
   [none, none, none, none, some (4, [10]), some (5, [10]), some (6, [7]), some (6, [7]), some (8, [7]), none],
   [none, none, none, none, some (2, [4]), some (3, [4]), some (3, [4]), some (3, [4]), some (3, [4]), none],
   [none, none, some (2, [11]), some (8, [5, 7, 8]), some (4, []), some (5, []), some (8, [8]), some (9, [8, 1]), some (8, [8]), some (8, [2, 7, 8])],
   [none, none, some (2, [11]), some (6, [5, 7, 9]), some (4, []), some (5, []), some (6, [9]), some (7, [9]), some (6, [9]), some (6, [2, 7, 9])],
   [none, none, some (2, [11]), some (3, [11]), some (4, []), some (5, []), some (7, [5]), some (6, [7]), some (9, [5, 1]), some (6, [2, 7])],
   [none, none, some (2, [11]), some (3, [11]), some (4, []), some (5, []), some (6, [5, 7]), some (6, [7]), some (8, [5, 7]), some (6, [2, 7])],
   [none, none, some (2, [11]), some (3, [11]), some (4, [11]), some (5, [11]), some (6, [11]), some (6, [11]), some (6, [11]), some (5, [2, 6, 11])],
   [none, none, some (2, []), some (3, []), some (2, [4]), some (3, [4]), some (6, []), some (6, []), some (8, []), some (6, [2, 7])],
   [none, none, some (2, [12]), some (3, [12]), some (4, [12]), some (5, [12]), some (6, [12]), some (7, [12]), some (8, [12]), some (9, [12])],
   [none, none, some (2, []), some (3, []), some (4, []), some (5, []), some (6, []), some (6, []), some (8, []), some (9, [])],
   [none, none, some (2, [4]), some (3, [4]), some (2, [4]), some (3, [4]), some (3, [4]), some (3, [4]), some (3, [4]), some (5, [2, 5, 10])],
   [none, none, some (2, []), some (3, []), some (4, []), some (5, []), some (6, []), some (7, []), some (8, []), some (9, [13])]]
def tabC (e s : Int) : Option (Int × List Int) := if 1 ≤ e ∧ e ≤ 16 ∧ 0 ≤ s ∧ s ≤ 9 then (tabL.getD (e.toNat - 1) []).getD s.toNat none else none
def tabOk (e s : Int) : Bool := (tabC e s).isSome
def tabNext (e s : Int) : Int := ((tabC e s).map (·.1)).getD 0
def tabActs (e s : Int) : List Int := ((tabC e s).map (·.2)).getD []
def inTab (e s : Int) : Bool := decide (1 ≤ e ∧ e ≤ 16 ∧ 0 ≤ s ∧ s ≤ 9)
def stepErr (s e : Int) : Int := if inTab e s = true then (if tabOk e s = true then 0 else 5) else 140
def av (x : Int) : Value := .int .i64 x
/-- A row of actions is told: some slice that reads as l, in memory of the call's own. -/
def Told (w : World) (l : List Int) (v : Value) (w' : World) : Prop := Below w.heap.size w w' ∧ w'.ownsRow w.heap.size 74 1 v l.length (l.map av)
def StepP (s e : Int) (w : World) (x : Ending) (w' : World) : Prop :=
  ∃ v, x = .returned (.tuple #[.int .i64 (tabNext e s), v, .int .i64 (stepErr s e)]) ∧ Told w (tabActs e s) v w'
/-- What a method says of a state where the event comes. -/
def MYes (e s : Int) (w : World) (x : Ending) (w' : World) : Prop := ∃ v, x = .returned (.tuple #[.agg #[v, .int .i64 (tabNext e s)], .bool true]) ∧ Told w (tabActs e s) v w'
def MNo (w : World) (x : Ending) (w' : World) : Prop := ∃ A n c y, x = .returned (.tuple #[.agg #[.slice A n c, .int .i64 y], .bool false]) ∧ Below w.heap.size w w'
theorem ten {s : Int} (h0 : 0 ≤ s) (h9 : s ≤ 9) : s = 0 ∨ s = 1 ∨ s = 2 ∨ s = 3 ∨ s = 4 ∨ s = 5 ∨ s = 6 ∨ s = 7 ∨ s = 8 ∨ s = 9 := by omega
theorem sixteen {e : Int} (h0 : 1 ≤ e) (h9 : e ≤ 16) : e = 1 ∨ e = 2 ∨ e = 3 ∨ e = 4 ∨ e = 5 ∨ e = 6 ∨ e = 7 ∨ e = 8 ∨ e = 9 ∨ e = 10 ∨ e = 11 ∨ e = 12 ∨ e = 13 ∨ e = 14 ∨ e = 15 ∨ e = 16 := by omega
theorem tabOk_in {e s : Int} (h : tabOk e s = true) : 1 ≤ e ∧ e ≤ 16 ∧ 0 ≤ s ∧ s ≤ 9 := by
  unfold tabOk tabC at h
  split at h
  · assumption
  · simp at h
theorem tab_out {e s : Int} (h : tabOk e s = false) : tabNext e s = 0 ∧ tabActs e s = [] := by
  unfold tabOk at h
  have : tabC e s = none := by simpa using h
  simp [tabNext, tabActs, this]
theorem tabOk_out {e s : Int} (h : inTab e s = false) : tabOk e s = false := by
  unfold tabOk tabC
  unfold inTab at h
  rw [if_neg (by simpa using h)]; rfl
end Go.Proofs.Ythidhfkbfoejbaa.Fs
namespace Go.Proofs.Ythidhfkbfoejbaa.Fs
open Go.RowKit
set_option linter.unusedSimpArgs false
set_option linter.unusedVariables false
theorem only_any (s : Int) (w : World) : Calls Try.prog 77 #[.int .i64 s] w fun e w' => e = .returned (.agg #[.slice none 0 0, .int .i64 s]) ∧ w' = w.alloc (.cells #[.slice none 0 0, .int .i64 s] 86) := by
  go_enter Try.func77, Try.ntmps77
  go_wp2
  exact bodyPost_ret (v := .agg #[.slice none 0 0, .int .i64 s]) (by simp [results, Try.results77, go_sem]) rfl ⟨rfl, rfl⟩
theorem by_any (s : Int) (A : Option Addr) (n c : Nat) (w : World) : Calls Try.prog 78 #[.int .i64 s, .slice A n c] w fun e w' => e = .returned (.agg #[.slice A n c, .int .i64 s]) ∧ w' = w.alloc (.cells #[.slice A n c, .int .i64 s] 86) := by
  go_enter Try.func78, Try.ntmps78
  go_wp2
  exact bodyPost_ret (v := .agg #[.slice A n c, .int .i64 s]) (by simp [results, Try.results78, go_sem]) rfl ⟨rfl, rfl⟩
theorem stays_any (s : Int) (A : Option Addr) (n c : Nat) (w : World) : Calls Try.prog 79 #[.int .i64 s, .slice A n c] w fun e w' => e = .returned (.agg #[.slice A n c, .int .i64 s]) ∧ Below w.heap.size w w' := by
  go_enter Try.func79, Try.ntmps79
  go_wp2_with (go_at_call 78; refine (by_any _ _ _ _ _).mono ?_; rintro e w1 ⟨rfl, rfl⟩)
  exact bodyPost_ret (v := .agg #[.slice A n c, .int .i64 s]) (by simp [results, Try.results79, go_sem]) rfl ⟨rfl, by exact bel⟩
theorem ends_any (s : Int) (w : World) : Calls Try.prog 82 #[.int .i64 s] w fun e w' => e = .returned (.bool (decide (2 ≤ s) && decide (s ≤ 5))) ∧ w = w' := by
  by_cases h1 : 2 ≤ s <;> by_cases h2 : s ≤ 5
  all_goals
    go_enter Try.func82, Try.ntmps82
    go_wp2
    go_ret
    simp [h1, h2]
theorem asks_any (s : Int) (w : World) : Calls Try.prog 47 #[.int .i64 s] w fun e w' => e = .returned (.bool (decide (6 ≤ s) && decide (s ≤ 8))) ∧ w = w' := by
  by_cases h1 : 6 ≤ s <;> by_cases h2 : s ≤ 8
  all_goals
    go_enter Try.func47, Try.ntmps47
    go_wp2
    go_ret
    simp [h1, h2]
def lowerS (s : Int) : Int := if s = 2 ∨ s = 4 then 2 else 3
theorem lower_any (s : Int) (w : World) : Calls Try.prog 83 #[.int .i64 s] w fun e w' => e = .returned (.int .i64 (lowerS s)) ∧ w = w' := by
  by_cases h1 : s = 2
  · subst h1
    go_enter Try.func83, Try.ntmps83
    go_wp2
    go_ret
    exact ⟨rfl, rfl⟩
  · by_cases h2 : s = 4
    · subst h2
      go_enter Try.func83, Try.ntmps83
      go_wp2
      go_ret
      exact ⟨rfl, rfl⟩
    · have e1 : (s == 2) = false := by simpa using h1
      have e2 : (s == 4) = false := by simpa using h2
      have E := Lib.hid (And.intro h1 h2)
      clear h1 h2
      go_enter Try.func83, Try.ntmps83
      go_wp2
      go_ret
      exact ⟨ret_int (by simp [lowerS, E.out]), rfl⟩
theorem known_any (s : Int) (w : World) : Calls Try.prog 45 #[.int .i64 s] w fun e w' => e = .returned (.bool (decide (0 ≤ s) && decide (s ≤ 9))) ∧ w = w' := by
  by_cases h1 : 0 ≤ s <;> by_cases h2 : s ≤ 9
  all_goals
    go_enter Try.func45, Try.ntmps45
    go_wp2
    go_ret
    simp [h1, h2]
theorem timed_ref (s : Int) (w : World) : Calls Try.prog 10 #[.int .i64 s] w fun e w' => e = .returned (.bool (decide (4 ≤ s) && decide (s ≤ 8))) ∧ w = w' := by
  by_cases h1 : 4 ≤ s <;> by_cases h2 : s ≤ 8
  all_goals
    go_enter Try.func10, Try.ntmps10
    go_wp2
    go_ret
    simp [h1, h2]
end Go.Proofs.Ythidhfkbfoejbaa.Fs
namespace Go.Proofs.Ythidhfkbfoejbaa.Fs
open Go.RowKit
set_option linter.unusedSimpArgs false
set_option linter.unusedVariables false
set_option maxHeartbeats 2000000 in
theorem up_yes (s : Int) (w : World) (h : tabOk 1 s = true) : Calls Try.prog 49 #[.int .i64 s] w (MYes 1 s w) := by
  obtain ⟨-, -, h0, h9⟩ := tabOk_in h
  have hs : s = 0 ∨ s = 1 := by
    rcases ten h0 h9 with rfl | rfl | rfl | rfl | rfl | rfl | rfl | rfl | rfl | rfl <;> first | decide | (exfalso; revert h; decide)
  clear h h0 h9
  rcases hs with rfl | rfl
  · go_enter Try.func49, Try.ntmps49
    go_wp2_with (first | (go_at_call 77; refine (only_any _ _).mono ?_; rintro e w1 ⟨rfl, rfl⟩) | (go_at_call 78; refine (by_any _ _ _ _ _).mono ?_; rintro e w1 ⟨rfl, rfl⟩) | (go_at_call 79; refine (stays_any _ _ _ _ _).mono ?_; rintro e w1 ⟨rfl, hb⟩; obtain ⟨xs, d, rfl⟩ := ext_of hb; clear hb) | (go_at_call 82; refine (ends_any _ _).mono ?_; rintro e w1 ⟨rfl, rfl⟩) | (go_at_call 47; refine (asks_any _ _).mono ?_; rintro e w1 ⟨rfl, rfl⟩) | (go_at_call 83; refine (lower_any _ _).mono ?_; rintro e w1 ⟨rfl, rfl⟩))
    refine bodyPost_ret (v := .tuple #[.agg #[.slice none 0 0, .int .i64 2], .bool true]) (by simp [results, Try.results49, go_sem, lowerS]) rfl ⟨.slice none 0 0, rfl, ?_, ?_⟩
    · exact bel
    · exact own_nil _ _ _ _
  · go_enter Try.func49, Try.ntmps49
    go_wp2_with (first | (go_at_call 77; refine (only_any _ _).mono ?_; rintro e w1 ⟨rfl, rfl⟩) | (go_at_call 78; refine (by_any _ _ _ _ _).mono ?_; rintro e w1 ⟨rfl, rfl⟩) | (go_at_call 79; refine (stays_any _ _ _ _ _).mono ?_; rintro e w1 ⟨rfl, hb⟩; obtain ⟨xs, d, rfl⟩ := ext_of hb; clear hb) | (go_at_call 82; refine (ends_any _ _).mono ?_; rintro e w1 ⟨rfl, rfl⟩) | (go_at_call 47; refine (asks_any _ _).mono ?_; rintro e w1 ⟨rfl, rfl⟩) | (go_at_call 83; refine (lower_any _ _).mono ?_; rintro e w1 ⟨rfl, rfl⟩))
    refine bodyPost_ret (v := .tuple #[.agg #[.slice (some ⟨w.heap.size + 1, 0, none⟩) 2 2, .int .i64 6], .bool true]) (by simp [results, Try.results49, go_sem, lowerS]) rfl ⟨.slice (some ⟨w.heap.size + 1, 0, none⟩) 2 2, rfl, ?_, ?_⟩
    · exact bel
    · exact own_lit (size := 1) (e := 74) (n := 2) (by (repeat (first | ((refine heap_alloc_at _ _ _ ?_); (simp [go_sem]; done)) | ((refine (heap_ext _ _ _ _ ?_).trans ?_); (focus (simp [go_sem]; done))) | ((refine (heap_alloc_past _ _ _ ?_).trans ?_); (focus (simp [go_sem]; done)))))) (by omega) (by decide) rfl rfl
set_option maxHeartbeats 2000000 in
theorem up_no (s : Int) (w : World) (h0 : 0 ≤ s) (h9 : s ≤ 9) (h : tabOk 1 s = false) : Calls Try.prog 49 #[.int .i64 s] w (MNo w) := by
  have hs : s = 2 ∨ s = 3 ∨ s = 4 ∨ s = 5 ∨ s = 6 ∨ s = 7 ∨ s = 8 ∨ s = 9 := by
    rcases ten h0 h9 with rfl | rfl | rfl | rfl | rfl | rfl | rfl | rfl | rfl | rfl <;> first | decide | (exfalso; revert h; decide)
  clear h h0 h9
  rcases hs with rfl | rfl | rfl | rfl | rfl | rfl | rfl | rfl
  · go_enter Try.func49, Try.ntmps49
    go_wp2_with (first | (go_at_call 77; refine (only_any _ _).mono ?_; rintro e w1 ⟨rfl, rfl⟩) | (go_at_call 78; refine (by_any _ _ _ _ _).mono ?_; rintro e w1 ⟨rfl, rfl⟩) | (go_at_call 79; refine (stays_any _ _ _ _ _).mono ?_; rintro e w1 ⟨rfl, hb⟩; obtain ⟨xs, d, rfl⟩ := ext_of hb; clear hb) | (go_at_call 82; refine (ends_any _ _).mono ?_; rintro e w1 ⟨rfl, rfl⟩) | (go_at_call 47; refine (asks_any _ _).mono ?_; rintro e w1 ⟨rfl, rfl⟩) | (go_at_call 83; refine (lower_any _ _).mono ?_; rintro e w1 ⟨rfl, rfl⟩))
    exact bodyPost_ret (v := .tuple #[.agg #[.slice none 0 0, .int .i64 0], .bool false]) (by simp [results, Try.results49, go_sem]) rfl ⟨_, _, _, _, rfl, by exact bel⟩
  · go_enter Try.func49, Try.ntmps49
    go_wp2_with (first | (go_at_call 77; refine (only_any _ _).mono ?_; rintro e w1 ⟨rfl, rfl⟩) | (go_at_call 78; refine (by_any _ _ _ _ _).mono ?_; rintro e w1 ⟨rfl, rfl⟩) | (go_at_call 79; refine (stays_any _ _ _ _ _).mono ?_; rintro e w1 ⟨rfl, hb⟩; obtain ⟨xs, d, rfl⟩ := ext_of hb; clear hb) | (go_at_call 82; refine (ends_any _ _).mono ?_; rintro e w1 ⟨rfl, rfl⟩) | (go_at_call 47; refine (asks_any _ _).mono ?_; rintro e w1 ⟨rfl, rfl⟩) | (go_at_call 83; refine (lower_any _ _).mono ?_; rintro e w1 ⟨rfl, rfl⟩))
    exact bodyPost_ret (v := .tuple #[.agg #[.slice none 0 0, .int .i64 0], .bool false]) (by simp [results, Try.results49, go_sem]) rfl ⟨_, _, _, _, rfl, by exact bel⟩
  · go_enter Try.func49, Try.ntmps49
    go_wp2_with (first | (go_at_call 77; refine (only_any _ _).mono ?_; rintro e w1 ⟨rfl, rfl⟩) | (go_at_call 78; refine (by_any _ _ _ _ _).mono ?_; rintro e w1 ⟨rfl, rfl⟩) | (go_at_call 79; refine (stays_any _ _ _ _ _).mono ?_; rintro e w1 ⟨rfl, hb⟩; obtain ⟨xs, d, rfl⟩ := ext_of hb; clear hb) | (go_at_call 82; refine (ends_any _ _).mono ?_; rintro e w1 ⟨rfl, rfl⟩) | (go_at_call 47; refine (asks_any _ _).mono ?_; rintro e w1 ⟨rfl, rfl⟩) | (go_at_call 83; refine (lower_any _ _).mono ?_; rintro e w1 ⟨rfl, rfl⟩))
    exact bodyPost_ret (v := .tuple #[.agg #[.slice none 0 0, .int .i64 0], .bool false]) (by simp [results, Try.results49, go_sem]) rfl ⟨_, _, _, _, rfl, by exact bel⟩
  · go_enter Try.func49, Try.ntmps49
    go_wp2_with (first | (go_at_call 77; refine (only_any _ _).mono ?_; rintro e w1 ⟨rfl, rfl⟩) | (go_at_call 78; refine (by_any _ _ _ _ _).mono ?_; rintro e w1 ⟨rfl, rfl⟩) | (go_at_call 79; refine (stays_any _ _ _ _ _).mono ?_; rintro e w1 ⟨rfl, hb⟩; obtain ⟨xs, d, rfl⟩ := ext_of hb; clear hb) | (go_at_call 82; refine (ends_any _ _).mono ?_; rintro e w1 ⟨rfl, rfl⟩) | (go_at_call 47; refine (asks_any _ _).mono ?_; rintro e w1 ⟨rfl, rfl⟩) | (go_at_call 83; refine (lower_any _ _).mono ?_; rintro e w1 ⟨rfl, rfl⟩))
    exact bodyPost_ret (v := .tuple #[.agg #[.slice none 0 0, .int .i64 0], .bool false]) (by simp [results, Try.results49, go_sem]) rfl ⟨_, _, _, _, rfl, by exact bel⟩
  · go_enter Try.func49, Try.ntmps49
    go_wp2_with (first | (go_at_call 77; refine (only_any _ _).mono ?_; rintro e w1 ⟨rfl, rfl⟩) | (go_at_call 78; refine (by_any _ _ _ _ _).mono ?_; rintro e w1 ⟨rfl, rfl⟩) | (go_at_call 79; refine (stays_any _ _ _ _ _).mono ?_; rintro e w1 ⟨rfl, hb⟩; obtain ⟨xs, d, rfl⟩ := ext_of hb; clear hb) | (go_at_call 82; refine (ends_any _ _).mono ?_; rintro e w1 ⟨rfl, rfl⟩) | (go_at_call 47; refine (asks_any _ _).mono ?_; rintro e w1 ⟨rfl, rfl⟩) | (go_at_call 83; refine (lower_any _ _).mono ?_; rintro e w1 ⟨rfl, rfl⟩))
    exact bodyPost_ret (v := .tuple #[.agg #[.slice none 0 0, .int .i64 0], .bool false]) (by simp [results, Try.results49, go_sem]) rfl ⟨_, _, _, _, rfl, by exact bel⟩
  · go_enter Try.func49, Try.ntmps49
    go_wp2_with (first | (go_at_call 77; refine (only_any _ _).mono ?_; rintro e w1 ⟨rfl, rfl⟩) | (go_at_call 78; refine (by_any _ _ _ _ _).mono ?_; rintro e w1 ⟨rfl, rfl⟩) | (go_at_call 79; refine (stays_any _ _ _ _ _).mono ?_; rintro e w1 ⟨rfl, hb⟩; obtain ⟨xs, d, rfl⟩ := ext_of hb; clear hb) | (go_at_call 82; refine (ends_any _ _).mono ?_; rintro e w1 ⟨rfl, rfl⟩) | (go_at_call 47; refine (asks_any _ _).mono ?_; rintro e w1 ⟨rfl, rfl⟩) | (go_at_call 83; refine (lower_any _ _).mono ?_; rintro e w1 ⟨rfl, rfl⟩))
    exact bodyPost_ret (v := .tuple #[.agg #[.slice none 0 0, .int .i64 0], .bool false]) (by simp [results, Try.results49, go_sem]) rfl ⟨_, _, _, _, rfl, by exact bel⟩
  · go_enter Try.func49, Try.ntmps49
    go_wp2_with (first | (go_at_call 77; refine (only_any _ _).mono ?_; rintro e w1 ⟨rfl, rfl⟩) | (go_at_call 78; refine (by_any _ _ _ _ _).mono ?_; rintro e w1 ⟨rfl, rfl⟩) | (go_at_call 79; refine (stays_any _ _ _ _ _).mono ?_; rintro e w1 ⟨rfl, hb⟩; obtain ⟨xs, d, rfl⟩ := ext_of hb; clear hb) | (go_at_call 82; refine (ends_any _ _).mono ?_; rintro e w1 ⟨rfl, rfl⟩) | (go_at_call 47; refine (asks_any _ _).mono ?_; rintro e w1 ⟨rfl, rfl⟩) | (go_at_call 83; refine (lower_any _ _).mono ?_; rintro e w1 ⟨rfl, rfl⟩))
    exact bodyPost_ret (v := .tuple #[.agg #[.slice none 0 0, .int .i64 0], .bool false]) (by simp [results, Try.results49, go_sem]) rfl ⟨_, _, _, _, rfl, by exact bel⟩
  · go_enter Try.func49, Try.ntmps49
    go_wp2_with (first | (go_at_call 77; refine (only_any _ _).mono ?_; rintro e w1 ⟨rfl, rfl⟩) | (go_at_call 78; refine (by_any _ _ _ _ _).mono ?_; rintro e w1 ⟨rfl, rfl⟩) | (go_at_call 79; refine (stays_any _ _ _ _ _).mono ?_; rintro e w1 ⟨rfl, hb⟩; obtain ⟨xs, d, rfl⟩ := ext_of hb; clear hb) | (go_at_call 82; refine (ends_any _ _).mono ?_; rintro e w1 ⟨rfl, rfl⟩) | (go_at_call 47; refine (asks_any _ _).mono ?_; rintro e w1 ⟨rfl, rfl⟩) | (go_at_call 83; refine (lower_any _ _).mono ?_; rintro e w1 ⟨rfl, rfl⟩))
    exact bodyPost_ret (v := .tuple #[.agg #[.slice none 0 0, .int .i64 0], .bool false]) (by simp [results, Try.results49, go_sem]) rfl ⟨_, _, _, _, rfl, by exact bel⟩
end Go.Proofs.Ythidhfkbfoejbaa.Fs
namespace Go.Proofs.Ythidhfkbfoejbaa.Fs
open Go.RowKit
set_option linter.unusedSimpArgs false
set_option linter.unusedVariables false
set_option maxHeartbeats 2000000 in
theorem down_yes (s : Int) (w : World) (h : tabOk 2 s = true) : Calls Try.prog 50 #[.int .i64 s] w (MYes 2 s w) := by
  obtain ⟨-, -, h0, h9⟩ := tabOk_in h
  have hs : s = 2 ∨ s = 3 ∨ s = 4 ∨ s = 5 ∨ s = 6 ∨ s = 7 ∨ s = 8 ∨ s = 9 := by
    rcases ten h0 h9 with rfl | rfl | rfl | rfl | rfl | rfl | rfl | rfl | rfl | rfl <;> first | decide | (exfalso; revert h; decide)
  clear h h0 h9
  rcases hs with rfl | rfl | rfl | rfl | rfl | rfl | rfl | rfl
  · go_enter Try.func50, Try.ntmps50
    go_wp2_with (first | (go_at_call 77; refine (only_any _ _).mono ?_; rintro e w1 ⟨rfl, rfl⟩) | (go_at_call 78; refine (by_any _ _ _ _ _).mono ?_; rintro e w1 ⟨rfl, rfl⟩) | (go_at_call 79; refine (stays_any _ _ _ _ _).mono ?_; rintro e w1 ⟨rfl, hb⟩; obtain ⟨xs, d, rfl⟩ := ext_of hb; clear hb) | (go_at_call 82; refine (ends_any _ _).mono ?_; rintro e w1 ⟨rfl, rfl⟩) | (go_at_call 47; refine (asks_any _ _).mono ?_; rintro e w1 ⟨rfl, rfl⟩) | (go_at_call 83; refine (lower_any _ _).mono ?_; rintro e w1 ⟨rfl, rfl⟩))
    refine bodyPost_ret (v := .tuple #[.agg #[.slice none 0 0, .int .i64 0], .bool true]) (by simp [results, Try.results50, go_sem, lowerS]) rfl ⟨.slice none 0 0, rfl, ?_, ?_⟩
    · exact bel
    · exact own_nil _ _ _ _
  · go_enter Try.func50, Try.ntmps50
    go_wp2_with (first | (go_at_call 77; refine (only_any _ _).mono ?_; rintro e w1 ⟨rfl, rfl⟩) | (go_at_call 78; refine (by_any _ _ _ _ _).mono ?_; rintro e w1 ⟨rfl, rfl⟩) | (go_at_call 79; refine (stays_any _ _ _ _ _).mono ?_; rintro e w1 ⟨rfl, hb⟩; obtain ⟨xs, d, rfl⟩ := ext_of hb; clear hb) | (go_at_call 82; refine (ends_any _ _).mono ?_; rintro e w1 ⟨rfl, rfl⟩) | (go_at_call 47; refine (asks_any _ _).mono ?_; rintro e w1 ⟨rfl, rfl⟩) | (go_at_call 83; refine (lower_any _ _).mono ?_; rintro e w1 ⟨rfl, rfl⟩))
    refine bodyPost_ret (v := .tuple #[.agg #[.slice (some ⟨w.heap.size + 1, 0, none⟩) 1 1, .int .i64 1], .bool true]) (by simp [results, Try.results50, go_sem, lowerS]) rfl ⟨.slice (some ⟨w.heap.size + 1, 0, none⟩) 1 1, rfl, ?_, ?_⟩
    · exact bel
    · exact own_lit (size := 1) (e := 74) (n := 1) (by (repeat (first | ((refine heap_alloc_at _ _ _ ?_); (simp [go_sem]; done)) | ((refine (heap_ext _ _ _ _ ?_).trans ?_); (focus (simp [go_sem]; done))) | ((refine (heap_alloc_past _ _ _ ?_).trans ?_); (focus (simp [go_sem]; done)))))) (by omega) (by decide) rfl rfl
  · go_enter Try.func50, Try.ntmps50
    go_wp2_with (first | (go_at_call 77; refine (only_any _ _).mono ?_; rintro e w1 ⟨rfl, rfl⟩) | (go_at_call 78; refine (by_any _ _ _ _ _).mono ?_; rintro e w1 ⟨rfl, rfl⟩) | (go_at_call 79; refine (stays_any _ _ _ _ _).mono ?_; rintro e w1 ⟨rfl, hb⟩; obtain ⟨xs, d, rfl⟩ := ext_of hb; clear hb) | (go_at_call 82; refine (ends_any _ _).mono ?_; rintro e w1 ⟨rfl, rfl⟩) | (go_at_call 47; refine (asks_any _ _).mono ?_; rintro e w1 ⟨rfl, rfl⟩) | (go_at_call 83; refine (lower_any _ _).mono ?_; rintro e w1 ⟨rfl, rfl⟩))
    refine bodyPost_ret (v := .tuple #[.agg #[.slice none 0 0, .int .i64 0], .bool true]) (by simp [results, Try.results50, go_sem, lowerS]) rfl ⟨.slice none 0 0, rfl, ?_, ?_⟩
    · exact bel
    · exact own_nil _ _ _ _
  · go_enter Try.func50, Try.ntmps50
    go_wp2_with (first | (go_at_call 77; refine (only_any _ _).mono ?_; rintro e w1 ⟨rfl, rfl⟩) | (go_at_call 78; refine (by_any _ _ _ _ _).mono ?_; rintro e w1 ⟨rfl, rfl⟩) | (go_at_call 79; refine (stays_any _ _ _ _ _).mono ?_; rintro e w1 ⟨rfl, hb⟩; obtain ⟨xs, d, rfl⟩ := ext_of hb; clear hb) | (go_at_call 82; refine (ends_any _ _).mono ?_; rintro e w1 ⟨rfl, rfl⟩) | (go_at_call 47; refine (asks_any _ _).mono ?_; rintro e w1 ⟨rfl, rfl⟩) | (go_at_call 83; refine (lower_any _ _).mono ?_; rintro e w1 ⟨rfl, rfl⟩))
    refine bodyPost_ret (v := .tuple #[.agg #[.slice none 0 0, .int .i64 1], .bool true]) (by simp [results, Try.results50, go_sem, lowerS]) rfl ⟨.slice none 0 0, rfl, ?_, ?_⟩
    · exact bel
    · exact own_nil _ _ _ _
  · go_enter Try.func50, Try.ntmps50
    go_wp2_with (first | (go_at_call 77; refine (only_any _ _).mono ?_; rintro e w1 ⟨rfl, rfl⟩) | (go_at_call 78; refine (by_any _ _ _ _ _).mono ?_; rintro e w1 ⟨rfl, rfl⟩) | (go_at_call 79; refine (stays_any _ _ _ _ _).mono ?_; rintro e w1 ⟨rfl, hb⟩; obtain ⟨xs, d, rfl⟩ := ext_of hb; clear hb) | (go_at_call 82; refine (ends_any _ _).mono ?_; rintro e w1 ⟨rfl, rfl⟩) | (go_at_call 47; refine (asks_any _ _).mono ?_; rintro e w1 ⟨rfl, rfl⟩) | (go_at_call 83; refine (lower_any _ _).mono ?_; rintro e w1 ⟨rfl, rfl⟩))
    refine bodyPost_ret (v := .tuple #[.agg #[.slice none 0 0, .int .i64 1], .bool true]) (by simp [results, Try.results50, go_sem, lowerS]) rfl ⟨.slice none 0 0, rfl, ?_, ?_⟩
    · exact bel
    · exact own_nil _ _ _ _
  · go_enter Try.func50, Try.ntmps50
    go_wp2_with (first | (go_at_call 77; refine (only_any _ _).mono ?_; rintro e w1 ⟨rfl, rfl⟩) | (go_at_call 78; refine (by_any _ _ _ _ _).mono ?_; rintro e w1 ⟨rfl, rfl⟩) | (go_at_call 79; refine (stays_any _ _ _ _ _).mono ?_; rintro e w1 ⟨rfl, hb⟩; obtain ⟨xs, d, rfl⟩ := ext_of hb; clear hb) | (go_at_call 82; refine (ends_any _ _).mono ?_; rintro e w1 ⟨rfl, rfl⟩) | (go_at_call 47; refine (asks_any _ _).mono ?_; rintro e w1 ⟨rfl, rfl⟩) | (go_at_call 83; refine (lower_any _ _).mono ?_; rintro e w1 ⟨rfl, rfl⟩))
    refine bodyPost_ret (v := .tuple #[.agg #[.slice none 0 0, .int .i64 1], .bool true]) (by simp [results, Try.results50, go_sem, lowerS]) rfl ⟨.slice none 0 0, rfl, ?_, ?_⟩
    · exact bel
    · exact own_nil _ _ _ _
  · go_enter Try.func50, Try.ntmps50
    go_wp2_with (first | (go_at_call 77; refine (only_any _ _).mono ?_; rintro e w1 ⟨rfl, rfl⟩) | (go_at_call 78; refine (by_any _ _ _ _ _).mono ?_; rintro e w1 ⟨rfl, rfl⟩) | (go_at_call 79; refine (stays_any _ _ _ _ _).mono ?_; rintro e w1 ⟨rfl, hb⟩; obtain ⟨xs, d, rfl⟩ := ext_of hb; clear hb) | (go_at_call 82; refine (ends_any _ _).mono ?_; rintro e w1 ⟨rfl, rfl⟩) | (go_at_call 47; refine (asks_any _ _).mono ?_; rintro e w1 ⟨rfl, rfl⟩) | (go_at_call 83; refine (lower_any _ _).mono ?_; rintro e w1 ⟨rfl, rfl⟩))
    refine bodyPost_ret (v := .tuple #[.agg #[.slice none 0 0, .int .i64 1], .bool true]) (by simp [results, Try.results50, go_sem, lowerS]) rfl ⟨.slice none 0 0, rfl, ?_, ?_⟩
    · exact bel
    · exact own_nil _ _ _ _
  · go_enter Try.func50, Try.ntmps50
    go_wp2_with (first | (go_at_call 77; refine (only_any _ _).mono ?_; rintro e w1 ⟨rfl, rfl⟩) | (go_at_call 78; refine (by_any _ _ _ _ _).mono ?_; rintro e w1 ⟨rfl, rfl⟩) | (go_at_call 79; refine (stays_any _ _ _ _ _).mono ?_; rintro e w1 ⟨rfl, hb⟩; obtain ⟨xs, d, rfl⟩ := ext_of hb; clear hb) | (go_at_call 82; refine (ends_any _ _).mono ?_; rintro e w1 ⟨rfl, rfl⟩) | (go_at_call 47; refine (asks_any _ _).mono ?_; rintro e w1 ⟨rfl, rfl⟩) | (go_at_call 83; refine (lower_any _ _).mono ?_; rintro e w1 ⟨rfl, rfl⟩))
    refine bodyPost_ret (v := .tuple #[.agg #[.slice (some ⟨w.heap.size + 1, 0, none⟩) 1 1, .int .i64 1], .bool true]) (by simp [results, Try.results50, go_sem, lowerS]) rfl ⟨.slice (some ⟨w.heap.size + 1, 0, none⟩) 1 1, rfl, ?_, ?_⟩
    · exact bel
    · exact own_lit (size := 1) (e := 74) (n := 1) (by (repeat (first | ((refine heap_alloc_at _ _ _ ?_); (simp [go_sem]; done)) | ((refine (heap_ext _ _ _ _ ?_).trans ?_); (focus (simp [go_sem]; done))) | ((refine (heap_alloc_past _ _ _ ?_).trans ?_); (focus (simp [go_sem]; done)))))) (by omega) (by decide) rfl rfl
set_option maxHeartbeats 2000000 in
theorem down_no (s : Int) (w : World) (h0 : 0 ≤ s) (h9 : s ≤ 9) (h : tabOk 2 s = false) : Calls Try.prog 50 #[.int .i64 s] w (MNo w) := by
  have hs : s = 0 ∨ s = 1 := by
    rcases ten h0 h9 with rfl | rfl | rfl | rfl | rfl | rfl | rfl | rfl | rfl | rfl <;> first | decide | (exfalso; revert h; decide)
  clear h h0 h9
  rcases hs with rfl | rfl
  · go_enter Try.func50, Try.ntmps50
    go_wp2_with (first | (go_at_call 77; refine (only_any _ _).mono ?_; rintro e w1 ⟨rfl, rfl⟩) | (go_at_call 78; refine (by_any _ _ _ _ _).mono ?_; rintro e w1 ⟨rfl, rfl⟩) | (go_at_call 79; refine (stays_any _ _ _ _ _).mono ?_; rintro e w1 ⟨rfl, hb⟩; obtain ⟨xs, d, rfl⟩ := ext_of hb; clear hb) | (go_at_call 82; refine (ends_any _ _).mono ?_; rintro e w1 ⟨rfl, rfl⟩) | (go_at_call 47; refine (asks_any _ _).mono ?_; rintro e w1 ⟨rfl, rfl⟩) | (go_at_call 83; refine (lower_any _ _).mono ?_; rintro e w1 ⟨rfl, rfl⟩))
    exact bodyPost_ret (v := .tuple #[.agg #[.slice none 0 0, .int .i64 0], .bool false]) (by simp [results, Try.results50, go_sem]) rfl ⟨_, _, _, _, rfl, by exact bel⟩
  · go_enter Try.func50, Try.ntmps50
    go_wp2_with (first | (go_at_call 77; refine (only_any _ _).mono ?_; rintro e w1 ⟨rfl, rfl⟩) | (go_at_call 78; refine (by_any _ _ _ _ _).mono ?_; rintro e w1 ⟨rfl, rfl⟩) | (go_at_call 79; refine (stays_any _ _ _ _ _).mono ?_; rintro e w1 ⟨rfl, hb⟩; obtain ⟨xs, d, rfl⟩ := ext_of hb; clear hb) | (go_at_call 82; refine (ends_any _ _).mono ?_; rintro e w1 ⟨rfl, rfl⟩) | (go_at_call 47; refine (asks_any _ _).mono ?_; rintro e w1 ⟨rfl, rfl⟩) | (go_at_call 83; refine (lower_any _ _).mono ?_; rintro e w1 ⟨rfl, rfl⟩))
    exact bodyPost_ret (v := .tuple #[.agg #[.slice none 0 0, .int .i64 0], .bool false]) (by simp [results, Try.results50, go_sem]) rfl ⟨_, _, _, _, rfl, by exact bel⟩
set_option maxHeartbeats 2000000 in
theorem open_yes (s : Int) (w : World) (h : tabOk 3 s = true) : Calls Try.prog 51 #[.int .i64 s] w (MYes 3 s w) := by
  obtain ⟨-, -, h0, h9⟩ := tabOk_in h
  have hs := ten h0 h9
  clear h h0 h9
  rcases hs with rfl | rfl | rfl | rfl | rfl | rfl | rfl | rfl | rfl | rfl
  · go_enter Try.func51, Try.ntmps51
    go_wp2_with (first | (go_at_call 77; refine (only_any _ _).mono ?_; rintro e w1 ⟨rfl, rfl⟩) | (go_at_call 78; refine (by_any _ _ _ _ _).mono ?_; rintro e w1 ⟨rfl, rfl⟩) | (go_at_call 79; refine (stays_any _ _ _ _ _).mono ?_; rintro e w1 ⟨rfl, hb⟩; obtain ⟨xs, d, rfl⟩ := ext_of hb; clear hb) | (go_at_call 82; refine (ends_any _ _).mono ?_; rintro e w1 ⟨rfl, rfl⟩) | (go_at_call 47; refine (asks_any _ _).mono ?_; rintro e w1 ⟨rfl, rfl⟩) | (go_at_call 83; refine (lower_any _ _).mono ?_; rintro e w1 ⟨rfl, rfl⟩))
    refine bodyPost_ret (v := .tuple #[.agg #[.slice (some ⟨w.heap.size + 1, 0, none⟩) 1 1, .int .i64 1], .bool true]) (by simp [results, Try.results51, go_sem, lowerS]) rfl ⟨.slice (some ⟨w.heap.size + 1, 0, none⟩) 1 1, rfl, ?_, ?_⟩
    · exact bel
    · exact own_lit (size := 1) (e := 74) (n := 1) (by (repeat (first | ((refine heap_alloc_at _ _ _ ?_); (simp [go_sem]; done)) | ((refine (heap_ext _ _ _ _ ?_).trans ?_); (focus (simp [go_sem]; done))) | ((refine (heap_alloc_past _ _ _ ?_).trans ?_); (focus (simp [go_sem]; done)))))) (by omega) (by decide) rfl rfl
  · go_enter Try.func51, Try.ntmps51
    go_wp2_with (first | (go_at_call 77; refine (only_any _ _).mono ?_; rintro e w1 ⟨rfl, rfl⟩) | (go_at_call 78; refine (by_any _ _ _ _ _).mono ?_; rintro e w1 ⟨rfl, rfl⟩) | (go_at_call 79; refine (stays_any _ _ _ _ _).mono ?_; rintro e w1 ⟨rfl, hb⟩; obtain ⟨xs, d, rfl⟩ := ext_of hb; clear hb) | (go_at_call 82; refine (ends_any _ _).mono ?_; rintro e w1 ⟨rfl, rfl⟩) | (go_at_call 47; refine (asks_any _ _).mono ?_; rintro e w1 ⟨rfl, rfl⟩) | (go_at_call 83; refine (lower_any _ _).mono ?_; rintro e w1 ⟨rfl, rfl⟩))
    refine bodyPost_ret (v := .tuple #[.agg #[.slice none 0 0, .int .i64 1], .bool true]) (by simp [results, Try.results51, go_sem, lowerS]) rfl ⟨.slice none 0 0, rfl, ?_, ?_⟩
    · exact bel
    · exact own_nil _ _ _ _
  · go_enter Try.func51, Try.ntmps51
    go_wp2_with (first | (go_at_call 77; refine (only_any _ _).mono ?_; rintro e w1 ⟨rfl, rfl⟩) | (go_at_call 78; refine (by_any _ _ _ _ _).mono ?_; rintro e w1 ⟨rfl, rfl⟩) | (go_at_call 79; refine (stays_any _ _ _ _ _).mono ?_; rintro e w1 ⟨rfl, hb⟩; obtain ⟨xs, d, rfl⟩ := ext_of hb; clear hb) | (go_at_call 82; refine (ends_any _ _).mono ?_; rintro e w1 ⟨rfl, rfl⟩) | (go_at_call 47; refine (asks_any _ _).mono ?_; rintro e w1 ⟨rfl, rfl⟩) | (go_at_call 83; refine (lower_any _ _).mono ?_; rintro e w1 ⟨rfl, rfl⟩))
    refine bodyPost_ret (v := .tuple #[.agg #[.slice (some ⟨w.heap.size + 1, 0, none⟩) 2 2, .int .i64 6], .bool true]) (by simp [results, Try.results51, go_sem, lowerS]) rfl ⟨.slice (some ⟨w.heap.size + 1, 0, none⟩) 2 2, rfl, ?_, ?_⟩
    · exact bel
    · exact own_lit (size := 1) (e := 74) (n := 2) (by (repeat (first | ((refine heap_alloc_at _ _ _ ?_); (simp [go_sem]; done)) | ((refine (heap_ext _ _ _ _ ?_).trans ?_); (focus (simp [go_sem]; done))) | ((refine (heap_alloc_past _ _ _ ?_).trans ?_); (focus (simp [go_sem]; done)))))) (by omega) (by decide) rfl rfl
  · go_enter Try.func51, Try.ntmps51
    go_wp2_with (first | (go_at_call 77; refine (only_any _ _).mono ?_; rintro e w1 ⟨rfl, rfl⟩) | (go_at_call 78; refine (by_any _ _ _ _ _).mono ?_; rintro e w1 ⟨rfl, rfl⟩) | (go_at_call 79; refine (stays_any _ _ _ _ _).mono ?_; rintro e w1 ⟨rfl, hb⟩; obtain ⟨xs, d, rfl⟩ := ext_of hb; clear hb) | (go_at_call 82; refine (ends_any _ _).mono ?_; rintro e w1 ⟨rfl, rfl⟩) | (go_at_call 47; refine (asks_any _ _).mono ?_; rintro e w1 ⟨rfl, rfl⟩) | (go_at_call 83; refine (lower_any _ _).mono ?_; rintro e w1 ⟨rfl, rfl⟩))
    refine bodyPost_ret (v := .tuple #[.agg #[.slice none 0 0, .int .i64 3], .bool true]) (by simp [results, Try.results51, go_sem, lowerS]) rfl ⟨.slice none 0 0, rfl, ?_, ?_⟩
    · exact bel
    · exact own_nil _ _ _ _
  · go_enter Try.func51, Try.ntmps51
    go_wp2_with (first | (go_at_call 77; refine (only_any _ _).mono ?_; rintro e w1 ⟨rfl, rfl⟩) | (go_at_call 78; refine (by_any _ _ _ _ _).mono ?_; rintro e w1 ⟨rfl, rfl⟩) | (go_at_call 79; refine (stays_any _ _ _ _ _).mono ?_; rintro e w1 ⟨rfl, hb⟩; obtain ⟨xs, d, rfl⟩ := ext_of hb; clear hb) | (go_at_call 82; refine (ends_any _ _).mono ?_; rintro e w1 ⟨rfl, rfl⟩) | (go_at_call 47; refine (asks_any _ _).mono ?_; rintro e w1 ⟨rfl, rfl⟩) | (go_at_call 83; refine (lower_any _ _).mono ?_; rintro e w1 ⟨rfl, rfl⟩))
    refine bodyPost_ret (v := .tuple #[.agg #[.slice none 0 0, .int .i64 5], .bool true]) (by simp [results, Try.results51, go_sem, lowerS]) rfl ⟨.slice none 0 0, rfl, ?_, ?_⟩
    · exact bel
    · exact own_nil _ _ _ _
  · go_enter Try.func51, Try.ntmps51
    go_wp2_with (first | (go_at_call 77; refine (only_any _ _).mono ?_; rintro e w1 ⟨rfl, rfl⟩) | (go_at_call 78; refine (by_any _ _ _ _ _).mono ?_; rintro e w1 ⟨rfl, rfl⟩) | (go_at_call 79; refine (stays_any _ _ _ _ _).mono ?_; rintro e w1 ⟨rfl, hb⟩; obtain ⟨xs, d, rfl⟩ := ext_of hb; clear hb) | (go_at_call 82; refine (ends_any _ _).mono ?_; rintro e w1 ⟨rfl, rfl⟩) | (go_at_call 47; refine (asks_any _ _).mono ?_; rintro e w1 ⟨rfl, rfl⟩) | (go_at_call 83; refine (lower_any _ _).mono ?_; rintro e w1 ⟨rfl, rfl⟩))
    refine bodyPost_ret (v := .tuple #[.agg #[.slice none 0 0, .int .i64 5], .bool true]) (by simp [results, Try.results51, go_sem, lowerS]) rfl ⟨.slice none 0 0, rfl, ?_, ?_⟩
    · exact bel
    · exact own_nil _ _ _ _
  · go_enter Try.func51, Try.ntmps51
    go_wp2_with (first | (go_at_call 77; refine (only_any _ _).mono ?_; rintro e w1 ⟨rfl, rfl⟩) | (go_at_call 78; refine (by_any _ _ _ _ _).mono ?_; rintro e w1 ⟨rfl, rfl⟩) | (go_at_call 79; refine (stays_any _ _ _ _ _).mono ?_; rintro e w1 ⟨rfl, hb⟩; obtain ⟨xs, d, rfl⟩ := ext_of hb; clear hb) | (go_at_call 82; refine (ends_any _ _).mono ?_; rintro e w1 ⟨rfl, rfl⟩) | (go_at_call 47; refine (asks_any _ _).mono ?_; rintro e w1 ⟨rfl, rfl⟩) | (go_at_call 83; refine (lower_any _ _).mono ?_; rintro e w1 ⟨rfl, rfl⟩))
    refine bodyPost_ret (v := .tuple #[.agg #[.slice none 0 0, .int .i64 6], .bool true]) (by simp [results, Try.results51, go_sem, lowerS]) rfl ⟨.slice none 0 0, rfl, ?_, ?_⟩
    · exact bel
    · exact own_nil _ _ _ _
  · go_enter Try.func51, Try.ntmps51
    go_wp2_with (first | (go_at_call 77; refine (only_any _ _).mono ?_; rintro e w1 ⟨rfl, rfl⟩) | (go_at_call 78; refine (by_any _ _ _ _ _).mono ?_; rintro e w1 ⟨rfl, rfl⟩) | (go_at_call 79; refine (stays_any _ _ _ _ _).mono ?_; rintro e w1 ⟨rfl, hb⟩; obtain ⟨xs, d, rfl⟩ := ext_of hb; clear hb) | (go_at_call 82; refine (ends_any _ _).mono ?_; rintro e w1 ⟨rfl, rfl⟩) | (go_at_call 47; refine (asks_any _ _).mono ?_; rintro e w1 ⟨rfl, rfl⟩) | (go_at_call 83; refine (lower_any _ _).mono ?_; rintro e w1 ⟨rfl, rfl⟩))
    refine bodyPost_ret (v := .tuple #[.agg #[.slice none 0 0, .int .i64 7], .bool true]) (by simp [results, Try.results51, go_sem, lowerS]) rfl ⟨.slice none 0 0, rfl, ?_, ?_⟩
    · exact bel
    · exact own_nil _ _ _ _
  · go_enter Try.func51, Try.ntmps51
    go_wp2_with (first | (go_at_call 77; refine (only_any _ _).mono ?_; rintro e w1 ⟨rfl, rfl⟩) | (go_at_call 78; refine (by_any _ _ _ _ _).mono ?_; rintro e w1 ⟨rfl, rfl⟩) | (go_at_call 79; refine (stays_any _ _ _ _ _).mono ?_; rintro e w1 ⟨rfl, hb⟩; obtain ⟨xs, d, rfl⟩ := ext_of hb; clear hb) | (go_at_call 82; refine (ends_any _ _).mono ?_; rintro e w1 ⟨rfl, rfl⟩) | (go_at_call 47; refine (asks_any _ _).mono ?_; rintro e w1 ⟨rfl, rfl⟩) | (go_at_call 83; refine (lower_any _ _).mono ?_; rintro e w1 ⟨rfl, rfl⟩))
    refine bodyPost_ret (v := .tuple #[.agg #[.slice none 0 0, .int .i64 8], .bool true]) (by simp [results, Try.results51, go_sem, lowerS]) rfl ⟨.slice none 0 0, rfl, ?_, ?_⟩
    · exact bel
    · exact own_nil _ _ _ _
  · go_enter Try.func51, Try.ntmps51
    go_wp2_with (first | (go_at_call 77; refine (only_any _ _).mono ?_; rintro e w1 ⟨rfl, rfl⟩) | (go_at_call 78; refine (by_any _ _ _ _ _).mono ?_; rintro e w1 ⟨rfl, rfl⟩) | (go_at_call 79; refine (stays_any _ _ _ _ _).mono ?_; rintro e w1 ⟨rfl, hb⟩; obtain ⟨xs, d, rfl⟩ := ext_of hb; clear hb) | (go_at_call 82; refine (ends_any _ _).mono ?_; rintro e w1 ⟨rfl, rfl⟩) | (go_at_call 47; refine (asks_any _ _).mono ?_; rintro e w1 ⟨rfl, rfl⟩) | (go_at_call 83; refine (lower_any _ _).mono ?_; rintro e w1 ⟨rfl, rfl⟩))
    refine bodyPost_ret (v := .tuple #[.agg #[.slice none 0 0, .int .i64 9], .bool true]) (by simp [results, Try.results51, go_sem, lowerS]) rfl ⟨.slice none 0 0, rfl, ?_, ?_⟩
    · exact bel
    · exact own_nil _ _ _ _
set_option maxHeartbeats 2000000 in
theorem open_no (s : Int) (w : World) (h0 : 0 ≤ s) (h9 : s ≤ 9) (h : tabOk 3 s = false) : Calls Try.prog 51 #[.int .i64 s] w (MNo w) := by
  exfalso; rcases ten h0 h9 with rfl | rfl | rfl | rfl | rfl | rfl | rfl | rfl | rfl | rfl <;> (revert h; decide)
set_option maxHeartbeats 2000000 in
theorem shut_yes (s : Int) (w : World) (h : tabOk 4 s = true) : Calls Try.prog 52 #[.int .i64 s] w (MYes 4 s w) := by
  obtain ⟨-, -, h0, h9⟩ := tabOk_in h
  have hs := ten h0 h9
  clear h h0 h9
  rcases hs with rfl | rfl | rfl | rfl | rfl | rfl | rfl | rfl | rfl | rfl
  · go_enter Try.func52, Try.ntmps52
    go_wp2_with (first | (go_at_call 77; refine (only_any _ _).mono ?_; rintro e w1 ⟨rfl, rfl⟩) | (go_at_call 78; refine (by_any _ _ _ _ _).mono ?_; rintro e w1 ⟨rfl, rfl⟩) | (go_at_call 79; refine (stays_any _ _ _ _ _).mono ?_; rintro e w1 ⟨rfl, hb⟩; obtain ⟨xs, d, rfl⟩ := ext_of hb; clear hb) | (go_at_call 82; refine (ends_any _ _).mono ?_; rintro e w1 ⟨rfl, rfl⟩) | (go_at_call 47; refine (asks_any _ _).mono ?_; rintro e w1 ⟨rfl, rfl⟩) | (go_at_call 83; refine (lower_any _ _).mono ?_; rintro e w1 ⟨rfl, rfl⟩))
    refine bodyPost_ret (v := .tuple #[.agg #[.slice none 0 0, .int .i64 0], .bool true]) (by simp [results, Try.results52, go_sem, lowerS]) rfl ⟨.slice none 0 0, rfl, ?_, ?_⟩
    · exact bel
    · exact own_nil _ _ _ _
  · go_enter Try.func52, Try.ntmps52
    go_wp2_with (first | (go_at_call 77; refine (only_any _ _).mono ?_; rintro e w1 ⟨rfl, rfl⟩) | (go_at_call 78; refine (by_any _ _ _ _ _).mono ?_; rintro e w1 ⟨rfl, rfl⟩) | (go_at_call 79; refine (stays_any _ _ _ _ _).mono ?_; rintro e w1 ⟨rfl, hb⟩; obtain ⟨xs, d, rfl⟩ := ext_of hb; clear hb) | (go_at_call 82; refine (ends_any _ _).mono ?_; rintro e w1 ⟨rfl, rfl⟩) | (go_at_call 47; refine (asks_any _ _).mono ?_; rintro e w1 ⟨rfl, rfl⟩) | (go_at_call 83; refine (lower_any _ _).mono ?_; rintro e w1 ⟨rfl, rfl⟩))
    refine bodyPost_ret (v := .tuple #[.agg #[.slice (some ⟨w.heap.size + 1, 0, none⟩) 1 1, .int .i64 0], .bool true]) (by simp [results, Try.results52, go_sem, lowerS]) rfl ⟨.slice (some ⟨w.heap.size + 1, 0, none⟩) 1 1, rfl, ?_, ?_⟩
    · exact bel
    · exact own_lit (size := 1) (e := 74) (n := 1) (by (repeat (first | ((refine heap_alloc_at _ _ _ ?_); (simp [go_sem]; done)) | ((refine (heap_ext _ _ _ _ ?_).trans ?_); (focus (simp [go_sem]; done))) | ((refine (heap_alloc_past _ _ _ ?_).trans ?_); (focus (simp [go_sem]; done)))))) (by omega) (by decide) rfl rfl
  · go_enter Try.func52, Try.ntmps52
    go_wp2_with (first | (go_at_call 77; refine (only_any _ _).mono ?_; rintro e w1 ⟨rfl, rfl⟩) | (go_at_call 78; refine (by_any _ _ _ _ _).mono ?_; rintro e w1 ⟨rfl, rfl⟩) | (go_at_call 79; refine (stays_any _ _ _ _ _).mono ?_; rintro e w1 ⟨rfl, hb⟩; obtain ⟨xs, d, rfl⟩ := ext_of hb; clear hb) | (go_at_call 82; refine (ends_any _ _).mono ?_; rintro e w1 ⟨rfl, rfl⟩) | (go_at_call 47; refine (asks_any _ _).mono ?_; rintro e w1 ⟨rfl, rfl⟩) | (go_at_call 83; refine (lower_any _ _).mono ?_; rintro e w1 ⟨rfl, rfl⟩))
    refine bodyPost_ret (v := .tuple #[.agg #[.slice none 0 0, .int .i64 2], .bool true]) (by simp [results, Try.results52, go_sem, lowerS]) rfl ⟨.slice none 0 0, rfl, ?_, ?_⟩
    · exact bel
    · exact own_nil _ _ _ _
  · go_enter Try.func52, Try.ntmps52
    go_wp2_with (first | (go_at_call 77; refine (only_any _ _).mono ?_; rintro e w1 ⟨rfl, rfl⟩) | (go_at_call 78; refine (by_any _ _ _ _ _).mono ?_; rintro e w1 ⟨rfl, rfl⟩) | (go_at_call 79; refine (stays_any _ _ _ _ _).mono ?_; rintro e w1 ⟨rfl, hb⟩; obtain ⟨xs, d, rfl⟩ := ext_of hb; clear hb) | (go_at_call 82; refine (ends_any _ _).mono ?_; rintro e w1 ⟨rfl, rfl⟩) | (go_at_call 47; refine (asks_any _ _).mono ?_; rintro e w1 ⟨rfl, rfl⟩) | (go_at_call 83; refine (lower_any _ _).mono ?_; rintro e w1 ⟨rfl, rfl⟩))
    refine bodyPost_ret (v := .tuple #[.agg #[.slice none 0 0, .int .i64 2], .bool true]) (by simp [results, Try.results52, go_sem, lowerS]) rfl ⟨.slice none 0 0, rfl, ?_, ?_⟩
    · exact bel
    · exact own_nil _ _ _ _
  · go_enter Try.func52, Try.ntmps52
    go_wp2_with (first | (go_at_call 77; refine (only_any _ _).mono ?_; rintro e w1 ⟨rfl, rfl⟩) | (go_at_call 78; refine (by_any _ _ _ _ _).mono ?_; rintro e w1 ⟨rfl, rfl⟩) | (go_at_call 79; refine (stays_any _ _ _ _ _).mono ?_; rintro e w1 ⟨rfl, hb⟩; obtain ⟨xs, d, rfl⟩ := ext_of hb; clear hb) | (go_at_call 82; refine (ends_any _ _).mono ?_; rintro e w1 ⟨rfl, rfl⟩) | (go_at_call 47; refine (asks_any _ _).mono ?_; rintro e w1 ⟨rfl, rfl⟩) | (go_at_call 83; refine (lower_any _ _).mono ?_; rintro e w1 ⟨rfl, rfl⟩))
    refine bodyPost_ret (v := .tuple #[.agg #[.slice none 0 0, .int .i64 4], .bool true]) (by simp [results, Try.results52, go_sem, lowerS]) rfl ⟨.slice none 0 0, rfl, ?_, ?_⟩
    · exact bel
    · exact own_nil _ _ _ _
  · go_enter Try.func52, Try.ntmps52
    go_wp2_with (first | (go_at_call 77; refine (only_any _ _).mono ?_; rintro e w1 ⟨rfl, rfl⟩) | (go_at_call 78; refine (by_any _ _ _ _ _).mono ?_; rintro e w1 ⟨rfl, rfl⟩) | (go_at_call 79; refine (stays_any _ _ _ _ _).mono ?_; rintro e w1 ⟨rfl, hb⟩; obtain ⟨xs, d, rfl⟩ := ext_of hb; clear hb) | (go_at_call 82; refine (ends_any _ _).mono ?_; rintro e w1 ⟨rfl, rfl⟩) | (go_at_call 47; refine (asks_any _ _).mono ?_; rintro e w1 ⟨rfl, rfl⟩) | (go_at_call 83; refine (lower_any _ _).mono ?_; rintro e w1 ⟨rfl, rfl⟩))
    refine bodyPost_ret (v := .tuple #[.agg #[.slice none 0 0, .int .i64 4], .bool true]) (by simp [results, Try.results52, go_sem, lowerS]) rfl ⟨.slice none 0 0, rfl, ?_, ?_⟩
    · exact bel
    · exact own_nil _ _ _ _
  · go_enter Try.func52, Try.ntmps52
    go_wp2_with (first | (go_at_call 77; refine (only_any _ _).mono ?_; rintro e w1 ⟨rfl, rfl⟩) | (go_at_call 78; refine (by_any _ _ _ _ _).mono ?_; rintro e w1 ⟨rfl, rfl⟩) | (go_at_call 79; refine (stays_any _ _ _ _ _).mono ?_; rintro e w1 ⟨rfl, hb⟩; obtain ⟨xs, d, rfl⟩ := ext_of hb; clear hb) | (go_at_call 82; refine (ends_any _ _).mono ?_; rintro e w1 ⟨rfl, rfl⟩) | (go_at_call 47; refine (asks_any _ _).mono ?_; rintro e w1 ⟨rfl, rfl⟩) | (go_at_call 83; refine (lower_any _ _).mono ?_; rintro e w1 ⟨rfl, rfl⟩))
    refine bodyPost_ret (v := .tuple #[.agg #[.slice (some ⟨w.heap.size + 1, 0, none⟩) 2 2, .int .i64 4], .bool true]) (by simp [results, Try.results52, go_sem, lowerS]) rfl ⟨.slice (some ⟨w.heap.size + 1, 0, none⟩) 2 2, rfl, ?_, ?_⟩
    · exact bel
    · exact own_lit (size := 1) (e := 74) (n := 2) (by (repeat (first | ((refine heap_alloc_at _ _ _ ?_); (simp [go_sem]; done)) | ((refine (heap_ext _ _ _ _ ?_).trans ?_); (focus (simp [go_sem]; done))) | ((refine (heap_alloc_past _ _ _ ?_).trans ?_); (focus (simp [go_sem]; done)))))) (by omega) (by decide) rfl rfl
  · go_enter Try.func52, Try.ntmps52
    go_wp2_with (first | (go_at_call 77; refine (only_any _ _).mono ?_; rintro e w1 ⟨rfl, rfl⟩) | (go_at_call 78; refine (by_any _ _ _ _ _).mono ?_; rintro e w1 ⟨rfl, rfl⟩) | (go_at_call 79; refine (stays_any _ _ _ _ _).mono ?_; rintro e w1 ⟨rfl, hb⟩; obtain ⟨xs, d, rfl⟩ := ext_of hb; clear hb) | (go_at_call 82; refine (ends_any _ _).mono ?_; rintro e w1 ⟨rfl, rfl⟩) | (go_at_call 47; refine (asks_any _ _).mono ?_; rintro e w1 ⟨rfl, rfl⟩) | (go_at_call 83; refine (lower_any _ _).mono ?_; rintro e w1 ⟨rfl, rfl⟩))
    refine bodyPost_ret (v := .tuple #[.agg #[.slice (some ⟨w.heap.size + 1, 0, none⟩) 2 2, .int .i64 4], .bool true]) (by simp [results, Try.results52, go_sem, lowerS]) rfl ⟨.slice (some ⟨w.heap.size + 1, 0, none⟩) 2 2, rfl, ?_, ?_⟩
    · exact bel
    · exact own_lit (size := 1) (e := 74) (n := 2) (by (repeat (first | ((refine heap_alloc_at _ _ _ ?_); (simp [go_sem]; done)) | ((refine (heap_ext _ _ _ _ ?_).trans ?_); (focus (simp [go_sem]; done))) | ((refine (heap_alloc_past _ _ _ ?_).trans ?_); (focus (simp [go_sem]; done)))))) (by omega) (by decide) rfl rfl
  · go_enter Try.func52, Try.ntmps52
    go_wp2_with (first | (go_at_call 77; refine (only_any _ _).mono ?_; rintro e w1 ⟨rfl, rfl⟩) | (go_at_call 78; refine (by_any _ _ _ _ _).mono ?_; rintro e w1 ⟨rfl, rfl⟩) | (go_at_call 79; refine (stays_any _ _ _ _ _).mono ?_; rintro e w1 ⟨rfl, hb⟩; obtain ⟨xs, d, rfl⟩ := ext_of hb; clear hb) | (go_at_call 82; refine (ends_any _ _).mono ?_; rintro e w1 ⟨rfl, rfl⟩) | (go_at_call 47; refine (asks_any _ _).mono ?_; rintro e w1 ⟨rfl, rfl⟩) | (go_at_call 83; refine (lower_any _ _).mono ?_; rintro e w1 ⟨rfl, rfl⟩))
    refine bodyPost_ret (v := .tuple #[.agg #[.slice (some ⟨w.heap.size + 1, 0, none⟩) 2 2, .int .i64 4], .bool true]) (by simp [results, Try.results52, go_sem, lowerS]) rfl ⟨.slice (some ⟨w.heap.size + 1, 0, none⟩) 2 2, rfl, ?_, ?_⟩
    · exact bel
    · exact own_lit (size := 1) (e := 74) (n := 2) (by (repeat (first | ((refine heap_alloc_at _ _ _ ?_); (simp [go_sem]; done)) | ((refine (heap_ext _ _ _ _ ?_).trans ?_); (focus (simp [go_sem]; done))) | ((refine (heap_alloc_past _ _ _ ?_).trans ?_); (focus (simp [go_sem]; done)))))) (by omega) (by decide) rfl rfl
  · go_enter Try.func52, Try.ntmps52
    go_wp2_with (first | (go_at_call 77; refine (only_any _ _).mono ?_; rintro e w1 ⟨rfl, rfl⟩) | (go_at_call 78; refine (by_any _ _ _ _ _).mono ?_; rintro e w1 ⟨rfl, rfl⟩) | (go_at_call 79; refine (stays_any _ _ _ _ _).mono ?_; rintro e w1 ⟨rfl, hb⟩; obtain ⟨xs, d, rfl⟩ := ext_of hb; clear hb) | (go_at_call 82; refine (ends_any _ _).mono ?_; rintro e w1 ⟨rfl, rfl⟩) | (go_at_call 47; refine (asks_any _ _).mono ?_; rintro e w1 ⟨rfl, rfl⟩) | (go_at_call 83; refine (lower_any _ _).mono ?_; rintro e w1 ⟨rfl, rfl⟩))
    refine bodyPost_ret (v := .tuple #[.agg #[.slice (some ⟨w.heap.size + 1, 0, none⟩) 3 3, .int .i64 4], .bool true]) (by simp [results, Try.results52, go_sem, lowerS]) rfl ⟨.slice (some ⟨w.heap.size + 1, 0, none⟩) 3 3, rfl, ?_, ?_⟩
    · exact bel
    · exact own_lit (size := 1) (e := 74) (n := 3) (by (repeat (first | ((refine heap_alloc_at _ _ _ ?_); (simp [go_sem]; done)) | ((refine (heap_ext _ _ _ _ ?_).trans ?_); (focus (simp [go_sem]; done))) | ((refine (heap_alloc_past _ _ _ ?_).trans ?_); (focus (simp [go_sem]; done)))))) (by omega) (by decide) rfl rfl
set_option maxHeartbeats 2000000 in
theorem shut_no (s : Int) (w : World) (h0 : 0 ≤ s) (h9 : s ≤ 9) (h : tabOk 4 s = false) : Calls Try.prog 52 #[.int .i64 s] w (MNo w) := by
  exfalso; rcases ten h0 h9 with rfl | rfl | rfl | rfl | rfl | rfl | rfl | rfl | rfl | rfl <;> (revert h; decide)
end Go.Proofs.Ythidhfkbfoejbaa.Fs
namespace Go.Proofs.Ythidhfkbfoejbaa.Fs
open Go.RowKit
set_option linter.unusedSimpArgs false
set_option linter.unusedVariables false
set_option maxHeartbeats 2000000 in
theorem again_yes (s : Int) (w : World) (h : tabOk 5 s = true) : Calls Try.prog 53 #[.int .i64 s] w (MYes 5 s w) := by
  obtain ⟨-, -, h0, h9⟩ := tabOk_in h
  have hs : s = 4 ∨ s = 5 ∨ s = 6 ∨ s = 7 ∨ s = 8 := by
    rcases ten h0 h9 with rfl | rfl | rfl | rfl | rfl | rfl | rfl | rfl | rfl | rfl <;> first | decide | (exfalso; revert h; decide)
  clear h h0 h9
  rcases hs with rfl | rfl | rfl | rfl | rfl
  · go_enter Try.func53, Try.ntmps53
    go_wp2_with (first | (go_at_call 77; refine (only_any _ _).mono ?_; rintro e w1 ⟨rfl, rfl⟩) | (go_at_call 78; refine (by_any _ _ _ _ _).mono ?_; rintro e w1 ⟨rfl, rfl⟩) | (go_at_call 79; refine (stays_any _ _ _ _ _).mono ?_; rintro e w1 ⟨rfl, hb⟩; obtain ⟨xs, d, rfl⟩ := ext_of hb; clear hb) | (go_at_call 82; refine (ends_any _ _).mono ?_; rintro e w1 ⟨rfl, rfl⟩) | (go_at_call 47; refine (asks_any _ _).mono ?_; rintro e w1 ⟨rfl, rfl⟩) | (go_at_call 83; refine (lower_any _ _).mono ?_; rintro e w1 ⟨rfl, rfl⟩))
    refine bodyPost_ret (v := .tuple #[.agg #[.slice (some ⟨w.heap.size + 1, 0, none⟩) 1 1, .int .i64 4], .bool true]) (by simp [results, Try.results53, go_sem, lowerS]) rfl ⟨.slice (some ⟨w.heap.size + 1, 0, none⟩) 1 1, rfl, ?_, ?_⟩
    · exact bel
    · exact own_lit (size := 1) (e := 74) (n := 1) (by (repeat (first | ((refine heap_alloc_at _ _ _ ?_); (simp [go_sem]; done)) | ((refine (heap_ext _ _ _ _ ?_).trans ?_); (focus (simp [go_sem]; done))) | ((refine (heap_alloc_past _ _ _ ?_).trans ?_); (focus (simp [go_sem]; done)))))) (by omega) (by decide) rfl rfl
  · go_enter Try.func53, Try.ntmps53
    go_wp2_with (first | (go_at_call 77; refine (only_any _ _).mono ?_; rintro e w1 ⟨rfl, rfl⟩) | (go_at_call 78; refine (by_any _ _ _ _ _).mono ?_; rintro e w1 ⟨rfl, rfl⟩) | (go_at_call 79; refine (stays_any _ _ _ _ _).mono ?_; rintro e w1 ⟨rfl, hb⟩; obtain ⟨xs, d, rfl⟩ := ext_of hb; clear hb) | (go_at_call 82; refine (ends_any _ _).mono ?_; rintro e w1 ⟨rfl, rfl⟩) | (go_at_call 47; refine (asks_any _ _).mono ?_; rintro e w1 ⟨rfl, rfl⟩) | (go_at_call 83; refine (lower_any _ _).mono ?_; rintro e w1 ⟨rfl, rfl⟩))
    refine bodyPost_ret (v := .tuple #[.agg #[.slice (some ⟨w.heap.size + 1, 0, none⟩) 1 1, .int .i64 5], .bool true]) (by simp [results, Try.results53, go_sem, lowerS]) rfl ⟨.slice (some ⟨w.heap.size + 1, 0, none⟩) 1 1, rfl, ?_, ?_⟩
    · exact bel
    · exact own_lit (size := 1) (e := 74) (n := 1) (by (repeat (first | ((refine heap_alloc_at _ _ _ ?_); (simp [go_sem]; done)) | ((refine (heap_ext _ _ _ _ ?_).trans ?_); (focus (simp [go_sem]; done))) | ((refine (heap_alloc_past _ _ _ ?_).trans ?_); (focus (simp [go_sem]; done)))))) (by omega) (by decide) rfl rfl
  · go_enter Try.func53, Try.ntmps53
    go_wp2_with (first | (go_at_call 77; refine (only_any _ _).mono ?_; rintro e w1 ⟨rfl, rfl⟩) | (go_at_call 78; refine (by_any _ _ _ _ _).mono ?_; rintro e w1 ⟨rfl, rfl⟩) | (go_at_call 79; refine (stays_any _ _ _ _ _).mono ?_; rintro e w1 ⟨rfl, hb⟩; obtain ⟨xs, d, rfl⟩ := ext_of hb; clear hb) | (go_at_call 82; refine (ends_any _ _).mono ?_; rintro e w1 ⟨rfl, rfl⟩) | (go_at_call 47; refine (asks_any _ _).mono ?_; rintro e w1 ⟨rfl, rfl⟩) | (go_at_call 83; refine (lower_any _ _).mono ?_; rintro e w1 ⟨rfl, rfl⟩))
    refine bodyPost_ret (v := .tuple #[.agg #[.slice (some ⟨w.heap.size + 1, 0, none⟩) 1 1, .int .i64 6], .bool true]) (by simp [results, Try.results53, go_sem, lowerS]) rfl ⟨.slice (some ⟨w.heap.size + 1, 0, none⟩) 1 1, rfl, ?_, ?_⟩
    · exact bel
    · exact own_lit (size := 1) (e := 74) (n := 1) (by (repeat (first | ((refine heap_alloc_at _ _ _ ?_); (simp [go_sem]; done)) | ((refine (heap_ext _ _ _ _ ?_).trans ?_); (focus (simp [go_sem]; done))) | ((refine (heap_alloc_past _ _ _ ?_).trans ?_); (focus (simp [go_sem]; done)))))) (by omega) (by decide) rfl rfl
  · go_enter Try.func53, Try.ntmps53
    go_wp2_with (first | (go_at_call 77; refine (only_any _ _).mono ?_; rintro e w1 ⟨rfl, rfl⟩) | (go_at_call 78; refine (by_any _ _ _ _ _).mono ?_; rintro e w1 ⟨rfl, rfl⟩) | (go_at_call 79; refine (stays_any _ _ _ _ _).mono ?_; rintro e w1 ⟨rfl, hb⟩; obtain ⟨xs, d, rfl⟩ := ext_of hb; clear hb) | (go_at_call 82; refine (ends_any _ _).mono ?_; rintro e w1 ⟨rfl, rfl⟩) | (go_at_call 47; refine (asks_any _ _).mono ?_; rintro e w1 ⟨rfl, rfl⟩) | (go_at_call 83; refine (lower_any _ _).mono ?_; rintro e w1 ⟨rfl, rfl⟩))
    refine bodyPost_ret (v := .tuple #[.agg #[.slice (some ⟨w.heap.size + 1, 0, none⟩) 1 1, .int .i64 6], .bool true]) (by simp [results, Try.results53, go_sem, lowerS]) rfl ⟨.slice (some ⟨w.heap.size + 1, 0, none⟩) 1 1, rfl, ?_, ?_⟩
    · exact bel
    · exact own_lit (size := 1) (e := 74) (n := 1) (by (repeat (first | ((refine heap_alloc_at _ _ _ ?_); (simp [go_sem]; done)) | ((refine (heap_ext _ _ _ _ ?_).trans ?_); (focus (simp [go_sem]; done))) | ((refine (heap_alloc_past _ _ _ ?_).trans ?_); (focus (simp [go_sem]; done)))))) (by omega) (by decide) rfl rfl
  · go_enter Try.func53, Try.ntmps53
    go_wp2_with (first | (go_at_call 77; refine (only_any _ _).mono ?_; rintro e w1 ⟨rfl, rfl⟩) | (go_at_call 78; refine (by_any _ _ _ _ _).mono ?_; rintro e w1 ⟨rfl, rfl⟩) | (go_at_call 79; refine (stays_any _ _ _ _ _).mono ?_; rintro e w1 ⟨rfl, hb⟩; obtain ⟨xs, d, rfl⟩ := ext_of hb; clear hb) | (go_at_call 82; refine (ends_any _ _).mono ?_; rintro e w1 ⟨rfl, rfl⟩) | (go_at_call 47; refine (asks_any _ _).mono ?_; rintro e w1 ⟨rfl, rfl⟩) | (go_at_call 83; refine (lower_any _ _).mono ?_; rintro e w1 ⟨rfl, rfl⟩))
    refine bodyPost_ret (v := .tuple #[.agg #[.slice (some ⟨w.heap.size + 1, 0, none⟩) 1 1, .int .i64 8], .bool true]) (by simp [results, Try.results53, go_sem, lowerS]) rfl ⟨.slice (some ⟨w.heap.size + 1, 0, none⟩) 1 1, rfl, ?_, ?_⟩
    · exact bel
    · exact own_lit (size := 1) (e := 74) (n := 1) (by (repeat (first | ((refine heap_alloc_at _ _ _ ?_); (simp [go_sem]; done)) | ((refine (heap_ext _ _ _ _ ?_).trans ?_); (focus (simp [go_sem]; done))) | ((refine (heap_alloc_past _ _ _ ?_).trans ?_); (focus (simp [go_sem]; done)))))) (by omega) (by decide) rfl rfl
set_option maxHeartbeats 2000000 in
theorem again_no (s : Int) (w : World) (h0 : 0 ≤ s) (h9 : s ≤ 9) (h : tabOk 5 s = false) : Calls Try.prog 53 #[.int .i64 s] w (MNo w) := by
  have hs : s = 0 ∨ s = 1 ∨ s = 2 ∨ s = 3 ∨ s = 9 := by
    rcases ten h0 h9 with rfl | rfl | rfl | rfl | rfl | rfl | rfl | rfl | rfl | rfl <;> first | decide | (exfalso; revert h; decide)
  clear h h0 h9
  rcases hs with rfl | rfl | rfl | rfl | rfl
  · go_enter Try.func53, Try.ntmps53
    go_wp2_with (first | (go_at_call 77; refine (only_any _ _).mono ?_; rintro e w1 ⟨rfl, rfl⟩) | (go_at_call 78; refine (by_any _ _ _ _ _).mono ?_; rintro e w1 ⟨rfl, rfl⟩) | (go_at_call 79; refine (stays_any _ _ _ _ _).mono ?_; rintro e w1 ⟨rfl, hb⟩; obtain ⟨xs, d, rfl⟩ := ext_of hb; clear hb) | (go_at_call 82; refine (ends_any _ _).mono ?_; rintro e w1 ⟨rfl, rfl⟩) | (go_at_call 47; refine (asks_any _ _).mono ?_; rintro e w1 ⟨rfl, rfl⟩) | (go_at_call 83; refine (lower_any _ _).mono ?_; rintro e w1 ⟨rfl, rfl⟩))
    exact bodyPost_ret (v := .tuple #[.agg #[.slice none 0 0, .int .i64 0], .bool false]) (by simp [results, Try.results53, go_sem]) rfl ⟨_, _, _, _, rfl, by exact bel⟩
  · go_enter Try.func53, Try.ntmps53
    go_wp2_with (first | (go_at_call 77; refine (only_any _ _).mono ?_; rintro e w1 ⟨rfl, rfl⟩) | (go_at_call 78; refine (by_any _ _ _ _ _).mono ?_; rintro e w1 ⟨rfl, rfl⟩) | (go_at_call 79; refine (stays_any _ _ _ _ _).mono ?_; rintro e w1 ⟨rfl, hb⟩; obtain ⟨xs, d, rfl⟩ := ext_of hb; clear hb) | (go_at_call 82; refine (ends_any _ _).mono ?_; rintro e w1 ⟨rfl, rfl⟩) | (go_at_call 47; refine (asks_any _ _).mono ?_; rintro e w1 ⟨rfl, rfl⟩) | (go_at_call 83; refine (lower_any _ _).mono ?_; rintro e w1 ⟨rfl, rfl⟩))
    exact bodyPost_ret (v := .tuple #[.agg #[.slice none 0 0, .int .i64 0], .bool false]) (by simp [results, Try.results53, go_sem]) rfl ⟨_, _, _, _, rfl, by exact bel⟩
  · go_enter Try.func53, Try.ntmps53
    go_wp2_with (first | (go_at_call 77; refine (only_any _ _).mono ?_; rintro e w1 ⟨rfl, rfl⟩) | (go_at_call 78; refine (by_any _ _ _ _ _).mono ?_; rintro e w1 ⟨rfl, rfl⟩) | (go_at_call 79; refine (stays_any _ _ _ _ _).mono ?_; rintro e w1 ⟨rfl, hb⟩; obtain ⟨xs, d, rfl⟩ := ext_of hb; clear hb) | (go_at_call 82; refine (ends_any _ _).mono ?_; rintro e w1 ⟨rfl, rfl⟩) | (go_at_call 47; refine (asks_any _ _).mono ?_; rintro e w1 ⟨rfl, rfl⟩) | (go_at_call 83; refine (lower_any _ _).mono ?_; rintro e w1 ⟨rfl, rfl⟩))
    exact bodyPost_ret (v := .tuple #[.agg #[.slice none 0 0, .int .i64 0], .bool false]) (by simp [results, Try.results53, go_sem]) rfl ⟨_, _, _, _, rfl, by exact bel⟩
  · go_enter Try.func53, Try.ntmps53
    go_wp2_with (first | (go_at_call 77; refine (only_any _ _).mono ?_; rintro e w1 ⟨rfl, rfl⟩) | (go_at_call 78; refine (by_any _ _ _ _ _).mono ?_; rintro e w1 ⟨rfl, rfl⟩) | (go_at_call 79; refine (stays_any _ _ _ _ _).mono ?_; rintro e w1 ⟨rfl, hb⟩; obtain ⟨xs, d, rfl⟩ := ext_of hb; clear hb) | (go_at_call 82; refine (ends_any _ _).mono ?_; rintro e w1 ⟨rfl, rfl⟩) | (go_at_call 47; refine (asks_any _ _).mono ?_; rintro e w1 ⟨rfl, rfl⟩) | (go_at_call 83; refine (lower_any _ _).mono ?_; rintro e w1 ⟨rfl, rfl⟩))
    exact bodyPost_ret (v := .tuple #[.agg #[.slice none 0 0, .int .i64 0], .bool false]) (by simp [results, Try.results53, go_sem]) rfl ⟨_, _, _, _, rfl, by exact bel⟩
  · go_enter Try.func53, Try.ntmps53
    go_wp2_with (first | (go_at_call 77; refine (only_any _ _).mono ?_; rintro e w1 ⟨rfl, rfl⟩) | (go_at_call 78; refine (by_any _ _ _ _ _).mono ?_; rintro e w1 ⟨rfl, rfl⟩) | (go_at_call 79; refine (stays_any _ _ _ _ _).mono ?_; rintro e w1 ⟨rfl, hb⟩; obtain ⟨xs, d, rfl⟩ := ext_of hb; clear hb) | (go_at_call 82; refine (ends_any _ _).mono ?_; rintro e w1 ⟨rfl, rfl⟩) | (go_at_call 47; refine (asks_any _ _).mono ?_; rintro e w1 ⟨rfl, rfl⟩) | (go_at_call 83; refine (lower_any _ _).mono ?_; rintro e w1 ⟨rfl, rfl⟩))
    exact bodyPost_ret (v := .tuple #[.agg #[.slice none 0 0, .int .i64 0], .bool false]) (by simp [results, Try.results53, go_sem]) rfl ⟨_, _, _, _, rfl, by exact bel⟩
set_option maxHeartbeats 2000000 in
theorem tired_yes (s : Int) (w : World) (h : tabOk 6 s = true) : Calls Try.prog 54 #[.int .i64 s] w (MYes 6 s w) := by
  obtain ⟨-, -, h0, h9⟩ := tabOk_in h
  have hs : s = 4 ∨ s = 5 ∨ s = 6 ∨ s = 7 ∨ s = 8 := by
    rcases ten h0 h9 with rfl | rfl | rfl | rfl | rfl | rfl | rfl | rfl | rfl | rfl <;> first | decide | (exfalso; revert h; decide)
  clear h h0 h9
  rcases hs with rfl | rfl | rfl | rfl | rfl
  · go_enter Try.func54, Try.ntmps54
    go_wp2_with (first | (go_at_call 77; refine (only_any _ _).mono ?_; rintro e w1 ⟨rfl, rfl⟩) | (go_at_call 78; refine (by_any _ _ _ _ _).mono ?_; rintro e w1 ⟨rfl, rfl⟩) | (go_at_call 79; refine (stays_any _ _ _ _ _).mono ?_; rintro e w1 ⟨rfl, hb⟩; obtain ⟨xs, d, rfl⟩ := ext_of hb; clear hb) | (go_at_call 82; refine (ends_any _ _).mono ?_; rintro e w1 ⟨rfl, rfl⟩) | (go_at_call 47; refine (asks_any _ _).mono ?_; rintro e w1 ⟨rfl, rfl⟩) | (go_at_call 83; refine (lower_any _ _).mono ?_; rintro e w1 ⟨rfl, rfl⟩))
    refine bodyPost_ret (v := .tuple #[.agg #[.slice (some ⟨w.heap.size + 1, 0, none⟩) 1 1, .int .i64 2], .bool true]) (by simp [results, Try.results54, go_sem, lowerS]) rfl ⟨.slice (some ⟨w.heap.size + 1, 0, none⟩) 1 1, rfl, ?_, ?_⟩
    · exact bel
    · exact own_lit (size := 1) (e := 74) (n := 1) (by (repeat (first | ((refine heap_alloc_at _ _ _ ?_); (simp [go_sem]; done)) | ((refine (heap_ext _ _ _ _ ?_).trans ?_); (focus (simp [go_sem]; done))) | ((refine (heap_alloc_past _ _ _ ?_).trans ?_); (focus (simp [go_sem]; done)))))) (by omega) (by decide) rfl rfl
  · go_enter Try.func54, Try.ntmps54
    go_wp2_with (first | (go_at_call 77; refine (only_any _ _).mono ?_; rintro e w1 ⟨rfl, rfl⟩) | (go_at_call 78; refine (by_any _ _ _ _ _).mono ?_; rintro e w1 ⟨rfl, rfl⟩) | (go_at_call 79; refine (stays_any _ _ _ _ _).mono ?_; rintro e w1 ⟨rfl, hb⟩; obtain ⟨xs, d, rfl⟩ := ext_of hb; clear hb) | (go_at_call 82; refine (ends_any _ _).mono ?_; rintro e w1 ⟨rfl, rfl⟩) | (go_at_call 47; refine (asks_any _ _).mono ?_; rintro e w1 ⟨rfl, rfl⟩) | (go_at_call 83; refine (lower_any _ _).mono ?_; rintro e w1 ⟨rfl, rfl⟩))
    refine bodyPost_ret (v := .tuple #[.agg #[.slice (some ⟨w.heap.size + 1, 0, none⟩) 1 1, .int .i64 3], .bool true]) (by simp [results, Try.results54, go_sem, lowerS]) rfl ⟨.slice (some ⟨w.heap.size + 1, 0, none⟩) 1 1, rfl, ?_, ?_⟩
    · exact bel
    · exact own_lit (size := 1) (e := 74) (n := 1) (by (repeat (first | ((refine heap_alloc_at _ _ _ ?_); (simp [go_sem]; done)) | ((refine (heap_ext _ _ _ _ ?_).trans ?_); (focus (simp [go_sem]; done))) | ((refine (heap_alloc_past _ _ _ ?_).trans ?_); (focus (simp [go_sem]; done)))))) (by omega) (by decide) rfl rfl
  · go_enter Try.func54, Try.ntmps54
    go_wp2_with (first | (go_at_call 77; refine (only_any _ _).mono ?_; rintro e w1 ⟨rfl, rfl⟩) | (go_at_call 78; refine (by_any _ _ _ _ _).mono ?_; rintro e w1 ⟨rfl, rfl⟩) | (go_at_call 79; refine (stays_any _ _ _ _ _).mono ?_; rintro e w1 ⟨rfl, hb⟩; obtain ⟨xs, d, rfl⟩ := ext_of hb; clear hb) | (go_at_call 82; refine (ends_any _ _).mono ?_; rintro e w1 ⟨rfl, rfl⟩) | (go_at_call 47; refine (asks_any _ _).mono ?_; rintro e w1 ⟨rfl, rfl⟩) | (go_at_call 83; refine (lower_any _ _).mono ?_; rintro e w1 ⟨rfl, rfl⟩))
    refine bodyPost_ret (v := .tuple #[.agg #[.slice (some ⟨w.heap.size + 1, 0, none⟩) 1 1, .int .i64 3], .bool true]) (by simp [results, Try.results54, go_sem, lowerS]) rfl ⟨.slice (some ⟨w.heap.size + 1, 0, none⟩) 1 1, rfl, ?_, ?_⟩
    · exact bel
    · exact own_lit (size := 1) (e := 74) (n := 1) (by (repeat (first | ((refine heap_alloc_at _ _ _ ?_); (simp [go_sem]; done)) | ((refine (heap_ext _ _ _ _ ?_).trans ?_); (focus (simp [go_sem]; done))) | ((refine (heap_alloc_past _ _ _ ?_).trans ?_); (focus (simp [go_sem]; done)))))) (by omega) (by decide) rfl rfl
  · go_enter Try.func54, Try.ntmps54
    go_wp2_with (first | (go_at_call 77; refine (only_any _ _).mono ?_; rintro e w1 ⟨rfl, rfl⟩) | (go_at_call 78; refine (by_any _ _ _ _ _).mono ?_; rintro e w1 ⟨rfl, rfl⟩) | (go_at_call 79; refine (stays_any _ _ _ _ _).mono ?_; rintro e w1 ⟨rfl, hb⟩; obtain ⟨xs, d, rfl⟩ := ext_of hb; clear hb) | (go_at_call 82; refine (ends_any _ _).mono ?_; rintro e w1 ⟨rfl, rfl⟩) | (go_at_call 47; refine (asks_any _ _).mono ?_; rintro e w1 ⟨rfl, rfl⟩) | (go_at_call 83; refine (lower_any _ _).mono ?_; rintro e w1 ⟨rfl, rfl⟩))
    refine bodyPost_ret (v := .tuple #[.agg #[.slice (some ⟨w.heap.size + 1, 0, none⟩) 1 1, .int .i64 3], .bool true]) (by simp [results, Try.results54, go_sem, lowerS]) rfl ⟨.slice (some ⟨w.heap.size + 1, 0, none⟩) 1 1, rfl, ?_, ?_⟩
    · exact bel
    · exact own_lit (size := 1) (e := 74) (n := 1) (by (repeat (first | ((refine heap_alloc_at _ _ _ ?_); (simp [go_sem]; done)) | ((refine (heap_ext _ _ _ _ ?_).trans ?_); (focus (simp [go_sem]; done))) | ((refine (heap_alloc_past _ _ _ ?_).trans ?_); (focus (simp [go_sem]; done)))))) (by omega) (by decide) rfl rfl
  · go_enter Try.func54, Try.ntmps54
    go_wp2_with (first | (go_at_call 77; refine (only_any _ _).mono ?_; rintro e w1 ⟨rfl, rfl⟩) | (go_at_call 78; refine (by_any _ _ _ _ _).mono ?_; rintro e w1 ⟨rfl, rfl⟩) | (go_at_call 79; refine (stays_any _ _ _ _ _).mono ?_; rintro e w1 ⟨rfl, hb⟩; obtain ⟨xs, d, rfl⟩ := ext_of hb; clear hb) | (go_at_call 82; refine (ends_any _ _).mono ?_; rintro e w1 ⟨rfl, rfl⟩) | (go_at_call 47; refine (asks_any _ _).mono ?_; rintro e w1 ⟨rfl, rfl⟩) | (go_at_call 83; refine (lower_any _ _).mono ?_; rintro e w1 ⟨rfl, rfl⟩))
    refine bodyPost_ret (v := .tuple #[.agg #[.slice (some ⟨w.heap.size + 1, 0, none⟩) 1 1, .int .i64 3], .bool true]) (by simp [results, Try.results54, go_sem, lowerS]) rfl ⟨.slice (some ⟨w.heap.size + 1, 0, none⟩) 1 1, rfl, ?_, ?_⟩
    · exact bel
    · exact own_lit (size := 1) (e := 74) (n := 1) (by (repeat (first | ((refine heap_alloc_at _ _ _ ?_); (simp [go_sem]; done)) | ((refine (heap_ext _ _ _ _ ?_).trans ?_); (focus (simp [go_sem]; done))) | ((refine (heap_alloc_past _ _ _ ?_).trans ?_); (focus (simp [go_sem]; done)))))) (by omega) (by decide) rfl rfl
set_option maxHeartbeats 2000000 in
theorem tired_no (s : Int) (w : World) (h0 : 0 ≤ s) (h9 : s ≤ 9) (h : tabOk 6 s = false) : Calls Try.prog 54 #[.int .i64 s] w (MNo w) := by
  have hs : s = 0 ∨ s = 1 ∨ s = 2 ∨ s = 3 ∨ s = 9 := by
    rcases ten h0 h9 with rfl | rfl | rfl | rfl | rfl | rfl | rfl | rfl | rfl | rfl <;> first | decide | (exfalso; revert h; decide)
  clear h h0 h9
  rcases hs with rfl | rfl | rfl | rfl | rfl
  · go_enter Try.func54, Try.ntmps54
    go_wp2_with (first | (go_at_call 77; refine (only_any _ _).mono ?_; rintro e w1 ⟨rfl, rfl⟩) | (go_at_call 78; refine (by_any _ _ _ _ _).mono ?_; rintro e w1 ⟨rfl, rfl⟩) | (go_at_call 79; refine (stays_any _ _ _ _ _).mono ?_; rintro e w1 ⟨rfl, hb⟩; obtain ⟨xs, d, rfl⟩ := ext_of hb; clear hb) | (go_at_call 82; refine (ends_any _ _).mono ?_; rintro e w1 ⟨rfl, rfl⟩) | (go_at_call 47; refine (asks_any _ _).mono ?_; rintro e w1 ⟨rfl, rfl⟩) | (go_at_call 83; refine (lower_any _ _).mono ?_; rintro e w1 ⟨rfl, rfl⟩))
    exact bodyPost_ret (v := .tuple #[.agg #[.slice none 0 0, .int .i64 0], .bool false]) (by simp [results, Try.results54, go_sem]) rfl ⟨_, _, _, _, rfl, by exact bel⟩
  · go_enter Try.func54, Try.ntmps54
    go_wp2_with (first | (go_at_call 77; refine (only_any _ _).mono ?_; rintro e w1 ⟨rfl, rfl⟩) | (go_at_call 78; refine (by_any _ _ _ _ _).mono ?_; rintro e w1 ⟨rfl, rfl⟩) | (go_at_call 79; refine (stays_any _ _ _ _ _).mono ?_; rintro e w1 ⟨rfl, hb⟩; obtain ⟨xs, d, rfl⟩ := ext_of hb; clear hb) | (go_at_call 82; refine (ends_any _ _).mono ?_; rintro e w1 ⟨rfl, rfl⟩) | (go_at_call 47; refine (asks_any _ _).mono ?_; rintro e w1 ⟨rfl, rfl⟩) | (go_at_call 83; refine (lower_any _ _).mono ?_; rintro e w1 ⟨rfl, rfl⟩))
    exact bodyPost_ret (v := .tuple #[.agg #[.slice none 0 0, .int .i64 0], .bool false]) (by simp [results, Try.results54, go_sem]) rfl ⟨_, _, _, _, rfl, by exact bel⟩
  · go_enter Try.func54, Try.ntmps54
    go_wp2_with (first | (go_at_call 77; refine (only_any _ _).mono ?_; rintro e w1 ⟨rfl, rfl⟩) | (go_at_call 78; refine (by_any _ _ _ _ _).mono ?_; rintro e w1 ⟨rfl, rfl⟩) | (go_at_call 79; refine (stays_any _ _ _ _ _).mono ?_; rintro e w1 ⟨rfl, hb⟩; obtain ⟨xs, d, rfl⟩ := ext_of hb; clear hb) | (go_at_call 82; refine (ends_any _ _).mono ?_; rintro e w1 ⟨rfl, rfl⟩) | (go_at_call 47; refine (asks_any _ _).mono ?_; rintro e w1 ⟨rfl, rfl⟩) | (go_at_call 83; refine (lower_any _ _).mono ?_; rintro e w1 ⟨rfl, rfl⟩))
    exact bodyPost_ret (v := .tuple #[.agg #[.slice none 0 0, .int .i64 0], .bool false]) (by simp [results, Try.results54, go_sem]) rfl ⟨_, _, _, _, rfl, by exact bel⟩
  · go_enter Try.func54, Try.ntmps54
    go_wp2_with (first | (go_at_call 77; refine (only_any _ _).mono ?_; rintro e w1 ⟨rfl, rfl⟩) | (go_at_call 78; refine (by_any _ _ _ _ _).mono ?_; rintro e w1 ⟨rfl, rfl⟩) | (go_at_call 79; refine (stays_any _ _ _ _ _).mono ?_; rintro e w1 ⟨rfl, hb⟩; obtain ⟨xs, d, rfl⟩ := ext_of hb; clear hb) | (go_at_call 82; refine (ends_any _ _).mono ?_; rintro e w1 ⟨rfl, rfl⟩) | (go_at_call 47; refine (asks_any _ _).mono ?_; rintro e w1 ⟨rfl, rfl⟩) | (go_at_call 83; refine (lower_any _ _).mono ?_; rintro e w1 ⟨rfl, rfl⟩))
    exact bodyPost_ret (v := .tuple #[.agg #[.slice none 0 0, .int .i64 0], .bool false]) (by simp [results, Try.results54, go_sem]) rfl ⟨_, _, _, _, rfl, by exact bel⟩
  · go_enter Try.func54, Try.ntmps54
    go_wp2_with (first | (go_at_call 77; refine (only_any _ _).mono ?_; rintro e w1 ⟨rfl, rfl⟩) | (go_at_call 78; refine (by_any _ _ _ _ _).mono ?_; rintro e w1 ⟨rfl, rfl⟩) | (go_at_call 79; refine (stays_any _ _ _ _ _).mono ?_; rintro e w1 ⟨rfl, hb⟩; obtain ⟨xs, d, rfl⟩ := ext_of hb; clear hb) | (go_at_call 82; refine (ends_any _ _).mono ?_; rintro e w1 ⟨rfl, rfl⟩) | (go_at_call 47; refine (asks_any _ _).mono ?_; rintro e w1 ⟨rfl, rfl⟩) | (go_at_call 83; refine (lower_any _ _).mono ?_; rintro e w1 ⟨rfl, rfl⟩))
    exact bodyPost_ret (v := .tuple #[.agg #[.slice none 0 0, .int .i64 0], .bool false]) (by simp [results, Try.results54, go_sem]) rfl ⟨_, _, _, _, rfl, by exact bel⟩
end Go.Proofs.Ythidhfkbfoejbaa.Fs
namespace Go.Proofs.Ythidhfkbfoejbaa.Fs
open Go.RowKit
set_option linter.unusedSimpArgs false
set_option linter.unusedVariables false
set_option maxHeartbeats 2000000 in
theorem ended_yes (s : Int) (w : World) (h : tabOk 11 s = true) : Calls Try.prog 59 #[.int .i64 s] w (MYes 11 s w) := by
  obtain ⟨-, -, h0, h9⟩ := tabOk_in h
  have hs : s = 2 ∨ s = 3 ∨ s = 4 ∨ s = 5 ∨ s = 6 ∨ s = 7 ∨ s = 8 ∨ s = 9 := by
    rcases ten h0 h9 with rfl | rfl | rfl | rfl | rfl | rfl | rfl | rfl | rfl | rfl <;> first | decide | (exfalso; revert h; decide)
  clear h h0 h9
  rcases hs with rfl | rfl | rfl | rfl | rfl | rfl | rfl | rfl
  · go_enter Try.func59, Try.ntmps59
    go_wp2_with (first | (go_at_call 77; refine (only_any _ _).mono ?_; rintro e w1 ⟨rfl, rfl⟩) | (go_at_call 78; refine (by_any _ _ _ _ _).mono ?_; rintro e w1 ⟨rfl, rfl⟩) | (go_at_call 79; refine (stays_any _ _ _ _ _).mono ?_; rintro e w1 ⟨rfl, hb⟩; obtain ⟨xs, d, rfl⟩ := ext_of hb; clear hb) | (go_at_call 82; refine (ends_any _ _).mono ?_; rintro e w1 ⟨rfl, rfl⟩) | (go_at_call 47; refine (asks_any _ _).mono ?_; rintro e w1 ⟨rfl, rfl⟩) | (go_at_call 83; refine (lower_any _ _).mono ?_; rintro e w1 ⟨rfl, rfl⟩))
    refine bodyPost_ret (v := .tuple #[.agg #[.slice (some ⟨w.heap.size + 1, 0, none⟩) 1 1, .int .i64 2], .bool true]) (by simp [results, Try.results59, go_sem, lowerS]) rfl ⟨.slice (some ⟨w.heap.size + 1, 0, none⟩) 1 1, rfl, ?_, ?_⟩
    · exact bel
    · exact own_lit (size := 1) (e := 74) (n := 1) (by (repeat (first | ((refine heap_alloc_at _ _ _ ?_); (simp [go_sem]; done)) | ((refine (heap_ext _ _ _ _ ?_).trans ?_); (focus (simp [go_sem]; done))) | ((refine (heap_alloc_past _ _ _ ?_).trans ?_); (focus (simp [go_sem]; done)))))) (by omega) (by decide) rfl rfl
  · go_enter Try.func59, Try.ntmps59
    go_wp2_with (first | (go_at_call 77; refine (only_any _ _).mono ?_; rintro e w1 ⟨rfl, rfl⟩) | (go_at_call 78; refine (by_any _ _ _ _ _).mono ?_; rintro e w1 ⟨rfl, rfl⟩) | (go_at_call 79; refine (stays_any _ _ _ _ _).mono ?_; rintro e w1 ⟨rfl, hb⟩; obtain ⟨xs, d, rfl⟩ := ext_of hb; clear hb) | (go_at_call 82; refine (ends_any _ _).mono ?_; rintro e w1 ⟨rfl, rfl⟩) | (go_at_call 47; refine (asks_any _ _).mono ?_; rintro e w1 ⟨rfl, rfl⟩) | (go_at_call 83; refine (lower_any _ _).mono ?_; rintro e w1 ⟨rfl, rfl⟩))
    refine bodyPost_ret (v := .tuple #[.agg #[.slice (some ⟨w.heap.size + 1, 0, none⟩) 1 1, .int .i64 3], .bool true]) (by simp [results, Try.results59, go_sem, lowerS]) rfl ⟨.slice (some ⟨w.heap.size + 1, 0, none⟩) 1 1, rfl, ?_, ?_⟩
    · exact bel
    · exact own_lit (size := 1) (e := 74) (n := 1) (by (repeat (first | ((refine heap_alloc_at _ _ _ ?_); (simp [go_sem]; done)) | ((refine (heap_ext _ _ _ _ ?_).trans ?_); (focus (simp [go_sem]; done))) | ((refine (heap_alloc_past _ _ _ ?_).trans ?_); (focus (simp [go_sem]; done)))))) (by omega) (by decide) rfl rfl
  · go_enter Try.func59, Try.ntmps59
    go_wp2_with (first | (go_at_call 77; refine (only_any _ _).mono ?_; rintro e w1 ⟨rfl, rfl⟩) | (go_at_call 78; refine (by_any _ _ _ _ _).mono ?_; rintro e w1 ⟨rfl, rfl⟩) | (go_at_call 79; refine (stays_any _ _ _ _ _).mono ?_; rintro e w1 ⟨rfl, hb⟩; obtain ⟨xs, d, rfl⟩ := ext_of hb; clear hb) | (go_at_call 82; refine (ends_any _ _).mono ?_; rintro e w1 ⟨rfl, rfl⟩) | (go_at_call 47; refine (asks_any _ _).mono ?_; rintro e w1 ⟨rfl, rfl⟩) | (go_at_call 83; refine (lower_any _ _).mono ?_; rintro e w1 ⟨rfl, rfl⟩))
    refine bodyPost_ret (v := .tuple #[.agg #[.slice (some ⟨w.heap.size + 1, 0, none⟩) 1 1, .int .i64 4], .bool true]) (by simp [results, Try.results59, go_sem, lowerS]) rfl ⟨.slice (some ⟨w.heap.size + 1, 0, none⟩) 1 1, rfl, ?_, ?_⟩
    · exact bel
    · exact own_lit (size := 1) (e := 74) (n := 1) (by (repeat (first | ((refine heap_alloc_at _ _ _ ?_); (simp [go_sem]; done)) | ((refine (heap_ext _ _ _ _ ?_).trans ?_); (focus (simp [go_sem]; done))) | ((refine (heap_alloc_past _ _ _ ?_).trans ?_); (focus (simp [go_sem]; done)))))) (by omega) (by decide) rfl rfl
  · go_enter Try.func59, Try.ntmps59
    go_wp2_with (first | (go_at_call 77; refine (only_any _ _).mono ?_; rintro e w1 ⟨rfl, rfl⟩) | (go_at_call 78; refine (by_any _ _ _ _ _).mono ?_; rintro e w1 ⟨rfl, rfl⟩) | (go_at_call 79; refine (stays_any _ _ _ _ _).mono ?_; rintro e w1 ⟨rfl, hb⟩; obtain ⟨xs, d, rfl⟩ := ext_of hb; clear hb) | (go_at_call 82; refine (ends_any _ _).mono ?_; rintro e w1 ⟨rfl, rfl⟩) | (go_at_call 47; refine (asks_any _ _).mono ?_; rintro e w1 ⟨rfl, rfl⟩) | (go_at_call 83; refine (lower_any _ _).mono ?_; rintro e w1 ⟨rfl, rfl⟩))
    refine bodyPost_ret (v := .tuple #[.agg #[.slice (some ⟨w.heap.size + 1, 0, none⟩) 1 1, .int .i64 5], .bool true]) (by simp [results, Try.results59, go_sem, lowerS]) rfl ⟨.slice (some ⟨w.heap.size + 1, 0, none⟩) 1 1, rfl, ?_, ?_⟩
    · exact bel
    · exact own_lit (size := 1) (e := 74) (n := 1) (by (repeat (first | ((refine heap_alloc_at _ _ _ ?_); (simp [go_sem]; done)) | ((refine (heap_ext _ _ _ _ ?_).trans ?_); (focus (simp [go_sem]; done))) | ((refine (heap_alloc_past _ _ _ ?_).trans ?_); (focus (simp [go_sem]; done)))))) (by omega) (by decide) rfl rfl
  · go_enter Try.func59, Try.ntmps59
    go_wp2_with (first | (go_at_call 77; refine (only_any _ _).mono ?_; rintro e w1 ⟨rfl, rfl⟩) | (go_at_call 78; refine (by_any _ _ _ _ _).mono ?_; rintro e w1 ⟨rfl, rfl⟩) | (go_at_call 79; refine (stays_any _ _ _ _ _).mono ?_; rintro e w1 ⟨rfl, hb⟩; obtain ⟨xs, d, rfl⟩ := ext_of hb; clear hb) | (go_at_call 82; refine (ends_any _ _).mono ?_; rintro e w1 ⟨rfl, rfl⟩) | (go_at_call 47; refine (asks_any _ _).mono ?_; rintro e w1 ⟨rfl, rfl⟩) | (go_at_call 83; refine (lower_any _ _).mono ?_; rintro e w1 ⟨rfl, rfl⟩))
    refine bodyPost_ret (v := .tuple #[.agg #[.slice (some ⟨w.heap.size + 1, 0, none⟩) 1 1, .int .i64 6], .bool true]) (by simp [results, Try.results59, go_sem, lowerS]) rfl ⟨.slice (some ⟨w.heap.size + 1, 0, none⟩) 1 1, rfl, ?_, ?_⟩
    · exact bel
    · exact own_lit (size := 1) (e := 74) (n := 1) (by (repeat (first | ((refine heap_alloc_at _ _ _ ?_); (simp [go_sem]; done)) | ((refine (heap_ext _ _ _ _ ?_).trans ?_); (focus (simp [go_sem]; done))) | ((refine (heap_alloc_past _ _ _ ?_).trans ?_); (focus (simp [go_sem]; done)))))) (by omega) (by decide) rfl rfl
  · go_enter Try.func59, Try.ntmps59
    go_wp2_with (first | (go_at_call 77; refine (only_any _ _).mono ?_; rintro e w1 ⟨rfl, rfl⟩) | (go_at_call 78; refine (by_any _ _ _ _ _).mono ?_; rintro e w1 ⟨rfl, rfl⟩) | (go_at_call 79; refine (stays_any _ _ _ _ _).mono ?_; rintro e w1 ⟨rfl, hb⟩; obtain ⟨xs, d, rfl⟩ := ext_of hb; clear hb) | (go_at_call 82; refine (ends_any _ _).mono ?_; rintro e w1 ⟨rfl, rfl⟩) | (go_at_call 47; refine (asks_any _ _).mono ?_; rintro e w1 ⟨rfl, rfl⟩) | (go_at_call 83; refine (lower_any _ _).mono ?_; rintro e w1 ⟨rfl, rfl⟩))
    refine bodyPost_ret (v := .tuple #[.agg #[.slice (some ⟨w.heap.size + 1, 0, none⟩) 1 1, .int .i64 6], .bool true]) (by simp [results, Try.results59, go_sem, lowerS]) rfl ⟨.slice (some ⟨w.heap.size + 1, 0, none⟩) 1 1, rfl, ?_, ?_⟩
    · exact bel
    · exact own_lit (size := 1) (e := 74) (n := 1) (by (repeat (first | ((refine heap_alloc_at _ _ _ ?_); (simp [go_sem]; done)) | ((refine (heap_ext _ _ _ _ ?_).trans ?_); (focus (simp [go_sem]; done))) | ((refine (heap_alloc_past _ _ _ ?_).trans ?_); (focus (simp [go_sem]; done)))))) (by omega) (by decide) rfl rfl
  · go_enter Try.func59, Try.ntmps59
    go_wp2_with (first | (go_at_call 77; refine (only_any _ _).mono ?_; rintro e w1 ⟨rfl, rfl⟩) | (go_at_call 78; refine (by_any _ _ _ _ _).mono ?_; rintro e w1 ⟨rfl, rfl⟩) | (go_at_call 79; refine (stays_any _ _ _ _ _).mono ?_; rintro e w1 ⟨rfl, hb⟩; obtain ⟨xs, d, rfl⟩ := ext_of hb; clear hb) | (go_at_call 82; refine (ends_any _ _).mono ?_; rintro e w1 ⟨rfl, rfl⟩) | (go_at_call 47; refine (asks_any _ _).mono ?_; rintro e w1 ⟨rfl, rfl⟩) | (go_at_call 83; refine (lower_any _ _).mono ?_; rintro e w1 ⟨rfl, rfl⟩))
    refine bodyPost_ret (v := .tuple #[.agg #[.slice (some ⟨w.heap.size + 1, 0, none⟩) 1 1, .int .i64 6], .bool true]) (by simp [results, Try.results59, go_sem, lowerS]) rfl ⟨.slice (some ⟨w.heap.size + 1, 0, none⟩) 1 1, rfl, ?_, ?_⟩
    · exact bel
    · exact own_lit (size := 1) (e := 74) (n := 1) (by (repeat (first | ((refine heap_alloc_at _ _ _ ?_); (simp [go_sem]; done)) | ((refine (heap_ext _ _ _ _ ?_).trans ?_); (focus (simp [go_sem]; done))) | ((refine (heap_alloc_past _ _ _ ?_).trans ?_); (focus (simp [go_sem]; done)))))) (by omega) (by decide) rfl rfl
  · go_enter Try.func59, Try.ntmps59
    go_wp2_with (first | (go_at_call 77; refine (only_any _ _).mono ?_; rintro e w1 ⟨rfl, rfl⟩) | (go_at_call 78; refine (by_any _ _ _ _ _).mono ?_; rintro e w1 ⟨rfl, rfl⟩) | (go_at_call 79; refine (stays_any _ _ _ _ _).mono ?_; rintro e w1 ⟨rfl, hb⟩; obtain ⟨xs, d, rfl⟩ := ext_of hb; clear hb) | (go_at_call 82; refine (ends_any _ _).mono ?_; rintro e w1 ⟨rfl, rfl⟩) | (go_at_call 47; refine (asks_any _ _).mono ?_; rintro e w1 ⟨rfl, rfl⟩) | (go_at_call 83; refine (lower_any _ _).mono ?_; rintro e w1 ⟨rfl, rfl⟩))
    refine bodyPost_ret (v := .tuple #[.agg #[.slice (some ⟨w.heap.size + 1, 0, none⟩) 3 3, .int .i64 5], .bool true]) (by simp [results, Try.results59, go_sem, lowerS]) rfl ⟨.slice (some ⟨w.heap.size + 1, 0, none⟩) 3 3, rfl, ?_, ?_⟩
    · exact bel
    · exact own_lit (size := 1) (e := 74) (n := 3) (by (repeat (first | ((refine heap_alloc_at _ _ _ ?_); (simp [go_sem]; done)) | ((refine (heap_ext _ _ _ _ ?_).trans ?_); (focus (simp [go_sem]; done))) | ((refine (heap_alloc_past _ _ _ ?_).trans ?_); (focus (simp [go_sem]; done)))))) (by omega) (by decide) rfl rfl
set_option maxHeartbeats 2000000 in
theorem ended_no (s : Int) (w : World) (h0 : 0 ≤ s) (h9 : s ≤ 9) (h : tabOk 11 s = false) : Calls Try.prog 59 #[.int .i64 s] w (MNo w) := by
  have hs : s = 0 ∨ s = 1 := by
    rcases ten h0 h9 with rfl | rfl | rfl | rfl | rfl | rfl | rfl | rfl | rfl | rfl <;> first | decide | (exfalso; revert h; decide)
  clear h h0 h9
  rcases hs with rfl | rfl
  · go_enter Try.func59, Try.ntmps59
    go_wp2_with (first | (go_at_call 77; refine (only_any _ _).mono ?_; rintro e w1 ⟨rfl, rfl⟩) | (go_at_call 78; refine (by_any _ _ _ _ _).mono ?_; rintro e w1 ⟨rfl, rfl⟩) | (go_at_call 79; refine (stays_any _ _ _ _ _).mono ?_; rintro e w1 ⟨rfl, hb⟩; obtain ⟨xs, d, rfl⟩ := ext_of hb; clear hb) | (go_at_call 82; refine (ends_any _ _).mono ?_; rintro e w1 ⟨rfl, rfl⟩) | (go_at_call 47; refine (asks_any _ _).mono ?_; rintro e w1 ⟨rfl, rfl⟩) | (go_at_call 83; refine (lower_any _ _).mono ?_; rintro e w1 ⟨rfl, rfl⟩))
    exact bodyPost_ret (v := .tuple #[.agg #[.slice none 0 0, .int .i64 0], .bool false]) (by simp [results, Try.results59, go_sem]) rfl ⟨_, _, _, _, rfl, by exact bel⟩
  · go_enter Try.func59, Try.ntmps59
    go_wp2_with (first | (go_at_call 77; refine (only_any _ _).mono ?_; rintro e w1 ⟨rfl, rfl⟩) | (go_at_call 78; refine (by_any _ _ _ _ _).mono ?_; rintro e w1 ⟨rfl, rfl⟩) | (go_at_call 79; refine (stays_any _ _ _ _ _).mono ?_; rintro e w1 ⟨rfl, hb⟩; obtain ⟨xs, d, rfl⟩ := ext_of hb; clear hb) | (go_at_call 82; refine (ends_any _ _).mono ?_; rintro e w1 ⟨rfl, rfl⟩) | (go_at_call 47; refine (asks_any _ _).mono ?_; rintro e w1 ⟨rfl, rfl⟩) | (go_at_call 83; refine (lower_any _ _).mono ?_; rintro e w1 ⟨rfl, rfl⟩))
    exact bodyPost_ret (v := .tuple #[.agg #[.slice none 0 0, .int .i64 0], .bool false]) (by simp [results, Try.results59, go_sem]) rfl ⟨_, _, _, _, rfl, by exact bel⟩
set_option maxHeartbeats 2000000 in
theorem over_yes (s : Int) (w : World) (h : tabOk 12 s = true) : Calls Try.prog 60 #[.int .i64 s] w (MYes 12 s w) := by
  obtain ⟨-, -, h0, h9⟩ := tabOk_in h
  have hs : s = 2 ∨ s = 3 ∨ s = 4 ∨ s = 5 ∨ s = 6 ∨ s = 7 ∨ s = 8 ∨ s = 9 := by
    rcases ten h0 h9 with rfl | rfl | rfl | rfl | rfl | rfl | rfl | rfl | rfl | rfl <;> first | decide | (exfalso; revert h; decide)
  clear h h0 h9
  rcases hs with rfl | rfl | rfl | rfl | rfl | rfl | rfl | rfl
  · go_enter Try.func60, Try.ntmps60
    go_wp2_with (first | (go_at_call 77; refine (only_any _ _).mono ?_; rintro e w1 ⟨rfl, rfl⟩) | (go_at_call 78; refine (by_any _ _ _ _ _).mono ?_; rintro e w1 ⟨rfl, rfl⟩) | (go_at_call 79; refine (stays_any _ _ _ _ _).mono ?_; rintro e w1 ⟨rfl, hb⟩; obtain ⟨xs, d, rfl⟩ := ext_of hb; clear hb) | (go_at_call 82; refine (ends_any _ _).mono ?_; rintro e w1 ⟨rfl, rfl⟩) | (go_at_call 47; refine (asks_any _ _).mono ?_; rintro e w1 ⟨rfl, rfl⟩) | (go_at_call 83; refine (lower_any _ _).mono ?_; rintro e w1 ⟨rfl, rfl⟩))
    refine bodyPost_ret (v := .tuple #[.agg #[.slice none 0 0, .int .i64 2], .bool true]) (by simp [results, Try.results60, go_sem, lowerS]) rfl ⟨.slice none 0 0, rfl, ?_, ?_⟩
    · exact bel
    · exact own_nil _ _ _ _
  · go_enter Try.func60, Try.ntmps60
    go_wp2_with (first | (go_at_call 77; refine (only_any _ _).mono ?_; rintro e w1 ⟨rfl, rfl⟩) | (go_at_call 78; refine (by_any _ _ _ _ _).mono ?_; rintro e w1 ⟨rfl, rfl⟩) | (go_at_call 79; refine (stays_any _ _ _ _ _).mono ?_; rintro e w1 ⟨rfl, hb⟩; obtain ⟨xs, d, rfl⟩ := ext_of hb; clear hb) | (go_at_call 82; refine (ends_any _ _).mono ?_; rintro e w1 ⟨rfl, rfl⟩) | (go_at_call 47; refine (asks_any _ _).mono ?_; rintro e w1 ⟨rfl, rfl⟩) | (go_at_call 83; refine (lower_any _ _).mono ?_; rintro e w1 ⟨rfl, rfl⟩))
    refine bodyPost_ret (v := .tuple #[.agg #[.slice none 0 0, .int .i64 3], .bool true]) (by simp [results, Try.results60, go_sem, lowerS]) rfl ⟨.slice none 0 0, rfl, ?_, ?_⟩
    · exact bel
    · exact own_nil _ _ _ _
  · go_enter Try.func60, Try.ntmps60
    go_wp2_with (first | (go_at_call 77; refine (only_any _ _).mono ?_; rintro e w1 ⟨rfl, rfl⟩) | (go_at_call 78; refine (by_any _ _ _ _ _).mono ?_; rintro e w1 ⟨rfl, rfl⟩) | (go_at_call 79; refine (stays_any _ _ _ _ _).mono ?_; rintro e w1 ⟨rfl, hb⟩; obtain ⟨xs, d, rfl⟩ := ext_of hb; clear hb) | (go_at_call 82; refine (ends_any _ _).mono ?_; rintro e w1 ⟨rfl, rfl⟩) | (go_at_call 47; refine (asks_any _ _).mono ?_; rintro e w1 ⟨rfl, rfl⟩) | (go_at_call 83; refine (lower_any _ _).mono ?_; rintro e w1 ⟨rfl, rfl⟩))
    refine bodyPost_ret (v := .tuple #[.agg #[.slice (some ⟨w.heap.size + 1, 0, none⟩) 1 1, .int .i64 2], .bool true]) (by simp [results, Try.results60, go_sem, lowerS]) rfl ⟨.slice (some ⟨w.heap.size + 1, 0, none⟩) 1 1, rfl, ?_, ?_⟩
    · exact bel
    · exact own_lit (size := 1) (e := 74) (n := 1) (by (repeat (first | ((refine heap_alloc_at _ _ _ ?_); (simp [go_sem]; done)) | ((refine (heap_ext _ _ _ _ ?_).trans ?_); (focus (simp [go_sem]; done))) | ((refine (heap_alloc_past _ _ _ ?_).trans ?_); (focus (simp [go_sem]; done)))))) (by omega) (by decide) rfl rfl
  · go_enter Try.func60, Try.ntmps60
    go_wp2_with (first | (go_at_call 77; refine (only_any _ _).mono ?_; rintro e w1 ⟨rfl, rfl⟩) | (go_at_call 78; refine (by_any _ _ _ _ _).mono ?_; rintro e w1 ⟨rfl, rfl⟩) | (go_at_call 79; refine (stays_any _ _ _ _ _).mono ?_; rintro e w1 ⟨rfl, hb⟩; obtain ⟨xs, d, rfl⟩ := ext_of hb; clear hb) | (go_at_call 82; refine (ends_any _ _).mono ?_; rintro e w1 ⟨rfl, rfl⟩) | (go_at_call 47; refine (asks_any _ _).mono ?_; rintro e w1 ⟨rfl, rfl⟩) | (go_at_call 83; refine (lower_any _ _).mono ?_; rintro e w1 ⟨rfl, rfl⟩))
    refine bodyPost_ret (v := .tuple #[.agg #[.slice (some ⟨w.heap.size + 1, 0, none⟩) 1 1, .int .i64 3], .bool true]) (by simp [results, Try.results60, go_sem, lowerS]) rfl ⟨.slice (some ⟨w.heap.size + 1, 0, none⟩) 1 1, rfl, ?_, ?_⟩
    · exact bel
    · exact own_lit (size := 1) (e := 74) (n := 1) (by (repeat (first | ((refine heap_alloc_at _ _ _ ?_); (simp [go_sem]; done)) | ((refine (heap_ext _ _ _ _ ?_).trans ?_); (focus (simp [go_sem]; done))) | ((refine (heap_alloc_past _ _ _ ?_).trans ?_); (focus (simp [go_sem]; done)))))) (by omega) (by decide) rfl rfl
  · go_enter Try.func60, Try.ntmps60
    go_wp2_with (first | (go_at_call 77; refine (only_any _ _).mono ?_; rintro e w1 ⟨rfl, rfl⟩) | (go_at_call 78; refine (by_any _ _ _ _ _).mono ?_; rintro e w1 ⟨rfl, rfl⟩) | (go_at_call 79; refine (stays_any _ _ _ _ _).mono ?_; rintro e w1 ⟨rfl, hb⟩; obtain ⟨xs, d, rfl⟩ := ext_of hb; clear hb) | (go_at_call 82; refine (ends_any _ _).mono ?_; rintro e w1 ⟨rfl, rfl⟩) | (go_at_call 47; refine (asks_any _ _).mono ?_; rintro e w1 ⟨rfl, rfl⟩) | (go_at_call 83; refine (lower_any _ _).mono ?_; rintro e w1 ⟨rfl, rfl⟩))
    refine bodyPost_ret (v := .tuple #[.agg #[.slice none 0 0, .int .i64 6], .bool true]) (by simp [results, Try.results60, go_sem, lowerS]) rfl ⟨.slice none 0 0, rfl, ?_, ?_⟩
    · exact bel
    · exact own_nil _ _ _ _
  · go_enter Try.func60, Try.ntmps60
    go_wp2_with (first | (go_at_call 77; refine (only_any _ _).mono ?_; rintro e w1 ⟨rfl, rfl⟩) | (go_at_call 78; refine (by_any _ _ _ _ _).mono ?_; rintro e w1 ⟨rfl, rfl⟩) | (go_at_call 79; refine (stays_any _ _ _ _ _).mono ?_; rintro e w1 ⟨rfl, hb⟩; obtain ⟨xs, d, rfl⟩ := ext_of hb; clear hb) | (go_at_call 82; refine (ends_any _ _).mono ?_; rintro e w1 ⟨rfl, rfl⟩) | (go_at_call 47; refine (asks_any _ _).mono ?_; rintro e w1 ⟨rfl, rfl⟩) | (go_at_call 83; refine (lower_any _ _).mono ?_; rintro e w1 ⟨rfl, rfl⟩))
    refine bodyPost_ret (v := .tuple #[.agg #[.slice none 0 0, .int .i64 6], .bool true]) (by simp [results, Try.results60, go_sem, lowerS]) rfl ⟨.slice none 0 0, rfl, ?_, ?_⟩
    · exact bel
    · exact own_nil _ _ _ _
  · go_enter Try.func60, Try.ntmps60
    go_wp2_with (first | (go_at_call 77; refine (only_any _ _).mono ?_; rintro e w1 ⟨rfl, rfl⟩) | (go_at_call 78; refine (by_any _ _ _ _ _).mono ?_; rintro e w1 ⟨rfl, rfl⟩) | (go_at_call 79; refine (stays_any _ _ _ _ _).mono ?_; rintro e w1 ⟨rfl, hb⟩; obtain ⟨xs, d, rfl⟩ := ext_of hb; clear hb) | (go_at_call 82; refine (ends_any _ _).mono ?_; rintro e w1 ⟨rfl, rfl⟩) | (go_at_call 47; refine (asks_any _ _).mono ?_; rintro e w1 ⟨rfl, rfl⟩) | (go_at_call 83; refine (lower_any _ _).mono ?_; rintro e w1 ⟨rfl, rfl⟩))
    refine bodyPost_ret (v := .tuple #[.agg #[.slice none 0 0, .int .i64 8], .bool true]) (by simp [results, Try.results60, go_sem, lowerS]) rfl ⟨.slice none 0 0, rfl, ?_, ?_⟩
    · exact bel
    · exact own_nil _ _ _ _
  · go_enter Try.func60, Try.ntmps60
    go_wp2_with (first | (go_at_call 77; refine (only_any _ _).mono ?_; rintro e w1 ⟨rfl, rfl⟩) | (go_at_call 78; refine (by_any _ _ _ _ _).mono ?_; rintro e w1 ⟨rfl, rfl⟩) | (go_at_call 79; refine (stays_any _ _ _ _ _).mono ?_; rintro e w1 ⟨rfl, hb⟩; obtain ⟨xs, d, rfl⟩ := ext_of hb; clear hb) | (go_at_call 82; refine (ends_any _ _).mono ?_; rintro e w1 ⟨rfl, rfl⟩) | (go_at_call 47; refine (asks_any _ _).mono ?_; rintro e w1 ⟨rfl, rfl⟩) | (go_at_call 83; refine (lower_any _ _).mono ?_; rintro e w1 ⟨rfl, rfl⟩))
    refine bodyPost_ret (v := .tuple #[.agg #[.slice (some ⟨w.heap.size + 1, 0, none⟩) 2 2, .int .i64 6], .bool true]) (by simp [results, Try.results60, go_sem, lowerS]) rfl ⟨.slice (some ⟨w.heap.size + 1, 0, none⟩) 2 2, rfl, ?_, ?_⟩
    · exact bel
    · exact own_lit (size := 1) (e := 74) (n := 2) (by (repeat (first | ((refine heap_alloc_at _ _ _ ?_); (simp [go_sem]; done)) | ((refine (heap_ext _ _ _ _ ?_).trans ?_); (focus (simp [go_sem]; done))) | ((refine (heap_alloc_past _ _ _ ?_).trans ?_); (focus (simp [go_sem]; done)))))) (by omega) (by decide) rfl rfl
set_option maxHeartbeats 2000000 in
theorem over_no (s : Int) (w : World) (h0 : 0 ≤ s) (h9 : s ≤ 9) (h : tabOk 12 s = false) : Calls Try.prog 60 #[.int .i64 s] w (MNo w) := by
  have hs : s = 0 ∨ s = 1 := by
    rcases ten h0 h9 with rfl | rfl | rfl | rfl | rfl | rfl | rfl | rfl | rfl | rfl <;> first | decide | (exfalso; revert h; decide)
  clear h h0 h9
  rcases hs with rfl | rfl
  · go_enter Try.func60, Try.ntmps60
    go_wp2_with (first | (go_at_call 77; refine (only_any _ _).mono ?_; rintro e w1 ⟨rfl, rfl⟩) | (go_at_call 78; refine (by_any _ _ _ _ _).mono ?_; rintro e w1 ⟨rfl, rfl⟩) | (go_at_call 79; refine (stays_any _ _ _ _ _).mono ?_; rintro e w1 ⟨rfl, hb⟩; obtain ⟨xs, d, rfl⟩ := ext_of hb; clear hb) | (go_at_call 82; refine (ends_any _ _).mono ?_; rintro e w1 ⟨rfl, rfl⟩) | (go_at_call 47; refine (asks_any _ _).mono ?_; rintro e w1 ⟨rfl, rfl⟩) | (go_at_call 83; refine (lower_any _ _).mono ?_; rintro e w1 ⟨rfl, rfl⟩))
    exact bodyPost_ret (v := .tuple #[.agg #[.slice none 0 0, .int .i64 0], .bool false]) (by simp [results, Try.results60, go_sem]) rfl ⟨_, _, _, _, rfl, by exact bel⟩
  · go_enter Try.func60, Try.ntmps60
    go_wp2_with (first | (go_at_call 77; refine (only_any _ _).mono ?_; rintro e w1 ⟨rfl, rfl⟩) | (go_at_call 78; refine (by_any _ _ _ _ _).mono ?_; rintro e w1 ⟨rfl, rfl⟩) | (go_at_call 79; refine (stays_any _ _ _ _ _).mono ?_; rintro e w1 ⟨rfl, hb⟩; obtain ⟨xs, d, rfl⟩ := ext_of hb; clear hb) | (go_at_call 82; refine (ends_any _ _).mono ?_; rintro e w1 ⟨rfl, rfl⟩) | (go_at_call 47; refine (asks_any _ _).mono ?_; rintro e w1 ⟨rfl, rfl⟩) | (go_at_call 83; refine (lower_any _ _).mono ?_; rintro e w1 ⟨rfl, rfl⟩))
    exact bodyPost_ret (v := .tuple #[.agg #[.slice none 0 0, .int .i64 0], .bool false]) (by simp [results, Try.results60, go_sem]) rfl ⟨_, _, _, _, rfl, by exact bel⟩
set_option maxHeartbeats 2000000 in
theorem strange_yes (s : Int) (w : World) (h : tabOk 13 s = true) : Calls Try.prog 61 #[.int .i64 s] w (MYes 13 s w) := by
  obtain ⟨-, -, h0, h9⟩ := tabOk_in h
  have hs : s = 2 ∨ s = 3 ∨ s = 4 ∨ s = 5 ∨ s = 6 ∨ s = 7 ∨ s = 8 ∨ s = 9 := by
    rcases ten h0 h9 with rfl | rfl | rfl | rfl | rfl | rfl | rfl | rfl | rfl | rfl <;> first | decide | (exfalso; revert h; decide)
  clear h h0 h9
  rcases hs with rfl | rfl | rfl | rfl | rfl | rfl | rfl | rfl
  · go_enter Try.func61, Try.ntmps61
    go_wp2_with (first | (go_at_call 77; refine (only_any _ _).mono ?_; rintro e w1 ⟨rfl, rfl⟩) | (go_at_call 78; refine (by_any _ _ _ _ _).mono ?_; rintro e w1 ⟨rfl, rfl⟩) | (go_at_call 79; refine (stays_any _ _ _ _ _).mono ?_; rintro e w1 ⟨rfl, hb⟩; obtain ⟨xs, d, rfl⟩ := ext_of hb; clear hb) | (go_at_call 82; refine (ends_any _ _).mono ?_; rintro e w1 ⟨rfl, rfl⟩) | (go_at_call 47; refine (asks_any _ _).mono ?_; rintro e w1 ⟨rfl, rfl⟩) | (go_at_call 83; refine (lower_any _ _).mono ?_; rintro e w1 ⟨rfl, rfl⟩))
    refine bodyPost_ret (v := .tuple #[.agg #[.slice (some ⟨w.heap.size + 1, 0, none⟩) 1 1, .int .i64 2], .bool true]) (by simp [results, Try.results61, go_sem, lowerS]) rfl ⟨.slice (some ⟨w.heap.size + 1, 0, none⟩) 1 1, rfl, ?_, ?_⟩
    · exact bel
    · exact own_lit (size := 1) (e := 74) (n := 1) (by (repeat (first | ((refine heap_alloc_at _ _ _ ?_); (simp [go_sem]; done)) | ((refine (heap_ext _ _ _ _ ?_).trans ?_); (focus (simp [go_sem]; done))) | ((refine (heap_alloc_past _ _ _ ?_).trans ?_); (focus (simp [go_sem]; done)))))) (by omega) (by decide) rfl rfl
  · go_enter Try.func61, Try.ntmps61
    go_wp2_with (first | (go_at_call 77; refine (only_any _ _).mono ?_; rintro e w1 ⟨rfl, rfl⟩) | (go_at_call 78; refine (by_any _ _ _ _ _).mono ?_; rintro e w1 ⟨rfl, rfl⟩) | (go_at_call 79; refine (stays_any _ _ _ _ _).mono ?_; rintro e w1 ⟨rfl, hb⟩; obtain ⟨xs, d, rfl⟩ := ext_of hb; clear hb) | (go_at_call 82; refine (ends_any _ _).mono ?_; rintro e w1 ⟨rfl, rfl⟩) | (go_at_call 47; refine (asks_any _ _).mono ?_; rintro e w1 ⟨rfl, rfl⟩) | (go_at_call 83; refine (lower_any _ _).mono ?_; rintro e w1 ⟨rfl, rfl⟩))
    refine bodyPost_ret (v := .tuple #[.agg #[.slice (some ⟨w.heap.size + 1, 0, none⟩) 1 1, .int .i64 3], .bool true]) (by simp [results, Try.results61, go_sem, lowerS]) rfl ⟨.slice (some ⟨w.heap.size + 1, 0, none⟩) 1 1, rfl, ?_, ?_⟩
    · exact bel
    · exact own_lit (size := 1) (e := 74) (n := 1) (by (repeat (first | ((refine heap_alloc_at _ _ _ ?_); (simp [go_sem]; done)) | ((refine (heap_ext _ _ _ _ ?_).trans ?_); (focus (simp [go_sem]; done))) | ((refine (heap_alloc_past _ _ _ ?_).trans ?_); (focus (simp [go_sem]; done)))))) (by omega) (by decide) rfl rfl
  · go_enter Try.func61, Try.ntmps61
    go_wp2_with (first | (go_at_call 77; refine (only_any _ _).mono ?_; rintro e w1 ⟨rfl, rfl⟩) | (go_at_call 78; refine (by_any _ _ _ _ _).mono ?_; rintro e w1 ⟨rfl, rfl⟩) | (go_at_call 79; refine (stays_any _ _ _ _ _).mono ?_; rintro e w1 ⟨rfl, hb⟩; obtain ⟨xs, d, rfl⟩ := ext_of hb; clear hb) | (go_at_call 82; refine (ends_any _ _).mono ?_; rintro e w1 ⟨rfl, rfl⟩) | (go_at_call 47; refine (asks_any _ _).mono ?_; rintro e w1 ⟨rfl, rfl⟩) | (go_at_call 83; refine (lower_any _ _).mono ?_; rintro e w1 ⟨rfl, rfl⟩))
    refine bodyPost_ret (v := .tuple #[.agg #[.slice (some ⟨w.heap.size + 1, 0, none⟩) 1 1, .int .i64 4], .bool true]) (by simp [results, Try.results61, go_sem, lowerS]) rfl ⟨.slice (some ⟨w.heap.size + 1, 0, none⟩) 1 1, rfl, ?_, ?_⟩
    · exact bel
    · exact own_lit (size := 1) (e := 74) (n := 1) (by (repeat (first | ((refine heap_alloc_at _ _ _ ?_); (simp [go_sem]; done)) | ((refine (heap_ext _ _ _ _ ?_).trans ?_); (focus (simp [go_sem]; done))) | ((refine (heap_alloc_past _ _ _ ?_).trans ?_); (focus (simp [go_sem]; done)))))) (by omega) (by decide) rfl rfl
  · go_enter Try.func61, Try.ntmps61
    go_wp2_with (first | (go_at_call 77; refine (only_any _ _).mono ?_; rintro e w1 ⟨rfl, rfl⟩) | (go_at_call 78; refine (by_any _ _ _ _ _).mono ?_; rintro e w1 ⟨rfl, rfl⟩) | (go_at_call 79; refine (stays_any _ _ _ _ _).mono ?_; rintro e w1 ⟨rfl, hb⟩; obtain ⟨xs, d, rfl⟩ := ext_of hb; clear hb) | (go_at_call 82; refine (ends_any _ _).mono ?_; rintro e w1 ⟨rfl, rfl⟩) | (go_at_call 47; refine (asks_any _ _).mono ?_; rintro e w1 ⟨rfl, rfl⟩) | (go_at_call 83; refine (lower_any _ _).mono ?_; rintro e w1 ⟨rfl, rfl⟩))
    refine bodyPost_ret (v := .tuple #[.agg #[.slice (some ⟨w.heap.size + 1, 0, none⟩) 1 1, .int .i64 5], .bool true]) (by simp [results, Try.results61, go_sem, lowerS]) rfl ⟨.slice (some ⟨w.heap.size + 1, 0, none⟩) 1 1, rfl, ?_, ?_⟩
    · exact bel
    · exact own_lit (size := 1) (e := 74) (n := 1) (by (repeat (first | ((refine heap_alloc_at _ _ _ ?_); (simp [go_sem]; done)) | ((refine (heap_ext _ _ _ _ ?_).trans ?_); (focus (simp [go_sem]; done))) | ((refine (heap_alloc_past _ _ _ ?_).trans ?_); (focus (simp [go_sem]; done)))))) (by omega) (by decide) rfl rfl
  · go_enter Try.func61, Try.ntmps61
    go_wp2_with (first | (go_at_call 77; refine (only_any _ _).mono ?_; rintro e w1 ⟨rfl, rfl⟩) | (go_at_call 78; refine (by_any _ _ _ _ _).mono ?_; rintro e w1 ⟨rfl, rfl⟩) | (go_at_call 79; refine (stays_any _ _ _ _ _).mono ?_; rintro e w1 ⟨rfl, hb⟩; obtain ⟨xs, d, rfl⟩ := ext_of hb; clear hb) | (go_at_call 82; refine (ends_any _ _).mono ?_; rintro e w1 ⟨rfl, rfl⟩) | (go_at_call 47; refine (asks_any _ _).mono ?_; rintro e w1 ⟨rfl, rfl⟩) | (go_at_call 83; refine (lower_any _ _).mono ?_; rintro e w1 ⟨rfl, rfl⟩))
    refine bodyPost_ret (v := .tuple #[.agg #[.slice (some ⟨w.heap.size + 1, 0, none⟩) 1 1, .int .i64 6], .bool true]) (by simp [results, Try.results61, go_sem, lowerS]) rfl ⟨.slice (some ⟨w.heap.size + 1, 0, none⟩) 1 1, rfl, ?_, ?_⟩
    · exact bel
    · exact own_lit (size := 1) (e := 74) (n := 1) (by (repeat (first | ((refine heap_alloc_at _ _ _ ?_); (simp [go_sem]; done)) | ((refine (heap_ext _ _ _ _ ?_).trans ?_); (focus (simp [go_sem]; done))) | ((refine (heap_alloc_past _ _ _ ?_).trans ?_); (focus (simp [go_sem]; done)))))) (by omega) (by decide) rfl rfl
  · go_enter Try.func61, Try.ntmps61
    go_wp2_with (first | (go_at_call 77; refine (only_any _ _).mono ?_; rintro e w1 ⟨rfl, rfl⟩) | (go_at_call 78; refine (by_any _ _ _ _ _).mono ?_; rintro e w1 ⟨rfl, rfl⟩) | (go_at_call 79; refine (stays_any _ _ _ _ _).mono ?_; rintro e w1 ⟨rfl, hb⟩; obtain ⟨xs, d, rfl⟩ := ext_of hb; clear hb) | (go_at_call 82; refine (ends_any _ _).mono ?_; rintro e w1 ⟨rfl, rfl⟩) | (go_at_call 47; refine (asks_any _ _).mono ?_; rintro e w1 ⟨rfl, rfl⟩) | (go_at_call 83; refine (lower_any _ _).mono ?_; rintro e w1 ⟨rfl, rfl⟩))
    refine bodyPost_ret (v := .tuple #[.agg #[.slice (some ⟨w.heap.size + 1, 0, none⟩) 1 1, .int .i64 7], .bool true]) (by simp [results, Try.results61, go_sem, lowerS]) rfl ⟨.slice (some ⟨w.heap.size + 1, 0, none⟩) 1 1, rfl, ?_, ?_⟩
    · exact bel
    · exact own_lit (size := 1) (e := 74) (n := 1) (by (repeat (first | ((refine heap_alloc_at _ _ _ ?_); (simp [go_sem]; done)) | ((refine (heap_ext _ _ _ _ ?_).trans ?_); (focus (simp [go_sem]; done))) | ((refine (heap_alloc_past _ _ _ ?_).trans ?_); (focus (simp [go_sem]; done)))))) (by omega) (by decide) rfl rfl
  · go_enter Try.func61, Try.ntmps61
    go_wp2_with (first | (go_at_call 77; refine (only_any _ _).mono ?_; rintro e w1 ⟨rfl, rfl⟩) | (go_at_call 78; refine (by_any _ _ _ _ _).mono ?_; rintro e w1 ⟨rfl, rfl⟩) | (go_at_call 79; refine (stays_any _ _ _ _ _).mono ?_; rintro e w1 ⟨rfl, hb⟩; obtain ⟨xs, d, rfl⟩ := ext_of hb; clear hb) | (go_at_call 82; refine (ends_any _ _).mono ?_; rintro e w1 ⟨rfl, rfl⟩) | (go_at_call 47; refine (asks_any _ _).mono ?_; rintro e w1 ⟨rfl, rfl⟩) | (go_at_call 83; refine (lower_any _ _).mono ?_; rintro e w1 ⟨rfl, rfl⟩))
    refine bodyPost_ret (v := .tuple #[.agg #[.slice (some ⟨w.heap.size + 1, 0, none⟩) 1 1, .int .i64 8], .bool true]) (by simp [results, Try.results61, go_sem, lowerS]) rfl ⟨.slice (some ⟨w.heap.size + 1, 0, none⟩) 1 1, rfl, ?_, ?_⟩
    · exact bel
    · exact own_lit (size := 1) (e := 74) (n := 1) (by (repeat (first | ((refine heap_alloc_at _ _ _ ?_); (simp [go_sem]; done)) | ((refine (heap_ext _ _ _ _ ?_).trans ?_); (focus (simp [go_sem]; done))) | ((refine (heap_alloc_past _ _ _ ?_).trans ?_); (focus (simp [go_sem]; done)))))) (by omega) (by decide) rfl rfl
  · go_enter Try.func61, Try.ntmps61
    go_wp2_with (first | (go_at_call 77; refine (only_any _ _).mono ?_; rintro e w1 ⟨rfl, rfl⟩) | (go_at_call 78; refine (by_any _ _ _ _ _).mono ?_; rintro e w1 ⟨rfl, rfl⟩) | (go_at_call 79; refine (stays_any _ _ _ _ _).mono ?_; rintro e w1 ⟨rfl, hb⟩; obtain ⟨xs, d, rfl⟩ := ext_of hb; clear hb) | (go_at_call 82; refine (ends_any _ _).mono ?_; rintro e w1 ⟨rfl, rfl⟩) | (go_at_call 47; refine (asks_any _ _).mono ?_; rintro e w1 ⟨rfl, rfl⟩) | (go_at_call 83; refine (lower_any _ _).mono ?_; rintro e w1 ⟨rfl, rfl⟩))
    refine bodyPost_ret (v := .tuple #[.agg #[.slice (some ⟨w.heap.size + 1, 0, none⟩) 1 1, .int .i64 9], .bool true]) (by simp [results, Try.results61, go_sem, lowerS]) rfl ⟨.slice (some ⟨w.heap.size + 1, 0, none⟩) 1 1, rfl, ?_, ?_⟩
    · exact bel
    · exact own_lit (size := 1) (e := 74) (n := 1) (by (repeat (first | ((refine heap_alloc_at _ _ _ ?_); (simp [go_sem]; done)) | ((refine (heap_ext _ _ _ _ ?_).trans ?_); (focus (simp [go_sem]; done))) | ((refine (heap_alloc_past _ _ _ ?_).trans ?_); (focus (simp [go_sem]; done)))))) (by omega) (by decide) rfl rfl
set_option maxHeartbeats 2000000 in
theorem strange_no (s : Int) (w : World) (h0 : 0 ≤ s) (h9 : s ≤ 9) (h : tabOk 13 s = false) : Calls Try.prog 61 #[.int .i64 s] w (MNo w) := by
  have hs : s = 0 ∨ s = 1 := by
    rcases ten h0 h9 with rfl | rfl | rfl | rfl | rfl | rfl | rfl | rfl | rfl | rfl <;> first | decide | (exfalso; revert h; decide)
  clear h h0 h9
  rcases hs with rfl | rfl
  · go_enter Try.func61, Try.ntmps61
    go_wp2_with (first | (go_at_call 77; refine (only_any _ _).mono ?_; rintro e w1 ⟨rfl, rfl⟩) | (go_at_call 78; refine (by_any _ _ _ _ _).mono ?_; rintro e w1 ⟨rfl, rfl⟩) | (go_at_call 79; refine (stays_any _ _ _ _ _).mono ?_; rintro e w1 ⟨rfl, hb⟩; obtain ⟨xs, d, rfl⟩ := ext_of hb; clear hb) | (go_at_call 82; refine (ends_any _ _).mono ?_; rintro e w1 ⟨rfl, rfl⟩) | (go_at_call 47; refine (asks_any _ _).mono ?_; rintro e w1 ⟨rfl, rfl⟩) | (go_at_call 83; refine (lower_any _ _).mono ?_; rintro e w1 ⟨rfl, rfl⟩))
    exact bodyPost_ret (v := .tuple #[.agg #[.slice (some ⟨w.heap.size + 1, 0, none⟩) 1 1, .int .i64 0], .bool false]) (by simp [results, Try.results61, go_sem]) rfl ⟨_, _, _, _, rfl, by exact bel⟩
  · go_enter Try.func61, Try.ntmps61
    go_wp2_with (first | (go_at_call 77; refine (only_any _ _).mono ?_; rintro e w1 ⟨rfl, rfl⟩) | (go_at_call 78; refine (by_any _ _ _ _ _).mono ?_; rintro e w1 ⟨rfl, rfl⟩) | (go_at_call 79; refine (stays_any _ _ _ _ _).mono ?_; rintro e w1 ⟨rfl, hb⟩; obtain ⟨xs, d, rfl⟩ := ext_of hb; clear hb) | (go_at_call 82; refine (ends_any _ _).mono ?_; rintro e w1 ⟨rfl, rfl⟩) | (go_at_call 47; refine (asks_any _ _).mono ?_; rintro e w1 ⟨rfl, rfl⟩) | (go_at_call 83; refine (lower_any _ _).mono ?_; rintro e w1 ⟨rfl, rfl⟩))
    exact bodyPost_ret (v := .tuple #[.agg #[.slice (some ⟨w.heap.size + 1, 0, none⟩) 1 1, .int .i64 1], .bool false]) (by simp [results, Try.results61, go_sem]) rfl ⟨_, _, _, _, rfl, by exact bel⟩
end Go.Proofs.Ythidhfkbfoejbaa.Fs
namespace Go.Proofs.Ythidhfkbfoejbaa.Fs
open Go.RowKit
set_option linter.unusedSimpArgs false
set_option linter.unusedVariables false
set_option maxHeartbeats 2000000 in
theorem minor_yes (s : Int) (w : World) (h : tabOk 14 s = true) : Calls Try.prog 62 #[.int .i64 s] w (MYes 14 s w) := by
  obtain ⟨-, -, h0, h9⟩ := tabOk_in h
  have hs : s = 2 ∨ s = 3 ∨ s = 4 ∨ s = 5 ∨ s = 6 ∨ s = 7 ∨ s = 8 ∨ s = 9 := by
    rcases ten h0 h9 with rfl | rfl | rfl | rfl | rfl | rfl | rfl | rfl | rfl | rfl <;> first | decide | (exfalso; revert h; decide)
  clear h h0 h9
  rcases hs with rfl | rfl | rfl | rfl | rfl | rfl | rfl | rfl
  · go_enter Try.func62, Try.ntmps62
    go_wp2_with (first | (go_at_call 77; refine (only_any _ _).mono ?_; rintro e w1 ⟨rfl, rfl⟩) | (go_at_call 78; refine (by_any _ _ _ _ _).mono ?_; rintro e w1 ⟨rfl, rfl⟩) | (go_at_call 79; refine (stays_any _ _ _ _ _).mono ?_; rintro e w1 ⟨rfl, hb⟩; obtain ⟨xs, d, rfl⟩ := ext_of hb; clear hb) | (go_at_call 82; refine (ends_any _ _).mono ?_; rintro e w1 ⟨rfl, rfl⟩) | (go_at_call 47; refine (asks_any _ _).mono ?_; rintro e w1 ⟨rfl, rfl⟩) | (go_at_call 83; refine (lower_any _ _).mono ?_; rintro e w1 ⟨rfl, rfl⟩))
    refine bodyPost_ret (v := .tuple #[.agg #[.slice none 0 0, .int .i64 2], .bool true]) (by simp [results, Try.results62, go_sem, lowerS]) rfl ⟨.slice none 0 0, rfl, ?_, ?_⟩
    · exact bel
    · exact own_nil _ _ _ _
  · go_enter Try.func62, Try.ntmps62
    go_wp2_with (first | (go_at_call 77; refine (only_any _ _).mono ?_; rintro e w1 ⟨rfl, rfl⟩) | (go_at_call 78; refine (by_any _ _ _ _ _).mono ?_; rintro e w1 ⟨rfl, rfl⟩) | (go_at_call 79; refine (stays_any _ _ _ _ _).mono ?_; rintro e w1 ⟨rfl, hb⟩; obtain ⟨xs, d, rfl⟩ := ext_of hb; clear hb) | (go_at_call 82; refine (ends_any _ _).mono ?_; rintro e w1 ⟨rfl, rfl⟩) | (go_at_call 47; refine (asks_any _ _).mono ?_; rintro e w1 ⟨rfl, rfl⟩) | (go_at_call 83; refine (lower_any _ _).mono ?_; rintro e w1 ⟨rfl, rfl⟩))
    refine bodyPost_ret (v := .tuple #[.agg #[.slice none 0 0, .int .i64 3], .bool true]) (by simp [results, Try.results62, go_sem, lowerS]) rfl ⟨.slice none 0 0, rfl, ?_, ?_⟩
    · exact bel
    · exact own_nil _ _ _ _
  · go_enter Try.func62, Try.ntmps62
    go_wp2_with (first | (go_at_call 77; refine (only_any _ _).mono ?_; rintro e w1 ⟨rfl, rfl⟩) | (go_at_call 78; refine (by_any _ _ _ _ _).mono ?_; rintro e w1 ⟨rfl, rfl⟩) | (go_at_call 79; refine (stays_any _ _ _ _ _).mono ?_; rintro e w1 ⟨rfl, hb⟩; obtain ⟨xs, d, rfl⟩ := ext_of hb; clear hb) | (go_at_call 82; refine (ends_any _ _).mono ?_; rintro e w1 ⟨rfl, rfl⟩) | (go_at_call 47; refine (asks_any _ _).mono ?_; rintro e w1 ⟨rfl, rfl⟩) | (go_at_call 83; refine (lower_any _ _).mono ?_; rintro e w1 ⟨rfl, rfl⟩))
    refine bodyPost_ret (v := .tuple #[.agg #[.slice none 0 0, .int .i64 4], .bool true]) (by simp [results, Try.results62, go_sem, lowerS]) rfl ⟨.slice none 0 0, rfl, ?_, ?_⟩
    · exact bel
    · exact own_nil _ _ _ _
  · go_enter Try.func62, Try.ntmps62
    go_wp2_with (first | (go_at_call 77; refine (only_any _ _).mono ?_; rintro e w1 ⟨rfl, rfl⟩) | (go_at_call 78; refine (by_any _ _ _ _ _).mono ?_; rintro e w1 ⟨rfl, rfl⟩) | (go_at_call 79; refine (stays_any _ _ _ _ _).mono ?_; rintro e w1 ⟨rfl, hb⟩; obtain ⟨xs, d, rfl⟩ := ext_of hb; clear hb) | (go_at_call 82; refine (ends_any _ _).mono ?_; rintro e w1 ⟨rfl, rfl⟩) | (go_at_call 47; refine (asks_any _ _).mono ?_; rintro e w1 ⟨rfl, rfl⟩) | (go_at_call 83; refine (lower_any _ _).mono ?_; rintro e w1 ⟨rfl, rfl⟩))
    refine bodyPost_ret (v := .tuple #[.agg #[.slice none 0 0, .int .i64 5], .bool true]) (by simp [results, Try.results62, go_sem, lowerS]) rfl ⟨.slice none 0 0, rfl, ?_, ?_⟩
    · exact bel
    · exact own_nil _ _ _ _
  · go_enter Try.func62, Try.ntmps62
    go_wp2_with (first | (go_at_call 77; refine (only_any _ _).mono ?_; rintro e w1 ⟨rfl, rfl⟩) | (go_at_call 78; refine (by_any _ _ _ _ _).mono ?_; rintro e w1 ⟨rfl, rfl⟩) | (go_at_call 79; refine (stays_any _ _ _ _ _).mono ?_; rintro e w1 ⟨rfl, hb⟩; obtain ⟨xs, d, rfl⟩ := ext_of hb; clear hb) | (go_at_call 82; refine (ends_any _ _).mono ?_; rintro e w1 ⟨rfl, rfl⟩) | (go_at_call 47; refine (asks_any _ _).mono ?_; rintro e w1 ⟨rfl, rfl⟩) | (go_at_call 83; refine (lower_any _ _).mono ?_; rintro e w1 ⟨rfl, rfl⟩))
    refine bodyPost_ret (v := .tuple #[.agg #[.slice none 0 0, .int .i64 6], .bool true]) (by simp [results, Try.results62, go_sem, lowerS]) rfl ⟨.slice none 0 0, rfl, ?_, ?_⟩
    · exact bel
    · exact own_nil _ _ _ _
  · go_enter Try.func62, Try.ntmps62
    go_wp2_with (first | (go_at_call 77; refine (only_any _ _).mono ?_; rintro e w1 ⟨rfl, rfl⟩) | (go_at_call 78; refine (by_any _ _ _ _ _).mono ?_; rintro e w1 ⟨rfl, rfl⟩) | (go_at_call 79; refine (stays_any _ _ _ _ _).mono ?_; rintro e w1 ⟨rfl, hb⟩; obtain ⟨xs, d, rfl⟩ := ext_of hb; clear hb) | (go_at_call 82; refine (ends_any _ _).mono ?_; rintro e w1 ⟨rfl, rfl⟩) | (go_at_call 47; refine (asks_any _ _).mono ?_; rintro e w1 ⟨rfl, rfl⟩) | (go_at_call 83; refine (lower_any _ _).mono ?_; rintro e w1 ⟨rfl, rfl⟩))
    refine bodyPost_ret (v := .tuple #[.agg #[.slice none 0 0, .int .i64 6], .bool true]) (by simp [results, Try.results62, go_sem, lowerS]) rfl ⟨.slice none 0 0, rfl, ?_, ?_⟩
    · exact bel
    · exact own_nil _ _ _ _
  · go_enter Try.func62, Try.ntmps62
    go_wp2_with (first | (go_at_call 77; refine (only_any _ _).mono ?_; rintro e w1 ⟨rfl, rfl⟩) | (go_at_call 78; refine (by_any _ _ _ _ _).mono ?_; rintro e w1 ⟨rfl, rfl⟩) | (go_at_call 79; refine (stays_any _ _ _ _ _).mono ?_; rintro e w1 ⟨rfl, hb⟩; obtain ⟨xs, d, rfl⟩ := ext_of hb; clear hb) | (go_at_call 82; refine (ends_any _ _).mono ?_; rintro e w1 ⟨rfl, rfl⟩) | (go_at_call 47; refine (asks_any _ _).mono ?_; rintro e w1 ⟨rfl, rfl⟩) | (go_at_call 83; refine (lower_any _ _).mono ?_; rintro e w1 ⟨rfl, rfl⟩))
    refine bodyPost_ret (v := .tuple #[.agg #[.slice none 0 0, .int .i64 8], .bool true]) (by simp [results, Try.results62, go_sem, lowerS]) rfl ⟨.slice none 0 0, rfl, ?_, ?_⟩
    · exact bel
    · exact own_nil _ _ _ _
  · go_enter Try.func62, Try.ntmps62
    go_wp2_with (first | (go_at_call 77; refine (only_any _ _).mono ?_; rintro e w1 ⟨rfl, rfl⟩) | (go_at_call 78; refine (by_any _ _ _ _ _).mono ?_; rintro e w1 ⟨rfl, rfl⟩) | (go_at_call 79; refine (stays_any _ _ _ _ _).mono ?_; rintro e w1 ⟨rfl, hb⟩; obtain ⟨xs, d, rfl⟩ := ext_of hb; clear hb) | (go_at_call 82; refine (ends_any _ _).mono ?_; rintro e w1 ⟨rfl, rfl⟩) | (go_at_call 47; refine (asks_any _ _).mono ?_; rintro e w1 ⟨rfl, rfl⟩) | (go_at_call 83; refine (lower_any _ _).mono ?_; rintro e w1 ⟨rfl, rfl⟩))
    refine bodyPost_ret (v := .tuple #[.agg #[.slice none 0 0, .int .i64 9], .bool true]) (by simp [results, Try.results62, go_sem, lowerS]) rfl ⟨.slice none 0 0, rfl, ?_, ?_⟩
    · exact bel
    · exact own_nil _ _ _ _
set_option maxHeartbeats 2000000 in
theorem minor_no (s : Int) (w : World) (h0 : 0 ≤ s) (h9 : s ≤ 9) (h : tabOk 14 s = false) : Calls Try.prog 62 #[.int .i64 s] w (MNo w) := by
  have hs : s = 0 ∨ s = 1 := by
    rcases ten h0 h9 with rfl | rfl | rfl | rfl | rfl | rfl | rfl | rfl | rfl | rfl <;> first | decide | (exfalso; revert h; decide)
  clear h h0 h9
  rcases hs with rfl | rfl
  · go_enter Try.func62, Try.ntmps62
    go_wp2_with (first | (go_at_call 77; refine (only_any _ _).mono ?_; rintro e w1 ⟨rfl, rfl⟩) | (go_at_call 78; refine (by_any _ _ _ _ _).mono ?_; rintro e w1 ⟨rfl, rfl⟩) | (go_at_call 79; refine (stays_any _ _ _ _ _).mono ?_; rintro e w1 ⟨rfl, hb⟩; obtain ⟨xs, d, rfl⟩ := ext_of hb; clear hb) | (go_at_call 82; refine (ends_any _ _).mono ?_; rintro e w1 ⟨rfl, rfl⟩) | (go_at_call 47; refine (asks_any _ _).mono ?_; rintro e w1 ⟨rfl, rfl⟩) | (go_at_call 83; refine (lower_any _ _).mono ?_; rintro e w1 ⟨rfl, rfl⟩))
    exact bodyPost_ret (v := .tuple #[.agg #[.slice none 0 0, .int .i64 0], .bool false]) (by simp [results, Try.results62, go_sem]) rfl ⟨_, _, _, _, rfl, by exact bel⟩
  · go_enter Try.func62, Try.ntmps62
    go_wp2_with (first | (go_at_call 77; refine (only_any _ _).mono ?_; rintro e w1 ⟨rfl, rfl⟩) | (go_at_call 78; refine (by_any _ _ _ _ _).mono ?_; rintro e w1 ⟨rfl, rfl⟩) | (go_at_call 79; refine (stays_any _ _ _ _ _).mono ?_; rintro e w1 ⟨rfl, hb⟩; obtain ⟨xs, d, rfl⟩ := ext_of hb; clear hb) | (go_at_call 82; refine (ends_any _ _).mono ?_; rintro e w1 ⟨rfl, rfl⟩) | (go_at_call 47; refine (asks_any _ _).mono ?_; rintro e w1 ⟨rfl, rfl⟩) | (go_at_call 83; refine (lower_any _ _).mono ?_; rintro e w1 ⟨rfl, rfl⟩))
    exact bodyPost_ret (v := .tuple #[.agg #[.slice none 0 0, .int .i64 1], .bool false]) (by simp [results, Try.results62, go_sem]) rfl ⟨_, _, _, _, rfl, by exact bel⟩
set_option maxHeartbeats 2000000 in
theorem major_yes (s : Int) (w : World) (h : tabOk 15 s = true) : Calls Try.prog 63 #[.int .i64 s] w (MYes 15 s w) := by
  obtain ⟨-, -, h0, h9⟩ := tabOk_in h
  have hs : s = 2 ∨ s = 3 ∨ s = 4 ∨ s = 5 ∨ s = 6 ∨ s = 7 ∨ s = 8 ∨ s = 9 := by
    rcases ten h0 h9 with rfl | rfl | rfl | rfl | rfl | rfl | rfl | rfl | rfl | rfl <;> first | decide | (exfalso; revert h; decide)
  clear h h0 h9
  rcases hs with rfl | rfl | rfl | rfl | rfl | rfl | rfl | rfl
  · go_enter Try.func63, Try.ntmps63
    go_wp2_with (first | (go_at_call 77; refine (only_any _ _).mono ?_; rintro e w1 ⟨rfl, rfl⟩) | (go_at_call 78; refine (by_any _ _ _ _ _).mono ?_; rintro e w1 ⟨rfl, rfl⟩) | (go_at_call 79; refine (stays_any _ _ _ _ _).mono ?_; rintro e w1 ⟨rfl, hb⟩; obtain ⟨xs, d, rfl⟩ := ext_of hb; clear hb) | (go_at_call 82; refine (ends_any _ _).mono ?_; rintro e w1 ⟨rfl, rfl⟩) | (go_at_call 47; refine (asks_any _ _).mono ?_; rintro e w1 ⟨rfl, rfl⟩) | (go_at_call 83; refine (lower_any _ _).mono ?_; rintro e w1 ⟨rfl, rfl⟩))
    refine bodyPost_ret (v := .tuple #[.agg #[.slice (some ⟨w.heap.size + 1, 0, none⟩) 1 1, .int .i64 2], .bool true]) (by simp [results, Try.results63, go_sem, lowerS]) rfl ⟨.slice (some ⟨w.heap.size + 1, 0, none⟩) 1 1, rfl, ?_, ?_⟩
    · exact bel
    · exact own_lit (size := 1) (e := 74) (n := 1) (by (repeat (first | ((refine heap_alloc_at _ _ _ ?_); (simp [go_sem]; done)) | ((refine (heap_ext _ _ _ _ ?_).trans ?_); (focus (simp [go_sem]; done))) | ((refine (heap_alloc_past _ _ _ ?_).trans ?_); (focus (simp [go_sem]; done)))))) (by omega) (by decide) rfl rfl
  · go_enter Try.func63, Try.ntmps63
    go_wp2_with (first | (go_at_call 77; refine (only_any _ _).mono ?_; rintro e w1 ⟨rfl, rfl⟩) | (go_at_call 78; refine (by_any _ _ _ _ _).mono ?_; rintro e w1 ⟨rfl, rfl⟩) | (go_at_call 79; refine (stays_any _ _ _ _ _).mono ?_; rintro e w1 ⟨rfl, hb⟩; obtain ⟨xs, d, rfl⟩ := ext_of hb; clear hb) | (go_at_call 82; refine (ends_any _ _).mono ?_; rintro e w1 ⟨rfl, rfl⟩) | (go_at_call 47; refine (asks_any _ _).mono ?_; rintro e w1 ⟨rfl, rfl⟩) | (go_at_call 83; refine (lower_any _ _).mono ?_; rintro e w1 ⟨rfl, rfl⟩))
    refine bodyPost_ret (v := .tuple #[.agg #[.slice (some ⟨w.heap.size + 1, 0, none⟩) 1 1, .int .i64 3], .bool true]) (by simp [results, Try.results63, go_sem, lowerS]) rfl ⟨.slice (some ⟨w.heap.size + 1, 0, none⟩) 1 1, rfl, ?_, ?_⟩
    · exact bel
    · exact own_lit (size := 1) (e := 74) (n := 1) (by (repeat (first | ((refine heap_alloc_at _ _ _ ?_); (simp [go_sem]; done)) | ((refine (heap_ext _ _ _ _ ?_).trans ?_); (focus (simp [go_sem]; done))) | ((refine (heap_alloc_past _ _ _ ?_).trans ?_); (focus (simp [go_sem]; done)))))) (by omega) (by decide) rfl rfl
  · go_enter Try.func63, Try.ntmps63
    go_wp2_with (first | (go_at_call 77; refine (only_any _ _).mono ?_; rintro e w1 ⟨rfl, rfl⟩) | (go_at_call 78; refine (by_any _ _ _ _ _).mono ?_; rintro e w1 ⟨rfl, rfl⟩) | (go_at_call 79; refine (stays_any _ _ _ _ _).mono ?_; rintro e w1 ⟨rfl, hb⟩; obtain ⟨xs, d, rfl⟩ := ext_of hb; clear hb) | (go_at_call 82; refine (ends_any _ _).mono ?_; rintro e w1 ⟨rfl, rfl⟩) | (go_at_call 47; refine (asks_any _ _).mono ?_; rintro e w1 ⟨rfl, rfl⟩) | (go_at_call 83; refine (lower_any _ _).mono ?_; rintro e w1 ⟨rfl, rfl⟩))
    refine bodyPost_ret (v := .tuple #[.agg #[.slice (some ⟨w.heap.size + 1, 0, none⟩) 1 1, .int .i64 2], .bool true]) (by simp [results, Try.results63, go_sem, lowerS]) rfl ⟨.slice (some ⟨w.heap.size + 1, 0, none⟩) 1 1, rfl, ?_, ?_⟩
    · exact bel
    · exact own_lit (size := 1) (e := 74) (n := 1) (by (repeat (first | ((refine heap_alloc_at _ _ _ ?_); (simp [go_sem]; done)) | ((refine (heap_ext _ _ _ _ ?_).trans ?_); (focus (simp [go_sem]; done))) | ((refine (heap_alloc_past _ _ _ ?_).trans ?_); (focus (simp [go_sem]; done)))))) (by omega) (by decide) rfl rfl
  · go_enter Try.func63, Try.ntmps63
    go_wp2_with (first | (go_at_call 77; refine (only_any _ _).mono ?_; rintro e w1 ⟨rfl, rfl⟩) | (go_at_call 78; refine (by_any _ _ _ _ _).mono ?_; rintro e w1 ⟨rfl, rfl⟩) | (go_at_call 79; refine (stays_any _ _ _ _ _).mono ?_; rintro e w1 ⟨rfl, hb⟩; obtain ⟨xs, d, rfl⟩ := ext_of hb; clear hb) | (go_at_call 82; refine (ends_any _ _).mono ?_; rintro e w1 ⟨rfl, rfl⟩) | (go_at_call 47; refine (asks_any _ _).mono ?_; rintro e w1 ⟨rfl, rfl⟩) | (go_at_call 83; refine (lower_any _ _).mono ?_; rintro e w1 ⟨rfl, rfl⟩))
    refine bodyPost_ret (v := .tuple #[.agg #[.slice (some ⟨w.heap.size + 1, 0, none⟩) 1 1, .int .i64 3], .bool true]) (by simp [results, Try.results63, go_sem, lowerS]) rfl ⟨.slice (some ⟨w.heap.size + 1, 0, none⟩) 1 1, rfl, ?_, ?_⟩
    · exact bel
    · exact own_lit (size := 1) (e := 74) (n := 1) (by (repeat (first | ((refine heap_alloc_at _ _ _ ?_); (simp [go_sem]; done)) | ((refine (heap_ext _ _ _ _ ?_).trans ?_); (focus (simp [go_sem]; done))) | ((refine (heap_alloc_past _ _ _ ?_).trans ?_); (focus (simp [go_sem]; done)))))) (by omega) (by decide) rfl rfl
  · go_enter Try.func63, Try.ntmps63
    go_wp2_with (first | (go_at_call 77; refine (only_any _ _).mono ?_; rintro e w1 ⟨rfl, rfl⟩) | (go_at_call 78; refine (by_any _ _ _ _ _).mono ?_; rintro e w1 ⟨rfl, rfl⟩) | (go_at_call 79; refine (stays_any _ _ _ _ _).mono ?_; rintro e w1 ⟨rfl, hb⟩; obtain ⟨xs, d, rfl⟩ := ext_of hb; clear hb) | (go_at_call 82; refine (ends_any _ _).mono ?_; rintro e w1 ⟨rfl, rfl⟩) | (go_at_call 47; refine (asks_any _ _).mono ?_; rintro e w1 ⟨rfl, rfl⟩) | (go_at_call 83; refine (lower_any _ _).mono ?_; rintro e w1 ⟨rfl, rfl⟩))
    refine bodyPost_ret (v := .tuple #[.agg #[.slice (some ⟨w.heap.size + 1, 0, none⟩) 1 1, .int .i64 3], .bool true]) (by simp [results, Try.results63, go_sem, lowerS]) rfl ⟨.slice (some ⟨w.heap.size + 1, 0, none⟩) 1 1, rfl, ?_, ?_⟩
    · exact bel
    · exact own_lit (size := 1) (e := 74) (n := 1) (by (repeat (first | ((refine heap_alloc_at _ _ _ ?_); (simp [go_sem]; done)) | ((refine (heap_ext _ _ _ _ ?_).trans ?_); (focus (simp [go_sem]; done))) | ((refine (heap_alloc_past _ _ _ ?_).trans ?_); (focus (simp [go_sem]; done)))))) (by omega) (by decide) rfl rfl
  · go_enter Try.func63, Try.ntmps63
    go_wp2_with (first | (go_at_call 77; refine (only_any _ _).mono ?_; rintro e w1 ⟨rfl, rfl⟩) | (go_at_call 78; refine (by_any _ _ _ _ _).mono ?_; rintro e w1 ⟨rfl, rfl⟩) | (go_at_call 79; refine (stays_any _ _ _ _ _).mono ?_; rintro e w1 ⟨rfl, hb⟩; obtain ⟨xs, d, rfl⟩ := ext_of hb; clear hb) | (go_at_call 82; refine (ends_any _ _).mono ?_; rintro e w1 ⟨rfl, rfl⟩) | (go_at_call 47; refine (asks_any _ _).mono ?_; rintro e w1 ⟨rfl, rfl⟩) | (go_at_call 83; refine (lower_any _ _).mono ?_; rintro e w1 ⟨rfl, rfl⟩))
    refine bodyPost_ret (v := .tuple #[.agg #[.slice (some ⟨w.heap.size + 1, 0, none⟩) 1 1, .int .i64 3], .bool true]) (by simp [results, Try.results63, go_sem, lowerS]) rfl ⟨.slice (some ⟨w.heap.size + 1, 0, none⟩) 1 1, rfl, ?_, ?_⟩
    · exact bel
    · exact own_lit (size := 1) (e := 74) (n := 1) (by (repeat (first | ((refine heap_alloc_at _ _ _ ?_); (simp [go_sem]; done)) | ((refine (heap_ext _ _ _ _ ?_).trans ?_); (focus (simp [go_sem]; done))) | ((refine (heap_alloc_past _ _ _ ?_).trans ?_); (focus (simp [go_sem]; done)))))) (by omega) (by decide) rfl rfl
  · go_enter Try.func63, Try.ntmps63
    go_wp2_with (first | (go_at_call 77; refine (only_any _ _).mono ?_; rintro e w1 ⟨rfl, rfl⟩) | (go_at_call 78; refine (by_any _ _ _ _ _).mono ?_; rintro e w1 ⟨rfl, rfl⟩) | (go_at_call 79; refine (stays_any _ _ _ _ _).mono ?_; rintro e w1 ⟨rfl, hb⟩; obtain ⟨xs, d, rfl⟩ := ext_of hb; clear hb) | (go_at_call 82; refine (ends_any _ _).mono ?_; rintro e w1 ⟨rfl, rfl⟩) | (go_at_call 47; refine (asks_any _ _).mono ?_; rintro e w1 ⟨rfl, rfl⟩) | (go_at_call 83; refine (lower_any _ _).mono ?_; rintro e w1 ⟨rfl, rfl⟩))
    refine bodyPost_ret (v := .tuple #[.agg #[.slice (some ⟨w.heap.size + 1, 0, none⟩) 1 1, .int .i64 3], .bool true]) (by simp [results, Try.results63, go_sem, lowerS]) rfl ⟨.slice (some ⟨w.heap.size + 1, 0, none⟩) 1 1, rfl, ?_, ?_⟩
    · exact bel
    · exact own_lit (size := 1) (e := 74) (n := 1) (by (repeat (first | ((refine heap_alloc_at _ _ _ ?_); (simp [go_sem]; done)) | ((refine (heap_ext _ _ _ _ ?_).trans ?_); (focus (simp [go_sem]; done))) | ((refine (heap_alloc_past _ _ _ ?_).trans ?_); (focus (simp [go_sem]; done)))))) (by omega) (by decide) rfl rfl
  · go_enter Try.func63, Try.ntmps63
    go_wp2_with (first | (go_at_call 77; refine (only_any _ _).mono ?_; rintro e w1 ⟨rfl, rfl⟩) | (go_at_call 78; refine (by_any _ _ _ _ _).mono ?_; rintro e w1 ⟨rfl, rfl⟩) | (go_at_call 79; refine (stays_any _ _ _ _ _).mono ?_; rintro e w1 ⟨rfl, hb⟩; obtain ⟨xs, d, rfl⟩ := ext_of hb; clear hb) | (go_at_call 82; refine (ends_any _ _).mono ?_; rintro e w1 ⟨rfl, rfl⟩) | (go_at_call 47; refine (asks_any _ _).mono ?_; rintro e w1 ⟨rfl, rfl⟩) | (go_at_call 83; refine (lower_any _ _).mono ?_; rintro e w1 ⟨rfl, rfl⟩))
    refine bodyPost_ret (v := .tuple #[.agg #[.slice (some ⟨w.heap.size + 1, 0, none⟩) 3 3, .int .i64 5], .bool true]) (by simp [results, Try.results63, go_sem, lowerS]) rfl ⟨.slice (some ⟨w.heap.size + 1, 0, none⟩) 3 3, rfl, ?_, ?_⟩
    · exact bel
    · exact own_lit (size := 1) (e := 74) (n := 3) (by (repeat (first | ((refine heap_alloc_at _ _ _ ?_); (simp [go_sem]; done)) | ((refine (heap_ext _ _ _ _ ?_).trans ?_); (focus (simp [go_sem]; done))) | ((refine (heap_alloc_past _ _ _ ?_).trans ?_); (focus (simp [go_sem]; done)))))) (by omega) (by decide) rfl rfl
set_option maxHeartbeats 2000000 in
theorem major_no (s : Int) (w : World) (h0 : 0 ≤ s) (h9 : s ≤ 9) (h : tabOk 15 s = false) : Calls Try.prog 63 #[.int .i64 s] w (MNo w) := by
  have hs : s = 0 ∨ s = 1 := by
    rcases ten h0 h9 with rfl | rfl | rfl | rfl | rfl | rfl | rfl | rfl | rfl | rfl <;> first | decide | (exfalso; revert h; decide)
  clear h h0 h9
  rcases hs with rfl | rfl
  · go_enter Try.func63, Try.ntmps63
    go_wp2_with (first | (go_at_call 77; refine (only_any _ _).mono ?_; rintro e w1 ⟨rfl, rfl⟩) | (go_at_call 78; refine (by_any _ _ _ _ _).mono ?_; rintro e w1 ⟨rfl, rfl⟩) | (go_at_call 79; refine (stays_any _ _ _ _ _).mono ?_; rintro e w1 ⟨rfl, hb⟩; obtain ⟨xs, d, rfl⟩ := ext_of hb; clear hb) | (go_at_call 82; refine (ends_any _ _).mono ?_; rintro e w1 ⟨rfl, rfl⟩) | (go_at_call 47; refine (asks_any _ _).mono ?_; rintro e w1 ⟨rfl, rfl⟩) | (go_at_call 83; refine (lower_any _ _).mono ?_; rintro e w1 ⟨rfl, rfl⟩))
    exact bodyPost_ret (v := .tuple #[.agg #[.slice none 0 0, .int .i64 0], .bool false]) (by simp [results, Try.results63, go_sem]) rfl ⟨_, _, _, _, rfl, by exact bel⟩
  · go_enter Try.func63, Try.ntmps63
    go_wp2_with (first | (go_at_call 77; refine (only_any _ _).mono ?_; rintro e w1 ⟨rfl, rfl⟩) | (go_at_call 78; refine (by_any _ _ _ _ _).mono ?_; rintro e w1 ⟨rfl, rfl⟩) | (go_at_call 79; refine (stays_any _ _ _ _ _).mono ?_; rintro e w1 ⟨rfl, hb⟩; obtain ⟨xs, d, rfl⟩ := ext_of hb; clear hb) | (go_at_call 82; refine (ends_any _ _).mono ?_; rintro e w1 ⟨rfl, rfl⟩) | (go_at_call 47; refine (asks_any _ _).mono ?_; rintro e w1 ⟨rfl, rfl⟩) | (go_at_call 83; refine (lower_any _ _).mono ?_; rintro e w1 ⟨rfl, rfl⟩))
    exact bodyPost_ret (v := .tuple #[.agg #[.slice none 0 0, .int .i64 0], .bool false]) (by simp [results, Try.results63, go_sem]) rfl ⟨_, _, _, _, rfl, by exact bel⟩
set_option maxHeartbeats 2000000 in
theorem echo_yes (s : Int) (w : World) (h : tabOk 16 s = true) : Calls Try.prog 64 #[.int .i64 s] w (MYes 16 s w) := by
  obtain ⟨-, -, h0, h9⟩ := tabOk_in h
  have hs : s = 2 ∨ s = 3 ∨ s = 4 ∨ s = 5 ∨ s = 6 ∨ s = 7 ∨ s = 8 ∨ s = 9 := by
    rcases ten h0 h9 with rfl | rfl | rfl | rfl | rfl | rfl | rfl | rfl | rfl | rfl <;> first | decide | (exfalso; revert h; decide)
  clear h h0 h9
  rcases hs with rfl | rfl | rfl | rfl | rfl | rfl | rfl | rfl
  · go_enter Try.func64, Try.ntmps64
    go_wp2_with (first | (go_at_call 77; refine (only_any _ _).mono ?_; rintro e w1 ⟨rfl, rfl⟩) | (go_at_call 78; refine (by_any _ _ _ _ _).mono ?_; rintro e w1 ⟨rfl, rfl⟩) | (go_at_call 79; refine (stays_any _ _ _ _ _).mono ?_; rintro e w1 ⟨rfl, hb⟩; obtain ⟨xs, d, rfl⟩ := ext_of hb; clear hb) | (go_at_call 82; refine (ends_any _ _).mono ?_; rintro e w1 ⟨rfl, rfl⟩) | (go_at_call 47; refine (asks_any _ _).mono ?_; rintro e w1 ⟨rfl, rfl⟩) | (go_at_call 83; refine (lower_any _ _).mono ?_; rintro e w1 ⟨rfl, rfl⟩))
    refine bodyPost_ret (v := .tuple #[.agg #[.slice none 0 0, .int .i64 2], .bool true]) (by simp [results, Try.results64, go_sem, lowerS]) rfl ⟨.slice none 0 0, rfl, ?_, ?_⟩
    · exact bel
    · exact own_nil _ _ _ _
  · go_enter Try.func64, Try.ntmps64
    go_wp2_with (first | (go_at_call 77; refine (only_any _ _).mono ?_; rintro e w1 ⟨rfl, rfl⟩) | (go_at_call 78; refine (by_any _ _ _ _ _).mono ?_; rintro e w1 ⟨rfl, rfl⟩) | (go_at_call 79; refine (stays_any _ _ _ _ _).mono ?_; rintro e w1 ⟨rfl, hb⟩; obtain ⟨xs, d, rfl⟩ := ext_of hb; clear hb) | (go_at_call 82; refine (ends_any _ _).mono ?_; rintro e w1 ⟨rfl, rfl⟩) | (go_at_call 47; refine (asks_any _ _).mono ?_; rintro e w1 ⟨rfl, rfl⟩) | (go_at_call 83; refine (lower_any _ _).mono ?_; rintro e w1 ⟨rfl, rfl⟩))
    refine bodyPost_ret (v := .tuple #[.agg #[.slice none 0 0, .int .i64 3], .bool true]) (by simp [results, Try.results64, go_sem, lowerS]) rfl ⟨.slice none 0 0, rfl, ?_, ?_⟩
    · exact bel
    · exact own_nil _ _ _ _
  · go_enter Try.func64, Try.ntmps64
    go_wp2_with (first | (go_at_call 77; refine (only_any _ _).mono ?_; rintro e w1 ⟨rfl, rfl⟩) | (go_at_call 78; refine (by_any _ _ _ _ _).mono ?_; rintro e w1 ⟨rfl, rfl⟩) | (go_at_call 79; refine (stays_any _ _ _ _ _).mono ?_; rintro e w1 ⟨rfl, hb⟩; obtain ⟨xs, d, rfl⟩ := ext_of hb; clear hb) | (go_at_call 82; refine (ends_any _ _).mono ?_; rintro e w1 ⟨rfl, rfl⟩) | (go_at_call 47; refine (asks_any _ _).mono ?_; rintro e w1 ⟨rfl, rfl⟩) | (go_at_call 83; refine (lower_any _ _).mono ?_; rintro e w1 ⟨rfl, rfl⟩))
    refine bodyPost_ret (v := .tuple #[.agg #[.slice none 0 0, .int .i64 4], .bool true]) (by simp [results, Try.results64, go_sem, lowerS]) rfl ⟨.slice none 0 0, rfl, ?_, ?_⟩
    · exact bel
    · exact own_nil _ _ _ _
  · go_enter Try.func64, Try.ntmps64
    go_wp2_with (first | (go_at_call 77; refine (only_any _ _).mono ?_; rintro e w1 ⟨rfl, rfl⟩) | (go_at_call 78; refine (by_any _ _ _ _ _).mono ?_; rintro e w1 ⟨rfl, rfl⟩) | (go_at_call 79; refine (stays_any _ _ _ _ _).mono ?_; rintro e w1 ⟨rfl, hb⟩; obtain ⟨xs, d, rfl⟩ := ext_of hb; clear hb) | (go_at_call 82; refine (ends_any _ _).mono ?_; rintro e w1 ⟨rfl, rfl⟩) | (go_at_call 47; refine (asks_any _ _).mono ?_; rintro e w1 ⟨rfl, rfl⟩) | (go_at_call 83; refine (lower_any _ _).mono ?_; rintro e w1 ⟨rfl, rfl⟩))
    refine bodyPost_ret (v := .tuple #[.agg #[.slice none 0 0, .int .i64 5], .bool true]) (by simp [results, Try.results64, go_sem, lowerS]) rfl ⟨.slice none 0 0, rfl, ?_, ?_⟩
    · exact bel
    · exact own_nil _ _ _ _
  · go_enter Try.func64, Try.ntmps64
    go_wp2_with (first | (go_at_call 77; refine (only_any _ _).mono ?_; rintro e w1 ⟨rfl, rfl⟩) | (go_at_call 78; refine (by_any _ _ _ _ _).mono ?_; rintro e w1 ⟨rfl, rfl⟩) | (go_at_call 79; refine (stays_any _ _ _ _ _).mono ?_; rintro e w1 ⟨rfl, hb⟩; obtain ⟨xs, d, rfl⟩ := ext_of hb; clear hb) | (go_at_call 82; refine (ends_any _ _).mono ?_; rintro e w1 ⟨rfl, rfl⟩) | (go_at_call 47; refine (asks_any _ _).mono ?_; rintro e w1 ⟨rfl, rfl⟩) | (go_at_call 83; refine (lower_any _ _).mono ?_; rintro e w1 ⟨rfl, rfl⟩))
    refine bodyPost_ret (v := .tuple #[.agg #[.slice none 0 0, .int .i64 6], .bool true]) (by simp [results, Try.results64, go_sem, lowerS]) rfl ⟨.slice none 0 0, rfl, ?_, ?_⟩
    · exact bel
    · exact own_nil _ _ _ _
  · go_enter Try.func64, Try.ntmps64
    go_wp2_with (first | (go_at_call 77; refine (only_any _ _).mono ?_; rintro e w1 ⟨rfl, rfl⟩) | (go_at_call 78; refine (by_any _ _ _ _ _).mono ?_; rintro e w1 ⟨rfl, rfl⟩) | (go_at_call 79; refine (stays_any _ _ _ _ _).mono ?_; rintro e w1 ⟨rfl, hb⟩; obtain ⟨xs, d, rfl⟩ := ext_of hb; clear hb) | (go_at_call 82; refine (ends_any _ _).mono ?_; rintro e w1 ⟨rfl, rfl⟩) | (go_at_call 47; refine (asks_any _ _).mono ?_; rintro e w1 ⟨rfl, rfl⟩) | (go_at_call 83; refine (lower_any _ _).mono ?_; rintro e w1 ⟨rfl, rfl⟩))
    refine bodyPost_ret (v := .tuple #[.agg #[.slice none 0 0, .int .i64 7], .bool true]) (by simp [results, Try.results64, go_sem, lowerS]) rfl ⟨.slice none 0 0, rfl, ?_, ?_⟩
    · exact bel
    · exact own_nil _ _ _ _
  · go_enter Try.func64, Try.ntmps64
    go_wp2_with (first | (go_at_call 77; refine (only_any _ _).mono ?_; rintro e w1 ⟨rfl, rfl⟩) | (go_at_call 78; refine (by_any _ _ _ _ _).mono ?_; rintro e w1 ⟨rfl, rfl⟩) | (go_at_call 79; refine (stays_any _ _ _ _ _).mono ?_; rintro e w1 ⟨rfl, hb⟩; obtain ⟨xs, d, rfl⟩ := ext_of hb; clear hb) | (go_at_call 82; refine (ends_any _ _).mono ?_; rintro e w1 ⟨rfl, rfl⟩) | (go_at_call 47; refine (asks_any _ _).mono ?_; rintro e w1 ⟨rfl, rfl⟩) | (go_at_call 83; refine (lower_any _ _).mono ?_; rintro e w1 ⟨rfl, rfl⟩))
    refine bodyPost_ret (v := .tuple #[.agg #[.slice none 0 0, .int .i64 8], .bool true]) (by simp [results, Try.results64, go_sem, lowerS]) rfl ⟨.slice none 0 0, rfl, ?_, ?_⟩
    · exact bel
    · exact own_nil _ _ _ _
  · go_enter Try.func64, Try.ntmps64
    go_wp2_with (first | (go_at_call 77; refine (only_any _ _).mono ?_; rintro e w1 ⟨rfl, rfl⟩) | (go_at_call 78; refine (by_any _ _ _ _ _).mono ?_; rintro e w1 ⟨rfl, rfl⟩) | (go_at_call 79; refine (stays_any _ _ _ _ _).mono ?_; rintro e w1 ⟨rfl, hb⟩; obtain ⟨xs, d, rfl⟩ := ext_of hb; clear hb) | (go_at_call 82; refine (ends_any _ _).mono ?_; rintro e w1 ⟨rfl, rfl⟩) | (go_at_call 47; refine (asks_any _ _).mono ?_; rintro e w1 ⟨rfl, rfl⟩) | (go_at_call 83; refine (lower_any _ _).mono ?_; rintro e w1 ⟨rfl, rfl⟩))
    refine bodyPost_ret (v := .tuple #[.agg #[.slice (some ⟨w.heap.size + 1, 0, none⟩) 1 1, .int .i64 9], .bool true]) (by simp [results, Try.results64, go_sem, lowerS]) rfl ⟨.slice (some ⟨w.heap.size + 1, 0, none⟩) 1 1, rfl, ?_, ?_⟩
    · exact bel
    · exact own_lit (size := 1) (e := 74) (n := 1) (by (repeat (first | ((refine heap_alloc_at _ _ _ ?_); (simp [go_sem]; done)) | ((refine (heap_ext _ _ _ _ ?_).trans ?_); (focus (simp [go_sem]; done))) | ((refine (heap_alloc_past _ _ _ ?_).trans ?_); (focus (simp [go_sem]; done)))))) (by omega) (by decide) rfl rfl
set_option maxHeartbeats 2000000 in
theorem echo_no (s : Int) (w : World) (h0 : 0 ≤ s) (h9 : s ≤ 9) (h : tabOk 16 s = false) : Calls Try.prog 64 #[.int .i64 s] w (MNo w) := by
  have hs : s = 0 ∨ s = 1 := by
    rcases ten h0 h9 with rfl | rfl | rfl | rfl | rfl | rfl | rfl | rfl | rfl | rfl <;> first | decide | (exfalso; revert h; decide)
  clear h h0 h9
  rcases hs with rfl | rfl
  · go_enter Try.func64, Try.ntmps64
    go_wp2_with (first | (go_at_call 77; refine (only_any _ _).mono ?_; rintro e w1 ⟨rfl, rfl⟩) | (go_at_call 78; refine (by_any _ _ _ _ _).mono ?_; rintro e w1 ⟨rfl, rfl⟩) | (go_at_call 79; refine (stays_any _ _ _ _ _).mono ?_; rintro e w1 ⟨rfl, hb⟩; obtain ⟨xs, d, rfl⟩ := ext_of hb; clear hb) | (go_at_call 82; refine (ends_any _ _).mono ?_; rintro e w1 ⟨rfl, rfl⟩) | (go_at_call 47; refine (asks_any _ _).mono ?_; rintro e w1 ⟨rfl, rfl⟩) | (go_at_call 83; refine (lower_any _ _).mono ?_; rintro e w1 ⟨rfl, rfl⟩))
    exact bodyPost_ret (v := .tuple #[.agg #[.slice none 0 0, .int .i64 0], .bool false]) (by simp [results, Try.results64, go_sem]) rfl ⟨_, _, _, _, rfl, by exact bel⟩
  · go_enter Try.func64, Try.ntmps64
    go_wp2_with (first | (go_at_call 77; refine (only_any _ _).mono ?_; rintro e w1 ⟨rfl, rfl⟩) | (go_at_call 78; refine (by_any _ _ _ _ _).mono ?_; rintro e w1 ⟨rfl, rfl⟩) | (go_at_call 79; refine (stays_any _ _ _ _ _).mono ?_; rintro e w1 ⟨rfl, hb⟩; obtain ⟨xs, d, rfl⟩ := ext_of hb; clear hb) | (go_at_call 82; refine (ends_any _ _).mono ?_; rintro e w1 ⟨rfl, rfl⟩) | (go_at_call 47; refine (asks_any _ _).mono ?_; rintro e w1 ⟨rfl, rfl⟩) | (go_at_call 83; refine (lower_any _ _).mono ?_; rintro e w1 ⟨rfl, rfl⟩))
    exact bodyPost_ret (v := .tuple #[.agg #[.slice none 0 0, .int .i64 1], .bool false]) (by simp [results, Try.results64, go_sem]) rfl ⟨_, _, _, _, rfl, by exact bel⟩
end Go.Proofs.Ythidhfkbfoejbaa.Fs
namespace Go.Proofs.Ythidhfkbfoejbaa.Fs
open Go.RowKit
set_option linter.unusedSimpArgs false
set_option linter.unusedVariables false
set_option maxHeartbeats 2000000 in
theorem asked7_yes (s : Int) (w : World) (h : tabOk 7 s = true) : Calls Try.prog 80 #[.int .i64 s, .int .i64 8] w (MYes 7 s w) := by
  obtain ⟨-, -, h0, h9⟩ := tabOk_in h
  have hs : s = 2 ∨ s = 3 ∨ s = 4 ∨ s = 5 ∨ s = 6 ∨ s = 7 ∨ s = 8 ∨ s = 9 := by
    rcases ten h0 h9 with rfl | rfl | rfl | rfl | rfl | rfl | rfl | rfl | rfl | rfl <;> first | decide | (exfalso; revert h; decide)
  clear h h0 h9
  rcases hs with rfl | rfl | rfl | rfl | rfl | rfl | rfl | rfl
  · go_enter Try.func80, Try.ntmps80
    go_wp2_with (first | (go_at_call 77; refine (only_any _ _).mono ?_; rintro e w1 ⟨rfl, rfl⟩) | (go_at_call 78; refine (by_any _ _ _ _ _).mono ?_; rintro e w1 ⟨rfl, rfl⟩) | (go_at_call 79; refine (stays_any _ _ _ _ _).mono ?_; rintro e w1 ⟨rfl, hb⟩; obtain ⟨xs, d, rfl⟩ := ext_of hb; clear hb) | (go_at_call 82; refine (ends_any _ _).mono ?_; rintro e w1 ⟨rfl, rfl⟩) | (go_at_call 47; refine (asks_any _ _).mono ?_; rintro e w1 ⟨rfl, rfl⟩) | (go_at_call 83; refine (lower_any _ _).mono ?_; rintro e w1 ⟨rfl, rfl⟩))
    refine bodyPost_ret (v := .tuple #[.agg #[.slice (some ⟨w.heap.size + 1, 0, none⟩) 1 1, .int .i64 2], .bool true]) (by simp [results, Try.results80, go_sem]) rfl ⟨.slice (some ⟨w.heap.size + 1, 0, none⟩) 1 1, rfl, ?_, ?_⟩
    · exact bel
    · exact own_lit (size := 1) (e := 74) (n := 1) (by (repeat (first | ((refine heap_alloc_at _ _ _ ?_); (simp [go_sem]; done)) | ((refine (heap_ext _ _ _ _ ?_).trans ?_); (focus (simp [go_sem]; done))) | ((refine (heap_alloc_past _ _ _ ?_).trans ?_); (focus (simp [go_sem]; done)))))) (by omega) (by decide) rfl rfl
  · go_enter Try.func80, Try.ntmps80
    go_wp2_with (first | (go_at_call 77; refine (only_any _ _).mono ?_; rintro e w1 ⟨rfl, rfl⟩) | (go_at_call 78; refine (by_any _ _ _ _ _).mono ?_; rintro e w1 ⟨rfl, rfl⟩) | (go_at_call 79; refine (stays_any _ _ _ _ _).mono ?_; rintro e w1 ⟨rfl, hb⟩; obtain ⟨xs, d, rfl⟩ := ext_of hb; clear hb) | (go_at_call 82; refine (ends_any _ _).mono ?_; rintro e w1 ⟨rfl, rfl⟩) | (go_at_call 47; refine (asks_any _ _).mono ?_; rintro e w1 ⟨rfl, rfl⟩) | (go_at_call 83; refine (lower_any _ _).mono ?_; rintro e w1 ⟨rfl, rfl⟩))
    refine bodyPost_ret (v := .tuple #[.agg #[.slice (some ⟨w.heap.size + 1, 0, none⟩) 3 3, .int .i64 8], .bool true]) (by simp [results, Try.results80, go_sem]) rfl ⟨.slice (some ⟨w.heap.size + 1, 0, none⟩) 3 3, rfl, ?_, ?_⟩
    · exact bel
    · exact own_lit (size := 1) (e := 74) (n := 3) (by (repeat (first | ((refine heap_alloc_at _ _ _ ?_); (simp [go_sem]; done)) | ((refine (heap_ext _ _ _ _ ?_).trans ?_); (focus (simp [go_sem]; done))) | ((refine (heap_alloc_past _ _ _ ?_).trans ?_); (focus (simp [go_sem]; done)))))) (by omega) (by decide) rfl rfl
  · go_enter Try.func80, Try.ntmps80
    go_wp2_with (first | (go_at_call 77; refine (only_any _ _).mono ?_; rintro e w1 ⟨rfl, rfl⟩) | (go_at_call 78; refine (by_any _ _ _ _ _).mono ?_; rintro e w1 ⟨rfl, rfl⟩) | (go_at_call 79; refine (stays_any _ _ _ _ _).mono ?_; rintro e w1 ⟨rfl, hb⟩; obtain ⟨xs, d, rfl⟩ := ext_of hb; clear hb) | (go_at_call 82; refine (ends_any _ _).mono ?_; rintro e w1 ⟨rfl, rfl⟩) | (go_at_call 47; refine (asks_any _ _).mono ?_; rintro e w1 ⟨rfl, rfl⟩) | (go_at_call 83; refine (lower_any _ _).mono ?_; rintro e w1 ⟨rfl, rfl⟩))
    refine bodyPost_ret (v := .tuple #[.agg #[.slice none 0 0, .int .i64 4], .bool true]) (by simp [results, Try.results80, go_sem]) rfl ⟨.slice none 0 0, rfl, ?_, ?_⟩
    · exact bel
    · exact own_nil _ _ _ _
  · go_enter Try.func80, Try.ntmps80
    go_wp2_with (first | (go_at_call 77; refine (only_any _ _).mono ?_; rintro e w1 ⟨rfl, rfl⟩) | (go_at_call 78; refine (by_any _ _ _ _ _).mono ?_; rintro e w1 ⟨rfl, rfl⟩) | (go_at_call 79; refine (stays_any _ _ _ _ _).mono ?_; rintro e w1 ⟨rfl, hb⟩; obtain ⟨xs, d, rfl⟩ := ext_of hb; clear hb) | (go_at_call 82; refine (ends_any _ _).mono ?_; rintro e w1 ⟨rfl, rfl⟩) | (go_at_call 47; refine (asks_any _ _).mono ?_; rintro e w1 ⟨rfl, rfl⟩) | (go_at_call 83; refine (lower_any _ _).mono ?_; rintro e w1 ⟨rfl, rfl⟩))
    refine bodyPost_ret (v := .tuple #[.agg #[.slice none 0 0, .int .i64 5], .bool true]) (by simp [results, Try.results80, go_sem]) rfl ⟨.slice none 0 0, rfl, ?_, ?_⟩
    · exact bel
    · exact own_nil _ _ _ _
  · go_enter Try.func80, Try.ntmps80
    go_wp2_with (first | (go_at_call 77; refine (only_any _ _).mono ?_; rintro e w1 ⟨rfl, rfl⟩) | (go_at_call 78; refine (by_any _ _ _ _ _).mono ?_; rintro e w1 ⟨rfl, rfl⟩) | (go_at_call 79; refine (stays_any _ _ _ _ _).mono ?_; rintro e w1 ⟨rfl, hb⟩; obtain ⟨xs, d, rfl⟩ := ext_of hb; clear hb) | (go_at_call 82; refine (ends_any _ _).mono ?_; rintro e w1 ⟨rfl, rfl⟩) | (go_at_call 47; refine (asks_any _ _).mono ?_; rintro e w1 ⟨rfl, rfl⟩) | (go_at_call 83; refine (lower_any _ _).mono ?_; rintro e w1 ⟨rfl, rfl⟩))
    refine bodyPost_ret (v := .tuple #[.agg #[.slice (some ⟨w.heap.size + 1, 0, none⟩) 1 1, .int .i64 8], .bool true]) (by simp [results, Try.results80, go_sem]) rfl ⟨.slice (some ⟨w.heap.size + 1, 0, none⟩) 1 1, rfl, ?_, ?_⟩
    · exact bel
    · exact own_lit (size := 1) (e := 74) (n := 1) (by (repeat (first | ((refine heap_alloc_at _ _ _ ?_); (simp [go_sem]; done)) | ((refine (heap_ext _ _ _ _ ?_).trans ?_); (focus (simp [go_sem]; done))) | ((refine (heap_alloc_past _ _ _ ?_).trans ?_); (focus (simp [go_sem]; done)))))) (by omega) (by decide) rfl rfl
  · go_enter Try.func80, Try.ntmps80
    go_wp2_with (first | (go_at_call 77; refine (only_any _ _).mono ?_; rintro e w1 ⟨rfl, rfl⟩) | (go_at_call 78; refine (by_any _ _ _ _ _).mono ?_; rintro e w1 ⟨rfl, rfl⟩) | (go_at_call 79; refine (stays_any _ _ _ _ _).mono ?_; rintro e w1 ⟨rfl, hb⟩; obtain ⟨xs, d, rfl⟩ := ext_of hb; clear hb) | (go_at_call 82; refine (ends_any _ _).mono ?_; rintro e w1 ⟨rfl, rfl⟩) | (go_at_call 47; refine (asks_any _ _).mono ?_; rintro e w1 ⟨rfl, rfl⟩) | (go_at_call 83; refine (lower_any _ _).mono ?_; rintro e w1 ⟨rfl, rfl⟩))
    refine bodyPost_ret (v := .tuple #[.agg #[.slice (some ⟨w.heap.size + 1, 0, none⟩) 2 2, .int .i64 9], .bool true]) (by simp [results, Try.results80, go_sem]) rfl ⟨.slice (some ⟨w.heap.size + 1, 0, none⟩) 2 2, rfl, ?_, ?_⟩
    · exact bel
    · exact own_lit (size := 1) (e := 74) (n := 2) (by (repeat (first | ((refine heap_alloc_at _ _ _ ?_); (simp [go_sem]; done)) | ((refine (heap_ext _ _ _ _ ?_).trans ?_); (focus (simp [go_sem]; done))) | ((refine (heap_alloc_past _ _ _ ?_).trans ?_); (focus (simp [go_sem]; done)))))) (by omega) (by decide) rfl rfl
  · go_enter Try.func80, Try.ntmps80
    go_wp2_with (first | (go_at_call 77; refine (only_any _ _).mono ?_; rintro e w1 ⟨rfl, rfl⟩) | (go_at_call 78; refine (by_any _ _ _ _ _).mono ?_; rintro e w1 ⟨rfl, rfl⟩) | (go_at_call 79; refine (stays_any _ _ _ _ _).mono ?_; rintro e w1 ⟨rfl, hb⟩; obtain ⟨xs, d, rfl⟩ := ext_of hb; clear hb) | (go_at_call 82; refine (ends_any _ _).mono ?_; rintro e w1 ⟨rfl, rfl⟩) | (go_at_call 47; refine (asks_any _ _).mono ?_; rintro e w1 ⟨rfl, rfl⟩) | (go_at_call 83; refine (lower_any _ _).mono ?_; rintro e w1 ⟨rfl, rfl⟩))
    refine bodyPost_ret (v := .tuple #[.agg #[.slice (some ⟨w.heap.size + 1, 0, none⟩) 1 1, .int .i64 8], .bool true]) (by simp [results, Try.results80, go_sem]) rfl ⟨.slice (some ⟨w.heap.size + 1, 0, none⟩) 1 1, rfl, ?_, ?_⟩
    · exact bel
    · exact own_lit (size := 1) (e := 74) (n := 1) (by (repeat (first | ((refine heap_alloc_at _ _ _ ?_); (simp [go_sem]; done)) | ((refine (heap_ext _ _ _ _ ?_).trans ?_); (focus (simp [go_sem]; done))) | ((refine (heap_alloc_past _ _ _ ?_).trans ?_); (focus (simp [go_sem]; done)))))) (by omega) (by decide) rfl rfl
  · go_enter Try.func80, Try.ntmps80
    go_wp2_with (first | (go_at_call 77; refine (only_any _ _).mono ?_; rintro e w1 ⟨rfl, rfl⟩) | (go_at_call 78; refine (by_any _ _ _ _ _).mono ?_; rintro e w1 ⟨rfl, rfl⟩) | (go_at_call 79; refine (stays_any _ _ _ _ _).mono ?_; rintro e w1 ⟨rfl, hb⟩; obtain ⟨xs, d, rfl⟩ := ext_of hb; clear hb) | (go_at_call 82; refine (ends_any _ _).mono ?_; rintro e w1 ⟨rfl, rfl⟩) | (go_at_call 47; refine (asks_any _ _).mono ?_; rintro e w1 ⟨rfl, rfl⟩) | (go_at_call 83; refine (lower_any _ _).mono ?_; rintro e w1 ⟨rfl, rfl⟩))
    refine bodyPost_ret (v := .tuple #[.agg #[.slice (some ⟨w.heap.size + 1, 0, none⟩) 3 3, .int .i64 8], .bool true]) (by simp [results, Try.results80, go_sem]) rfl ⟨.slice (some ⟨w.heap.size + 1, 0, none⟩) 3 3, rfl, ?_, ?_⟩
    · exact bel
    · exact own_lit (size := 1) (e := 74) (n := 3) (by (repeat (first | ((refine heap_alloc_at _ _ _ ?_); (simp [go_sem]; done)) | ((refine (heap_ext _ _ _ _ ?_).trans ?_); (focus (simp [go_sem]; done))) | ((refine (heap_alloc_past _ _ _ ?_).trans ?_); (focus (simp [go_sem]; done)))))) (by omega) (by decide) rfl rfl
set_option maxHeartbeats 2000000 in
theorem asked7_no (s : Int) (w : World) (h0 : 0 ≤ s) (h9 : s ≤ 9) (h : tabOk 7 s = false) : Calls Try.prog 80 #[.int .i64 s, .int .i64 8] w (MNo w) := by
  have hs : s = 0 ∨ s = 1 := by
    rcases ten h0 h9 with rfl | rfl | rfl | rfl | rfl | rfl | rfl | rfl | rfl | rfl <;> first | decide | (exfalso; revert h; decide)
  clear h h0 h9
  rcases hs with rfl | rfl
  · go_enter Try.func80, Try.ntmps80
    go_wp2_with (first | (go_at_call 77; refine (only_any _ _).mono ?_; rintro e w1 ⟨rfl, rfl⟩) | (go_at_call 78; refine (by_any _ _ _ _ _).mono ?_; rintro e w1 ⟨rfl, rfl⟩) | (go_at_call 79; refine (stays_any _ _ _ _ _).mono ?_; rintro e w1 ⟨rfl, hb⟩; obtain ⟨xs, d, rfl⟩ := ext_of hb; clear hb) | (go_at_call 82; refine (ends_any _ _).mono ?_; rintro e w1 ⟨rfl, rfl⟩) | (go_at_call 47; refine (asks_any _ _).mono ?_; rintro e w1 ⟨rfl, rfl⟩) | (go_at_call 83; refine (lower_any _ _).mono ?_; rintro e w1 ⟨rfl, rfl⟩))
    exact bodyPost_ret (v := .tuple #[.agg #[.slice none 0 0, .int .i64 0], .bool false]) (by simp [results, Try.results80, go_sem]) rfl ⟨_, _, _, _, rfl, by exact bel⟩
  · go_enter Try.func80, Try.ntmps80
    go_wp2_with (first | (go_at_call 77; refine (only_any _ _).mono ?_; rintro e w1 ⟨rfl, rfl⟩) | (go_at_call 78; refine (by_any _ _ _ _ _).mono ?_; rintro e w1 ⟨rfl, rfl⟩) | (go_at_call 79; refine (stays_any _ _ _ _ _).mono ?_; rintro e w1 ⟨rfl, hb⟩; obtain ⟨xs, d, rfl⟩ := ext_of hb; clear hb) | (go_at_call 82; refine (ends_any _ _).mono ?_; rintro e w1 ⟨rfl, rfl⟩) | (go_at_call 47; refine (asks_any _ _).mono ?_; rintro e w1 ⟨rfl, rfl⟩) | (go_at_call 83; refine (lower_any _ _).mono ?_; rintro e w1 ⟨rfl, rfl⟩))
    exact bodyPost_ret (v := .tuple #[.agg #[.slice none 0 0, .int .i64 0], .bool false]) (by simp [results, Try.results80, go_sem]) rfl ⟨_, _, _, _, rfl, by exact bel⟩
theorem good_yes (s : Int) (w : World) (h : tabOk 7 s = true) : Calls Try.prog 55 #[.int .i64 s] w (MYes 7 s w) := by
  have H := Lib.hid h
  clear h
  go_enter Try.func55, Try.ntmps55
  go_wp2_with (go_at_call 80; refine (asked7_yes s _ H.out).mono ?_; rintro e w1 ⟨v, rfl, hb, ho⟩; obtain ⟨xs, d, rfl⟩ := ext_of hb; clear hb; obtain ⟨A, c, rfl, -, -⟩ := ownsRow_form ho; have HA := Lib.hid ho; clear ho)
  exact bodyPost_ret (v := .tuple #[.agg #[.slice A _ c, .int .i64 _], .bool true]) (by simp [results, Try.results55, go_sem]) rfl ⟨_, rfl, by exact bel, own_base (own_swap HA.out (by simp) (Nat.le_refl _)) (by simp)⟩
theorem good_no (s : Int) (w : World) (h0 : 0 ≤ s) (h9 : s ≤ 9) (h : tabOk 7 s = false) : Calls Try.prog 55 #[.int .i64 s] w (MNo w) := by
  have H := Lib.hid (And.intro h0 (And.intro h9 h))
  clear h h0 h9
  go_enter Try.func55, Try.ntmps55
  go_wp2_with (go_at_call 80; refine (asked7_no s _ H.out.1 H.out.2.1 H.out.2.2).mono ?_; rintro e w1 ⟨A, n, c, y, rfl, hb⟩; obtain ⟨xs, d, rfl⟩ := ext_of hb; clear hb)
  exact bodyPost_ret (v := .tuple #[.agg #[.slice A n c, .int .i64 y], .bool false]) (by simp [results, Try.results55, go_sem]) rfl ⟨_, _, _, _, rfl, by exact bel⟩
end Go.Proofs.Ythidhfkbfoejbaa.Fs
namespace Go.Proofs.Ythidhfkbfoejbaa.Fs
open Go.RowKit
set_option linter.unusedSimpArgs false
set_option linter.unusedVariables false
set_option maxHeartbeats 2000000 in
theorem asked8_yes (s : Int) (w : World) (h : tabOk 8 s = true) : Calls Try.prog 80 #[.int .i64 s, .int .i64 9] w (MYes 8 s w) := by
  obtain ⟨-, -, h0, h9⟩ := tabOk_in h
  have hs : s = 2 ∨ s = 3 ∨ s = 4 ∨ s = 5 ∨ s = 6 ∨ s = 7 ∨ s = 8 ∨ s = 9 := by
    rcases ten h0 h9 with rfl | rfl | rfl | rfl | rfl | rfl | rfl | rfl | rfl | rfl <;> first | decide | (exfalso; revert h; decide)
  clear h h0 h9
  rcases hs with rfl | rfl | rfl | rfl | rfl | rfl | rfl | rfl
  · go_enter Try.func80, Try.ntmps80
    go_wp2_with (first | (go_at_call 77; refine (only_any _ _).mono ?_; rintro e w1 ⟨rfl, rfl⟩) | (go_at_call 78; refine (by_any _ _ _ _ _).mono ?_; rintro e w1 ⟨rfl, rfl⟩) | (go_at_call 79; refine (stays_any _ _ _ _ _).mono ?_; rintro e w1 ⟨rfl, hb⟩; obtain ⟨xs, d, rfl⟩ := ext_of hb; clear hb) | (go_at_call 82; refine (ends_any _ _).mono ?_; rintro e w1 ⟨rfl, rfl⟩) | (go_at_call 47; refine (asks_any _ _).mono ?_; rintro e w1 ⟨rfl, rfl⟩) | (go_at_call 83; refine (lower_any _ _).mono ?_; rintro e w1 ⟨rfl, rfl⟩))
    refine bodyPost_ret (v := .tuple #[.agg #[.slice (some ⟨w.heap.size + 1, 0, none⟩) 1 1, .int .i64 2], .bool true]) (by simp [results, Try.results80, go_sem]) rfl ⟨.slice (some ⟨w.heap.size + 1, 0, none⟩) 1 1, rfl, ?_, ?_⟩
    · exact bel
    · exact own_lit (size := 1) (e := 74) (n := 1) (by (repeat (first | ((refine heap_alloc_at _ _ _ ?_); (simp [go_sem]; done)) | ((refine (heap_ext _ _ _ _ ?_).trans ?_); (focus (simp [go_sem]; done))) | ((refine (heap_alloc_past _ _ _ ?_).trans ?_); (focus (simp [go_sem]; done)))))) (by omega) (by decide) rfl rfl
  · go_enter Try.func80, Try.ntmps80
    go_wp2_with (first | (go_at_call 77; refine (only_any _ _).mono ?_; rintro e w1 ⟨rfl, rfl⟩) | (go_at_call 78; refine (by_any _ _ _ _ _).mono ?_; rintro e w1 ⟨rfl, rfl⟩) | (go_at_call 79; refine (stays_any _ _ _ _ _).mono ?_; rintro e w1 ⟨rfl, hb⟩; obtain ⟨xs, d, rfl⟩ := ext_of hb; clear hb) | (go_at_call 82; refine (ends_any _ _).mono ?_; rintro e w1 ⟨rfl, rfl⟩) | (go_at_call 47; refine (asks_any _ _).mono ?_; rintro e w1 ⟨rfl, rfl⟩) | (go_at_call 83; refine (lower_any _ _).mono ?_; rintro e w1 ⟨rfl, rfl⟩))
    refine bodyPost_ret (v := .tuple #[.agg #[.slice (some ⟨w.heap.size + 1, 0, none⟩) 3 3, .int .i64 6], .bool true]) (by simp [results, Try.results80, go_sem]) rfl ⟨.slice (some ⟨w.heap.size + 1, 0, none⟩) 3 3, rfl, ?_, ?_⟩
    · exact bel
    · exact own_lit (size := 1) (e := 74) (n := 3) (by (repeat (first | ((refine heap_alloc_at _ _ _ ?_); (simp [go_sem]; done)) | ((refine (heap_ext _ _ _ _ ?_).trans ?_); (focus (simp [go_sem]; done))) | ((refine (heap_alloc_past _ _ _ ?_).trans ?_); (focus (simp [go_sem]; done)))))) (by omega) (by decide) rfl rfl
  · go_enter Try.func80, Try.ntmps80
    go_wp2_with (first | (go_at_call 77; refine (only_any _ _).mono ?_; rintro e w1 ⟨rfl, rfl⟩) | (go_at_call 78; refine (by_any _ _ _ _ _).mono ?_; rintro e w1 ⟨rfl, rfl⟩) | (go_at_call 79; refine (stays_any _ _ _ _ _).mono ?_; rintro e w1 ⟨rfl, hb⟩; obtain ⟨xs, d, rfl⟩ := ext_of hb; clear hb) | (go_at_call 82; refine (ends_any _ _).mono ?_; rintro e w1 ⟨rfl, rfl⟩) | (go_at_call 47; refine (asks_any _ _).mono ?_; rintro e w1 ⟨rfl, rfl⟩) | (go_at_call 83; refine (lower_any _ _).mono ?_; rintro e w1 ⟨rfl, rfl⟩))
    refine bodyPost_ret (v := .tuple #[.agg #[.slice none 0 0, .int .i64 4], .bool true]) (by simp [results, Try.results80, go_sem]) rfl ⟨.slice none 0 0, rfl, ?_, ?_⟩
    · exact bel
    · exact own_nil _ _ _ _
  · go_enter Try.func80, Try.ntmps80
    go_wp2_with (first | (go_at_call 77; refine (only_any _ _).mono ?_; rintro e w1 ⟨rfl, rfl⟩) | (go_at_call 78; refine (by_any _ _ _ _ _).mono ?_; rintro e w1 ⟨rfl, rfl⟩) | (go_at_call 79; refine (stays_any _ _ _ _ _).mono ?_; rintro e w1 ⟨rfl, hb⟩; obtain ⟨xs, d, rfl⟩ := ext_of hb; clear hb) | (go_at_call 82; refine (ends_any _ _).mono ?_; rintro e w1 ⟨rfl, rfl⟩) | (go_at_call 47; refine (asks_any _ _).mono ?_; rintro e w1 ⟨rfl, rfl⟩) | (go_at_call 83; refine (lower_any _ _).mono ?_; rintro e w1 ⟨rfl, rfl⟩))
    refine bodyPost_ret (v := .tuple #[.agg #[.slice none 0 0, .int .i64 5], .bool true]) (by simp [results, Try.results80, go_sem]) rfl ⟨.slice none 0 0, rfl, ?_, ?_⟩
    · exact bel
    · exact own_nil _ _ _ _
  · go_enter Try.func80, Try.ntmps80
    go_wp2_with (first | (go_at_call 77; refine (only_any _ _).mono ?_; rintro e w1 ⟨rfl, rfl⟩) | (go_at_call 78; refine (by_any _ _ _ _ _).mono ?_; rintro e w1 ⟨rfl, rfl⟩) | (go_at_call 79; refine (stays_any _ _ _ _ _).mono ?_; rintro e w1 ⟨rfl, hb⟩; obtain ⟨xs, d, rfl⟩ := ext_of hb; clear hb) | (go_at_call 82; refine (ends_any _ _).mono ?_; rintro e w1 ⟨rfl, rfl⟩) | (go_at_call 47; refine (asks_any _ _).mono ?_; rintro e w1 ⟨rfl, rfl⟩) | (go_at_call 83; refine (lower_any _ _).mono ?_; rintro e w1 ⟨rfl, rfl⟩))
    refine bodyPost_ret (v := .tuple #[.agg #[.slice (some ⟨w.heap.size + 1, 0, none⟩) 1 1, .int .i64 6], .bool true]) (by simp [results, Try.results80, go_sem]) rfl ⟨.slice (some ⟨w.heap.size + 1, 0, none⟩) 1 1, rfl, ?_, ?_⟩
    · exact bel
    · exact own_lit (size := 1) (e := 74) (n := 1) (by (repeat (first | ((refine heap_alloc_at _ _ _ ?_); (simp [go_sem]; done)) | ((refine (heap_ext _ _ _ _ ?_).trans ?_); (focus (simp [go_sem]; done))) | ((refine (heap_alloc_past _ _ _ ?_).trans ?_); (focus (simp [go_sem]; done)))))) (by omega) (by decide) rfl rfl
  · go_enter Try.func80, Try.ntmps80
    go_wp2_with (first | (go_at_call 77; refine (only_any _ _).mono ?_; rintro e w1 ⟨rfl, rfl⟩) | (go_at_call 78; refine (by_any _ _ _ _ _).mono ?_; rintro e w1 ⟨rfl, rfl⟩) | (go_at_call 79; refine (stays_any _ _ _ _ _).mono ?_; rintro e w1 ⟨rfl, hb⟩; obtain ⟨xs, d, rfl⟩ := ext_of hb; clear hb) | (go_at_call 82; refine (ends_any _ _).mono ?_; rintro e w1 ⟨rfl, rfl⟩) | (go_at_call 47; refine (asks_any _ _).mono ?_; rintro e w1 ⟨rfl, rfl⟩) | (go_at_call 83; refine (lower_any _ _).mono ?_; rintro e w1 ⟨rfl, rfl⟩))
    refine bodyPost_ret (v := .tuple #[.agg #[.slice (some ⟨w.heap.size + 1, 0, none⟩) 1 1, .int .i64 7], .bool true]) (by simp [results, Try.results80, go_sem]) rfl ⟨.slice (some ⟨w.heap.size + 1, 0, none⟩) 1 1, rfl, ?_, ?_⟩
    · exact bel
    · exact own_lit (size := 1) (e := 74) (n := 1) (by (repeat (first | ((refine heap_alloc_at _ _ _ ?_); (simp [go_sem]; done)) | ((refine (heap_ext _ _ _ _ ?_).trans ?_); (focus (simp [go_sem]; done))) | ((refine (heap_alloc_past _ _ _ ?_).trans ?_); (focus (simp [go_sem]; done)))))) (by omega) (by decide) rfl rfl
  · go_enter Try.func80, Try.ntmps80
    go_wp2_with (first | (go_at_call 77; refine (only_any _ _).mono ?_; rintro e w1 ⟨rfl, rfl⟩) | (go_at_call 78; refine (by_any _ _ _ _ _).mono ?_; rintro e w1 ⟨rfl, rfl⟩) | (go_at_call 79; refine (stays_any _ _ _ _ _).mono ?_; rintro e w1 ⟨rfl, hb⟩; obtain ⟨xs, d, rfl⟩ := ext_of hb; clear hb) | (go_at_call 82; refine (ends_any _ _).mono ?_; rintro e w1 ⟨rfl, rfl⟩) | (go_at_call 47; refine (asks_any _ _).mono ?_; rintro e w1 ⟨rfl, rfl⟩) | (go_at_call 83; refine (lower_any _ _).mono ?_; rintro e w1 ⟨rfl, rfl⟩))
    refine bodyPost_ret (v := .tuple #[.agg #[.slice (some ⟨w.heap.size + 1, 0, none⟩) 1 1, .int .i64 6], .bool true]) (by simp [results, Try.results80, go_sem]) rfl ⟨.slice (some ⟨w.heap.size + 1, 0, none⟩) 1 1, rfl, ?_, ?_⟩
    · exact bel
    · exact own_lit (size := 1) (e := 74) (n := 1) (by (repeat (first | ((refine heap_alloc_at _ _ _ ?_); (simp [go_sem]; done)) | ((refine (heap_ext _ _ _ _ ?_).trans ?_); (focus (simp [go_sem]; done))) | ((refine (heap_alloc_past _ _ _ ?_).trans ?_); (focus (simp [go_sem]; done)))))) (by omega) (by decide) rfl rfl
  · go_enter Try.func80, Try.ntmps80
    go_wp2_with (first | (go_at_call 77; refine (only_any _ _).mono ?_; rintro e w1 ⟨rfl, rfl⟩) | (go_at_call 78; refine (by_any _ _ _ _ _).mono ?_; rintro e w1 ⟨rfl, rfl⟩) | (go_at_call 79; refine (stays_any _ _ _ _ _).mono ?_; rintro e w1 ⟨rfl, hb⟩; obtain ⟨xs, d, rfl⟩ := ext_of hb; clear hb) | (go_at_call 82; refine (ends_any _ _).mono ?_; rintro e w1 ⟨rfl, rfl⟩) | (go_at_call 47; refine (asks_any _ _).mono ?_; rintro e w1 ⟨rfl, rfl⟩) | (go_at_call 83; refine (lower_any _ _).mono ?_; rintro e w1 ⟨rfl, rfl⟩))
    refine bodyPost_ret (v := .tuple #[.agg #[.slice (some ⟨w.heap.size + 1, 0, none⟩) 3 3, .int .i64 6], .bool true]) (by simp [results, Try.results80, go_sem]) rfl ⟨.slice (some ⟨w.heap.size + 1, 0, none⟩) 3 3, rfl, ?_, ?_⟩
    · exact bel
    · exact own_lit (size := 1) (e := 74) (n := 3) (by (repeat (first | ((refine heap_alloc_at _ _ _ ?_); (simp [go_sem]; done)) | ((refine (heap_ext _ _ _ _ ?_).trans ?_); (focus (simp [go_sem]; done))) | ((refine (heap_alloc_past _ _ _ ?_).trans ?_); (focus (simp [go_sem]; done)))))) (by omega) (by decide) rfl rfl
set_option maxHeartbeats 2000000 in
theorem asked8_no (s : Int) (w : World) (h0 : 0 ≤ s) (h9 : s ≤ 9) (h : tabOk 8 s = false) : Calls Try.prog 80 #[.int .i64 s, .int .i64 9] w (MNo w) := by
  have hs : s = 0 ∨ s = 1 := by
    rcases ten h0 h9 with rfl | rfl | rfl | rfl | rfl | rfl | rfl | rfl | rfl | rfl <;> first | decide | (exfalso; revert h; decide)
  clear h h0 h9
  rcases hs with rfl | rfl
  · go_enter Try.func80, Try.ntmps80
    go_wp2_with (first | (go_at_call 77; refine (only_any _ _).mono ?_; rintro e w1 ⟨rfl, rfl⟩) | (go_at_call 78; refine (by_any _ _ _ _ _).mono ?_; rintro e w1 ⟨rfl, rfl⟩) | (go_at_call 79; refine (stays_any _ _ _ _ _).mono ?_; rintro e w1 ⟨rfl, hb⟩; obtain ⟨xs, d, rfl⟩ := ext_of hb; clear hb) | (go_at_call 82; refine (ends_any _ _).mono ?_; rintro e w1 ⟨rfl, rfl⟩) | (go_at_call 47; refine (asks_any _ _).mono ?_; rintro e w1 ⟨rfl, rfl⟩) | (go_at_call 83; refine (lower_any _ _).mono ?_; rintro e w1 ⟨rfl, rfl⟩))
    exact bodyPost_ret (v := .tuple #[.agg #[.slice none 0 0, .int .i64 0], .bool false]) (by simp [results, Try.results80, go_sem]) rfl ⟨_, _, _, _, rfl, by exact bel⟩
  · go_enter Try.func80, Try.ntmps80
    go_wp2_with (first | (go_at_call 77; refine (only_any _ _).mono ?_; rintro e w1 ⟨rfl, rfl⟩) | (go_at_call 78; refine (by_any _ _ _ _ _).mono ?_; rintro e w1 ⟨rfl, rfl⟩) | (go_at_call 79; refine (stays_any _ _ _ _ _).mono ?_; rintro e w1 ⟨rfl, hb⟩; obtain ⟨xs, d, rfl⟩ := ext_of hb; clear hb) | (go_at_call 82; refine (ends_any _ _).mono ?_; rintro e w1 ⟨rfl, rfl⟩) | (go_at_call 47; refine (asks_any _ _).mono ?_; rintro e w1 ⟨rfl, rfl⟩) | (go_at_call 83; refine (lower_any _ _).mono ?_; rintro e w1 ⟨rfl, rfl⟩))
    exact bodyPost_ret (v := .tuple #[.agg #[.slice none 0 0, .int .i64 0], .bool false]) (by simp [results, Try.results80, go_sem]) rfl ⟨_, _, _, _, rfl, by exact bel⟩
theorem bad_yes (s : Int) (w : World) (h : tabOk 8 s = true) : Calls Try.prog 56 #[.int .i64 s] w (MYes 8 s w) := by
  have H := Lib.hid h
  clear h
  go_enter Try.func56, Try.ntmps56
  go_wp2_with (go_at_call 80; refine (asked8_yes s _ H.out).mono ?_; rintro e w1 ⟨v, rfl, hb, ho⟩; obtain ⟨xs, d, rfl⟩ := ext_of hb; clear hb; obtain ⟨A, c, rfl, -, -⟩ := ownsRow_form ho; have HA := Lib.hid ho; clear ho)
  exact bodyPost_ret (v := .tuple #[.agg #[.slice A _ c, .int .i64 _], .bool true]) (by simp [results, Try.results56, go_sem]) rfl ⟨_, rfl, by exact bel, own_base (own_swap HA.out (by simp) (Nat.le_refl _)) (by simp)⟩
theorem bad_no (s : Int) (w : World) (h0 : 0 ≤ s) (h9 : s ≤ 9) (h : tabOk 8 s = false) : Calls Try.prog 56 #[.int .i64 s] w (MNo w) := by
  have H := Lib.hid (And.intro h0 (And.intro h9 h))
  clear h h0 h9
  go_enter Try.func56, Try.ntmps56
  go_wp2_with (go_at_call 80; refine (asked8_no s _ H.out.1 H.out.2.1 H.out.2.2).mono ?_; rintro e w1 ⟨A, n, c, y, rfl, hb⟩; obtain ⟨xs, d, rfl⟩ := ext_of hb; clear hb)
  exact bodyPost_ret (v := .tuple #[.agg #[.slice A n c, .int .i64 y], .bool false]) (by simp [results, Try.results56, go_sem]) rfl ⟨_, _, _, _, rfl, by exact bel⟩
end Go.Proofs.Ythidhfkbfoejbaa.Fs
namespace Go.Proofs.Ythidhfkbfoejbaa.Fs
open Go.RowKit
set_option linter.unusedSimpArgs false
set_option linter.unusedVariables false
set_option maxHeartbeats 2000000 in
theorem rest9_yes (s : Int) (w : World) (hs : s = 2 ∨ s = 3 ∨ s = 4 ∨ s = 5) : Calls Try.prog 81 #[.int .i64 s] w (MYes 9 s w) := by
  rcases hs with rfl | rfl | rfl | rfl
  · go_enter Try.func81, Try.ntmps81
    go_wp2_with (first | (go_at_call 77; refine (only_any _ _).mono ?_; rintro e w1 ⟨rfl, rfl⟩) | (go_at_call 78; refine (by_any _ _ _ _ _).mono ?_; rintro e w1 ⟨rfl, rfl⟩) | (go_at_call 79; refine (stays_any _ _ _ _ _).mono ?_; rintro e w1 ⟨rfl, hb⟩; obtain ⟨xs, d, rfl⟩ := ext_of hb; clear hb) | (go_at_call 82; refine (ends_any _ _).mono ?_; rintro e w1 ⟨rfl, rfl⟩) | (go_at_call 47; refine (asks_any _ _).mono ?_; rintro e w1 ⟨rfl, rfl⟩) | (go_at_call 83; refine (lower_any _ _).mono ?_; rintro e w1 ⟨rfl, rfl⟩))
    refine bodyPost_ret (v := .tuple #[.agg #[.slice (some ⟨w.heap.size + 1, 0, none⟩) 1 1, .int .i64 2], .bool true]) (by simp [results, Try.results81, go_sem]) rfl ⟨.slice (some ⟨w.heap.size + 1, 0, none⟩) 1 1, rfl, ?_, ?_⟩
    · exact bel
    · exact own_lit (size := 1) (e := 74) (n := 1) (by (repeat (first | ((refine heap_alloc_at _ _ _ ?_); (simp [go_sem]; done)) | ((refine (heap_ext _ _ _ _ ?_).trans ?_); (focus (simp [go_sem]; done))) | ((refine (heap_alloc_past _ _ _ ?_).trans ?_); (focus (simp [go_sem]; done)))))) (by omega) (by decide) rfl rfl
  · go_enter Try.func81, Try.ntmps81
    go_wp2_with (first | (go_at_call 77; refine (only_any _ _).mono ?_; rintro e w1 ⟨rfl, rfl⟩) | (go_at_call 78; refine (by_any _ _ _ _ _).mono ?_; rintro e w1 ⟨rfl, rfl⟩) | (go_at_call 79; refine (stays_any _ _ _ _ _).mono ?_; rintro e w1 ⟨rfl, hb⟩; obtain ⟨xs, d, rfl⟩ := ext_of hb; clear hb) | (go_at_call 82; refine (ends_any _ _).mono ?_; rintro e w1 ⟨rfl, rfl⟩) | (go_at_call 47; refine (asks_any _ _).mono ?_; rintro e w1 ⟨rfl, rfl⟩) | (go_at_call 83; refine (lower_any _ _).mono ?_; rintro e w1 ⟨rfl, rfl⟩))
    refine bodyPost_ret (v := .tuple #[.agg #[.slice (some ⟨w.heap.size + 1, 0, none⟩) 1 1, .int .i64 3], .bool true]) (by simp [results, Try.results81, go_sem]) rfl ⟨.slice (some ⟨w.heap.size + 1, 0, none⟩) 1 1, rfl, ?_, ?_⟩
    · exact bel
    · exact own_lit (size := 1) (e := 74) (n := 1) (by (repeat (first | ((refine heap_alloc_at _ _ _ ?_); (simp [go_sem]; done)) | ((refine (heap_ext _ _ _ _ ?_).trans ?_); (focus (simp [go_sem]; done))) | ((refine (heap_alloc_past _ _ _ ?_).trans ?_); (focus (simp [go_sem]; done)))))) (by omega) (by decide) rfl rfl
  · go_enter Try.func81, Try.ntmps81
    go_wp2_with (first | (go_at_call 77; refine (only_any _ _).mono ?_; rintro e w1 ⟨rfl, rfl⟩) | (go_at_call 78; refine (by_any _ _ _ _ _).mono ?_; rintro e w1 ⟨rfl, rfl⟩) | (go_at_call 79; refine (stays_any _ _ _ _ _).mono ?_; rintro e w1 ⟨rfl, hb⟩; obtain ⟨xs, d, rfl⟩ := ext_of hb; clear hb) | (go_at_call 82; refine (ends_any _ _).mono ?_; rintro e w1 ⟨rfl, rfl⟩) | (go_at_call 47; refine (asks_any _ _).mono ?_; rintro e w1 ⟨rfl, rfl⟩) | (go_at_call 83; refine (lower_any _ _).mono ?_; rintro e w1 ⟨rfl, rfl⟩))
    refine bodyPost_ret (v := .tuple #[.agg #[.slice none 0 0, .int .i64 4], .bool true]) (by simp [results, Try.results81, go_sem]) rfl ⟨.slice none 0 0, rfl, ?_, ?_⟩
    · exact bel
    · exact own_nil _ _ _ _
  · go_enter Try.func81, Try.ntmps81
    go_wp2_with (first | (go_at_call 77; refine (only_any _ _).mono ?_; rintro e w1 ⟨rfl, rfl⟩) | (go_at_call 78; refine (by_any _ _ _ _ _).mono ?_; rintro e w1 ⟨rfl, rfl⟩) | (go_at_call 79; refine (stays_any _ _ _ _ _).mono ?_; rintro e w1 ⟨rfl, hb⟩; obtain ⟨xs, d, rfl⟩ := ext_of hb; clear hb) | (go_at_call 82; refine (ends_any _ _).mono ?_; rintro e w1 ⟨rfl, rfl⟩) | (go_at_call 47; refine (asks_any _ _).mono ?_; rintro e w1 ⟨rfl, rfl⟩) | (go_at_call 83; refine (lower_any _ _).mono ?_; rintro e w1 ⟨rfl, rfl⟩))
    refine bodyPost_ret (v := .tuple #[.agg #[.slice none 0 0, .int .i64 5], .bool true]) (by simp [results, Try.results81, go_sem]) rfl ⟨.slice none 0 0, rfl, ?_, ?_⟩
    · exact bel
    · exact own_nil _ _ _ _
set_option maxHeartbeats 2000000 in
theorem acked_yes (s : Int) (w : World) (h : tabOk 9 s = true) : Calls Try.prog 57 #[.int .i64 s] w (MYes 9 s w) := by
  obtain ⟨-, -, h0, h9⟩ := tabOk_in h
  have hs : s = 2 ∨ s = 3 ∨ s = 4 ∨ s = 5 ∨ s = 6 ∨ s = 7 ∨ s = 8 ∨ s = 9 := by
    rcases ten h0 h9 with rfl | rfl | rfl | rfl | rfl | rfl | rfl | rfl | rfl | rfl <;> first | decide | (exfalso; revert h; decide)
  clear h h0 h9
  rcases hs with rfl | rfl | rfl | rfl | rfl | rfl | rfl | rfl
  · go_enter Try.func57, Try.ntmps57
    go_wp2_with (go_at_call 81; refine (rest9_yes 2 _ (by decide)).mono ?_; rintro e w1 ⟨v, rfl, hb, ho⟩; obtain ⟨xs, d, rfl⟩ := ext_of hb; clear hb; obtain ⟨A, c, rfl, -, -⟩ := ownsRow_form ho; have HA := Lib.hid ho; clear ho)
    exact bodyPost_ret (v := .tuple #[.agg #[.slice A _ c, .int .i64 _], .bool true]) (by simp [results, Try.results57, go_sem]) rfl ⟨_, rfl, by exact bel, own_base (own_swap HA.out (by simp) (Nat.le_refl _)) (by simp)⟩
  · go_enter Try.func57, Try.ntmps57
    go_wp2_with (go_at_call 81; refine (rest9_yes 3 _ (by decide)).mono ?_; rintro e w1 ⟨v, rfl, hb, ho⟩; obtain ⟨xs, d, rfl⟩ := ext_of hb; clear hb; obtain ⟨A, c, rfl, -, -⟩ := ownsRow_form ho; have HA := Lib.hid ho; clear ho)
    exact bodyPost_ret (v := .tuple #[.agg #[.slice A _ c, .int .i64 _], .bool true]) (by simp [results, Try.results57, go_sem]) rfl ⟨_, rfl, by exact bel, own_base (own_swap HA.out (by simp) (Nat.le_refl _)) (by simp)⟩
  · go_enter Try.func57, Try.ntmps57
    go_wp2_with (go_at_call 81; refine (rest9_yes 4 _ (by decide)).mono ?_; rintro e w1 ⟨v, rfl, hb, ho⟩; obtain ⟨xs, d, rfl⟩ := ext_of hb; clear hb; obtain ⟨A, c, rfl, -, -⟩ := ownsRow_form ho; have HA := Lib.hid ho; clear ho)
    exact bodyPost_ret (v := .tuple #[.agg #[.slice A _ c, .int .i64 _], .bool true]) (by simp [results, Try.results57, go_sem]) rfl ⟨_, rfl, by exact bel, own_base (own_swap HA.out (by simp) (Nat.le_refl _)) (by simp)⟩
  · go_enter Try.func57, Try.ntmps57
    go_wp2_with (go_at_call 81; refine (rest9_yes 5 _ (by decide)).mono ?_; rintro e w1 ⟨v, rfl, hb, ho⟩; obtain ⟨xs, d, rfl⟩ := ext_of hb; clear hb; obtain ⟨A, c, rfl, -, -⟩ := ownsRow_form ho; have HA := Lib.hid ho; clear ho)
    exact bodyPost_ret (v := .tuple #[.agg #[.slice A _ c, .int .i64 _], .bool true]) (by simp [results, Try.results57, go_sem]) rfl ⟨_, rfl, by exact bel, own_base (own_swap HA.out (by simp) (Nat.le_refl _)) (by simp)⟩
  · go_enter Try.func57, Try.ntmps57
    go_wp2_with (first | (go_at_call 77; refine (only_any _ _).mono ?_; rintro e w1 ⟨rfl, rfl⟩) | (go_at_call 78; refine (by_any _ _ _ _ _).mono ?_; rintro e w1 ⟨rfl, rfl⟩) | (go_at_call 79; refine (stays_any _ _ _ _ _).mono ?_; rintro e w1 ⟨rfl, hb⟩; obtain ⟨xs, d, rfl⟩ := ext_of hb; clear hb) | (go_at_call 82; refine (ends_any _ _).mono ?_; rintro e w1 ⟨rfl, rfl⟩) | (go_at_call 47; refine (asks_any _ _).mono ?_; rintro e w1 ⟨rfl, rfl⟩) | (go_at_call 83; refine (lower_any _ _).mono ?_; rintro e w1 ⟨rfl, rfl⟩))
    refine bodyPost_ret (v := .tuple #[.agg #[.slice (some ⟨w.heap.size + 1, 0, none⟩) 1 1, .int .i64 7], .bool true]) (by simp [results, Try.results57, go_sem]) rfl ⟨.slice (some ⟨w.heap.size + 1, 0, none⟩) 1 1, rfl, ?_, ?_⟩
    · exact bel
    · exact own_lit (size := 1) (e := 74) (n := 1) (by (repeat (first | ((refine heap_alloc_at _ _ _ ?_); (simp [go_sem]; done)) | ((refine (heap_ext _ _ _ _ ?_).trans ?_); (focus (simp [go_sem]; done))) | ((refine (heap_alloc_past _ _ _ ?_).trans ?_); (focus (simp [go_sem]; done)))))) (by omega) (by decide) rfl rfl
  · go_enter Try.func57, Try.ntmps57
    go_wp2_with (first | (go_at_call 77; refine (only_any _ _).mono ?_; rintro e w1 ⟨rfl, rfl⟩) | (go_at_call 78; refine (by_any _ _ _ _ _).mono ?_; rintro e w1 ⟨rfl, rfl⟩) | (go_at_call 79; refine (stays_any _ _ _ _ _).mono ?_; rintro e w1 ⟨rfl, hb⟩; obtain ⟨xs, d, rfl⟩ := ext_of hb; clear hb) | (go_at_call 82; refine (ends_any _ _).mono ?_; rintro e w1 ⟨rfl, rfl⟩) | (go_at_call 47; refine (asks_any _ _).mono ?_; rintro e w1 ⟨rfl, rfl⟩) | (go_at_call 83; refine (lower_any _ _).mono ?_; rintro e w1 ⟨rfl, rfl⟩))
    refine bodyPost_ret (v := .tuple #[.agg #[.slice (some ⟨w.heap.size + 1, 0, none⟩) 1 1, .int .i64 6], .bool true]) (by simp [results, Try.results57, go_sem]) rfl ⟨.slice (some ⟨w.heap.size + 1, 0, none⟩) 1 1, rfl, ?_, ?_⟩
    · exact bel
    · exact own_lit (size := 1) (e := 74) (n := 1) (by (repeat (first | ((refine heap_alloc_at _ _ _ ?_); (simp [go_sem]; done)) | ((refine (heap_ext _ _ _ _ ?_).trans ?_); (focus (simp [go_sem]; done))) | ((refine (heap_alloc_past _ _ _ ?_).trans ?_); (focus (simp [go_sem]; done)))))) (by omega) (by decide) rfl rfl
  · go_enter Try.func57, Try.ntmps57
    go_wp2_with (first | (go_at_call 77; refine (only_any _ _).mono ?_; rintro e w1 ⟨rfl, rfl⟩) | (go_at_call 78; refine (by_any _ _ _ _ _).mono ?_; rintro e w1 ⟨rfl, rfl⟩) | (go_at_call 79; refine (stays_any _ _ _ _ _).mono ?_; rintro e w1 ⟨rfl, hb⟩; obtain ⟨xs, d, rfl⟩ := ext_of hb; clear hb) | (go_at_call 82; refine (ends_any _ _).mono ?_; rintro e w1 ⟨rfl, rfl⟩) | (go_at_call 47; refine (asks_any _ _).mono ?_; rintro e w1 ⟨rfl, rfl⟩) | (go_at_call 83; refine (lower_any _ _).mono ?_; rintro e w1 ⟨rfl, rfl⟩))
    refine bodyPost_ret (v := .tuple #[.agg #[.slice (some ⟨w.heap.size + 1, 0, none⟩) 2 2, .int .i64 9], .bool true]) (by simp [results, Try.results57, go_sem]) rfl ⟨.slice (some ⟨w.heap.size + 1, 0, none⟩) 2 2, rfl, ?_, ?_⟩
    · exact bel
    · exact own_lit (size := 1) (e := 74) (n := 2) (by (repeat (first | ((refine heap_alloc_at _ _ _ ?_); (simp [go_sem]; done)) | ((refine (heap_ext _ _ _ _ ?_).trans ?_); (focus (simp [go_sem]; done))) | ((refine (heap_alloc_past _ _ _ ?_).trans ?_); (focus (simp [go_sem]; done)))))) (by omega) (by decide) rfl rfl
  · go_enter Try.func57, Try.ntmps57
    go_wp2_with (first | (go_at_call 77; refine (only_any _ _).mono ?_; rintro e w1 ⟨rfl, rfl⟩) | (go_at_call 78; refine (by_any _ _ _ _ _).mono ?_; rintro e w1 ⟨rfl, rfl⟩) | (go_at_call 79; refine (stays_any _ _ _ _ _).mono ?_; rintro e w1 ⟨rfl, hb⟩; obtain ⟨xs, d, rfl⟩ := ext_of hb; clear hb) | (go_at_call 82; refine (ends_any _ _).mono ?_; rintro e w1 ⟨rfl, rfl⟩) | (go_at_call 47; refine (asks_any _ _).mono ?_; rintro e w1 ⟨rfl, rfl⟩) | (go_at_call 83; refine (lower_any _ _).mono ?_; rintro e w1 ⟨rfl, rfl⟩))
    refine bodyPost_ret (v := .tuple #[.agg #[.slice (some ⟨w.heap.size + 1, 0, none⟩) 2 2, .int .i64 6], .bool true]) (by simp [results, Try.results57, go_sem]) rfl ⟨.slice (some ⟨w.heap.size + 1, 0, none⟩) 2 2, rfl, ?_, ?_⟩
    · exact bel
    · exact own_lit (size := 1) (e := 74) (n := 2) (by (repeat (first | ((refine heap_alloc_at _ _ _ ?_); (simp [go_sem]; done)) | ((refine (heap_ext _ _ _ _ ?_).trans ?_); (focus (simp [go_sem]; done))) | ((refine (heap_alloc_past _ _ _ ?_).trans ?_); (focus (simp [go_sem]; done)))))) (by omega) (by decide) rfl rfl
set_option maxHeartbeats 2000000 in
theorem rest9_no (s : Int) (w : World) (hs : s = 0 ∨ s = 1) : Calls Try.prog 81 #[.int .i64 s] w (MNo w) := by
  rcases hs with rfl | rfl
  · go_enter Try.func81, Try.ntmps81
    go_wp2_with (first | (go_at_call 77; refine (only_any _ _).mono ?_; rintro e w1 ⟨rfl, rfl⟩) | (go_at_call 78; refine (by_any _ _ _ _ _).mono ?_; rintro e w1 ⟨rfl, rfl⟩) | (go_at_call 79; refine (stays_any _ _ _ _ _).mono ?_; rintro e w1 ⟨rfl, hb⟩; obtain ⟨xs, d, rfl⟩ := ext_of hb; clear hb) | (go_at_call 82; refine (ends_any _ _).mono ?_; rintro e w1 ⟨rfl, rfl⟩) | (go_at_call 47; refine (asks_any _ _).mono ?_; rintro e w1 ⟨rfl, rfl⟩) | (go_at_call 83; refine (lower_any _ _).mono ?_; rintro e w1 ⟨rfl, rfl⟩))
    exact bodyPost_ret (v := .tuple #[.agg #[.slice none 0 0, .int .i64 0], .bool false]) (by simp [results, Try.results81, go_sem]) rfl ⟨_, _, _, _, rfl, by exact bel⟩
  · go_enter Try.func81, Try.ntmps81
    go_wp2_with (first | (go_at_call 77; refine (only_any _ _).mono ?_; rintro e w1 ⟨rfl, rfl⟩) | (go_at_call 78; refine (by_any _ _ _ _ _).mono ?_; rintro e w1 ⟨rfl, rfl⟩) | (go_at_call 79; refine (stays_any _ _ _ _ _).mono ?_; rintro e w1 ⟨rfl, hb⟩; obtain ⟨xs, d, rfl⟩ := ext_of hb; clear hb) | (go_at_call 82; refine (ends_any _ _).mono ?_; rintro e w1 ⟨rfl, rfl⟩) | (go_at_call 47; refine (asks_any _ _).mono ?_; rintro e w1 ⟨rfl, rfl⟩) | (go_at_call 83; refine (lower_any _ _).mono ?_; rintro e w1 ⟨rfl, rfl⟩))
    exact bodyPost_ret (v := .tuple #[.agg #[.slice none 0 0, .int .i64 0], .bool false]) (by simp [results, Try.results81, go_sem]) rfl ⟨_, _, _, _, rfl, by exact bel⟩
set_option maxHeartbeats 2000000 in
theorem acked_no (s : Int) (w : World) (h0 : 0 ≤ s) (h9 : s ≤ 9) (h : tabOk 9 s = false) : Calls Try.prog 57 #[.int .i64 s] w (MNo w) := by
  have hs : s = 0 ∨ s = 1 := by
    rcases ten h0 h9 with rfl | rfl | rfl | rfl | rfl | rfl | rfl | rfl | rfl | rfl <;> first | decide | (exfalso; revert h; decide)
  clear h h0 h9
  rcases hs with rfl | rfl
  · go_enter Try.func57, Try.ntmps57
    go_wp2_with (go_at_call 81; refine (rest9_no 0 _ (by decide)).mono ?_; rintro e w1 ⟨A, n, c, y, rfl, hb⟩; obtain ⟨xs, d, rfl⟩ := ext_of hb; clear hb)
    exact bodyPost_ret (v := .tuple #[.agg #[.slice A n c, .int .i64 y], .bool false]) (by simp [results, Try.results57, go_sem]) rfl ⟨_, _, _, _, rfl, by exact bel⟩
  · go_enter Try.func57, Try.ntmps57
    go_wp2_with (go_at_call 81; refine (rest9_no 1 _ (by decide)).mono ?_; rintro e w1 ⟨A, n, c, y, rfl, hb⟩; obtain ⟨xs, d, rfl⟩ := ext_of hb; clear hb)
    exact bodyPost_ret (v := .tuple #[.agg #[.slice A n c, .int .i64 y], .bool false]) (by simp [results, Try.results57, go_sem]) rfl ⟨_, _, _, _, rfl, by exact bel⟩
end Go.Proofs.Ythidhfkbfoejbaa.Fs
namespace Go.Proofs.Ythidhfkbfoejbaa.Fs
open Go.RowKit
set_option linter.unusedSimpArgs false
set_option linter.unusedVariables false
set_option maxHeartbeats 2000000 in
theorem rest10_yes (s : Int) (w : World) (hs : s = 2 ∨ s = 3 ∨ s = 4 ∨ s = 5) : Calls Try.prog 81 #[.int .i64 s] w (MYes 10 s w) := by
  rcases hs with rfl | rfl | rfl | rfl
  · go_enter Try.func81, Try.ntmps81
    go_wp2_with (first | (go_at_call 77; refine (only_any _ _).mono ?_; rintro e w1 ⟨rfl, rfl⟩) | (go_at_call 78; refine (by_any _ _ _ _ _).mono ?_; rintro e w1 ⟨rfl, rfl⟩) | (go_at_call 79; refine (stays_any _ _ _ _ _).mono ?_; rintro e w1 ⟨rfl, hb⟩; obtain ⟨xs, d, rfl⟩ := ext_of hb; clear hb) | (go_at_call 82; refine (ends_any _ _).mono ?_; rintro e w1 ⟨rfl, rfl⟩) | (go_at_call 47; refine (asks_any _ _).mono ?_; rintro e w1 ⟨rfl, rfl⟩) | (go_at_call 83; refine (lower_any _ _).mono ?_; rintro e w1 ⟨rfl, rfl⟩))
    refine bodyPost_ret (v := .tuple #[.agg #[.slice (some ⟨w.heap.size + 1, 0, none⟩) 1 1, .int .i64 2], .bool true]) (by simp [results, Try.results81, go_sem]) rfl ⟨.slice (some ⟨w.heap.size + 1, 0, none⟩) 1 1, rfl, ?_, ?_⟩
    · exact bel
    · exact own_lit (size := 1) (e := 74) (n := 1) (by (repeat (first | ((refine heap_alloc_at _ _ _ ?_); (simp [go_sem]; done)) | ((refine (heap_ext _ _ _ _ ?_).trans ?_); (focus (simp [go_sem]; done))) | ((refine (heap_alloc_past _ _ _ ?_).trans ?_); (focus (simp [go_sem]; done)))))) (by omega) (by decide) rfl rfl
  · go_enter Try.func81, Try.ntmps81
    go_wp2_with (first | (go_at_call 77; refine (only_any _ _).mono ?_; rintro e w1 ⟨rfl, rfl⟩) | (go_at_call 78; refine (by_any _ _ _ _ _).mono ?_; rintro e w1 ⟨rfl, rfl⟩) | (go_at_call 79; refine (stays_any _ _ _ _ _).mono ?_; rintro e w1 ⟨rfl, hb⟩; obtain ⟨xs, d, rfl⟩ := ext_of hb; clear hb) | (go_at_call 82; refine (ends_any _ _).mono ?_; rintro e w1 ⟨rfl, rfl⟩) | (go_at_call 47; refine (asks_any _ _).mono ?_; rintro e w1 ⟨rfl, rfl⟩) | (go_at_call 83; refine (lower_any _ _).mono ?_; rintro e w1 ⟨rfl, rfl⟩))
    refine bodyPost_ret (v := .tuple #[.agg #[.slice (some ⟨w.heap.size + 1, 0, none⟩) 1 1, .int .i64 3], .bool true]) (by simp [results, Try.results81, go_sem]) rfl ⟨.slice (some ⟨w.heap.size + 1, 0, none⟩) 1 1, rfl, ?_, ?_⟩
    · exact bel
    · exact own_lit (size := 1) (e := 74) (n := 1) (by (repeat (first | ((refine heap_alloc_at _ _ _ ?_); (simp [go_sem]; done)) | ((refine (heap_ext _ _ _ _ ?_).trans ?_); (focus (simp [go_sem]; done))) | ((refine (heap_alloc_past _ _ _ ?_).trans ?_); (focus (simp [go_sem]; done)))))) (by omega) (by decide) rfl rfl
  · go_enter Try.func81, Try.ntmps81
    go_wp2_with (first | (go_at_call 77; refine (only_any _ _).mono ?_; rintro e w1 ⟨rfl, rfl⟩) | (go_at_call 78; refine (by_any _ _ _ _ _).mono ?_; rintro e w1 ⟨rfl, rfl⟩) | (go_at_call 79; refine (stays_any _ _ _ _ _).mono ?_; rintro e w1 ⟨rfl, hb⟩; obtain ⟨xs, d, rfl⟩ := ext_of hb; clear hb) | (go_at_call 82; refine (ends_any _ _).mono ?_; rintro e w1 ⟨rfl, rfl⟩) | (go_at_call 47; refine (asks_any _ _).mono ?_; rintro e w1 ⟨rfl, rfl⟩) | (go_at_call 83; refine (lower_any _ _).mono ?_; rintro e w1 ⟨rfl, rfl⟩))
    refine bodyPost_ret (v := .tuple #[.agg #[.slice none 0 0, .int .i64 4], .bool true]) (by simp [results, Try.results81, go_sem]) rfl ⟨.slice none 0 0, rfl, ?_, ?_⟩
    · exact bel
    · exact own_nil _ _ _ _
  · go_enter Try.func81, Try.ntmps81
    go_wp2_with (first | (go_at_call 77; refine (only_any _ _).mono ?_; rintro e w1 ⟨rfl, rfl⟩) | (go_at_call 78; refine (by_any _ _ _ _ _).mono ?_; rintro e w1 ⟨rfl, rfl⟩) | (go_at_call 79; refine (stays_any _ _ _ _ _).mono ?_; rintro e w1 ⟨rfl, hb⟩; obtain ⟨xs, d, rfl⟩ := ext_of hb; clear hb) | (go_at_call 82; refine (ends_any _ _).mono ?_; rintro e w1 ⟨rfl, rfl⟩) | (go_at_call 47; refine (asks_any _ _).mono ?_; rintro e w1 ⟨rfl, rfl⟩) | (go_at_call 83; refine (lower_any _ _).mono ?_; rintro e w1 ⟨rfl, rfl⟩))
    refine bodyPost_ret (v := .tuple #[.agg #[.slice none 0 0, .int .i64 5], .bool true]) (by simp [results, Try.results81, go_sem]) rfl ⟨.slice none 0 0, rfl, ?_, ?_⟩
    · exact bel
    · exact own_nil _ _ _ _
set_option maxHeartbeats 2000000 in
theorem refused_yes (s : Int) (w : World) (h : tabOk 10 s = true) : Calls Try.prog 58 #[.int .i64 s] w (MYes 10 s w) := by
  obtain ⟨-, -, h0, h9⟩ := tabOk_in h
  have hs : s = 2 ∨ s = 3 ∨ s = 4 ∨ s = 5 ∨ s = 6 ∨ s = 7 ∨ s = 8 ∨ s = 9 := by
    rcases ten h0 h9 with rfl | rfl | rfl | rfl | rfl | rfl | rfl | rfl | rfl | rfl <;> first | decide | (exfalso; revert h; decide)
  clear h h0 h9
  rcases hs with rfl | rfl | rfl | rfl | rfl | rfl | rfl | rfl
  · go_enter Try.func58, Try.ntmps58
    go_wp2_with (go_at_call 81; refine (rest10_yes 2 _ (by decide)).mono ?_; rintro e w1 ⟨v, rfl, hb, ho⟩; obtain ⟨xs, d, rfl⟩ := ext_of hb; clear hb; obtain ⟨A, c, rfl, -, -⟩ := ownsRow_form ho; have HA := Lib.hid ho; clear ho)
    exact bodyPost_ret (v := .tuple #[.agg #[.slice A _ c, .int .i64 _], .bool true]) (by simp [results, Try.results58, go_sem]) rfl ⟨_, rfl, by exact bel, own_base (own_swap HA.out (by simp) (Nat.le_refl _)) (by simp)⟩
  · go_enter Try.func58, Try.ntmps58
    go_wp2_with (go_at_call 81; refine (rest10_yes 3 _ (by decide)).mono ?_; rintro e w1 ⟨v, rfl, hb, ho⟩; obtain ⟨xs, d, rfl⟩ := ext_of hb; clear hb; obtain ⟨A, c, rfl, -, -⟩ := ownsRow_form ho; have HA := Lib.hid ho; clear ho)
    exact bodyPost_ret (v := .tuple #[.agg #[.slice A _ c, .int .i64 _], .bool true]) (by simp [results, Try.results58, go_sem]) rfl ⟨_, rfl, by exact bel, own_base (own_swap HA.out (by simp) (Nat.le_refl _)) (by simp)⟩
  · go_enter Try.func58, Try.ntmps58
    go_wp2_with (go_at_call 81; refine (rest10_yes 4 _ (by decide)).mono ?_; rintro e w1 ⟨v, rfl, hb, ho⟩; obtain ⟨xs, d, rfl⟩ := ext_of hb; clear hb; obtain ⟨A, c, rfl, -, -⟩ := ownsRow_form ho; have HA := Lib.hid ho; clear ho)
    exact bodyPost_ret (v := .tuple #[.agg #[.slice A _ c, .int .i64 _], .bool true]) (by simp [results, Try.results58, go_sem]) rfl ⟨_, rfl, by exact bel, own_base (own_swap HA.out (by simp) (Nat.le_refl _)) (by simp)⟩
  · go_enter Try.func58, Try.ntmps58
    go_wp2_with (go_at_call 81; refine (rest10_yes 5 _ (by decide)).mono ?_; rintro e w1 ⟨v, rfl, hb, ho⟩; obtain ⟨xs, d, rfl⟩ := ext_of hb; clear hb; obtain ⟨A, c, rfl, -, -⟩ := ownsRow_form ho; have HA := Lib.hid ho; clear ho)
    exact bodyPost_ret (v := .tuple #[.agg #[.slice A _ c, .int .i64 _], .bool true]) (by simp [results, Try.results58, go_sem]) rfl ⟨_, rfl, by exact bel, own_base (own_swap HA.out (by simp) (Nat.le_refl _)) (by simp)⟩
  · go_enter Try.func58, Try.ntmps58
    go_wp2_with (first | (go_at_call 77; refine (only_any _ _).mono ?_; rintro e w1 ⟨rfl, rfl⟩) | (go_at_call 78; refine (by_any _ _ _ _ _).mono ?_; rintro e w1 ⟨rfl, rfl⟩) | (go_at_call 79; refine (stays_any _ _ _ _ _).mono ?_; rintro e w1 ⟨rfl, hb⟩; obtain ⟨xs, d, rfl⟩ := ext_of hb; clear hb) | (go_at_call 82; refine (ends_any _ _).mono ?_; rintro e w1 ⟨rfl, rfl⟩) | (go_at_call 47; refine (asks_any _ _).mono ?_; rintro e w1 ⟨rfl, rfl⟩) | (go_at_call 83; refine (lower_any _ _).mono ?_; rintro e w1 ⟨rfl, rfl⟩))
    refine bodyPost_ret (v := .tuple #[.agg #[.slice (some ⟨w.heap.size + 1, 0, none⟩) 2 2, .int .i64 6], .bool true]) (by simp [results, Try.results58, go_sem]) rfl ⟨.slice (some ⟨w.heap.size + 1, 0, none⟩) 2 2, rfl, ?_, ?_⟩
    · exact bel
    · exact own_lit (size := 1) (e := 74) (n := 2) (by (repeat (first | ((refine heap_alloc_at _ _ _ ?_); (simp [go_sem]; done)) | ((refine (heap_ext _ _ _ _ ?_).trans ?_); (focus (simp [go_sem]; done))) | ((refine (heap_alloc_past _ _ _ ?_).trans ?_); (focus (simp [go_sem]; done)))))) (by omega) (by decide) rfl rfl
  · go_enter Try.func58, Try.ntmps58
    go_wp2_with (first | (go_at_call 77; refine (only_any _ _).mono ?_; rintro e w1 ⟨rfl, rfl⟩) | (go_at_call 78; refine (by_any _ _ _ _ _).mono ?_; rintro e w1 ⟨rfl, rfl⟩) | (go_at_call 79; refine (stays_any _ _ _ _ _).mono ?_; rintro e w1 ⟨rfl, hb⟩; obtain ⟨xs, d, rfl⟩ := ext_of hb; clear hb) | (go_at_call 82; refine (ends_any _ _).mono ?_; rintro e w1 ⟨rfl, rfl⟩) | (go_at_call 47; refine (asks_any _ _).mono ?_; rintro e w1 ⟨rfl, rfl⟩) | (go_at_call 83; refine (lower_any _ _).mono ?_; rintro e w1 ⟨rfl, rfl⟩))
    refine bodyPost_ret (v := .tuple #[.agg #[.slice (some ⟨w.heap.size + 1, 0, none⟩) 1 1, .int .i64 6], .bool true]) (by simp [results, Try.results58, go_sem]) rfl ⟨.slice (some ⟨w.heap.size + 1, 0, none⟩) 1 1, rfl, ?_, ?_⟩
    · exact bel
    · exact own_lit (size := 1) (e := 74) (n := 1) (by (repeat (first | ((refine heap_alloc_at _ _ _ ?_); (simp [go_sem]; done)) | ((refine (heap_ext _ _ _ _ ?_).trans ?_); (focus (simp [go_sem]; done))) | ((refine (heap_alloc_past _ _ _ ?_).trans ?_); (focus (simp [go_sem]; done)))))) (by omega) (by decide) rfl rfl
  · go_enter Try.func58, Try.ntmps58
    go_wp2_with (first | (go_at_call 77; refine (only_any _ _).mono ?_; rintro e w1 ⟨rfl, rfl⟩) | (go_at_call 78; refine (by_any _ _ _ _ _).mono ?_; rintro e w1 ⟨rfl, rfl⟩) | (go_at_call 79; refine (stays_any _ _ _ _ _).mono ?_; rintro e w1 ⟨rfl, hb⟩; obtain ⟨xs, d, rfl⟩ := ext_of hb; clear hb) | (go_at_call 82; refine (ends_any _ _).mono ?_; rintro e w1 ⟨rfl, rfl⟩) | (go_at_call 47; refine (asks_any _ _).mono ?_; rintro e w1 ⟨rfl, rfl⟩) | (go_at_call 83; refine (lower_any _ _).mono ?_; rintro e w1 ⟨rfl, rfl⟩))
    refine bodyPost_ret (v := .tuple #[.agg #[.slice (some ⟨w.heap.size + 1, 0, none⟩) 2 2, .int .i64 8], .bool true]) (by simp [results, Try.results58, go_sem]) rfl ⟨.slice (some ⟨w.heap.size + 1, 0, none⟩) 2 2, rfl, ?_, ?_⟩
    · exact bel
    · exact own_lit (size := 1) (e := 74) (n := 2) (by (repeat (first | ((refine heap_alloc_at _ _ _ ?_); (simp [go_sem]; done)) | ((refine (heap_ext _ _ _ _ ?_).trans ?_); (focus (simp [go_sem]; done))) | ((refine (heap_alloc_past _ _ _ ?_).trans ?_); (focus (simp [go_sem]; done)))))) (by omega) (by decide) rfl rfl
  · go_enter Try.func58, Try.ntmps58
    go_wp2_with (first | (go_at_call 77; refine (only_any _ _).mono ?_; rintro e w1 ⟨rfl, rfl⟩) | (go_at_call 78; refine (by_any _ _ _ _ _).mono ?_; rintro e w1 ⟨rfl, rfl⟩) | (go_at_call 79; refine (stays_any _ _ _ _ _).mono ?_; rintro e w1 ⟨rfl, hb⟩; obtain ⟨xs, d, rfl⟩ := ext_of hb; clear hb) | (go_at_call 82; refine (ends_any _ _).mono ?_; rintro e w1 ⟨rfl, rfl⟩) | (go_at_call 47; refine (asks_any _ _).mono ?_; rintro e w1 ⟨rfl, rfl⟩) | (go_at_call 83; refine (lower_any _ _).mono ?_; rintro e w1 ⟨rfl, rfl⟩))
    refine bodyPost_ret (v := .tuple #[.agg #[.slice (some ⟨w.heap.size + 1, 0, none⟩) 2 2, .int .i64 6], .bool true]) (by simp [results, Try.results58, go_sem]) rfl ⟨.slice (some ⟨w.heap.size + 1, 0, none⟩) 2 2, rfl, ?_, ?_⟩
    · exact bel
    · exact own_lit (size := 1) (e := 74) (n := 2) (by (repeat (first | ((refine heap_alloc_at _ _ _ ?_); (simp [go_sem]; done)) | ((refine (heap_ext _ _ _ _ ?_).trans ?_); (focus (simp [go_sem]; done))) | ((refine (heap_alloc_past _ _ _ ?_).trans ?_); (focus (simp [go_sem]; done)))))) (by omega) (by decide) rfl rfl
set_option maxHeartbeats 2000000 in
theorem rest10_no (s : Int) (w : World) (hs : s = 0 ∨ s = 1) : Calls Try.prog 81 #[.int .i64 s] w (MNo w) := by
  rcases hs with rfl | rfl
  · go_enter Try.func81, Try.ntmps81
    go_wp2_with (first | (go_at_call 77; refine (only_any _ _).mono ?_; rintro e w1 ⟨rfl, rfl⟩) | (go_at_call 78; refine (by_any _ _ _ _ _).mono ?_; rintro e w1 ⟨rfl, rfl⟩) | (go_at_call 79; refine (stays_any _ _ _ _ _).mono ?_; rintro e w1 ⟨rfl, hb⟩; obtain ⟨xs, d, rfl⟩ := ext_of hb; clear hb) | (go_at_call 82; refine (ends_any _ _).mono ?_; rintro e w1 ⟨rfl, rfl⟩) | (go_at_call 47; refine (asks_any _ _).mono ?_; rintro e w1 ⟨rfl, rfl⟩) | (go_at_call 83; refine (lower_any _ _).mono ?_; rintro e w1 ⟨rfl, rfl⟩))
    exact bodyPost_ret (v := .tuple #[.agg #[.slice none 0 0, .int .i64 0], .bool false]) (by simp [results, Try.results81, go_sem]) rfl ⟨_, _, _, _, rfl, by exact bel⟩
  · go_enter Try.func81, Try.ntmps81
    go_wp2_with (first | (go_at_call 77; refine (only_any _ _).mono ?_; rintro e w1 ⟨rfl, rfl⟩) | (go_at_call 78; refine (by_any _ _ _ _ _).mono ?_; rintro e w1 ⟨rfl, rfl⟩) | (go_at_call 79; refine (stays_any _ _ _ _ _).mono ?_; rintro e w1 ⟨rfl, hb⟩; obtain ⟨xs, d, rfl⟩ := ext_of hb; clear hb) | (go_at_call 82; refine (ends_any _ _).mono ?_; rintro e w1 ⟨rfl, rfl⟩) | (go_at_call 47; refine (asks_any _ _).mono ?_; rintro e w1 ⟨rfl, rfl⟩) | (go_at_call 83; refine (lower_any _ _).mono ?_; rintro e w1 ⟨rfl, rfl⟩))
    exact bodyPost_ret (v := .tuple #[.agg #[.slice none 0 0, .int .i64 0], .bool false]) (by simp [results, Try.results81, go_sem]) rfl ⟨_, _, _, _, rfl, by exact bel⟩
set_option maxHeartbeats 2000000 in
theorem refused_no (s : Int) (w : World) (h0 : 0 ≤ s) (h9 : s ≤ 9) (h : tabOk 10 s = false) : Calls Try.prog 58 #[.int .i64 s] w (MNo w) := by
  have hs : s = 0 ∨ s = 1 := by
    rcases ten h0 h9 with rfl | rfl | rfl | rfl | rfl | rfl | rfl | rfl | rfl | rfl <;> first | decide | (exfalso; revert h; decide)
  clear h h0 h9
  rcases hs with rfl | rfl
  · go_enter Try.func58, Try.ntmps58
    go_wp2_with (go_at_call 81; refine (rest10_no 0 _ (by decide)).mono ?_; rintro e w1 ⟨A, n, c, y, rfl, hb⟩; obtain ⟨xs, d, rfl⟩ := ext_of hb; clear hb)
    exact bodyPost_ret (v := .tuple #[.agg #[.slice A n c, .int .i64 y], .bool false]) (by simp [results, Try.results58, go_sem]) rfl ⟨_, _, _, _, rfl, by exact bel⟩
  · go_enter Try.func58, Try.ntmps58
    go_wp2_with (go_at_call 81; refine (rest10_no 1 _ (by decide)).mono ?_; rintro e w1 ⟨A, n, c, y, rfl, hb⟩; obtain ⟨xs, d, rfl⟩ := ext_of hb; clear hb)
    exact bodyPost_ret (v := .tuple #[.agg #[.slice A n c, .int .i64 y], .bool false]) (by simp [results, Try.results58, go_sem]) rfl ⟨_, _, _, _, rfl, by exact bel⟩
end Go.Proofs.Ythidhfkbfoejbaa.Fs
