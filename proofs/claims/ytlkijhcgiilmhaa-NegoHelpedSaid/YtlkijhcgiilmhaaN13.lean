/- Rules: what they take. -/
import Derived.Test.YtlkijhcgiilmhaaN12
namespace Go.Proofs.Ytlkijhcgiilmhaa
open Go.RowKit
set_option linter.unusedSimpArgs false
set_option linter.unusedVariables false
structure Rl where
  t : Int
  sz : Int
  kd : Int
  lo : Int
  hi : Int
  gd : Int
  must : Bool
def Rl.v (r : Rl) : Value := .agg #[.int .i64 r.t, .int .i64 r.sz, .int .i64 r.kd, .int .i64 r.lo, .int .i64 r.hi, .int .i64 r.gd, .bool r.must]
def takesB (kd lo hi gd n : Int) : Bool := if kd = 1 then true else if kd = 2 then (decide (lo ≤ n) && decide (n ≤ hi)) else if kd = 3 then n == gd else if kd = 4 then n != lo else false
def Rl.takes (r : Rl) (n : Int) : Bool := takesB r.kd r.lo r.hi r.gd n
theorem rany (t sz kd lo hi gd n : Int) (m : Bool) (w : World) : Calls Try.prog 53 #[.agg #[.int .i64 t, .int .i64 sz, .int .i64 kd, .int .i64 lo, .int .i64 hi, .int .i64 gd, .bool m], .int .i64 n] w fun x w' => x = .returned (.bool true) ∧ Below w.heap.size w w' := by
  go_enter Try.func53, Try.ntmps53
  go_wp2
  go_ret
  exact ⟨rfl, by exact bel⟩
theorem rspan (t sz kd lo hi gd n : Int) (m : Bool) (w : World) : Calls Try.prog 54 #[.agg #[.int .i64 t, .int .i64 sz, .int .i64 kd, .int .i64 lo, .int .i64 hi, .int .i64 gd, .bool m], .int .i64 n] w fun x w' => x = .returned (.bool (decide (lo ≤ n) && decide (n ≤ hi))) ∧ Below w.heap.size w w' := by
  cases h1 : decide (lo ≤ n) <;> cases h2 : decide (n ≤ hi)
  all_goals
    go_enter Try.func54, Try.ntmps54
    go_wp2
    go_ret
    exact ⟨rfl, by exact bel⟩
theorem ronly (t sz kd lo hi gd n : Int) (m : Bool) (w : World) : Calls Try.prog 55 #[.agg #[.int .i64 t, .int .i64 sz, .int .i64 kd, .int .i64 lo, .int .i64 hi, .int .i64 gd, .bool m], .int .i64 n] w fun x w' => x = .returned (.bool (n == gd)) ∧ Below w.heap.size w w' := by
  go_enter Try.func55, Try.ntmps55
  go_wp2
  go_ret
  exact ⟨rfl, by exact bel⟩
theorem rnot (t sz kd lo hi gd n : Int) (m : Bool) (w : World) : Calls Try.prog 56 #[.agg #[.int .i64 t, .int .i64 sz, .int .i64 kd, .int .i64 lo, .int .i64 hi, .int .i64 gd, .bool m], .int .i64 n] w fun x w' => x = .returned (.bool (n != lo)) ∧ Below w.heap.size w w' := by
  go_enter Try.func56, Try.ntmps56
  go_wp2
  go_ret
  exact ⟨rfl, by exact bel⟩
/-- The way of a kind. -/
def wayV (kd : Int) : Value := if kd = 1 then .func (.func 53) #[] #[] else if kd = 2 then .func (.func 54) #[] #[] else if kd = 3 then .func (.func 55) #[] #[] else if kd = 4 then .func (.func 56) #[] #[] else .nilFunc
def kindB (kd : Int) : Bool := decide (1 ≤ kd) && decide (kd ≤ 4)
theorem kinds (kd : Int) : kd = 1 ∨ kd = 2 ∨ kd = 3 ∨ kd = 4 ∨ (kd ≠ 1 ∧ kd ≠ 2 ∧ kd ≠ 3 ∧ kd ≠ 4) := by omega
theorem of_any (t sz kd lo hi gd : Int) (m : Bool) (w : World) : Calls Try.prog 44 #[.agg #[.int .i64 t, .int .i64 sz, .int .i64 kd, .int .i64 lo, .int .i64 hi, .int .i64 gd, .bool m]] w fun x w' => x = .returned (.tuple #[wayV kd, .bool (kindB kd)]) ∧ Below w.heap.size w w' := by
  rcases kinds kd with rfl | rfl | rfl | rfl | ⟨h1, h2, h3, h4⟩
  · go_enter Try.func44, Try.ntmps44
    go_wp2
    go_ret2
    exact ⟨rfl, by exact bel⟩
  · go_enter Try.func44, Try.ntmps44
    go_wp2
    go_ret2
    exact ⟨rfl, by exact bel⟩
  · go_enter Try.func44, Try.ntmps44
    go_wp2
    go_ret2
    exact ⟨rfl, by exact bel⟩
  · go_enter Try.func44, Try.ntmps44
    go_wp2
    go_ret2
    exact ⟨rfl, by exact bel⟩
  · have e1 : (kd == 1) = false := by simpa using h1
    have e2 : (kd == 2) = false := by simpa using h2
    have e3 : (kd == 3) = false := by simpa using h3
    have e4 : (kd == 4) = false := by simpa using h4
    have HR := Lib.hid (show wayV kd = .nilFunc ∧ kindB kd = false by unfold wayV kindB; rw [if_neg h1, if_neg h2, if_neg h3, if_neg h4]; refine ⟨rfl, ?_⟩; simp; omega)
    clear h1 h2 h3 h4
    go_enter Try.func44, Try.ntmps44
    go_wp2
    go_ret2
    exact ⟨by rw [HR.out.1, HR.out.2]; rfl, by exact bel⟩
set_option maxHeartbeats 2000000 in
theorem takes_any (t sz kd lo hi gd n : Int) (m : Bool) (w : World) : Calls Try.prog 40 #[.agg #[.int .i64 t, .int .i64 sz, .int .i64 kd, .int .i64 lo, .int .i64 hi, .int .i64 gd, .bool m], .int .i64 n] w fun x w' => x = .returned (.bool (takesB kd lo hi gd n)) ∧ Below w.heap.size w w' := by
  rcases kinds kd with rfl | rfl | rfl | rfl | ⟨h1, h2, h3, h4⟩
  · go_enter Try.func40, Try.ntmps40
    go_wp2_with fail
    refine (of_any t sz 1 lo hi gd m _).mono ?_
    rw [show wayV 1 = .func (.func 53) #[] #[] from rfl, show kindB 1 = true from rfl]
    rintro e w1 ⟨rfl, hb⟩; obtain ⟨xs, d, rfl⟩ := ext_of hb; clear hb
    go_wp2_with fail
    refine (rany t sz 1 lo hi gd n m _).mono ?_
    rintro e w1 ⟨rfl, hb⟩; obtain ⟨xs2, d2, rfl⟩ := ext_of hb; clear hb
    go_wp2_with fail
    go_ret
    exact ⟨rfl, by exact bel⟩
  · go_enter Try.func40, Try.ntmps40
    go_wp2_with fail
    refine (of_any t sz 2 lo hi gd m _).mono ?_
    rw [show wayV 2 = .func (.func 54) #[] #[] from rfl, show kindB 2 = true from rfl]
    rintro e w1 ⟨rfl, hb⟩; obtain ⟨xs, d, rfl⟩ := ext_of hb; clear hb
    go_wp2_with fail
    refine (rspan t sz 2 lo hi gd n m _).mono ?_
    obtain ⟨b, hb⟩ : ∃ b, (decide (lo ≤ n) && decide (n ≤ hi)) = b := ⟨_, rfl⟩
    have HBB := Lib.hid hb
    rw [hb]
    clear hb
    rintro e w1 ⟨rfl, hb⟩; obtain ⟨xs2, d2, rfl⟩ := ext_of hb; clear hb
    go_wp2_with fail
    go_ret
    exact ⟨by rw [← HBB.out]; rfl, by exact bel⟩
  · go_enter Try.func40, Try.ntmps40
    go_wp2_with fail
    refine (of_any t sz 3 lo hi gd m _).mono ?_
    rw [show wayV 3 = .func (.func 55) #[] #[] from rfl, show kindB 3 = true from rfl]
    rintro e w1 ⟨rfl, hb⟩; obtain ⟨xs, d, rfl⟩ := ext_of hb; clear hb
    go_wp2_with fail
    refine (ronly t sz 3 lo hi gd n m _).mono ?_
    rintro e w1 ⟨rfl, hb⟩; obtain ⟨xs2, d2, rfl⟩ := ext_of hb; clear hb
    go_wp2_with fail
    go_ret
    exact ⟨rfl, by exact bel⟩
  · go_enter Try.func40, Try.ntmps40
    go_wp2_with fail
    refine (of_any t sz 4 lo hi gd m _).mono ?_
    rw [show wayV 4 = .func (.func 56) #[] #[] from rfl, show kindB 4 = true from rfl]
    rintro e w1 ⟨rfl, hb⟩; obtain ⟨xs, d, rfl⟩ := ext_of hb; clear hb
    go_wp2_with fail
    refine (rnot t sz 4 lo hi gd n m _).mono ?_
    rintro e w1 ⟨rfl, hb⟩; obtain ⟨xs2, d2, rfl⟩ := ext_of hb; clear hb
    go_wp2_with fail
    go_ret
    exact ⟨rfl, by exact bel⟩
  · have HR := Lib.hid (show wayV kd = .nilFunc ∧ kindB kd = false ∧ takesB kd lo hi gd n = false by unfold wayV kindB takesB; rw [if_neg h1, if_neg h2, if_neg h3, if_neg h4]; refine ⟨rfl, ?_, ?_⟩; (simp; omega); rw [if_neg h1, if_neg h2, if_neg h3, if_neg h4])
    clear h1 h2 h3 h4
    go_enter Try.func40, Try.ntmps40
    go_wp2_with fail
    refine (of_any t sz kd lo hi gd m _).mono ?_
    rw [HR.out.1, HR.out.2.1]
    rintro e w1 ⟨rfl, hb⟩; obtain ⟨xs, d, rfl⟩ := ext_of hb; clear hb
    go_wp2_with fail
    go_ret
    exact ⟨by rw [HR.out.2.2]; rfl, by exact bel⟩
end Go.Proofs.Ytlkijhcgiilmhaa
