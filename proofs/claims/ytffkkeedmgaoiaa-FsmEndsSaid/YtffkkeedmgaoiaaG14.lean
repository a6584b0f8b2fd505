/- The laws of many events. -/
import Derived.Test.YtffkkeedmgaoiaaG12
namespace Go.Proofs.Ytffkkeedmgaoiaa
open Go.RowKit
set_option linter.unusedSimpArgs false
set_option linter.unusedVariables false
theorem walkS_le (es : List Int) : ∀ s : Int, (walkS s es).2.1.length ≤ 3 * es.length := by
  induction es with
  | nil => intro s; simp [walkS]
  | cons e es ih =>
    intro s
    simp only [walkS]
    split
    · have := ih (tabNext e s)
      have := tabActs_le e s
      simp only [List.length_append, List.length_cons]
      omega
    · simp
theorem walkF_le (es : List Int) (s : Int) : (walkF s es).2.1.length ≤ 3 * es.length := by
  unfold walkF
  split
  · exact walkS_le es s
  · simp
set_option maxHeartbeats 4000000 in
theorem fsmWalks_walk (s : Int) (A : Option Addr) (n c : Nat) (es : List Int) (w : World) (hA : At w w.heap.size A (es.map av)) (hn : n = es.length) (hc : n ≤ c) (hm : (n : Int) ≤ 9223372036854775807) : Calls Try.prog 4 #[.int .i64 s, .slice A n c] w fun x w' => x = .returned (.bool true) ∧ Below w.heap.size w w' := by
  by_cases h : 60 < n
  · have HA := Lib.hid (show At w w.heap.size A ((es.take 60).map av) by rw [List.map_take]; exact hA.take _)
    have HL := Lib.hid (show 60 = (es.take 60).length by rw [List.length_take]; omega)
    have HM := Lib.hid (show 60 ≤ 60 by omega)
    obtain ⟨es', he⟩ : ∃ es', es.take 60 = es' := ⟨_, rfl⟩
    rw [he] at HA HL
    have hc6 : 60 ≤ c := by omega
    clear hA hn hc he
    go_enter Try.func4, Try.ntmps4
    go_wp2_with fail
    refine (walk_any s A 60 c es' _ w.heap.size (by simp [go_sem]) (HA.out.keep (by (repeat (first | exact Below.refl _ _ | exact Nat.le_refl _ | (refine below_ext ?_ (by first | (simp [size_ext, grow]; done) | (simp [size_ext, grow]; omega) | omega) _ _) | (refine Below.setCell ?_ (by first | (simp [size_ext, grow]; done) | (simp [size_ext, grow]; omega) | omega) _) | (refine Below.alloc ?_ (by first | (simp [size_ext, grow]; done) | (simp [size_ext, grow]; omega) | omega) _) | refine Below.drew ?_ | refine below_drewN ?_ _ | (refine Below.trans ?_ (Below.mono (by assumption) (by first | (simp [size_ext, grow]; done) | (simp [size_ext, grow]; omega) | omega))))))) HL.out (by have := HM.out; omega)).mono ?_; rintro e' w1 ⟨v, rfl, hb, ho⟩; obtain ⟨xs1, d1, rfl⟩ := ext_of hb; clear hb; obtain ⟨A1, c1, rfl, -, -⟩ := ownsRow_form ho; have HO1 := Lib.hid ho; clear ho
    go_wp2_with fail
    refine (walkref_any s A 60 c es' _ w.heap.size (by simp [go_sem]) (HA.out.keep (by (repeat (first | exact Below.refl _ _ | exact Nat.le_refl _ | (refine below_ext ?_ (by first | (simp [size_ext, grow]; done) | (simp [size_ext, grow]; omega) | omega) _ _) | (refine Below.setCell ?_ (by first | (simp [size_ext, grow]; done) | (simp [size_ext, grow]; omega) | omega) _) | (refine Below.alloc ?_ (by first | (simp [size_ext, grow]; done) | (simp [size_ext, grow]; omega) | omega) _) | refine Below.drew ?_ | refine below_drewN ?_ _ | (refine Below.trans ?_ (Below.mono (by assumption) (by first | (simp [size_ext, grow]; done) | (simp [size_ext, grow]; omega) | omega))))))) HL.out (by have := HM.out; omega)).mono ?_; rintro e' w1 ⟨v, rfl, hb, ho⟩; obtain ⟨xs2, d2, rfl⟩ := ext_of hb; clear hb; obtain ⟨A2, c2, rfl, -, -⟩ := ownsRow_form ho; have HO2 := Lib.hid ho; clear ho
    go_wp2_with fail
    refine (same_any A1 A2 _ _ c1 c2 (walkF s es').2.1 _ _ (Nat.le_refl _) ((At.of_own HO1.out).move (by (repeat (first | exact Below.refl _ _ | exact Nat.le_refl _ | (refine below_ext ?_ (by first | (simp [size_ext, grow]; done) | (simp [size_ext, grow]; omega) | omega) _ _) | (refine Below.setCell ?_ (by first | (simp [size_ext, grow]; done) | (simp [size_ext, grow]; omega) | omega) _) | (refine Below.alloc ?_ (by first | (simp [size_ext, grow]; done) | (simp [size_ext, grow]; omega) | omega) _) | refine Below.drew ?_ | refine below_drewN ?_ _ | (refine Below.trans ?_ (Below.mono (by assumption) (by first | (simp [size_ext, grow]; done) | (simp [size_ext, grow]; omega) | omega)))))) (by first | (simp [size_ext, grow]; done) | (simp [size_ext, grow]; omega))) ((At.of_own HO2.out).move (by (repeat (first | exact Below.refl _ _ | exact Nat.le_refl _ | (refine below_ext ?_ (by first | (simp [size_ext, grow]; done) | (simp [size_ext, grow]; omega) | omega) _ _) | (refine Below.setCell ?_ (by first | (simp [size_ext, grow]; done) | (simp [size_ext, grow]; omega) | omega) _) | (refine Below.alloc ?_ (by first | (simp [size_ext, grow]; done) | (simp [size_ext, grow]; omega) | omega) _) | refine Below.drew ?_ | refine below_drewN ?_ _ | (refine Below.trans ?_ (Below.mono (by assumption) (by first | (simp [size_ext, grow]; done) | (simp [size_ext, grow]; omega) | omega)))))) (by first | (simp [size_ext, grow]; done) | (simp [size_ext, grow]; omega))) rfl rfl (by have := walkF_le (es') s; have := HM.out; have := HL.out; omega)).mono ?_; rintro e' w1 ⟨rfl, hb⟩; obtain ⟨xs3, d3, rfl⟩ := ext_of hb; clear hb
    go_wp2_with (go_at_call 14; refine (awake_any _).mono ?_; rintro e w1 ⟨rfl, hb⟩; obtain ⟨xs, d, rfl⟩ := ext_of hb; clear hb)
    go_ret
    exact ⟨rfl, by (repeat (first | exact Below.refl _ _ | exact Nat.le_refl _ | (refine below_ext ?_ (by first | (simp [size_ext, grow]; done) | (simp [size_ext, grow]; omega) | omega) _ _) | (refine Below.setCell ?_ (by first | (simp [size_ext, grow]; done) | (simp [size_ext, grow]; omega) | omega) _) | (refine Below.alloc ?_ (by first | (simp [size_ext, grow]; done) | (simp [size_ext, grow]; omega) | omega) _) | refine Below.drew ?_ | refine below_drewN ?_ _ | (refine Below.trans ?_ (Below.mono (by assumption) (by first | (simp [size_ext, grow]; done) | (simp [size_ext, grow]; omega) | omega)))))⟩
  · have HA := Lib.hid hA
    have HL := Lib.hid hn
    have HM := Lib.hid (show n ≤ 60 by omega)
    clear hA hn hc
    go_enter Try.func4, Try.ntmps4
    go_wp2_with fail
    refine (walk_any s A n c es _ w.heap.size (by simp [go_sem]) (HA.out.keep (by (repeat (first | exact Below.refl _ _ | exact Nat.le_refl _ | (refine below_ext ?_ (by first | (simp [size_ext, grow]; done) | (simp [size_ext, grow]; omega) | omega) _ _) | (refine Below.setCell ?_ (by first | (simp [size_ext, grow]; done) | (simp [size_ext, grow]; omega) | omega) _) | (refine Below.alloc ?_ (by first | (simp [size_ext, grow]; done) | (simp [size_ext, grow]; omega) | omega) _) | refine Below.drew ?_ | refine below_drewN ?_ _ | (refine Below.trans ?_ (Below.mono (by assumption) (by first | (simp [size_ext, grow]; done) | (simp [size_ext, grow]; omega) | omega))))))) HL.out (by have := HM.out; omega)).mono ?_; rintro e' w1 ⟨v, rfl, hb, ho⟩; obtain ⟨xs1, d1, rfl⟩ := ext_of hb; clear hb; obtain ⟨A1, c1, rfl, -, -⟩ := ownsRow_form ho; have HO1 := Lib.hid ho; clear ho
    go_wp2_with fail
    refine (walkref_any s A n c es _ w.heap.size (by simp [go_sem]) (HA.out.keep (by (repeat (first | exact Below.refl _ _ | exact Nat.le_refl _ | (refine below_ext ?_ (by first | (simp [size_ext, grow]; done) | (simp [size_ext, grow]; omega) | omega) _ _) | (refine Below.setCell ?_ (by first | (simp [size_ext, grow]; done) | (simp [size_ext, grow]; omega) | omega) _) | (refine Below.alloc ?_ (by first | (simp [size_ext, grow]; done) | (simp [size_ext, grow]; omega) | omega) _) | refine Below.drew ?_ | refine below_drewN ?_ _ | (refine Below.trans ?_ (Below.mono (by assumption) (by first | (simp [size_ext, grow]; done) | (simp [size_ext, grow]; omega) | omega))))))) HL.out (by have := HM.out; omega)).mono ?_; rintro e' w1 ⟨v, rfl, hb, ho⟩; obtain ⟨xs2, d2, rfl⟩ := ext_of hb; clear hb; obtain ⟨A2, c2, rfl, -, -⟩ := ownsRow_form ho; have HO2 := Lib.hid ho; clear ho
    go_wp2_with fail
    refine (same_any A1 A2 _ _ c1 c2 (walkF s es).2.1 _ _ (Nat.le_refl _) ((At.of_own HO1.out).move (by (repeat (first | exact Below.refl _ _ | exact Nat.le_refl _ | (refine below_ext ?_ (by first | (simp [size_ext, grow]; done) | (simp [size_ext, grow]; omega) | omega) _ _) | (refine Below.setCell ?_ (by first | (simp [size_ext, grow]; done) | (simp [size_ext, grow]; omega) | omega) _) | (refine Below.alloc ?_ (by first | (simp [size_ext, grow]; done) | (simp [size_ext, grow]; omega) | omega) _) | refine Below.drew ?_ | refine below_drewN ?_ _ | (refine Below.trans ?_ (Below.mono (by assumption) (by first | (simp [size_ext, grow]; done) | (simp [size_ext, grow]; omega) | omega)))))) (by first | (simp [size_ext, grow]; done) | (simp [size_ext, grow]; omega))) ((At.of_own HO2.out).move (by (repeat (first | exact Below.refl _ _ | exact Nat.le_refl _ | (refine below_ext ?_ (by first | (simp [size_ext, grow]; done) | (simp [size_ext, grow]; omega) | omega) _ _) | (refine Below.setCell ?_ (by first | (simp [size_ext, grow]; done) | (simp [size_ext, grow]; omega) | omega) _) | (refine Below.alloc ?_ (by first | (simp [size_ext, grow]; done) | (simp [size_ext, grow]; omega) | omega) _) | refine Below.drew ?_ | refine below_drewN ?_ _ | (refine Below.trans ?_ (Below.mono (by assumption) (by first | (simp [size_ext, grow]; done) | (simp [size_ext, grow]; omega) | omega)))))) (by first | (simp [size_ext, grow]; done) | (simp [size_ext, grow]; omega))) rfl rfl (by have := walkF_le (es) s; have := HM.out; have := HL.out; omega)).mono ?_; rintro e' w1 ⟨rfl, hb⟩; obtain ⟨xs3, d3, rfl⟩ := ext_of hb; clear hb
    go_wp2_with (go_at_call 14; refine (awake_any _).mono ?_; rintro e w1 ⟨rfl, hb⟩; obtain ⟨xs, d, rfl⟩ := ext_of hb; clear hb)
    go_ret
    exact ⟨rfl, by (repeat (first | exact Below.refl _ _ | exact Nat.le_refl _ | (refine below_ext ?_ (by first | (simp [size_ext, grow]; done) | (simp [size_ext, grow]; omega) | omega) _ _) | (refine Below.setCell ?_ (by first | (simp [size_ext, grow]; done) | (simp [size_ext, grow]; omega) | omega) _) | (refine Below.alloc ?_ (by first | (simp [size_ext, grow]; done) | (simp [size_ext, grow]; omega) | omega) _) | refine Below.drew ?_ | refine below_drewN ?_ _ | (refine Below.trans ?_ (Below.mono (by assumption) (by first | (simp [size_ext, grow]; done) | (simp [size_ext, grow]; omega) | omega)))))⟩
/-- Up and down in turn. -/
def scan : Bool → List Int → Option Bool
  | up, [] => some up
  | up, a :: l => if a = 1 then (if up = true then none else scan true l) else if a = 2 then (if up = true then scan false l else none) else scan up l
theorem scan_append (l m : List Int) : ∀ up, scan up (l ++ m) = (scan up l).bind fun u => scan u m := by
  induction l with
  | nil => intro up; simp [scan]
  | cons a l ih =>
    intro up
    simp only [List.cons_append, scan]
    split
    · split
      · rfl
      · exact ih _
    · split
      · split
        · exact ih _
        · rfl
      · exact ih _
theorem scan_step (s e : Int) (h : stepErr s e = 0) : scan (s == 9) (tabActs e s) = some (tabNext e s == 9) := by
  unfold stepErr at h
  split at h
  · rename_i hi
    simp only [inTab, decide_eq_true_eq] at hi
    obtain ⟨h1, h2, h3, h4⟩ := hi
    revert h
    rcases sixteen h1 h2 with rfl | rfl | rfl | rfl | rfl | rfl | rfl | rfl | rfl | rfl | rfl | rfl | rfl | rfl | rfl | rfl <;> rcases ten h3 h4 with rfl | rfl | rfl | rfl | rfl | rfl | rfl | rfl | rfl | rfl <;> decide
  · omega
theorem scan_walk (es : List Int) : ∀ s : Int, scan (s == 9) (walkS s es).2.1 = some ((walkS s es).1 == 9) := by
  induction es with
  | nil => intro s; simp [walkS, scan]
  | cons e es ih =>
    intro s
    simp only [walkS]
    split
    · rename_i h
      simp only []
      rw [scan_append, scan_step s e h]
      exact ih _
    · simp [scan]
end Go.Proofs.Ytffkkeedmgaoiaa
