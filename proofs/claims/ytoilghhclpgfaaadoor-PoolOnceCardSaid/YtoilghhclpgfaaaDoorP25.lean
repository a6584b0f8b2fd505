/- Plain laws of PoolOrder and PoolOnce. -/
import Derived.Test.YtoilghhclpgfaaaDoorP24
namespace Go.Proofs.YtoilghhclpgfaaaDoor
open Go.RowKit
set_option linter.unusedSimpArgs false
set_option linter.unusedVariables false
theorem mem_wTo {L : List Int} {x y : Int} : ∀ k, k ≤ L.length → ((y ∈ (wTo L x k).1 ∨ ((wTo L x k).2 = false ∧ y = x)) ↔ (y ∈ L.take k ∨ y = x))
  | 0, _ => by simp [wTo]
  | k + 1, hk => by
    have ih := mem_wTo (L := L) (x := x) (y := y) k (by omega)
    rw [wTo_succ (by omega)]
    have e : L.getD k 0 = L[k]'(by omega) := by simp [List.getD_eq_getElem?_getD, List.getElem?_eq_getElem (show k < L.length by omega)]
    rw [e, List.take_succ_eq_append_getElem (by omega)]
    revert ih
    generalize L[k]'(by omega) = z
    generalize L.take k = K
    generalize wTo L x k = P
    obtain ⟨T, d⟩ := P
    intro ih
    unfold wStep
    simp only at ih ⊢
    cases d
    · by_cases hlt : x < z
      · simp only [hlt, List.mem_append, List.mem_singleton, Bool.not_false, Bool.true_and, decide_true, if_true, true_and, and_false, false_and, or_false, Bool.true_eq_false] at ih ⊢
        constructor
        · rintro ((h | h) | h)
          · rcases ih.1 (.inl h) with h | h <;> simp [h]
          · simp [h]
          · simp [h]
        · rintro ((h | h) | h)
          · rcases ih.2 (.inl h) with h | h <;> simp [h]
          · simp [h]
          · simp [h]
      · simp only [hlt, List.mem_append, List.mem_singleton, Bool.not_false, Bool.true_and, decide_false, Bool.false_eq_true, if_false, true_and] at ih ⊢
        constructor
        · rintro ((h | h) | h)
          · rcases ih.1 (.inl h) with h | h <;> simp [h]
          · simp [h]
          · simp [h]
        · rintro ((h | h) | h)
          · rcases ih.2 (.inl h) with h | h <;> simp [h]
          · simp [h]
          · simp [h]
    · simp only [List.mem_append, List.mem_singleton, Bool.not_true, Bool.false_and, Bool.false_eq_true, if_false, false_and, or_false, Bool.true_eq_false] at ih ⊢
      constructor
      · rintro (h | h)
        · rcases ih.1 h with h | h <;> simp [h]
        · simp [h]
      · rintro ((h | h) | h)
        · exact .inl (ih.2 (.inl h))
        · exact .inr h
        · exact .inl (ih.2 (.inr h))
theorem mem_withL {L : List Int} {x y : Int} : y ∈ withL L x ↔ (y ∈ L ∨ y = x) := by
  have h := mem_wTo (L := L) (x := x) (y := y) L.length (Nat.le_refl _)
  rw [List.take_length] at h
  unfold withL
  revert h
  generalize wTo L x L.length = P
  obtain ⟨T, d⟩ := P
  intro h
  cases d <;> simp at h ⊢ <;> exact h
/-- What a pool holds after the wants f 0 .. f (j - 1). -/
def Held (b : Int) (s : Nat) (R : List Int) (S : PoolS) (f : Nat → Int) (j : Nat) : Prop := ∀ x, x ∈ lsd S s ↔ (rhasB b (s : Int) R x = true ∧ ∃ i, i < j ∧ f i = x)
theorem Held.next {b : Int} {s : Nat} {R : List Int} {S S' : PoolS} {f : Nat → Int} {j : Nat} (h : Held b s R S f j) (hl : lsd S' s = rwL b (s : Int) R (lsd S s) (f j)) : Held b s R S' f (j + 1) := by
  intro x
  rw [hl]
  have hs : (∃ i, i < j + 1 ∧ f i = x) ↔ ((∃ i, i < j ∧ f i = x) ∨ f j = x) := by
    constructor
    · rintro ⟨i, hi, he⟩
      by_cases e : i = j
      · subst e; exact .inr he
      · exact .inl ⟨i, by omega, he⟩
    · rintro (⟨i, hi, he⟩ | h)
      · exact ⟨i, by omega, he⟩
      · exact ⟨j, by omega, h⟩
  rw [hs]
  have hx := h x
  have hj := h (f j)
  unfold rwL
  by_cases hr : rhasB b (s : Int) R (f j) = true
  · by_cases hm : f j ∈ lsd S s
    · rw [if_neg (by simp [hm]), hx]
      constructor
      · rintro ⟨h1, h2⟩; exact ⟨h1, .inl h2⟩
      · rintro ⟨h1, h2 | h2⟩
        · exact ⟨h1, h2⟩
        · subst h2; exact ⟨h1, (hj.1 hm).2⟩
    · rw [if_pos (by simp [hr, hm]), mem_withL, hx]
      constructor
      · rintro (⟨h1, h2⟩ | h2)
        · exact ⟨h1, .inl h2⟩
        · exact ⟨by rw [h2]; exact hr, .inr h2.symm⟩
      · rintro ⟨h1, h2 | h2⟩
        · exact .inl ⟨h1, h2⟩
        · exact .inr h2.symm
  · rw [if_neg (by simp [hr]), hx]
    constructor
    · rintro ⟨h1, h2⟩; exact ⟨h1, .inl h2⟩
    · rintro ⟨h1, h2 | h2⟩
      · exact ⟨h1, h2⟩
      · subst h2; exact absurd h1 hr
theorem Held.fresh {b : Int} {s : Nat} {R : List Int} {S : PoolS} (h : Fresh b s R S) (f : Nat → Int) : Held b s R S f 0 := by
  intro x
  rw [lsd_fresh h]
  simp
theorem lsd_ext {S1 S2 : PoolS} {s : Nat} (hb : S1.b = S2.b) (h : ∀ x, x ∈ lsd S1 s ↔ x ∈ lsd S2 s) : lsd S1 s = lsd S2 s := by
  rw [lsd_is, lsd_is, ← hb]
  apply lsdF_congr
  intro j hj
  have h1 := h (S1.b + (j : Int))
  rw [lsd_is, lsd_is, ← hb, lsdF_mem, lsdF_mem] at h1
  have e1 : (∃ i, i < s ∧ isL S1 i = true ∧ S1.b + (j : Int) = S1.b + (i : Int)) ↔ isL S1 j = true := by
    constructor
    · rintro ⟨i, -, hi, he⟩
      obtain rfl : i = j := by omega
      exact hi
    · exact fun h => ⟨j, hj, h, rfl⟩
  have e2 : (∃ i, i < s ∧ isL S2 i = true ∧ S1.b + (j : Int) = S1.b + (i : Int)) ↔ isL S2 j = true := by
    constructor
    · rintro ⟨i, -, hi, he⟩
      obtain rfl : i = j := by omega
      exact hi
    · exact fun h => ⟨j, hj, h, rfl⟩
  rw [e1, e2] at h1
  exact Bool.eq_iff_iff.2 h1
def turnAt (n t i : Nat) : Nat := (n - 1 - i + t) % n
theorem turn_lt {n t i : Nat} (h : 0 < n) : turnAt n t i < n := Nat.mod_lt _ h
theorem turn_turn {n t m : Nat} (h : m < n) : turnAt n t (turnAt n t m) = m := by
  unfold turnAt
  obtain ⟨q, hq⟩ : ∃ q, (n - 1 - m + t) / n = q := ⟨_, rfl⟩
  obtain ⟨r, hr⟩ : ∃ r, (n - 1 - m + t) % n = r := ⟨_, rfl⟩
  have h1 := Nat.div_add_mod (n - 1 - m + t) n
  have h2 := Nat.mod_lt (n - 1 - m + t) (show 0 < n by omega)
  rw [hq, hr] at h1
  rw [hr] at h2 ⊢
  have h3 : n - 1 - r + t = m + n * q := by omega
  rw [h3, Nat.add_mul_mod_self_left, Nat.mod_eq_of_lt h]
/-- In whatever order they were wanted: the same ones are held. -/
theorem held_same {b : Int} {s : Nat} {R : List Int} {S1 S2 : PoolS} {f : Nat → Int} {n t : Nat} (hb : S1.b = S2.b) (h1 : Held b s R S1 f n) (h2 : Held b s R S2 (fun i => f (turnAt n t i)) n) : lsd S1 s = lsd S2 s := by
  refine lsd_ext hb fun x => ?_
  rw [h1 x, h2 x]
  refine and_congr Iff.rfl ?_
  constructor
  · rintro ⟨i, hi, he⟩
    exact ⟨turnAt n t i, turn_lt (by omega), by simp only [turn_turn hi]; exact he⟩
  · rintro ⟨i, hi, he⟩
    exact ⟨turnAt n t i, turn_lt (by omega), he⟩
end Go.Proofs.YtoilghhclpgfaaaDoor
