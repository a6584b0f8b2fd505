/- A pool turned again and again; plain laws of its parts. -/
import Derived.Test.YtoilghhclpgfaaaDoorP21
namespace Go.Proofs.YtoilghhclpgfaaaDoor
open Go.ChangeShapes Go.WideShapes Go.ChangeAt Go.RowKit Go.Joins Go.Deep
set_option linter.unusedSimpArgs false
set_option linter.unusedVariables false
/-- A pool in a world that stands upon W1. -/
structure PI (W1 : World) (p : Nat) (S : PoolS) (b : Int) (s : Nat) (R : List Int) (wr : World) : Prop where
  pool : PoolAt wr p S
  inv : Inv b s R S
  below : Below W1.heap.size W1 wr
  hp : W1.heap.size ≤ p
  ha : W1.heap.size ≤ S.af
section
variable {W1 wr w' : World} {p : Nat} {S S' : PoolS} {b : Int} {s : Nat} {R : List Int}
theorem PI.grow (h : PI W1 p S b s R wr) (hb : Below wr.heap.size wr w') : PI W1 p S b s R w' := { h with pool := h.pool.keep hb, below := h.below.trans (hb.mono h.below.size) }
theorem PI.turn (h : PI W1 p S b s R wr) (ht : Two p S.af wr w') (hp : PoolAt w' p S') (hi : Inv b s R S') (haf : S'.af = S.af) : PI W1 p S' b s R w' :=
  ⟨hp, hi, h.below.trans (ht.below h.below.size h.hp h.ha), h.hp, by rw [haf]; exact h.ha⟩
end
theorem count_take {L : List Int} {x : Int} {k : Nat} (hk : k < L.length) : (L.take (k + 1)).count x = (L.take k).count x + if L.getD k 0 = x then 1 else 0 := by
  rw [List.take_succ_eq_append_getElem hk, List.count_append]
  have : L.getD k 0 = L[k] := by simp [List.getD_eq_getElem?_getD, List.getElem?_eq_getElem hk]
  rw [this]
  by_cases h : L[k] = x <;> simp [h]
theorem lsd_count (S : PoolS) (j : Nat) : ∀ k, (lsd S k).count (S.b + (j : Int)) = if j < k ∧ isL S j = true then 1 else 0
  | 0 => by simp [lsd]
  | k + 1 => by
    rw [lsd_succ]
    have ih := lsd_count S j k
    by_cases hl : isL S k = true
    · rw [if_pos hl, List.count_append, ih]
      by_cases hj : j = k
      · subst hj
        simp [hl]
      · have h1 : ¬ (S.b + (k : Int) = S.b + (j : Int)) := by omega
        have h2 : j < k + 1 ↔ j < k := by omega
        simp [h1, h2]
    · rw [if_neg hl, ih]
      by_cases hj : j = k
      · subst hj; simp [hl]
      · have h2 : j < k + 1 ↔ j < k := by omega
        simp [h2]
theorem row_nodup {s : Int} {R : List Int} (h : rowOk s R = true) : R.Nodup := by
  rw [List.Nodup, List.pairwise_iff_getElem]
  intro i j hi hj hij
  have := row_lt h hij hj
  simp only [List.getD_eq_getElem?_getD, List.getElem?_eq_getElem hi, List.getElem?_eq_getElem hj, Option.getD_some] at this
  omega
theorem Inv.isLs {b : Int} {s : Nat} {R : List Int} {S : PoolS} (h : Inv b s R S) {k : Nat} (hk : k < s) : isL S k = (!inR R k && !bitW S.fw k) := by
  unfold isL; rw [h.own]; simp [hk]
/-- Of each address: it is leased, reserved or free, and one of these alone. -/
theorem Inv.parts {b : Int} {s : Nat} {R : List Int} {S : PoolS} (h : Inv b s R S) (hr : rowOk (s : Int) R = true) {k x y : Nat} (hk : k < s) (hx : (lsd S s).count (b + (k : Int)) = x) (hy : R.count (k : Int) = y) :
    x ≤ 1 ∧ y ≤ 1 ∧ x + y ≤ 1 ∧ hasB S (b + (k : Int)) = decide (y = 0) ∧ decide (x + y = 0) = bitW S.fw k := by
  have hb := h.hb
  subst hb
  rw [lsd_count] at hx
  have hl := h.isLs hk
  have hsub := h.sub k
  rw [h.own] at hsub
  have hy1 : y = if inR R k = true then 1 else 0 := by
    by_cases hm : (k : Int) ∈ R
    · have h1 := List.nodup_iff_count.1 (row_nodup hr) (k : Int)
      have h2 := List.count_pos_iff.2 hm
      simp [inR, hm]; omega
    · have h2 := List.count_eq_zero.2 hm
      simp [inR, hm]; omega
  have hhas : hasB S (S.b + (k : Int)) = !inR R k := by
    have e : (S.b + (k : Int) - S.b).toNat = k := by omega
    unfold hasB
    rw [e, h.own, h.hs]
    simp [hk]
    intros; omega
  rw [hhas, hy1, ← hx, hl]
  cases hi : inR R k <;> cases hf : bitW S.fw k <;> simp [hi, hf, hk] at hsub ⊢
end Go.Proofs.YtoilghhclpgfaaaDoor
