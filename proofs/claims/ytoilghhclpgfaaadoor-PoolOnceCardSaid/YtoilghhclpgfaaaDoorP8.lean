/- A pool's bits, in plain words. -/
import Derived.Test.YtoilghhclpgfaaaDoorP7
namespace Go.Proofs.YtoilghhclpgfaaaDoor
open Go.RowKit
set_option linter.unusedSimpArgs false
set_option linter.unusedVariables false
def cnt (f : Nat → Bool) : Nat → Nat
  | 0 => 0
  | s + 1 => cnt f s + if f s = true then 1 else 0
theorem cnt_le (f : Nat → Bool) : ∀ s, cnt f s ≤ s
  | 0 => Nat.le_refl _
  | s + 1 => by have := cnt_le f s; unfold cnt; by_cases h : f s = true <;> simp [h] <;> omega
theorem cnt_congr {f g : Nat → Bool} : ∀ {s : Nat}, (∀ j, j < s → f j = g j) → cnt f s = cnt g s
  | 0, _ => rfl
  | s + 1, h => by unfold cnt; rw [cnt_congr (fun j hj => h j (by omega)), h s (by omega)]
theorem cnt_all : ∀ (s : Nat), cnt (fun _ => true) s = s
  | 0 => rfl
  | s + 1 => by unfold cnt; rw [cnt_all s]; simp
theorem cnt_off {f g : Nat → Bool} {i : Nat} (hf : f i = true) (hg : ∀ j, g j = if j = i then false else f j) : ∀ {s : Nat}, i < s → cnt g s + 1 = cnt f s
  | 0, h => by omega
  | s + 1, h => by
    unfold cnt
    rw [hg s]
    by_cases e : s = i
    · subst e
      rw [if_pos rfl, hf]
      rw [cnt_congr (g := f) (fun j hj => by rw [hg j, if_neg (by omega)])]
      simp
    · rw [if_neg e]
      have := cnt_off hf hg (s := s) (by omega)
      omega
theorem cnt_on {f g : Nat → Bool} {i s : Nat} (hf : f i = false) (hg : ∀ j, g j = if j = i then true else f j) (hi : i < s) : cnt g s = cnt f s + 1 := by
  have := cnt_off (f := g) (g := f) (i := i) (by rw [hg, if_pos rfl]) (fun j => by rw [hg]; by_cases e : j = i <;> simp [e, hf]) hi
  omega
theorem cnt_zero {f : Nat → Bool} : ∀ {s : Nat}, cnt f s = 0 → ∀ j, j < s → f j = false
  | 0, _, j, hj => by omega
  | s + 1, h, j, hj => by
    unfold cnt at h
    by_cases e : j = s
    · subst e
      cases hf : f j
      · rfl
      · rw [hf] at h; simp at h
    · exact cnt_zero (s := s) (by omega) j (by omega)
theorem cnt_none {f : Nat → Bool} : ∀ {s : Nat}, (∀ j, j < s → f j = false) → cnt f s = 0
  | 0, _ => rfl
  | s + 1, h => by unfold cnt; rw [cnt_none (fun j hj => h j (by omega)), h s (by omega)]; rfl
def inR (R : List Int) (i : Nat) : Bool := decide ((i : Int) ∈ R)
/-- Rising places: each is one that is not yet there. -/
theorem cnt_row {s : Nat} {R : List Int} (h : rowOk (s : Int) R = true) : ∀ k, k ≤ R.length → cnt (fun i => !inR (R.take k) i) s + k = s
  | 0, _ => by simp only [List.take_zero]; rw [cnt_congr (g := fun _ => true) (fun j _ => by simp [inR]), cnt_all]; omega
  | k + 1, hk => by
    have ih := cnt_row h k (by omega)
    have hge := row_ge h k (by omega)
    obtain ⟨q, hq⟩ := Int.eq_ofNat_of_zero_le (show 0 ≤ R.getD k 0 by omega)
    have e : R[k]'(by omega) = (q : Int) := by rw [← hq]; simp [List.getD_eq_getElem?_getD, List.getElem?_eq_getElem (show k < R.length by omega)]
    have hnot : (q : Int) ∉ R.take k := by
      intro hm
      obtain ⟨j, hj, he⟩ := List.mem_iff_getElem.1 hm
      rw [List.getElem_take] at he
      rw [List.length_take] at hj
      have hlt := row_lt h (i := j) (j := k) (by omega) (by omega)
      rw [hq] at hlt
      have : R.getD j 0 = R[j]'(by omega) := by simp [List.getD_eq_getElem?_getD, List.getElem?_eq_getElem (show j < R.length by omega)]
      rw [this, he] at hlt
      omega
    have := cnt_off (f := fun i => !inR (R.take k) i) (g := fun i => !inR (R.take (k + 1)) i) (i := q) (s := s) (by simp [inR, hnot]) (fun j => by
      rw [List.take_succ_eq_append_getElem (by omega), e]
      by_cases hjq : j = q
      · subst hjq; simp [inR]
      · have : (j : Int) ≠ (q : Int) := by omega
        rw [if_neg hjq]
        simp [inR, this]) (by have := hge.2; rw [hq] at this; omega)
    omega
/-- What holds of a pool at any time. -/
structure Inv (b : Int) (s : Nat) (R : List Int) (S : PoolS) : Prop where
  hb : S.b = b
  hs : S.s = s
  own : ∀ i, bitW S.ow i = (decide (i < s) && !inR R i)
  sub : ∀ i, bitW S.fw i = true → bitW S.ow i = true
  left : S.left = (cnt (bitW S.fw) s : Int)
theorem Inv.lt {b : Int} {s : Nat} {R : List Int} {S : PoolS} (h : Inv b s R S) {i : Nat} (hi : bitW S.fw i = true) : i < s := by
  have := h.sub i hi
  rw [h.own] at this
  simp at this
  exact this.1
theorem Inv.bd {b : Int} {s : Nat} {R : List Int} {S : PoolS} (h : Inv b s R S) (hs : s ≤ 65536) : 0 ≤ S.left ∧ S.left ≤ 65536 := by
  have := cnt_le (bitW S.fw) s
  rw [h.left]; omega
theorem Inv.fresh {b : Int} {s : Nat} {R : List Int} {S : PoolS} (h : Fresh b s R S) (hr : rowOk (s : Int) R = true) : Inv b s R S := by
  refine ⟨h.hb, h.hs, h.own, fun i hi => by rw [← h.free]; exact hi, ?_⟩
  have := cnt_row hr R.length (Nat.le_refl _)
  rw [List.take_length] at this
  rw [h.left, h.free, cnt_congr (g := fun i => !inR R i) (fun j hj => by rw [h.own]; simp [hj, inR])]
  omega
theorem Inv.lease {b : Int} {s : Nat} {R : List Int} {S : PoolS} (h : Inv b s R S) (hw : Wide S.fw) {i : Nat} (hl : i / 64 < S.fw.length) (hi : bitW S.fw i = true) : Inv b s R (leased S i) := by
  refine ⟨h.hb, h.hs, h.own, fun j hj => ?_, ?_⟩
  · simp only [leased] at hj ⊢
    rw [bit_setW hw hl] at hj
    by_cases e : j = i
    · rw [if_pos e] at hj; cases hj
    · rw [if_neg e] at hj; exact h.sub j hj
  · have := cnt_off (f := bitW S.fw) (g := bitW (setW S.fw i false)) hi (fun j => bit_setW hw hl false j) (h.lt hi)
    simp only [leased]
    rw [h.left]
    omega
theorem Inv.give {b : Int} {s : Nat} {R : List Int} {S : PoolS} (h : Inv b s R S) (hw : Wide S.fw) {i : Nat} (hl : i / 64 < S.fw.length) (hi : bitW S.fw i = false) (ho : bitW S.ow i = true) : Inv b s R (given S i) := by
  have his : i < s := by rw [h.own] at ho; simp at ho; exact ho.1
  refine ⟨h.hb, h.hs, h.own, fun j hj => ?_, ?_⟩
  · simp only [given] at hj ⊢
    rw [bit_setW hw hl] at hj
    by_cases e : j = i
    · rw [e]; exact ho
    · rw [if_neg e] at hj; exact h.sub j hj
  · have := cnt_on (f := bitW S.fw) (g := bitW (setW S.fw i true)) hi (fun j => bit_setW hw hl true j) his
    simp only [given]
    rw [h.left, this]
    omega
theorem lowO_eq {fw : List Nat} (hw : Wide fw) {i : Nat} (hi : bitW fw i = true) (hj : ∀ j, j < i → bitW fw j = false) : lowO fw = some i := by
  cases h : lowO fw with
  | none => rw [lowO_none h i] at hi; cases hi
  | some k =>
    obtain ⟨-, h1, h2⟩ := lowO_some hw h
    congr 1
    by_cases hk : k < i
    · rw [hj k hk] at h1; cases h1
    · by_cases hk2 : i < k
      · rw [h2 i hk2] at hi; cases hi
      · omega
theorem lowO_eq_none {fw : List Nat} (hw : Wide fw) (hj : ∀ j, bitW fw j = false) : lowO fw = none := by
  cases h : lowO fw with
  | none => rfl
  | some k => have := (lowO_some hw h).2.1; rw [hj k] at this; cases this
end Go.Proofs.YtoilghhclpgfaaaDoor
