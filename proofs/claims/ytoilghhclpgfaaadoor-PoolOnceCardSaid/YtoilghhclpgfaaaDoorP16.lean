/- Pool and reference in plain words. -/
import Derived.Test.YtoilghhclpgfaaaDoorP15
namespace Go.Proofs.YtoilghhclpgfaaaDoor
open Go.RowKit
set_option linter.unusedSimpArgs false
set_option linter.unusedVariables false
def lsdF (b : Int) (f : Nat → Bool) (k : Nat) : List Int := ((List.range k).filter f).map fun (i : Nat) => b + (i : Int)
theorem lsd_is (S : PoolS) (k : Nat) : lsd S k = lsdF S.b (isL S) k := rfl
theorem lsdF_succ (b : Int) (f : Nat → Bool) (k : Nat) : lsdF b f (k + 1) = if f k = true then lsdF b f k ++ [b + (k : Int)] else lsdF b f k := by
  unfold lsdF
  rw [List.range_succ, List.filter_append]
  by_cases h : f k = true <;> simp [h]
theorem lsdF_congr {b : Int} {f g : Nat → Bool} {k : Nat} (h : ∀ j, j < k → f j = g j) : lsdF b f k = lsdF b g k := by
  unfold lsdF
  congr 1
  apply List.filter_congr
  intro j hj
  exact h j (List.mem_range.1 hj)
theorem lsdF_len (b : Int) (f : Nat → Bool) : ∀ k, (lsdF b f k).length = cnt f k
  | 0 => rfl
  | k + 1 => by
    rw [lsdF_succ]
    unfold cnt
    by_cases h : f k = true
    · rw [if_pos h, if_pos h, List.length_append, lsdF_len b f k]; rfl
    · rw [if_neg h, if_neg h, lsdF_len b f k]; rfl
theorem lsdF_mem {b : Int} {f : Nat → Bool} {k : Nat} {x : Int} : x ∈ lsdF b f k ↔ ∃ i, i < k ∧ f i = true ∧ x = b + (i : Int) := by
  unfold lsdF
  rw [List.mem_map]
  constructor
  · rintro ⟨i, hi, rfl⟩
    have := List.mem_filter.1 hi
    exact ⟨i, List.mem_range.1 this.1, this.2, rfl⟩
  · rintro ⟨i, h1, h2, rfl⟩
    exact ⟨i, List.mem_filter.2 ⟨List.mem_range.2 h1, h2⟩, rfl⟩
theorem with_go {b : Int} {f g : Nat → Bool} {i : Nat} (hf : f i = false) (hg : ∀ j, g j = if j = i then true else f j) : ∀ k : Nat,
    (i < k ∧ (lsdF b f k).foldl (wStep (b + (i : Int))) ([], false) = (lsdF b g k, true)) ∨
    ((lsdF b f k).foldl (wStep (b + (i : Int))) ([], false) = (lsdF b f k, false) ∧ (k ≤ i ∨ (i < k ∧ lsdF b g k = lsdF b f k ++ [b + (i : Int)])))
  | 0 => .inr ⟨rfl, .inl (Nat.zero_le _)⟩
  | k + 1 => by
    have hgk : k ≠ i → g k = f k := fun h => by rw [hg, if_neg h]
    rcases with_go hf hg k with ⟨h1, h2⟩ | ⟨h1, h2⟩
    · left
      refine ⟨by omega, ?_⟩
      rw [lsdF_succ b f, lsdF_succ b g, hgk (by omega)]
      by_cases h : f k = true
      · rw [if_pos h, if_pos h, List.foldl_append, h2]; simp [wStep]
      · rw [if_neg h, if_neg h, h2]
    · rcases h2 with h2 | ⟨h2, h3⟩
      · by_cases hki : k = i
        · subst hki
          right
          refine ⟨?_, .inr ⟨by omega, ?_⟩⟩
          · rw [lsdF_succ b f, if_neg (by rw [hf]; simp), h1]
          · rw [lsdF_succ b g, lsdF_succ b f, if_pos (by rw [hg, if_pos rfl]), if_neg (by rw [hf]; simp)]
            congr 1
            exact lsdF_congr fun j hj => by rw [hg, if_neg (by omega)]
        · right
          refine ⟨?_, .inl (by omega)⟩
          rw [lsdF_succ b f]
          by_cases h : f k = true
          · rw [if_pos h, List.foldl_append, h1]
            have : ¬ (b + (i : Int) < b + (k : Int)) := by omega
            simp [wStep]
            omega
          · rw [if_neg h, h1]
      · by_cases h : f k = true
        · left
          refine ⟨by omega, ?_⟩
          rw [lsdF_succ b f, lsdF_succ b g, hgk (by omega), if_pos h, if_pos h, List.foldl_append, h1, h3]
          have : b + (i : Int) < b + (k : Int) := by omega
          simp [wStep]
          omega
        · right
          refine ⟨?_, .inr ⟨by omega, ?_⟩⟩
          · rw [lsdF_succ b f, if_neg h, h1]
          · rw [lsdF_succ b g, lsdF_succ b f, hgk (by omega), if_neg h, if_neg h, h3]
theorem withL_is {b : Int} {f g : Nat → Bool} {i s : Nat} (hf : f i = false) (hg : ∀ j, g j = if j = i then true else f j) (hi : i < s) : withL (lsdF b f s) (b + (i : Int)) = lsdF b g s := by
  unfold withL wTo
  rw [List.take_length]
  rcases with_go (b := b) hf hg s with ⟨-, h⟩ | ⟨h, h2 | ⟨-, h2⟩⟩
  · rw [h]; rfl
  · omega
  · rw [h, if_neg (by simp), h2]
theorem without_is {b : Int} {f g : Nat → Bool} {i s : Nat} (hg : ∀ j, g j = if j = i then false else f j) : (lsdF b f s).filter (fun y => !(y == b + (i : Int))) = lsdF b g s := by
  unfold lsdF
  rw [List.filter_map, List.filter_filter]
  congr 1
  apply List.filter_congr
  intro j hj
  simp only [Function.comp_apply]
  rw [hg]
  by_cases e : j = i
  · subst e; simp
  · have : b + (j : Int) ≠ b + (i : Int) := by omega
    simp [e, this]
theorem cnt_add {f g h : Nat → Bool} : ∀ {s : Nat}, (∀ j, j < s → (f j = true ∧ g j = true ∧ h j = false) ∨ (f j = true ∧ g j = false ∧ h j = true) ∨ (f j = false ∧ g j = false ∧ h j = false)) → cnt f s = cnt g s + cnt h s
  | 0, _ => rfl
  | s + 1, hh => by
    unfold cnt
    rw [cnt_add (fun j hj => hh j (by omega))]
    rcases hh s (by omega) with ⟨a, b, c⟩ | ⟨a, b, c⟩ | ⟨a, b, c⟩ <;> simp [a, b, c] <;> omega
section
variable {b : Int} {s : Nat} {R : List Int} {S : PoolS}
theorem Inv.has (h : Inv b s R S) (a : Int) : hasB S a = rhasB b (s : Int) R a := by
  unfold hasB rhasB
  rw [h.hb, h.hs]
  by_cases h1 : b ≤ a
  · by_cases h2 : a < b + (s : Int)
    · obtain ⟨i, hi⟩ : ∃ i : Nat, a - b = (i : Int) := ⟨(a - b).toNat, by omega⟩
      rw [hi, Int.toNat_natCast, h.own i]
      have h3 : i < s := by omega
      simp [h1, h2, h3, inR]
    · have h3 : ¬ (a - b < (s : Int)) := by omega
      simp [h2, h3]
  · simp [h1]
theorem Inv.mem (h : Inv b s R S) {a : Int} (hh : hasB S a = true) : decide (a ∈ lsd S s) = !freeB S a := by
  obtain ⟨h1, h2, i, hi, him⟩ := hasB_in hh
  have ho : bitW S.ow i = true := by
    unfold hasB at hh
    rw [hi] at hh
    simp at hh
    exact hh.2.2
  have hib : a - b = (i : Int) := by rw [← h.hb]; exact hi
  have e1 : (a ∈ lsd S s) ↔ isL S i = true := by
    rw [lsd_is, lsdF_mem, h.hb]
    constructor
    · rintro ⟨j, hj, hf, he⟩
      have : j = i := by omega
      rw [← this]; exact hf
    · intro hf
      exact ⟨i, by have := h.hs; omega, hf, by omega⟩
  rw [Bool.eq_iff_iff, decide_eq_true_iff, e1]
  unfold isL freeB
  rw [ho, hi]
  simp
theorem Inv.want (h : Inv b s R S) (a : Int) : plE S a = rwE b (s : Int) R (lsd S s) a := by
  unfold plE rwE
  rw [← h.has]
  cases hh : hasB S a
  · rfl
  · rw [h.mem hh]
    cases freeB S a <;> simp
theorem Inv.gives (h : Inv b s R S) (a : Int) : gvE S a = rgE b (s : Int) R (lsd S s) a := by
  unfold gvE rgE
  rw [← h.has]
  cases hh : hasB S a
  · rfl
  · rw [h.mem hh]
    cases freeB S a <;> simp
theorem Inv.isL_lease (h : Inv b s R S) (hw : Wide S.fw) {i : Nat} (hl : i / 64 < S.fw.length) (hi : bitW S.fw i = true) (j : Nat) : isL (leased S i) j = if j = i then true else isL S j := by
  unfold isL leased
  simp only
  rw [bit_setW hw hl]
  by_cases e : j = i
  · subst e; simp [h.sub j hi]
  · simp [e]
theorem Inv.isL_give (hw : Wide S.fw) {i : Nat} (hl : i / 64 < S.fw.length) (j : Nat) : isL (given S i) j = if j = i then false else isL S j := by
  unfold isL given
  simp only
  rw [bit_setW hw hl]
  by_cases e : j = i
  · subst e; simp
  · simp [e]
theorem Inv.lsd_lease (h : Inv b s R S) (hw : Wide S.fw) {i : Nat} (hl : i / 64 < S.fw.length) (hi : bitW S.fw i = true) : lsd (leased S i) s = withL (lsd S s) (b + (i : Int)) := by
  rw [lsd_is, lsd_is, h.hb]
  have hb2 : (leased S i).b = b := h.hb
  rw [hb2]
  exact (withL_is (by unfold isL; rw [hi]; simp) (h.isL_lease hw hl hi) (h.lt hi)).symm
theorem Inv.lsd_give (h : Inv b s R S) (hw : Wide S.fw) {i : Nat} (hl : i / 64 < S.fw.length) : lsd (given S i) s = (lsd S s).filter (fun y => !(y == b + (i : Int))) := by
  rw [lsd_is, lsd_is, h.hb]
  have hb2 : (given S i).b = b := h.hb
  rw [hb2]
  exact (without_is (Inv.isL_give hw hl)).symm
theorem Inv.take (h : Inv b s R S) (hw : Wide S.fw) : tkO b s R (lsd S s) = lowO S.fw := by
  have key : ∀ j, j < s → tkB b (s : Int) R (lsd S s) j = bitW S.fw j := by
    intro j hj
    unfold tkB
    rw [← h.has]
    have hha : hasB S (b + (j : Int)) = bitW S.ow j := by
      unfold hasB
      rw [h.hb, h.hs]
      have h1 : b ≤ b + (j : Int) := by omega
      have h2 : b + (j : Int) < b + (s : Int) := by omega
      rw [show (b + (j : Int) - b).toNat = j by omega]
      simp [h1, h2]
    cases ho : bitW S.ow j
    · rw [hha, ho]
      cases hf : bitW S.fw j
      · rfl
      · rw [h.sub j hf] at ho; cases ho
    · rw [h.mem (by rw [hha, ho]), hha, ho]
      unfold freeB
      rw [h.hb, show (b + (j : Int) - b).toNat = j by omega]
      simp
  cases hlo : lowO S.fw with
  | none =>
    exact tkO_none fun j hj => by rw [key j hj]; exact lowO_none hlo j
  | some i =>
    obtain ⟨h1, h2, h3⟩ := lowO_some hw hlo
    have his := h.lt h2
    exact tkO_some his (by rw [key i his]; exact h2) (fun j hj => by rw [key j (by omega)]; exact h3 j hj)
theorem Inv.free (h : Inv b s R S) (hr : rowOk (s : Int) R = true) : S.left = (s : Int) - R.length - (lsd S s).length := by
  have h1 := cnt_row hr R.length (Nat.le_refl _)
  rw [List.take_length] at h1
  have h2 : cnt (bitW S.ow) s = cnt (fun i => !inR R i) s := cnt_congr fun j hj => by rw [h.own]; simp [hj]
  have h3 : cnt (bitW S.ow) s = cnt (isL S) s + cnt (bitW S.fw) s := cnt_add fun j hj => by
    unfold isL
    cases ho : bitW S.ow j
    · cases hf : bitW S.fw j
      · simp
      · rw [h.sub j hf] at ho; cases ho
    · cases hf : bitW S.fw j <;> simp
  rw [lsd_is, lsdF_len, h.left]
  omega
end
end Go.Proofs.YtoilghhclpgfaaaDoor
