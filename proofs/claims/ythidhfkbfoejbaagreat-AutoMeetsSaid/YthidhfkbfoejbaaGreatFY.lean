/- Laws of elder chapters that the bundle leaves out. -/
import Derived.Test.YthidhfkbfoejbaaGreatH
import Derived.Test.YthidhfkbfoejbaaGreatN4
namespace Go.Proofs.YthidhfkbfoejbaaGreat.Op
theorem cutOne_enc {o : Int × List UInt8} (h : okO o = true) (r : List UInt8) : cutOne (encO o ++ r) = some (o, r) := by
 obtain ⟨t, d⟩ := o
 simp only [okO, inB, Bool.and_eq_true, decide_eq_true_eq] at h
 obtain ⟨⟨h1, h2⟩, h3⟩ := h
 have e1 : (UInt8.ofNat t.toNat).toNat = t.toNat := by simp; omega
 have e2 : (UInt8.ofNat (d.length + 2)).toNat = d.length + 2 := by simp; omega
 simp only [encO, List.cons_append]
 rw [cutOne_cons, e2, if_pos (by simp), e1]
 simp
 omega
theorem decW_encs : ∀ (L : List (Int × List UInt8)) (f : Nat) (acc : List (Int × List UInt8)), L.all okO = true → (encs L).length ≤ f → acc.length + L.length ≤ 64 → decW f (encs L) acc = (acc ++ L, 0)
 | [], f, acc, _, _, _ => by simp [encs, decW_nil]
 | o :: L, f, acc, h, hf, hl => by
  simp only [List.all_cons, Bool.and_eq_true] at h
  have hc := cutOne_enc h.1 (encs L)
  rw [← encs_cons] at hc
  simp only [List.length_cons] at hl
  obtain ⟨f', hf', hd⟩ := decW_step (acc := acc) hf hc (by omega)
  rw [hd, decW_encs L f' (acc ++ [o]) h.2 hf' (by simp; omega)]
  simp
theorem back_enc {L : List (Int × List UInt8)} {x : List UInt8} (h : encR L = (x, 0)) : decR x = (L, 0) := by
 unfold encR at h
 split at h
 ·simp at h
 ·split at h
  ·split at h
   ·simp at h
   ·rename_i h1 h2 h3
    simp only [Prod.mk.injEq, and_true] at h
    subst h
    unfold decR
    rw [if_neg h3, decW_encs L _ [] h2 (Nat.le_refl _) (by simp; omega)]
    rfl
  ·simp at h
end Go.Proofs.YthidhfkbfoejbaaGreat.Op
namespace Go.Proofs.YthidhfkbfoejbaaGreat.Ne
theorem taken_same {R : List Rl} {L : List Opt} {naks most : Int} (h : (answerO R L naks most).1 = 2) : (answerO R L naks most).2 = L := by
 unfold answerO at h ⊢
 by_cases h0 : areB R = false
 ·rw [if_pos h0] at h; simp at h
 ·rw [if_neg h0] at h ⊢
  by_cases h1 : 0 < (sortK R L L.length).1.length
  ·rw [if_pos h1] at h; simp at h
  ·rw [if_neg h1] at h ⊢
   by_cases h2 : (nakR R L).length = 0
   ·rw [if_pos h2]
   ·rw [if_neg h2] at h
    split at h <;> simp at h
theorem nakO_drop {L : List Opt} {j : Nat} (hj : j < L.length) (o : Opt) : nakO (L.drop j) o = if L[j].1 = o.1 then (o.1, L[j].2) else nakO (L.drop (j + 1)) o := by
 rw [List.drop_eq_getElem_cons hj]
 unfold nakO plI
 rw [List.findIdx?_cons]
 by_cases h : L[j].1 = o.1
 ·simp [h, hj]
 ·have h2 : (L[j].1 == o.1) = false := by simpa using h
  simp only [h2, if_neg h]
  cases List.findIdx? (fun e => e.1 == o.1) (L.drop (j + 1)) with
  | none => simp
  | some i => simp [show j + (i + 1) = j + 1 + i by omega]
end Go.Proofs.YthidhfkbfoejbaaGreat.Ne
