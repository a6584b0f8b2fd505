/- OptsEnds: its walk. -/
import Derived.Test.YtbdkapmiioiikaaH21
namespace Go.Proofs.Ytbdkapmiioiikaa
open Go.ChangeShapes Go.WideShapes Go.ChangeAt Go.RowKit Go.Joins Go.Deep
set_option linter.unusedSimpArgs false
set_option linter.unusedVariables false
theorem decW_encs_many : ∀ (L : List (Int × List UInt8)) (f : Nat) (acc : List (Int × List UInt8)), L.all okO = true → (encs L).length ≤ f → acc.length ≤ 64 → 64 < acc.length + L.length → decW f (encs L) acc = ([], 3)
  | [], f, acc, _, _, h1, h2 => by simp at h2; omega
  | o :: L, f, acc, h, hf, h1, h2 => by
    simp only [List.all_cons, Bool.and_eq_true] at h
    have hc := cutOne_enc h.1 (encs L)
    rw [← encs_cons] at hc
    simp only [List.length_cons] at h2
    by_cases h6 : acc.length = 64
    · exact decW_many hf hc h6
    · obtain ⟨f', hf', hd⟩ := decW_step (acc := acc) hf hc h6
      rw [hd, decW_encs_many L f' (acc ++ [o]) h.2 hf' (by simp; omega) (by simp; omega)]
/-- What Encode and Decode say at the ends. -/
def EndW (want : Int) (L : List (Int × List UInt8)) : Prop :=
  L.all okO = true ∧ L.length ≤ 65 ∧ ((want = 0 ∧ encR L = (encs L, 0) ∧ decR (encs L) = (L, 0)) ∨ (want ≠ 0 ∧ encR L = ([], want) ∧ decR (encs L) = ([], want)))
theorem endW_many {L : List (Int × List UInt8)} (h : L.all okO = true) (h65 : L.length = 65) (hl : (encs L).length ≤ 1488) : EndW 3 L := by
  refine ⟨h, by omega, .inr ⟨by decide, ?_, ?_⟩⟩
  · unfold encR; rw [if_pos (by omega)]
  · unfold decR; rw [if_neg (by omega), decW_encs_many L _ [] h (Nat.le_refl _) (by simp) (by simp; omega)]
theorem endW_long {L : List (Int × List UInt8)} (h : L.all okO = true) (h64 : L.length ≤ 64) (hl : 1488 < (encs L).length) : EndW 2 L := by
  refine ⟨h, by omega, .inr ⟨by decide, ?_, ?_⟩⟩
  · unfold encR; rw [if_neg (by omega), if_pos h, if_pos hl]
  · unfold decR; rw [if_pos hl]
theorem endW_ok {L : List (Int × List UInt8)} (h : L.all okO = true) (h64 : L.length ≤ 64) (hl : (encs L).length ≤ 1488) : EndW 0 L := by
  refine ⟨h, by omega, .inl ⟨rfl, ?_, ?_⟩⟩
  · unfold encR; rw [if_neg (by omega), if_pos h, if_neg (by omega)]
  · unfold decR; rw [if_neg (by omega), decW_encs L _ [] h (Nat.le_refl _) (by simp; omega)]; rfl
theorem encs_rep (n : Nat) : (encs (List.replicate n ((0 : Int), ([] : List UInt8)))).length = 2 * n := by
  induction n with
  | zero => rfl
  | succ n ih => rw [List.replicate_succ, encs_cons, List.length_append, ih]; simp [encO]; omega
theorem all_rep (n : Nat) : (List.replicate n ((0 : Int), ([] : List UInt8))).all okO = true := by
  rw [List.all_eq_true]
  intro x hx
  rw [List.eq_of_mem_replicate hx]
  decide
theorem endW_rep (k : Nat) (hk : k < 3) : EndW (if k = 2 then 3 else 0) (List.replicate (63 + k) ((0 : Int), ([] : List UInt8))) := by
  by_cases h : k = 2
  · rw [if_pos h]; exact endW_many (all_rep _) (by simp; omega) (by rw [encs_rep]; omega)
  · rw [if_neg h]; exact endW_ok (all_rep _) (by simp; omega) (by rw [encs_rep]; omega)
def zs (n : Nat) : List UInt8 := List.replicate n 0
theorem zs_len (n : Nat) : (zs n).length = n := by unfold zs; simp
theorem encO_zs (i : Int) (n : Nat) : (encO (i, zs n)).length = n + 2 := by simp only [encO, List.length_cons, zs_len]
theorem encs_one (o : Int × List UInt8) : encs [o] = encO o := by simp [encs]
def longL (j : Nat) : List (Int × List UInt8) := (List.range j).map fun (i : Nat) => ((i : Int), zs 253)
theorem longL_succ (j : Nat) : longL (j + 1) = longL j ++ [((j : Int), zs 253)] := by unfold longL; rw [List.range_succ, List.map_append]; rfl
theorem longL_len (j : Nat) : (longL j).length = j := by unfold longL; simp
theorem okO_zs (i n : Nat) (hi : i ≤ 255) (hn : n ≤ 253) : okO ((i : Int), zs n) = true := by unfold okO inB; simp only [zs_len]; simp; omega
theorem encs_app (a b : List (Int × List UInt8)) : encs (a ++ b) = encs a ++ encs b := by unfold encs; simp
theorem longL_enc : ∀ j : Nat, (encs (longL j)).length = 255 * j
  | 0 => rfl
  | j + 1 => by rw [longL_succ, encs_app, List.length_append, longL_enc j, encs_one, encO_zs]; omega
theorem longL_ok : ∀ j : Nat, j ≤ 5 → (longL j).all okO = true
  | 0, _ => rfl
  | j + 1, h => by rw [longL_succ, List.all_append, longL_ok j (by omega)]; simp [okO_zs j 253 (by omega) (by omega)]
theorem endW_zs (k : Nat) (hk : k < 3) : EndW (if k = 2 then 2 else 0) (longL 5 ++ [((0 : Int), zs (210 + k))]) := by
  have h1 : (longL 5 ++ [((0 : Int), zs (210 + k))]).all okO = true := by
    rw [List.all_append, longL_ok 5 (by omega)]
    have := okO_zs 0 (210 + k) (by omega) (by omega)
    simpa using this
  have h2 : (encs (longL 5 ++ [((0 : Int), zs (210 + k))])).length = 1487 + k := by
    rw [encs_app, List.length_append, longL_enc, encs_one, encO_zs]; omega
  have h3 : (longL 5 ++ [((0 : Int), zs (210 + k))]).length = 6 := by rw [List.length_append, longL_len]; rfl
  by_cases h : k = 2
  · rw [if_pos h]; exact endW_long h1 (by omega) (by omega)
  · rw [if_neg h]; exact endW_ok h1 (by omega) (by omega)
def e0 : Ent := ⟨0, [], none, 0⟩
theorem made_two (n : Nat) : (madeCells (Value.cells (.agg #[.int .i64 0, .slice none 0 0])) (n * 2)).toList = cellsE (List.replicate n e0) := by
  apply List.ext_getElem?
  intro j
  have hv : Value.cells (.agg #[.int .i64 0, .slice none 0 0]) = #[.int .i64 0, .slice none 0 0] := rfl
  rw [hv]
  by_cases hj : j < n * 2
  · obtain ⟨g0, g1⟩ := cellsE_get (List.replicate n e0) (j / 2) (by simp; omega)
    rcases Nat.mod_two_eq_zero_or_one j with e | e
    · rw [show 2 * (j / 2) = j by omega] at g0
      rw [g0]
      simp [madeCells, hj, e, e0]
    · rw [show 2 * (j / 2) + 1 = j by omega] at g1
      rw [g1]
      simp [madeCells, hj, e, e0, Ent.v]
  · have h1 : (cellsE (List.replicate n e0)).length ≤ j := by rw [cellsE_len]; simp; omega
    rw [List.getElem?_eq_none h1]
    simp [madeCells, hj]
theorem made_zs (n : Nat) : (madeCells (Value.cells (.int .u8 0)) (n * 1)).toList = (zs n).map bv := by
  rw [show (Value.cells (.int .u8 0)) = #[.int .u8 0] from rfl, toList_madeCells_one]
  simp [zs, bv]
/-- What stands where both ways meet. -/
def EndS (w : World) (v6 v7 : Value) (wx : World) : Prop :=
  ∃ (E : List Ent) (A : Option Addr) (n c : Nat) (want : Int), v6 = .slice A n c ∧ v7 = .int .i64 want ∧ n = E.length ∧ Below w.heap.size w wx ∧ OwnOpts wx w.heap.size (.slice A n c) E ∧ EndW want (E.map Ent.o)
end Go.Proofs.Ytbdkapmiioiikaa
