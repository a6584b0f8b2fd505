/- Small parts of the laws: Same, Free, at, small; operations opened. -/
import Derived.Test.YtoilghhclpgfaaaDoorP16
import Derived.Deep.Slices
import Derived.Deep.Fields
import Derived.ChangeSame
namespace Go.Proofs.YtoilghhclpgfaaaDoor
open Go.ChangeShapes Go.WideShapes Go.ChangeAt Go.RowKit Go.Joins Go.Deep
set_option linter.unusedSimpArgs false
set_option linter.unusedVariables false
section
variable {H : Type} {enc : TypeId × Value → H} {P : Program} {w : World} {base : Nat} {spare : Nat → Bool} {held : Bool}
theorem open_slice_fields {t e : TypeId} {fs : Array Field} {fuel : Nat} {cs : List Value} {x : DataW H × List MemPlace} (ht : P.underlying t = some (.slice e)) (he : P.underlying e = some (.struct fs))
    (hone : oneCellFields P fs = true) (hC : P.cellsOf e = fs.size) (h : DataW.trod enc P w base spare held fuel t cs = some x) :
    (cs = [.slice none 0 0] ∧ x = (.nil, [])) ∨
    ∃ (a : Addr) (len cap m : Nat) (D : Nat → DataW H) (Pl : Nat → List MemPlace), cs = [.slice (some a) len cap] ∧ base ≤ a.block ∧ len ≤ cap ∧ cap ≤ maxLen ∧ m = (if spare a.block then cap else len) ∧
      x = (.slice ((List.range len).map D) ((List.range (m - len)).map fun j => D (len + j)), MemPlace.row a (m * fs.size) ++ (List.range m).flatMap Pl) ∧
      ∀ i, i < m → ∃ (ys : List (DataW H × List MemPlace)) (n : Nat), D i = .agg (ys.map (·.1)) ∧ Pl i = ys.flatMap (·.2) ∧ ys.length = fs.size ∧
        ∀ (j : Nat) (f : Field), fs[j]? = some f → ∃ (v : Value) (y : DataW H × List MemPlace), w.cell? (a.add (i * fs.size + j)) = some v ∧ ys[j]? = some y ∧ DataW.trod enc P w base spare held n f.type [v] = some y := by
  rcases open_slice ht h with h0 | ⟨a, len, cap, m, n, D, Pl, hcs, hb, hl, hm, hmm, hx, hi⟩
  · exact .inl h0
  · refine .inr ⟨a, len, cap, m, D, Pl, hcs, hb, hl, hm, hmm, by rw [hC] at hx; exact hx, fun i him => ?_⟩
    obtain ⟨cs', hc, ht'⟩ := hi i him
    rw [hC] at hc
    obtain ⟨ys, n', hn', hy, hlen, hyl, hf⟩ := DataW.trod_struct he ht'
    obtain ⟨_, hcl, hat⟩ := World.cells?_some hc
    simp only [Prod.mk.injEq] at hy
    refine ⟨ys, n', hy.1, hy.2, hyl, fun j f hj => ?_⟩
    obtain ⟨ho, hk⟩ := hone_of hone j f hj
    have hjl : j < fs.size := (Array.getElem?_eq_some_iff.1 hj).1
    have hcell := hat j hjl
    have hv : cs'[j]? = some (cs'[j]'(by omega)) := List.getElem?_eq_getElem (by omega)
    have h1 := hf j f hj
    rw [ho, hk] at h1
    have hone' : (cs'.drop j).take 1 = [cs'[j]'(by omega)] := by
      rw [List.drop_eq_getElem_cons (by omega)]
      rfl
    rw [hone'] at h1
    have hys : ys[j]? = some (ys[j]'(by omega)) := List.getElem?_eq_getElem (by omega)
    refine ⟨_, _, ?_, hys, h1.trans hys⟩
    rw [← Go.Deep.add_add, hcell, hv]
end

set_option maxHeartbeats 1000000 in
theorem Same_yes (A : Option Addr) (n c : Nat) (B : Option Addr) (m d : Nat) (L : List Int) (w : World) (B0 B1 : Nat) (hB0 : B0 ≤ w.heap.size) (hB1 : B1 ≤ w.heap.size) (hA : At w B0 A (ints L)) (hB : At w B1 B (ints L)) (hn : n = L.length) (hm : m = L.length) (hl : n ≤ 1000000) :
    Calls Tryd.prog 21 #[.slice A n c, .slice B m d] w fun e w' => e = .returned (.bool true) ∧ ∃ q, w' = w.drewN q := by
  have HA := Lib.hid hA
  have HB := Lib.hid hB
  have hmn : m = n := by omega
  have HN := Lib.hid hn
  have HBB := Lib.hid (And.intro hB0 hB1)
  subst hmn
  clear hA hB hn hm hB0 hB1
  go_enter Tryd.func21, Tryd.ntmps21
  go_wp2_with fail
  go_loopw [5] (fun i wr => ∃ k q : Nat, k ≤ m ∧ i = .int .i64 k ∧ wr = w.drewN q) (fun i _ => m - (intOf i).toNat)
  case atStart => exact ⟨0, 0, Nat.zero_le _, rfl, rfl⟩
  case round =>
    obtain ⟨k, q, hk, rfl, rfl⟩ := hrel
    by_cases hlt : k < m
    · have HK := Lib.hid (show k < L.length by have := HN.out; omega)
      obtain ⟨b1, o1, rfl, hb1, hc1⟩ := At.int HA.out HK.out
      obtain ⟨b2, o2, rfl, hb2, hc2⟩ := At.int HB.out HK.out
      have g1 := hc1 k HK.out
      have g2 := hc2 k HK.out
      have hz1 : b1 < w.heap.size := by have := HBB.out; omega
      have hz2 : b2 < w.heap.size := by have := HBB.out; omega
      have jj0 : (0 : Int) ≤ (k : Int) := by omega
      have jj1 : (k : Int) < (m : Int) := by omega
      clear hc1 hc2
      obtain ⟨w1, hw1⟩ : ∃ w1, w1 = w.drewN q := ⟨_, rfl⟩
      have G1 : w1.cell? ⟨b1, o1 + k, none⟩ = some (.int .i64 (L.getD k 0)) := by rw [hw1]; exact g1
      have G2 : w1.cell? ⟨b2, o2 + k, none⟩ = some (.int .i64 (L.getD k 0)) := by rw [hw1]; exact g2
      have Z1 : b1 < w1.heap.size := by rw [hw1]; exact hz1
      have Z2 : b2 < w1.heap.size := by rw [hw1]; exact hz2
      rw [← hw1]
      have HW1 := Lib.hid hw1
      clear hw1 g1 g2 hz1 hz2
      go_wp2_with fail
      go_quiet (fail)
      go_wp2_with fail
      go_roundw
      case rel => exact ⟨k + 1, _, by omega, by go_num, by rw [HW1.out, World.drewN_drewN]⟩
      case measure => simp [intOf]; omega
    · obtain rfl : k = m := by omega
      go_wp2_with fail
      go_ret
      exact ⟨rfl, q, rfl⟩
theorem Free_ref (b s : Int) (A : Option Addr) (n c : Nat) (B : Option Addr) (m d : Nat) (W : World) (h1 : 0 ≤ s) (h2 : s ≤ 65536) (h3 : n ≤ 1000000) (h4 : m ≤ 1000000) :
    Calls Tryd.prog 26 #[rpV b s A n c B m d] W fun e w' => e = .returned (.int .i64 (s - (n : Int) - (m : Int))) ∧ Below W.heap.size W w' := by
  unfold rpV
  go_enter Tryd.func26, Tryd.ntmps26
  go_wp2_with fail
  go_ret
  exact ⟨rfl, by (repeat (first | exact Below.refl _ _ | exact Nat.le_refl _ | (refine below_ext ?_ (by first | (simp [size_ext, grow]; done) | (simp [size_ext, grow]; omega) | omega) _ _) | (refine Below.setCell ?_ (by first | (simp [size_ext, grow]; done) | (simp [size_ext, grow]; omega) | omega) _) | (refine Below.alloc ?_ (by first | (simp [size_ext, grow]; done) | (simp [size_ext, grow]; omega) | omega) _) | refine Below.drew ?_ | refine below_drewN ?_ _ | (refine Below.trans ?_ (Below.mono (by assumption) (by first | (simp [size_ext, grow]; done) | (simp [size_ext, grow]; omega) | omega)))))⟩
/-- An operation. -/
structure Op1 where
  d : Nat
  a : Int
  i : Bool
def atOf (b : Int) (o : Op1) : Int := if o.i = true ∧ 0 ≤ o.a ∧ o.a < 100 then b + o.a else o.a
theorem at_any (b s : Int) (A : Option Addr) (n c : Nat) (o : Op1) (W : World) (h1 : 1 ≤ b) (h2 : b ≤ 4294967294) :
    Calls Tryd.prog 16 #[rangeV b s A n c, .agg #[.int .u8 (o.d : Int), .int .i64 o.a, .bool o.i]] W fun e w' => e = .returned (.int .i64 (atOf b o)) ∧ Below W.heap.size W w' := by
  obtain ⟨dd, a, i⟩ := o
  unfold rangeV
  simp only
  cases i
  · have H := Lib.hid (show atOf b ⟨dd, a, false⟩ = a by simp [atOf])
    go_enter Tryd.func16, Tryd.ntmps16
    go_wp2_with fail
    go_ret
    exact ⟨ret_int H.out.symm, by (repeat (first | exact Below.refl _ _ | exact Nat.le_refl _ | (refine below_ext ?_ (by first | (simp [size_ext, grow]; done) | (simp [size_ext, grow]; omega) | omega) _ _) | (refine Below.setCell ?_ (by first | (simp [size_ext, grow]; done) | (simp [size_ext, grow]; omega) | omega) _) | (refine Below.alloc ?_ (by first | (simp [size_ext, grow]; done) | (simp [size_ext, grow]; omega) | omega) _) | refine Below.drew ?_ | refine below_drewN ?_ _ | (refine Below.trans ?_ (Below.mono (by assumption) (by first | (simp [size_ext, grow]; done) | (simp [size_ext, grow]; omega) | omega)))))⟩
  · by_cases a0 : 0 ≤ a
    · by_cases a1 : a < 100
      · have H := Lib.hid (show atOf b ⟨dd, a, true⟩ = b + a by simp [atOf, a0, a1])
        have d1 : decide (0 ≤ a) = true := by simpa using a0
        have d2 : decide (a < 100) = true := by simpa using a1
        go_enter Tryd.func16, Tryd.ntmps16
        go_wp2_with fail
        go_ret
        exact ⟨ret_int H.out.symm, by (repeat (first | exact Below.refl _ _ | exact Nat.le_refl _ | (refine below_ext ?_ (by first | (simp [size_ext, grow]; done) | (simp [size_ext, grow]; omega) | omega) _ _) | (refine Below.setCell ?_ (by first | (simp [size_ext, grow]; done) | (simp [size_ext, grow]; omega) | omega) _) | (refine Below.alloc ?_ (by first | (simp [size_ext, grow]; done) | (simp [size_ext, grow]; omega) | omega) _) | refine Below.drew ?_ | refine below_drewN ?_ _ | (refine Below.trans ?_ (Below.mono (by assumption) (by first | (simp [size_ext, grow]; done) | (simp [size_ext, grow]; omega) | omega)))))⟩
      · have H := Lib.hid (show atOf b ⟨dd, a, true⟩ = a by simp [atOf, a1])
        have d1 : decide (0 ≤ a) = true := by simpa using a0
        have d2 : decide (a < 100) = false := by simpa using a1
        clear a0 a1
        go_enter Tryd.func16, Tryd.ntmps16
        go_wp2_with fail
        go_ret
        exact ⟨ret_int H.out.symm, by (repeat (first | exact Below.refl _ _ | exact Nat.le_refl _ | (refine below_ext ?_ (by first | (simp [size_ext, grow]; done) | (simp [size_ext, grow]; omega) | omega) _ _) | (refine Below.setCell ?_ (by first | (simp [size_ext, grow]; done) | (simp [size_ext, grow]; omega) | omega) _) | (refine Below.alloc ?_ (by first | (simp [size_ext, grow]; done) | (simp [size_ext, grow]; omega) | omega) _) | refine Below.drew ?_ | refine below_drewN ?_ _ | (refine Below.trans ?_ (Below.mono (by assumption) (by first | (simp [size_ext, grow]; done) | (simp [size_ext, grow]; omega) | omega)))))⟩
    · have H := Lib.hid (show atOf b ⟨dd, a, true⟩ = a by simp [atOf, a0])
      have d1 : decide (0 ≤ a) = false := by simpa using a0
      clear a0
      go_enter Tryd.func16, Tryd.ntmps16
      go_wp2_with fail
      go_ret
      exact ⟨ret_int H.out.symm, by (repeat (first | exact Below.refl _ _ | exact Nat.le_refl _ | (refine below_ext ?_ (by first | (simp [size_ext, grow]; done) | (simp [size_ext, grow]; omega) | omega) _ _) | (refine Below.setCell ?_ (by first | (simp [size_ext, grow]; done) | (simp [size_ext, grow]; omega) | omega) _) | (refine Below.alloc ?_ (by first | (simp [size_ext, grow]; done) | (simp [size_ext, grow]; omega) | omega) _) | refine Below.drew ?_ | refine below_drewN ?_ _ | (refine Below.trans ?_ (Below.mono (by assumption) (by first | (simp [size_ext, grow]; done) | (simp [size_ext, grow]; omega) | omega)))))⟩
def smS (s : Int) : Int := if 60 < s ∧ s ≤ 65536 then 60 else s
def smR (R : List Int) : List Int := if 70 < R.length then R.take 70 else R
def smN (n : Nat) : Nat := if 70 < n then 70 else n
theorem smN_len {n : Nat} {R : List Int} (h : n = R.length) : smN n = (smR R).length := by
  unfold smN smR
  by_cases h1 : 70 < n
  · rw [if_pos h1, if_pos (by omega), List.length_take]; omega
  · rw [if_neg h1, if_neg (by omega)]; exact h
theorem smR_at {w : World} {B : Nat} {A : Option Addr} {R : List Int} (h : At w B A (ints R)) : At w B A (ints (smR R)) := by
  unfold smR
  by_cases h1 : 70 < R.length
  · rw [if_pos h1, ints_take]; exact h.take 70
  · rw [if_neg h1]; exact h
theorem smS_le {s : Int} (h : 0 ≤ s) (h2 : s ≤ 65536) : 0 ≤ smS s ∧ smS s ≤ 60 := by unfold smS; split <;> omega
set_option maxHeartbeats 1000000 in
theorem small_any (b s : Int) (A : Option Addr) (n c : Nat) (W : World) (hc : n ≤ c) (hn2 : (n : Int) ≤ 9223372036854775807) :
    Calls Tryd.prog 12 #[rangeV b s A n c] W fun e w' => e = .returned (rangeV b (smS s) A (smN n) c) ∧ Below W.heap.size W w' := by
  have ha : Option.map (fun x : Addr => x.add 0) A = A := by cases A <;> simp [Addr.add]
  have main : ∀ s' n' : Int, True := fun _ _ => trivial
  clear main
  by_cases h1 : 60 < s ∧ s ≤ 65536
  · obtain ⟨h1, h1'⟩ := h1
    have HS := Lib.hid (show smS s = 60 by unfold smS; rw [if_pos ⟨h1, h1'⟩])
    have d1 : decide (60 < s) = true := by simpa using h1
    have d2 : decide (s ≤ 65536) = true := by simpa using h1'
    by_cases h3 : 70 < n
    · have HN := Lib.hid (show smN n = 70 by unfold smN; rw [if_pos h3])
      have hmc : 70 ≤ c := by omega
      unfold rangeV
      go_enter Tryd.func12, Tryd.ntmps12
      go_wp2_with fail
      rw [HS.out, HN.out]
      exact bodyPost_ret (v := .agg #[.int .i64 b, .int .i64 60, .slice A 70 c]) (by simp [results, Tryd.results12, go_sem]) rfl ⟨rfl, by (repeat (first | exact Below.refl _ _ | exact Nat.le_refl _ | (refine below_ext ?_ (by first | (simp [size_ext, grow]; done) | (simp [size_ext, grow]; omega) | omega) _ _) | (refine Below.setCell ?_ (by first | (simp [size_ext, grow]; done) | (simp [size_ext, grow]; omega) | omega) _) | (refine Below.alloc ?_ (by first | (simp [size_ext, grow]; done) | (simp [size_ext, grow]; omega) | omega) _) | refine Below.drew ?_ | refine below_drewN ?_ _ | (refine Below.trans ?_ (Below.mono (by assumption) (by first | (simp [size_ext, grow]; done) | (simp [size_ext, grow]; omega) | omega)))))⟩
    · have HN := Lib.hid (show smN n = n by unfold smN; rw [if_neg h3])
      have h3' : n ≤ 70 := by omega
      clear h3
      unfold rangeV
      go_enter Tryd.func12, Tryd.ntmps12
      go_wp2_with fail
      rw [HS.out, HN.out]
      exact bodyPost_ret (v := .agg #[.int .i64 b, .int .i64 60, .slice A n c]) (by simp [results, Tryd.results12, go_sem]) rfl ⟨rfl, by (repeat (first | exact Below.refl _ _ | exact Nat.le_refl _ | (refine below_ext ?_ (by first | (simp [size_ext, grow]; done) | (simp [size_ext, grow]; omega) | omega) _ _) | (refine Below.setCell ?_ (by first | (simp [size_ext, grow]; done) | (simp [size_ext, grow]; omega) | omega) _) | (refine Below.alloc ?_ (by first | (simp [size_ext, grow]; done) | (simp [size_ext, grow]; omega) | omega) _) | refine Below.drew ?_ | refine below_drewN ?_ _ | (refine Below.trans ?_ (Below.mono (by assumption) (by first | (simp [size_ext, grow]; done) | (simp [size_ext, grow]; omega) | omega)))))⟩
  · have HS := Lib.hid (show smS s = s by unfold smS; rw [if_neg h1])
    have hcase : (decide (60 < s) = false) ∨ (decide (60 < s) = true ∧ decide (s ≤ 65536) = false) := by
      by_cases h2 : 60 < s
      · right; exact ⟨by simpa using h2, by simp; omega⟩
      · left; simpa using h2
    clear h1
    rcases hcase with d1 | ⟨d1, d2⟩
    all_goals
      by_cases h3 : 70 < n
      · have HN := Lib.hid (show smN n = 70 by unfold smN; rw [if_pos h3])
        have hmc : 70 ≤ c := by omega
        unfold rangeV
        go_enter Tryd.func12, Tryd.ntmps12
        go_wp2_with fail
        rw [HS.out, HN.out]
        exact bodyPost_ret (v := .agg #[.int .i64 b, .int .i64 s, .slice A 70 c]) (by simp [results, Tryd.results12, go_sem]) rfl ⟨rfl, by (repeat (first | exact Below.refl _ _ | exact Nat.le_refl _ | (refine below_ext ?_ (by first | (simp [size_ext, grow]; done) | (simp [size_ext, grow]; omega) | omega) _ _) | (refine Below.setCell ?_ (by first | (simp [size_ext, grow]; done) | (simp [size_ext, grow]; omega) | omega) _) | (refine Below.alloc ?_ (by first | (simp [size_ext, grow]; done) | (simp [size_ext, grow]; omega) | omega) _) | refine Below.drew ?_ | refine below_drewN ?_ _ | (refine Below.trans ?_ (Below.mono (by assumption) (by first | (simp [size_ext, grow]; done) | (simp [size_ext, grow]; omega) | omega)))))⟩
      · have HN := Lib.hid (show smN n = n by unfold smN; rw [if_neg h3])
        have h3' : n ≤ 70 := by omega
        clear h3
        unfold rangeV
        go_enter Tryd.func12, Tryd.ntmps12
        go_wp2_with fail
        rw [HS.out, HN.out]
        exact bodyPost_ret (v := .agg #[.int .i64 b, .int .i64 s, .slice A n c]) (by simp [results, Tryd.results12, go_sem]) rfl ⟨rfl, by (repeat (first | exact Below.refl _ _ | exact Nat.le_refl _ | (refine below_ext ?_ (by first | (simp [size_ext, grow]; done) | (simp [size_ext, grow]; omega) | omega) _ _) | (refine Below.setCell ?_ (by first | (simp [size_ext, grow]; done) | (simp [size_ext, grow]; omega) | omega) _) | (refine Below.alloc ?_ (by first | (simp [size_ext, grow]; done) | (simp [size_ext, grow]; omega) | omega) _) | refine Below.drew ?_ | refine below_drewN ?_ _ | (refine Below.trans ?_ (Below.mono (by assumption) (by first | (simp [size_ext, grow]; done) | (simp [size_ext, grow]; omega) | omega)))))⟩
end Go.Proofs.YtoilghhclpgfaaaDoor
