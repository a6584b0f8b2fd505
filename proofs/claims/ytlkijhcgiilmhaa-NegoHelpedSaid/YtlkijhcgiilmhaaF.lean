/- Arguments opened: bytes; structs with bytes among their fields. -/
import Derived.Test.YtlkijhcgiilmhaaS
import Derived.ProofKit
import Derived.OpenShut
import Derived.Lib.SmallJoins
namespace Go.Proofs.Ytlkijhcgiilmhaa
open Go.ChangeShapes Go.WideShapes Go.ChangeAt Go.RowKit Go.Joins
set_option linter.unusedSimpArgs false
set_option linter.unusedVariables false
theorem cellsU8 : Try.prog.cellsOf 5 = 1 := by kernel_rfl
theorem open_bytes {H : Type} {enc : TypeId × Value → H} {W : World} {fuel : Nat} {cs : List Value} {x : DataW H × List MemPlace} (h : DataW.trod enc Try.prog W 0 (fun _ => true) true fuel 40 cs = some x) :
    ∃ (A : Option Addr) (len c : Nat) (l : List UInt8), cs = [.slice A len c] ∧ At W W.heap.size A (l.map bv) ∧ len = l.length ∧ len ≤ c ∧ (len : Int) ≤ 9223372036854775807 := by
  rcases open_ints Try.underlying40 Try.underlying5 cellsU8 h with ⟨hcs, _⟩ | ⟨a, len, cap, zs, hcs, _, hl, hm, hz, _, hcell, hwz⟩
  · exact ⟨none, 0, 0, [], hcs, At.nil _ _ _, rfl, Nat.le_refl _, by omega⟩
  · have hz' : zs.length = cap := by simpa using hz
    refine ⟨some a, len, cap, (zs.take len).map fun z => UInt8.ofNat z.toNat, hcs, ?_, by simp; omega, hl, by unfold maxLen at hm; omega⟩
    have hbv : ((zs.take len).map fun z => UInt8.ofNat z.toNat).map bv = (zs.take len).map (Value.int .u8) := by
      rw [List.map_map]
      apply List.map_congr_left
      intro z hzm
      have hw := hwz z (List.mem_of_mem_take hzm)
      have hb : 0 ≤ z ∧ z ≤ 255 := by simpa [Lit.wf, IntKind.min, IntKind.max, IntKind.signed, IntKind.bits] using hw
      obtain ⟨n, rfl⟩ := Int.eq_ofNat_of_zero_le hb.1
      show Value.int .u8 (((UInt8.ofNat n).toNat : Nat) : Int) = _
      rw [show (UInt8.ofNat n).toNat = n % 256 from by simp]
      congr 1
      omega
    rw [hbv]
    rcases Nat.eq_zero_or_pos len with h0 | h0
    · left; simp [h0]
    · right
      have hc0 := hcell 0 (by omega)
      obtain ⟨b, off, spot⟩ := a
      have hspot : spot = none := by simpa [Addr.add] using World.cell?_spot hc0
      subst hspot
      have hlt : b < W.heap.size := by
        have := World.block_lt_of_cell? W _ hc0
        simpa [Addr.add] using this
      refine ⟨b, off, rfl, hlt, fun j u hu => ?_⟩
      rw [List.getElem?_map, List.getElem?_take] at hu
      have hj : j < len := by
        by_cases hj : j < len
        · exact hj
        · rw [if_neg hj] at hu; cases hu
      rw [if_pos hj, List.getElem?_eq_getElem (by omega)] at hu
      have hc := hcell j (by omega)
      rw [List.getD_eq_getElem?_getD, List.getElem?_eq_getElem (by omega)] at hc
      have e : (⟨b, off, none⟩ : Addr).add j = ⟨b, off + j, none⟩ := by
        simp only [Addr.add]
        by_cases h0 : j = 0 <;> simp [h0]
      rw [e] at hc
      rw [hc]
      simpa using hu
theorem open_bytes_arg {H : Type} {enc : TypeId × Value → H} {W : World} {base : Nat} {v : Value} {d : DataW H} {p : List MemPlace} (o : Value.okWide Try.prog W .any base 40 v) (h : DataW.Trod enc Try.prog W 0 (fun _ => true) true 40 v d p) :
    ∃ (A : Option Addr) (len c : Nat) (l : List UInt8), v = .slice A len c ∧ At W W.heap.size A (l.map bv) ∧ len = l.length ∧ len ≤ c ∧ (len : Int) ≤ 9223372036854775807 := by
  obtain ⟨a, len, cap, rfl⟩ := okWide_slice Try.underlying40 o
  obtain ⟨fuel, hf⟩ := h
  obtain ⟨A, l1, c, l, hcs, r⟩ := open_bytes hf
  simp only [Value.cells, List.cons.injEq, and_true, Value.slice.injEq] at hcs
  obtain ⟨rfl, rfl, rfl⟩ := hcs
  exact ⟨_, _, _, l, rfl, r⟩
end Go.Proofs.Ytlkijhcgiilmhaa
