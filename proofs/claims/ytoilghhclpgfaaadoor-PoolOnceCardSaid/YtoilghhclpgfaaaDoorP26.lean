/- Two pools side by side; a row of octets opened. -/
import Derived.Test.YtoilghhclpgfaaaDoorP25
namespace Go.Proofs.YtoilghhclpgfaaaDoor
open Go.ChangeShapes Go.WideShapes Go.ChangeAt Go.RowKit Go.Joins Go.Deep
set_option linter.unusedSimpArgs false
set_option linter.unusedVariables false
def octs (V : List Nat) : List Value := V.map fun (v : Nat) => .int .u8 (v : Int)
theorem cellsOct : Tryd.prog.cellsOf 5 = 1 := by kernel_rfl
theorem open_octs {H : Type} {enc : TypeId × Value → H} {W : World} {base : Nat} {v : Value} {d : DataW H} {p : List MemPlace} (o : Value.okWide Tryd.prog W .any base 45 v) (h : DataW.Trod enc Tryd.prog W 0 (fun _ => true) true 45 v d p) :
    ∃ (A : Option Addr) (n c : Nat) (V : List Nat), v = .slice A n c ∧ At W W.heap.size A (octs V) ∧ (∀ x ∈ V, x < 256) ∧ n = V.length ∧ n ≤ c ∧ (n : Int) ≤ 9223372036854775807 := by
  obtain ⟨a0, len0, cap0, rfl⟩ := okWide_slice Tryd.underlying45 o
  obtain ⟨fuel, hf⟩ := h
  rcases open_ints Tryd.underlying45 Tryd.underlying5 cellsOct hf with ⟨hcs, _⟩ | ⟨a, len, cap, zs, hcs, _, hl, hm, hz, _, hcell, hwz⟩
  · simp only [Value.cells, List.cons.injEq, and_true, Value.slice.injEq] at hcs
    obtain ⟨rfl, rfl, rfl⟩ := hcs
    exact ⟨none, 0, 0, [], rfl, At.nil _ _ _, (fun x hx => by cases hx), rfl, Nat.le_refl _, by omega⟩
  · simp only [Value.cells, List.cons.injEq, and_true, Value.slice.injEq] at hcs
    obtain ⟨rfl, rfl, rfl⟩ := hcs
    have hz' : zs.length = cap0 := by simpa using hz
    have hwf : ∀ z ∈ zs, 0 ≤ z ∧ z ≤ 255 := fun z hzm => by
      have := hwz z hzm
      simpa [Lit.wf, IntKind.min, IntKind.max, IntKind.signed, IntKind.bits] using this
    have e0 : octs ((zs.take len0).map Int.toNat) = (zs.take len0).map (Value.int .u8) := by
      unfold octs
      rw [List.map_map]
      refine List.map_congr_left fun z hzm => ?_
      have := hwf z (List.mem_of_mem_take hzm)
      simp only [Function.comp_apply]
      congr 1
      omega
    refine ⟨some a, len0, cap0, (zs.take len0).map Int.toNat, rfl, ?_, ?_, by simp; omega, hl, by unfold maxLen at hm; omega⟩
    · rw [e0]
      rcases Nat.eq_zero_or_pos len0 with h0 | h0
      · left; simp [h0]
      · right
        have hc0 := hcell 0 (by omega)
        obtain ⟨b, off, spot⟩ := a
        have hspot : spot = none := by simpa [Addr.add] using World.cell?_spot hc0
        subst hspot
        have hlt : b < W.heap.size := by
          have := World.block_lt_of_cell? W _ hc0
          simpa [Addr.add] using this
        refine ⟨b, off, rfl, hlt, fun j u hu => ?_⟩
        rw [List.getElem?_map, List.getElem?_take] at hu
        have hj : j < len0 := by
          by_cases hj : j < len0
          · exact hj
          · rw [if_neg hj] at hu; cases hu
        rw [if_pos hj, List.getElem?_eq_getElem (by omega)] at hu
        have hc := hcell j (by omega)
        rw [List.getD_eq_getElem?_getD, List.getElem?_eq_getElem (by omega), add_none] at hc
        rw [hc]
        simpa using hu
    · intro x hx
      obtain ⟨z, hzm, rfl⟩ := List.mem_map.1 hx
      have := hwf z (List.mem_of_mem_take hzm)
      omega
theorem octs_take (V : List Nat) (n : Nat) : octs (V.take n) = (octs V).take n := by simp [octs, List.map_take]
theorem At.oct {w : World} {B : Nat} {A : Option Addr} {V : List Nat} (h : At w B A (octs V)) {k : Nat} (hk : k < V.length) :
    ∃ b o, A = some ⟨b, o, none⟩ ∧ b < B ∧ ∀ j, j < V.length → w.cell? ⟨b, o + j, none⟩ = some (.int .u8 (V.getD j 0 : Nat)) := by
  obtain ⟨b, o, hA, hB, hc⟩ := h.get (by simp [octs]; omega)
  refine ⟨b, o, hA, hB, fun j hj => hc j _ ?_⟩
  simp [octs, List.getElem?_map, List.getElem?_eq_getElem hj, List.getD_eq_getElem?_getD]
structure PO (W1 : World) (p1 : Nat) (S1 : PoolS) (p2 : Nat) (S2 : PoolS) (b : Int) (s : Nat) (R : List Int) (Z : Nat) (wr : World) : Prop where
  a : PI W1 p1 S1 b s R wr
  c : PI W1 p2 S2 b s R wr
  z1 : p1 < Z
  z2 : S1.af < Z
  z3 : S1.ao < Z
  y1 : Z ≤ p2
  y2 : Z ≤ S2.af
  y3 : Z ≤ S2.ao
section
variable {W1 wr w' : World} {p1 p2 Z : Nat} {S1 S2 S' : PoolS} {b : Int} {s : Nat} {R : List Int}
theorem PO.grow (h : PO W1 p1 S1 p2 S2 b s R Z wr) (hb : Below wr.heap.size wr w') : PO W1 p1 S1 p2 S2 b s R Z w' := { h with a := h.a.grow hb, c := h.c.grow hb }
theorem PO.turn1 (h : PO W1 p1 S1 p2 S2 b s R Z wr) (ht : Two p1 S1.af wr w') (hp : PoolAt w' p1 S') (hi : Inv b s R S') (haf : S'.af = S1.af) (hao : S'.ao = S1.ao) : PO W1 p1 S' p2 S2 b s R Z w' :=
  have h1 := h.z1; have h2 := h.z2; have h3 := h.z3; have h4 := h.y1; have h5 := h.y2; have h6 := h.y3
  { a := h.a.turn ht hp hi haf, c := ⟨h.c.pool.turned ht (by omega) (by omega) (by omega) (by omega) (by omega) (by omega), h.c.inv, (h.a.turn ht hp hi haf).below, h.c.hp, h.c.ha⟩, z1 := h1, z2 := (by rw [haf]; exact h2), z3 := (by rw [hao]; exact h3), y1 := h4, y2 := h5, y3 := h6 }
theorem PO.turn2 (h : PO W1 p1 S1 p2 S2 b s R Z wr) (ht : Two p2 S2.af wr w') (hp : PoolAt w' p2 S') (hi : Inv b s R S') (haf : S'.af = S2.af) (hao : S'.ao = S2.ao) : PO W1 p1 S1 p2 S' b s R Z w' :=
  have h1 := h.z1; have h2 := h.z2; have h3 := h.z3; have h4 := h.y1; have h5 := h.y2; have h6 := h.y3
  { c := h.c.turn ht hp hi haf, a := ⟨h.a.pool.turned ht (by omega) (by omega) (by omega) (by omega) (by omega) (by omega), h.a.inv, (h.c.turn ht hp hi haf).below, h.a.hp, h.a.ha⟩, z1 := h1, z2 := h2, z3 := h3, y1 := h4, y2 := (by rw [haf]; exact h5), y3 := (by rw [hao]; exact h6) }
end
end Go.Proofs.YtoilghhclpgfaaaDoor
