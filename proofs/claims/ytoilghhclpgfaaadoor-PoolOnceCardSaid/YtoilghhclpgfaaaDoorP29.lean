/- PoolOnce: plain laws; a pool and a row of the law's own. -/
import Derived.Test.YtoilghhclpgfaaaDoorP28
namespace Go.Proofs.YtoilghhclpgfaaaDoor
open Go.ChangeShapes Go.WideShapes Go.ChangeAt Go.RowKit Go.Joins Go.Deep
set_option linter.unusedSimpArgs false
set_option linter.unusedVariables false
structure Had (H L : List Int) : Prop where
  nd : H.Nodup
  mem : ∀ x, x ∈ H ↔ x ∈ L
theorem Had.nil : Had [] [] := ⟨List.nodup_nil, fun _ => Iff.rfl⟩
theorem Had.give {H L : List Int} (h : Had H L) {k : Nat} (hk : k < H.length) : Had (H.take k ++ H.drop (k + 1)) (L.filter fun y => !(y == H.getD k 0)) := by
  have e : H.getD k 0 = H[k] := by simp [List.getD_eq_getElem?_getD, List.getElem?_eq_getElem hk]
  have hs : H = H.take k ++ H[k] :: H.drop (k + 1) := by rw [List.getElem_cons_drop, List.take_append_drop]
  rw [e]
  obtain ⟨a, ha⟩ : ∃ a, H[k] = a := ⟨_, rfl⟩
  obtain ⟨T, hT⟩ : ∃ T, H.take k = T := ⟨_, rfl⟩
  obtain ⟨D, hD⟩ : ∃ D, H.drop (k + 1) = D := ⟨_, rfl⟩
  rw [ha] at hs ⊢
  rw [hT, hD] at hs ⊢
  have nd := h.nd
  rw [hs, List.nodup_append] at nd
  obtain ⟨n1, n2, n3⟩ := nd
  rw [List.nodup_cons] at n2
  refine ⟨?_, fun x => ?_⟩
  · rw [List.nodup_append]
    exact ⟨n1, n2.2, fun x hx y hy => n3 x hx y (List.mem_cons_of_mem _ hy)⟩
  · rw [List.mem_filter, ← h.mem, hs]
    simp only [List.mem_append, List.mem_cons, Bool.not_eq_true', beq_eq_false_iff_ne, ne_eq]
    constructor
    · rintro (hx | hx)
      · exact ⟨.inl hx, fun e => n3 x hx a (List.mem_cons_self ..) e⟩
      · exact ⟨.inr (.inr hx), fun e => n2.1 (e ▸ hx)⟩
    · rintro ⟨hx | hx | hx, hne⟩
      · exact .inl hx
      · exact absurd hx hne
      · exact .inr hx
theorem Had.add {H L : List Int} (h : Had H L) {x : Int} (hx : x ∉ L) : Had (H ++ [x]) (withL L x) := by
  refine ⟨?_, fun y => ?_⟩
  · rw [List.nodup_append]
    refine ⟨h.nd, by simp, fun y hy z hz e => ?_⟩
    have hz' : z = x := by simpa using hz
    subst hz'; subst e
    exact hx ((h.mem y).1 hy)
  · rw [mem_withL, List.mem_append, h.mem]
    simp
theorem lsd_nodup (S : PoolS) (k : Nat) : (lsd S k).Nodup := by
  rw [List.nodup_iff_count]
  intro x
  by_cases hx : x ∈ lsd S k
  · rw [lsd_is, lsdF_mem] at hx
    obtain ⟨i, -, -, rfl⟩ := hx
    rw [lsd_count]
    split <;> omega
  · rw [List.count_eq_zero.2 hx]; omega
theorem Had.len {H L : List Int} (h : Had H L) (hL : L.Nodup) : H.length = L.length := by
  refine List.Perm.length_eq (List.perm_iff_count.2 fun x => ?_)
  have h1 := List.nodup_iff_count.1 h.nd x
  have h2 := List.nodup_iff_count.1 hL x
  by_cases hx : x ∈ H
  · have a1 := List.count_pos_iff.2 hx
    have a2 := List.count_pos_iff.2 ((h.mem x).1 hx)
    omega
  · rw [List.count_eq_zero.2 hx, List.count_eq_zero.2 (fun e => hx ((h.mem x).2 e))]
theorem Inv.lsd_has {b : Int} {s : Nat} {R : List Int} {S : PoolS} (h : Inv b s R S) {x : Int} (hx : x ∈ lsd S s) : rhasB b (s : Int) R x = true := by
  rw [lsd_is, lsdF_mem] at hx
  obtain ⟨i, hi, hl, rfl⟩ := hx
  rw [← h.has]
  unfold hasB
  have e : (S.b + (i : Int) - S.b).toNat = i := by omega
  rw [e, h.hs]
  unfold isL at hl
  simp at hl
  simp [hl.1]
  omega
/-- What the first of the free ones is. -/
theorem Inv.low {b : Int} {s : Nat} {R : List Int} {S : PoolS} (h : Inv b s R S) (hw : Wide S.fw) {i : Nat} (hl : lowO S.fw = some i) : rhasB b (s : Int) R (b + (i : Int)) = true ∧ (b + (i : Int)) ∉ lsd S s ∧ i < s := by
  have h1 := h.take hw
  rw [hl] at h1
  unfold tkO at h1
  rw [List.find?_range_eq_some] at h1
  obtain ⟨h2, h3, -⟩ := h1
  unfold tkB at h2
  simp at h2
  exact ⟨h2.1, h2.2, List.mem_range.1 h3⟩
theorem Inv.low_none {b : Int} {s : Nat} {R : List Int} {S : PoolS} (h : Inv b s R S) (hl : lowO S.fw = none) : S.left = 0 := by
  rw [h.left, cnt_none (fun j _ => lowO_none hl j)]; rfl
/-- A pool whose blocks lie under Z. -/
structure PZ (W1 : World) (p : Nat) (S : PoolS) (b : Int) (s : Nat) (R : List Int) (Z : Nat) (wr : World) : Prop where
  a : PI W1 p S b s R wr
  z1 : p < Z
  z2 : S.af < Z
  z3 : S.ao < Z
  z4 : Z ≤ wr.heap.size
  z5 : W1.heap.size ≤ Z
section
variable {W1 wr w' : World} {p Z : Nat} {S S' : PoolS} {b : Int} {s : Nat} {R : List Int}
theorem PZ.grow (h : PZ W1 p S b s R Z wr) (hb : Below Z wr w') : PZ W1 p S b s R Z w' :=
  have h1 := h.z1; have h2 := h.z2; have h3 := h.z3
  { h with a := { h.a with pool := h.a.pool.kept (fun k hk e => hb.block k (by rcases e with rfl | rfl | rfl <;> assumption)), below := h.a.below.trans (hb.mono h.z5) }, z4 := Nat.le_trans h.z4 hb.size }
theorem PZ.turn (h : PZ W1 p S b s R Z wr) (ht : Two p S.af wr w') (hp : PoolAt w' p S') (hi : Inv b s R S') (haf : S'.af = S.af) (hao : S'.ao = S.ao) : PZ W1 p S' b s R Z w' :=
  { a := h.a.turn ht hp hi haf, z1 := h.z1, z2 := (by rw [haf]; exact h.z2), z3 := (by rw [hao]; exact h.z3), z4 := Nat.le_trans h.z4 ht.size, z5 := h.z5 }
theorem PZ.own {e : TypeId} {size n : Nat} {v : Value} {xs : List Value} (h : PZ W1 p S b s R Z wr) (ht : Two p S.af wr w') (ho : wr.ownsRow Z e size v n xs) : w'.ownsRow Z e size v n xs :=
  own_keep ho fun k hk => ht.block k (own_lt ho hk) (by have h1 := own_le ho hk; have h2 := h.z1; omega) (by have h1 := own_le ho hk; have h2 := h.z2; omega)
end
theorem extract_get {a : Array Obj} {Z k : Nat} (h : Z ≤ a.size) (hk : k < Z) : (a.extract 0 Z)[k]? = a[k]? := by
  rw [Array.getElem?_extract, if_pos (by omega), Nat.zero_add]
def trunc (w : World) (Z : Nat) : World := { w with heap := w.heap.take Z }
theorem trunc_size {w : World} {Z : Nat} (h : Z ≤ w.heap.size) : (trunc w Z).heap.size = Z := by simp [trunc]; omega
theorem trunc_below {w : World} {Z : Nat} (h : Z ≤ w.heap.size) : Below (trunc w Z).heap.size (trunc w Z) w := by
  refine ⟨rfl, rfl, rfl, by rw [trunc_size h]; exact h, fun k hk => ?_⟩
  rw [trunc_size h] at hk
  unfold trunc
  simp only [Array.take_eq_extract]
  exact (extract_get h hk).symm
theorem trunc_up {w w' : World} {Z : Nat} (h : Z ≤ w.heap.size) (hs : w.heap.size ≤ w'.heap.size) (hb : Below (trunc w Z).heap.size (trunc w Z) w') : Below Z w w' := by
  rw [trunc_size h] at hb
  refine ⟨hb.os, hb.tape, hb.output, hs, fun k hk => ?_⟩
  rw [hb.block k hk]
  unfold trunc
  simp only [Array.take_eq_extract]
  exact extract_get h hk
theorem own_down {w : World} {b1 b2 : Nat} {e : TypeId} {size n : Nat} {v : Value} {xs : List Value} (hb : b2 ≤ b1) (h : w.ownsRow b1 e size v n xs) : w.ownsRow b2 e size v n xs := by
  refine ⟨h.1, ?_⟩
  rcases h.2 with h1 | ⟨g, cap, cur, h1, h2, h3⟩
  · exact .inl h1
  · exact .inr ⟨g, cap, cur, h1, Nat.le_trans hb h2, h3⟩
theorem own_void3 (w : World) (base N : Nat) (hN : N = w.heap.size) (hb : base ≤ N) : (w.alloc (.cells #[] 3)).ownsRow base 3 1 (.slice (some ⟨N, 0, none⟩) 0 0) 0 [] := by
  subst hN; exact World.ownsRow_made w #[] 0 hb (by decide) rfl
end Go.Proofs.YtoilghhclpgfaaaDoor
