/- A map of buckets as a list of entries, in any order. -/
import Derived.Test.YtlholmndckhhgaaT
import Derived.Test.YtlholmndckhhgaaE
import Derived.Maps.Own
import Derived.Maps.OwnOps
import Derived.Maps.OwnSet
import Derived.Maps.RangeWalk
import Derived.Maps.Ext
import Derived.WideKeyPair
import Derived.DeepKeys4
namespace Go.Proofs.Ytlholmndckhhgaa
open Go.RowKit Go.Maps
set_option linter.unusedSimpArgs false
set_option linter.unusedVariables false
@[go_sem] theorem lt_grow_of {a x : Nat} {l : List Obj} (h : a < x) : a < grow x l := by simp only [grow]; omega
@[go_sem] theorem lt_grow_of1 {a x : Nat} {l : List Obj} (h : a < x) : a < grow x l + 1 := by simp only [grow]; omega
@[go_sem] theorem lt_grow_of2 {a x : Nat} {l : List Obj} (h : a < x) : a < grow x l + 1 + 1 := by simp only [grow]; omega
@[go_sem] theorem lt_grow_of3 {a x : Nat} {l : List Obj} (h : a < x) : a < grow x l + 1 + 1 + 1 := by simp only [grow]; omega
@[go_sem] theorem lt_grow_of4 {a x : Nat} {l : List Obj} (h : a < x) : a < grow x l + 1 + 1 + 1 + 1 := by simp only [grow]; omega
@[go_sem] theorem lt_grow_of5 {a x : Nat} {l : List Obj} (h : a < x) : a < grow x l + 1 + 1 + 1 + 1 + 1 := by simp only [grow]; omega
@[go_sem] theorem lt_grow2_of {a x : Nat} {l l2 : List Obj} (h : a < x) : a < grow (grow x l) l2 := by simp only [grow]; omega
@[go_sem] theorem lt_grow2_of1 {a x : Nat} {l l2 : List Obj} (h : a < x) : a < grow (grow x l) l2 + 1 := by simp only [grow]; omega
@[go_sem] theorem lt_grow2_of2 {a x : Nat} {l l2 : List Obj} (h : a < x) : a < grow (grow x l) l2 + 1 + 1 := by simp only [grow]; omega
@[go_sem] theorem lt_grow2_of3 {a x : Nat} {l l2 : List Obj} (h : a < x) : a < grow (grow x l) l2 + 1 + 1 + 1 := by simp only [grow]; omega
@[go_sem] theorem lt_grow2_of4 {a x : Nat} {l l2 : List Obj} (h : a < x) : a < grow (grow x l) l2 + 1 + 1 + 1 + 1 := by simp only [grow]; omega
@[go_sem] theorem lt_grow2_of5 {a x : Nat} {l l2 : List Obj} (h : a < x) : a < grow (grow x l) l2 + 1 + 1 + 1 + 1 + 1 := by simp only [grow]; omega
@[go_sem] theorem lt_grow3_of {a x : Nat} {l l2 l3 : List Obj} (h : a < x) : a < grow (grow (grow x l) l2) l3 := by simp only [grow]; omega
@[go_sem] theorem lt_grow3_of1 {a x : Nat} {l l2 l3 : List Obj} (h : a < x) : a < grow (grow (grow x l) l2) l3 + 1 := by simp only [grow]; omega
@[go_sem] theorem lt_grow3_of2 {a x : Nat} {l l2 l3 : List Obj} (h : a < x) : a < grow (grow (grow x l) l2) l3 + 1 + 1 := by simp only [grow]; omega
@[go_sem] theorem lt_grow3_of3 {a x : Nat} {l l2 l3 : List Obj} (h : a < x) : a < grow (grow (grow x l) l2) l3 + 1 + 1 + 1 := by simp only [grow]; omega
@[go_sem] theorem lt_grow3_of4 {a x : Nat} {l l2 l3 : List Obj} (h : a < x) : a < grow (grow (grow x l) l2) l3 + 1 + 1 + 1 + 1 := by simp only [grow]; omega
@[go_sem] theorem lt_grow3_of5 {a x : Nat} {l l2 l3 : List Obj} (h : a < x) : a < grow (grow (grow x l) l2) l3 + 1 + 1 + 1 + 1 + 1 := by simp only [grow]; omega
@[go_sem] theorem lt_plus_of1 {a x : Nat} (h : a < x) : a < x + 1 := by omega
@[go_sem] theorem lt_plus_of2 {a x : Nat} (h : a < x) : a < x + 1 + 1 := by omega
@[go_sem] theorem lt_plus_of3 {a x : Nat} (h : a < x) : a < x + 1 + 1 + 1 := by omega
@[go_sem] theorem lt_plus_of4 {a x : Nat} (h : a < x) : a < x + 1 + 1 + 1 + 1 := by omega
@[go_sem] theorem lt_plus_of5 {a x : Nat} (h : a < x) : a < x + 1 + 1 + 1 + 1 + 1 := by omega
@[go_sem] theorem lt_plus_of6 {a x : Nat} (h : a < x) : a < x + 1 + 1 + 1 + 1 + 1 + 1 := by omega
@[go_sem] theorem lt_plus_of7 {a x : Nat} (h : a < x) : a < x + 1 + 1 + 1 + 1 + 1 + 1 + 1 := by omega
@[go_sem] theorem alloc_drewN (w : World) (n : Nat) (o : Obj) : (w.drewN n).alloc o = (w.alloc o).drewN n := rfl
@[go_sem] theorem setCell_drewN (w : World) (n : Nat) (p : Addr) (v : Value) : (w.drewN n).setCell p v = (w.setCell p v).drewN n := rfl
def bkt (b : Int × Int) : DataW Unit := .agg [.lit (.int .i64 b.1), .lit (.int .i64 b.2)]
/-- How a bucket reads. -/
def Rb (v : Value) : Option (DataW Unit × List MemPlace) := match v with
  | .agg ⟨[.int .i64 a, .int .i64 b]⟩ => some (bkt (a, b), [])
  | _ => none
theorem Rb_mk (a b : Int) : Rb (.agg #[.int .i64 a, .int .i64 b]) = some (bkt (a, b), []) := rfl
theorem Rb_inv {v : Value} {z : DataW Unit × List MemPlace} (h : Rb v = some z) : ∃ c : Int × Int, v = .agg #[.int .i64 c.1, .int .i64 c.2] ∧ z = (bkt c, []) := by
  unfold Rb at h
  split at h
  · cases h; exact ⟨(_, _), rfl, rfl⟩
  · cases h
theorem bkt_inj {a b : Int × Int} (h : bkt a = bkt b) : a = b := by
  unfold bkt at h
  injection h with h
  simp only [List.cons.injEq, DataW.lit.injEq, Lit.int.injEq, true_and, and_true] at h
  exact Prod.ext h.1 h.2
abbrev Ents := List (Lit × (Int × Int))
def enc1 (p : Lit × (Int × Int)) : Lit × DataW Unit := (p.1, bkt p.2)
/-- D is the map of the entries L. -/
def Rep (D : DataW Unit) (L : Ents) : Prop :=
  (∃ es, D = .map es ∧ es.Perm (L.map enc1)) ∧ L.Pairwise (fun p q => p.1 ≠ q.1) ∧ ∀ p ∈ L, WideAt.IsKeyLit p.1
theorem Rep.nil : Rep (.map []) [] := ⟨⟨[], rfl, List.Perm.refl _⟩, List.Pairwise.nil, by simp⟩
theorem Rep.size {D : DataW Unit} {L : Ents} (h : Rep D L) : Maps.size D = L.length := by
  obtain ⟨⟨es, rfl, hp⟩, -, -⟩ := h
  simp [Maps.size, hp.length_eq]
def hasL (L : Ents) (k : Lit) : Bool := L.any fun p => p.1.sameKey k
def getL (L : Ents) (k : Lit) : Option (Int × Int) := (L.find? fun p => p.1.sameKey k).map (·.2)
def dropL (L : Ents) (k : Lit) : Ents := L.filter fun p => !p.1.sameKey k
theorem perm_any {α : Type} {l l' : List α} (h : l.Perm l') (f : α → Bool) : l.any f = l'.any f := by
  rw [Bool.eq_iff_iff, List.any_eq_true, List.any_eq_true]
  exact ⟨fun ⟨x, hx, hf⟩ => ⟨x, h.mem_iff.1 hx, hf⟩, fun ⟨x, hx, hf⟩ => ⟨x, h.mem_iff.2 hx, hf⟩⟩
theorem Rep.has {D : DataW Unit} {L : Ents} (h : Rep D L) (k : Lit) : Maps.has D k = hasL L k := by
  obtain ⟨⟨es, rfl, hp⟩, -, -⟩ := h
  rw [Maps.has_eq, perm_any hp]
  simp [hasL, enc1, List.any_map, Function.comp_def]
theorem sameKey_iff {a k : Lit} (hk : WideAt.IsKeyLit k) : a.sameKey k = true ↔ a = k := by
  have h := Maps.notKey_iff (H := Unit) (k := k) (p := (a, .nil)) hk
  unfold ChangeMaps.notKey at h
  simp only at h
  constructor
  · intro e
    by_cases h2 : a = k
    · exact h2
    · have := h.2 h2
      rw [e] at this
      cases this
  · intro e
    cases hs : a.sameKey k
    · rw [hs] at h
      exact absurd e (h.1 rfl)
    · rfl
theorem apart_eq {α : Type} : ∀ {L : List (Lit × α)}, L.Pairwise (fun p q => p.1 ≠ q.1) → ∀ {p q : Lit × α}, p ∈ L → q ∈ L → p.1 = q.1 → p = q
  | x :: L, h, p, q, hp, hq, e => by
    rw [List.pairwise_cons] at h
    rcases List.mem_cons.1 hp with rfl | hp'
    · rcases List.mem_cons.1 hq with rfl | hq
      · rfl
      · exact absurd e (h.1 q hq)
    · rcases List.mem_cons.1 hq with rfl | hq
      · exact absurd e.symm (h.1 p hp')
      · exact apart_eq h.2 hp' hq e
theorem Rep.at {D : DataW Unit} {L : Ents} (h : Rep D L) {k : Lit} (hk : WideAt.IsKeyLit k) (z : DataW Unit) : D.atKey k z = match getL L k with | some b => bkt b | none => z := by
  obtain ⟨⟨es, rfl, hp⟩, hd, hkk⟩ := h
  unfold DataW.atKey getL
  simp only
  cases hf : L.find? (fun p => p.1.sameKey k) with
  | none =>
    have : es.find? (fun p => p.1.sameKey k) = none := by
      rw [List.find?_eq_none]
      intro x hx
      obtain ⟨p, hpL, rfl⟩ := List.mem_map.1 (hp.mem_iff.1 hx)
      have := List.find?_eq_none.1 hf p hpL
      simpa [enc1] using this
    rw [this]; rfl
  | some p =>
    have hpL := List.mem_of_find?_eq_some hf
    have hpk : p.1.sameKey k = true := by have := List.find?_some hf; simpa using this
    cases hg : es.find? (fun p => p.1.sameKey k) with
    | none =>
      have := List.find?_eq_none.1 hg (enc1 p) (hp.mem_iff.2 (List.mem_map_of_mem hpL))
      simp [enc1, hpk] at this
    | some q =>
      obtain ⟨p', hp'L, rfl⟩ := List.mem_map.1 (hp.mem_iff.1 (List.mem_of_find?_eq_some hg))
      have hqk : p'.1.sameKey k = true := by have := List.find?_some hg; simpa [enc1] using this
      have e1 := (sameKey_iff hk).1 hpk
      have e2 := (sameKey_iff hk).1 hqk
      have : p' = p := by
        exact apart_eq hd hp'L hpL (e2.trans e1.symm)
      subst this
      rfl
theorem Rep.drop {D : DataW Unit} {L : Ents} (h : Rep D L) (k : Lit) : Rep (D.del k) (dropL L k) := by
  obtain ⟨⟨es, rfl, hp⟩, hd, hkk⟩ := h
  refine ⟨⟨_, rfl, ?_⟩, hd.filter _, fun p hp => hkk p ((List.mem_filter.1 hp).1)⟩
  have := hp.filter fun p => !p.1.sameKey k
  refine this.trans ?_
  rw [List.filter_map]
  exact List.Perm.refl _
theorem insert_perm {H : Type} (x : Lit × DataW H) : ∀ l : List (Lit × DataW H), (DataW.insert x l).Perm (x :: l)
  | [] => List.Perm.refl _
  | y :: r => by
    unfold DataW.insert
    split
    · exact List.Perm.refl _
    · exact ((insert_perm x r).cons y).trans (List.Perm.swap x y r)
theorem Rep.put {D : DataW Unit} {L : Ents} (h : Rep D L) {k : Lit} (hk : WideAt.IsKeyLit k) (b : Int × Int) : Rep (D.put k (bkt b)) (dropL L k ++ [(k, b)]) := by
  have hdr := h.drop k
  obtain ⟨⟨es, rfl, hp⟩, hd, hkk⟩ := h
  obtain ⟨⟨es', he', hp'⟩, hd', hkk'⟩ := hdr
  have : es' = es.filter fun p => !p.1.sameKey k := by injection he' with h; exact h.symm
  subst this
  refine ⟨⟨_, rfl, ?_⟩, ?_, ?_⟩
  · refine (insert_perm _ _).trans ((hp'.cons _).trans ?_)
    rw [List.map_append]
    exact (List.perm_append_comm (l₁ := [enc1 (k, b)])).trans (List.Perm.refl _)
  · rw [List.pairwise_append]
    refine ⟨hd', List.pairwise_singleton _ _, fun p hp q hq => ?_⟩
    simp only [List.mem_singleton] at hq
    subst hq
    have := (List.mem_filter.1 hp).2
    intro e
    rw [(sameKey_iff hk).2 e] at this
    cases this
  · intro p hp
    rcases List.mem_append.1 hp with hp | hp
    · exact hkk' p hp
    · simp only [List.mem_singleton] at hp
      subst hp
      exact hk
end Go.Proofs.Ytlholmndckhhgaa
