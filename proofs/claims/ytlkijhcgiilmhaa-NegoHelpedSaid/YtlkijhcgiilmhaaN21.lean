/- What becomes of a question: the plain law, and the four rows in memory. -/
import Derived.Test.YtlkijhcgiilmhaaN20
import Derived.OneCell
namespace Go.Proofs.Ytlkijhcgiilmhaa
open Go.RowKit
set_option linter.unusedSimpArgs false
set_option linter.unusedVariables false
/-- The rule that looks at an option; none: it fits nothing, or is there twice. -/
def kindO (R : List Rl) (L : List Opt) (i : Nat) (o : Opt) : Option Rl :=
  match fitI R o with
  | none => none
  | some k => if (plI (L.take i) o.1).isSome = true then none else R[k]?
def stepS (R : List Rl) (L : List Opt) (s : List Opt × List Opt × List Rl) (i : Nat) : List Opt × List Opt × List Rl :=
  match L[i]? with
  | none => s
  | some o => match kindO R L i o with
    | none => (s.1 ++ [o], s.2.1, s.2.2)
    | some r => if r.takes (be o.2 : Int) = true then s else (s.1, s.2.1 ++ [o], s.2.2 ++ [r])
def sortK (R : List Rl) (L : List Opt) (k : Nat) : List Opt × List Opt × List Rl := (List.range k).foldl (stepS R L) ([], [], [])
theorem sortK_succ (R : List Rl) (L : List Opt) (k : Nat) : sortK R L (k + 1) = stepS R L (sortK R L k) k := by
  unfold sortK
  rw [List.range_succ, List.foldl_append]; rfl
theorem sort_len (R : List Rl) (L : List Opt) : ∀ k, (sortK R L k).1.length + (sortK R L k).2.1.length ≤ k ∧ (sortK R L k).2.2.length = (sortK R L k).2.1.length
  | 0 => ⟨by simp [sortK], rfl⟩
  | k + 1 => by
    have ih := sort_len R L k
    rw [sortK_succ]
    unfold stepS
    split
    · exact ⟨by omega, ih.2⟩
    · split
      · exact ⟨by simp; omega, ih.2⟩
      · split
        · exact ⟨by omega, ih.2⟩
        · exact ⟨by simp; omega, by simp; omega⟩
theorem kindO_mem {R : List Rl} {L : List Opt} {i : Nat} {o : Opt} {r : Rl} (h : kindO R L i o = some r) : r ∈ R ∧ fitB o r = true := by
  unfold kindO at h
  cases hf : fitI R o with
  | none => rw [hf] at h; cases h
  | some k =>
    rw [hf] at h
    simp only at h
    split at h
    · cases h
    · obtain ⟨hk, h2⟩ := fitI_lt hf
      rw [List.getElem?_eq_getElem hk] at h
      cases h
      exact ⟨List.getElem_mem hk, h2⟩
theorem sort_mem (R : List Rl) (L : List Opt) : ∀ k, ∀ r ∈ (sortK R L k).2.2, r ∈ R
  | 0 => by intro r h; cases h
  | k + 1 => by
    have ih := sort_mem R L k
    intro r hr
    rw [sortK_succ] at hr
    unfold stepS at hr
    split at hr
    · exact ih r hr
    · split at hr
      · exact ih r hr
      · split at hr
        · exact ih r hr
        · rename_i r' hk _
          rcases List.mem_append.1 hr with h | h
          · exact ih r h
          · simp only [List.mem_singleton] at h
            subst h
            exact (kindO_mem hk).1
def lackB (L : List Opt) (r : Rl) : Bool := r.must && !(plI L r.t).isSome
def lackL (R : List Rl) (L : List Opt) : List Rl := R.filter (lackB L)
theorem filter_snoc {α : Type} (f : α → Bool) (R : List α) (k : Nat) (hk : k < R.length) : (R.take (k + 1)).filter f = (R.take k).filter f ++ if f R[k] = true then [R[k]] else [] := by
  rw [List.take_succ_eq_append_getElem hk, List.filter_append]
  by_cases h : f R[k] = true <;> simp [h]
theorem lack_len (R : List Rl) (L : List Opt) (k : Nat) : ((R.take k).filter (lackB L)).length ≤ k := by
  have h1 := List.length_filter_le (lackB L) (R.take k)
  have h2 := List.length_take_le k R
  omega
/-- Rules as cells. -/
def cell7 (r : Rl) : List Value := [.int .i64 r.t, .int .i64 r.sz, .int .i64 r.kd, .int .i64 r.lo, .int .i64 r.hi, .int .i64 r.gd, .bool r.must]
def cellsR (R : List Rl) : List Value := R.flatMap cell7
theorem cellsR_snoc (R : List Rl) (r : Rl) : cellsR (R ++ [r]) = cellsR R ++ cell7 r := by simp [cellsR]
theorem cellsR_len (R : List Rl) : (cellsR R).length = 7 * R.length := by
  induction R with
  | nil => rfl
  | cons e E ih => simp only [cellsR, cell7, List.flatMap_cons, List.length_append, List.length_cons, List.length_nil] at *; omega
theorem cellsR_get : ∀ (R : List Rl) (k : Nat) (hk : k < R.length) (j : Nat) (hj : j < 7), (cellsR R)[7 * k + j]? = (cell7 R[k])[j]?
  | e :: E, 0, _, j, hj => by
    have e1 : cellsR (e :: E) = cell7 e ++ cellsR E := rfl
    rw [e1, List.getElem?_append_left (by show 7 * 0 + j < 7; omega)]
    simp
  | e :: E, k + 1, hk, j, hj => by
    have := cellsR_get E k (by simpa using hk) j hj
    have e1 : cellsR (e :: E) = cell7 e ++ cellsR E := rfl
    rw [e1, List.getElem?_append_right (by show 7 ≤ 7 * (k + 1) + j; omega)]
    rw [show 7 * (k + 1) + j - (cell7 e).length = 7 * k + j by show 7 * (k + 1) + j - 7 = _; omega]
    simpa using this
theorem cell7_one (r : Rl) : ∀ u ∈ cell7 r, u.oneCell' = true := by
  intro u hu
  simp only [cell7, List.mem_cons, List.not_mem_nil, or_false] at hu
  rcases hu with rfl | rfl | rfl | rfl | rfl | rfl | rfl <;> rfl
theorem RulesAt.of_cells {W : World} {B : Nat} {A : Option Addr} {R : List Rl} (h : At W B A (cellsR R)) (hw : ∀ r ∈ R, wf64 r.t ∧ wf64 r.sz ∧ wf64 r.lo ∧ wf64 r.hi ∧ wf64 r.gd) : RulesAt W B A R := by
  refine ⟨?_, hw⟩
  rcases h with h | ⟨b, o, e, hb, hc⟩
  · refine .inl ?_
    have := congrArg List.length h
    rw [cellsR_len] at this
    exact List.length_eq_zero_iff.1 (by have h7 : 7 * R.length = 0 := this; omega)
  · refine .inr ⟨b, o, e, hb, fun k hk => ?_⟩
    have key : ∀ j (hj : j < 7) u, (cell7 R[k])[j]? = some u → W.cell? ⟨b, o + k * 7 + j, none⟩ = some u := fun j hj u hu => by
      have := hc (7 * k + j) u (by rw [cellsR_get R k hk j hj]; exact hu)
      rwa [show o + (7 * k + j) = o + k * 7 + j by omega] at this
    exact ⟨key 0 (by omega) _ rfl, key 1 (by omega) _ rfl, key 2 (by omega) _ rfl, key 3 (by omega) _ rfl, key 4 (by omega) _ rfl, key 5 (by omega) _ rfl, key 6 (by omega) _ rfl⟩
theorem infoRu : (Try.prog.info? 39).map (fun i => (i.zero, i.size, i.bytes)) = some (some (.agg #[.int .i64 0, .int .i64 0, .int .i64 0, .int .i64 0, .int .i64 0, .int .i64 0, .bool false]), 7, 56) := by kernel_rfl
theorem own_ne_type {w : World} {base : Nat} {e e' : TypeId} {size n : Nat} {v : Value} {xs : List Value} (h : w.ownsRow base e size v n xs) {X : Nat} {cs : Array Value} (hX : w.heap[X]? = some (.cells cs e' (0, 0))) (hne : e ≠ e') : v.ownBlock ≠ some X := by
  intro hk
  obtain ⟨cur, hc⟩ := own_type h hk
  rw [hX] at hc
  cases hc
  exact hne rfl
/-- The four rows, in one object of four slices. -/
structure SW (wr : World) (base X2 X4 X5 : Nat) (q : Value) (vo vb vr vl : Value) (Eo Eb : List Ent) (Rr Rk : List Rl) : Prop where
  o : OwnOpts wr base vo Eo
  b : OwnOpts wr base vb Eb
  r : wr.ownsRow base 39 7 vr Rr.length (cellsR Rr)
  l : wr.ownsRow base 39 7 vl Rk.length (cellsR Rk)
  s : wr.heap[X5]? = some (.cells #[vo, vb, vr, vl] 49 (0, 0))
  x4 : wr.heap[X4]? = some (.cells #[.slice none 0 0, .slice none 0 0, .slice none 0 0, .slice none 0 0] 49 (0, 0))
  x2 : wr.heap[X2]? = some (.cells #[q] 22 (0, 0))
  ne : X4 ≠ X5
  ob : ∀ g, vo.ownBlock = some g → vb.ownBlock ≠ some g
  rl : ∀ g, vr.ownBlock = some g → vl.ownBlock ≠ some g
theorem lt_of_block {w : World} {b : Nat} {o : Obj} (h : w.heap[b]? = some o) : b < w.heap.size := by
  rw [Array.getElem?_eq_some_iff] at h; exact h.1
section
variable {wr w' : World} {base X2 X4 X5 : Nat} {q vo vb vr vl v3 : Value} {Eo Eb : List Ent} {Rr Rk : List Rl}
theorem SW.keep (h : SW wr base X2 X4 X5 q vo vb vr vl Eo Eb Rr Rk) (hb : Below wr.heap.size wr w') : SW w' base X2 X4 X5 q vo vb vr vl Eo Eb Rr Rk :=
  ⟨h.o.below hb, h.b.below hb, own_below h.r hb, own_below h.l hb, (hb.block _ (lt_of_block h.s)).trans h.s, (hb.block _ (lt_of_block h.x4)).trans h.x4, (hb.block _ (lt_of_block h.x2)).trans h.x2, h.ne, h.ob, h.rl⟩
/-- Another row's append leaves a row of options alone. -/
theorem OwnOpts.apart {base : Nat} {v : Value} {E : List Ent} {row : Option Nat} (h : OwnOpts wr base v E) (hg : wr.grownBy w' row) (hne : ∀ g, row = some g → v.ownBlock ≠ some g) (ht : ∀ g, row = some g → ∃ cur e', wr.heap[g]? = some (.cells cur e' (0, 0)) ∧ e' ≠ 5) : OwnOpts w' base v E :=
  ⟨own_grown h.1 hg (fun k hk hkr => hne k hkr.symm hk), fun x hx => own_stays (h.2 x hx) hg fun r e => .inr (.inr (ht r e))⟩
theorem block_apart {X : Nat} {o : Obj} {row : Option Nat} (h : wr.heap[X]? = some o) (hg : wr.grownBy w' row) (hne : row ≠ some X) : w'.heap[X]? = some o :=
  (hg.block X (lt_of_block h) (fun e => hne e.symm)).trans h
theorem Whither.apart {wr w' : World} {v v3 u : Value} (h : Whither wr w' v v3) (hu : ∀ g, v.ownBlock = some g → u.ownBlock ≠ some g) (hlt : ∀ g, u.ownBlock = some g → g < wr.heap.size) : ∀ g, v3.ownBlock = some g → u.ownBlock ≠ some g := by
  intro g hg e
  rcases h with h | ⟨h, -⟩
  · exact hu g (h ▸ hg) e
  · rw [h] at hg; cases hg; have := hlt _ e; omega
theorem OwnOpts.set {w : World} {base X j : Nat} {v : Value} {E : List Ent} {cs : Array Value} {e' : TypeId} (h : OwnOpts w base v E) (hX : w.heap[X]? = some (.cells cs e' (0, 0))) (h1 : 42 ≠ e') (h2 : 5 ≠ e') (u : Value) : OwnOpts (w.setCell ⟨X, j, none⟩ u) base v E :=
  ⟨ownsRow_setCell_other h.1 (own_ne_type h.1 hX h1) u, fun x hx => ownsRow_setCell_other (h.2 x hx) (own_ne_type (h.2 x hx) hX h2) u⟩
theorem SW.odd {tt : Int} {dd : List UInt8} {A2 : Option Addr} {c2 : Nat} (h : SW wr base X2 X4 X5 q vo vb vr vl Eo Eb Rr Rk) (h2 : wr.ownsRow base 5 1 (.slice A2 dd.length c2) dd.length (dd.map bv))
    (h3 : w'.ownsRow base 42 2 v3 (Eo.length + 1) (cellsE Eo ++ [.int .i64 tt, .slice A2 dd.length c2])) (hg : wr.grownBy w' vo.ownBlock) (hw : Whither wr w' vo v3) :
    SW (w'.setCell ⟨X5, 0, none⟩ v3) base X2 X4 X5 q v3 vb vr vl (Eo ++ [⟨tt, dd, A2, c2⟩]) Eb Rr Rk := by
  have ho := OwnOpts.pushed h.o h2 h3 hg
  have ht : ∀ g, vo.ownBlock = some g → ∃ cur e', wr.heap[g]? = some (.cells cur e' (0, 0)) ∧ e' ≠ 5 := fun g e => by obtain ⟨cur, hc⟩ := own_type h.o.1 e; exact ⟨cur, _, hc, by decide⟩
  have hbb : OwnOpts w' base vb Eb := h.b.apart hg h.ob ht
  have hr : ∀ g, vo.ownBlock = some g → vr.ownBlock ≠ some g := fun g e e2 => by obtain ⟨c1, h1⟩ := own_type h.o.1 e; obtain ⟨c2, h2⟩ := own_type h.r e2; rw [h1] at h2; cases h2
  have hl : ∀ g, vo.ownBlock = some g → vl.ownBlock ≠ some g := fun g e e2 => by obtain ⟨c1, h1⟩ := own_type h.o.1 e; obtain ⟨c2, h2⟩ := own_type h.l e2; rw [h1] at h2; cases h2
  have hrr := own_grown h.r hg (fun k hk hkr => hr k hkr.symm hk)
  have hll := own_grown h.l hg (fun k hk hkr => hl k hkr.symm hk)
  have hs := block_apart h.s hg (own_ne_type h.o.1 h.s (by decide))
  have h4 := block_apart h.x4 hg (own_ne_type h.o.1 h.x4 (by decide))
  have hx2 := block_apart h.x2 hg (own_ne_type h.o.1 h.x2 (by decide))
  refine ⟨ho.set hs (by decide) (by decide) _, hbb.set hs (by decide) (by decide) _, ownsRow_setCell_other hrr (own_ne_type hrr hs (by decide)) _, ownsRow_setCell_other hll (own_ne_type hll hs (by decide)) _, ?_, ?_, ?_, h.ne, hw.apart h.ob (fun g e => own_lt h.b.1 e), h.rl⟩
  · rw [heap_setCell_same _ X5 0 _ _ _ hs]; rfl
  · rw [heap_setCell_other _ _ _ _ (by simp; exact h.ne)]; exact h4
  · rw [heap_setCell_other _ _ _ _ (by simp; intro e; rw [e] at hx2; rw [hs] at hx2; cases hx2)]; exact hx2
theorem SW.bad {tt : Int} {dd : List UInt8} {A2 : Option Addr} {c2 : Nat} (h : SW wr base X2 X4 X5 q vo vb vr vl Eo Eb Rr Rk) (h2 : wr.ownsRow base 5 1 (.slice A2 dd.length c2) dd.length (dd.map bv))
    (h3 : w'.ownsRow base 42 2 v3 (Eb.length + 1) (cellsE Eb ++ [.int .i64 tt, .slice A2 dd.length c2])) (hg : wr.grownBy w' vb.ownBlock) (hw : Whither wr w' vb v3) :
    SW (w'.setCell ⟨X5, 1, none⟩ v3) base X2 X4 X5 q vo v3 vr vl Eo (Eb ++ [⟨tt, dd, A2, c2⟩]) Rr Rk := by
  have ho := OwnOpts.pushed h.b h2 h3 hg
  have ht : ∀ g, vb.ownBlock = some g → ∃ cur e', wr.heap[g]? = some (.cells cur e' (0, 0)) ∧ e' ≠ 5 := fun g e => by obtain ⟨cur, hc⟩ := own_type h.b.1 e; exact ⟨cur, _, hc, by decide⟩
  have hob : ∀ g, vb.ownBlock = some g → vo.ownBlock ≠ some g := fun g e e2 => h.ob g e2 e
  have hbb : OwnOpts w' base vo Eo := h.o.apart hg hob ht
  have hr : ∀ g, vb.ownBlock = some g → vr.ownBlock ≠ some g := fun g e e2 => by obtain ⟨c1, h1⟩ := own_type h.b.1 e; obtain ⟨c2, h2⟩ := own_type h.r e2; rw [h1] at h2; cases h2
  have hl : ∀ g, vb.ownBlock = some g → vl.ownBlock ≠ some g := fun g e e2 => by obtain ⟨c1, h1⟩ := own_type h.b.1 e; obtain ⟨c2, h2⟩ := own_type h.l e2; rw [h1] at h2; cases h2
  have hrr := own_grown h.r hg (fun k hk hkr => hr k hkr.symm hk)
  have hll := own_grown h.l hg (fun k hk hkr => hl k hkr.symm hk)
  have hs := block_apart h.s hg (own_ne_type h.b.1 h.s (by decide))
  have h4 := block_apart h.x4 hg (own_ne_type h.b.1 h.x4 (by decide))
  have hx2 := block_apart h.x2 hg (own_ne_type h.b.1 h.x2 (by decide))
  refine ⟨hbb.set hs (by decide) (by decide) _, ho.set hs (by decide) (by decide) _, ownsRow_setCell_other hrr (own_ne_type hrr hs (by decide)) _, ownsRow_setCell_other hll (own_ne_type hll hs (by decide)) _, ?_, ?_, ?_, h.ne, fun g e e2 => hw.apart hob (fun g e => own_lt h.o.1 e) g e2 e, h.rl⟩
  · rw [heap_setCell_same _ X5 1 _ _ _ hs]; rfl
  · rw [heap_setCell_other _ _ _ _ (by simp; exact h.ne)]; exact h4
  · rw [heap_setCell_other _ _ _ _ (by simp; intro e; rw [e] at hx2; rw [hs] at hx2; cases hx2)]; exact hx2
theorem SW.rule {r : Rl} (h : SW wr base X2 X4 X5 q vo vb vr vl Eo Eb Rr Rk) (h3 : w'.ownsRow base 39 7 v3 (Rr.length + 1) (cellsR Rr ++ cell7 r)) (hg : wr.grownBy w' vr.ownBlock) (hw : Whither wr w' vr v3) :
    SW (w'.setCell ⟨X5, 2, none⟩ v3) base X2 X4 X5 q vo vb v3 vl Eo Eb (Rr ++ [r]) Rk := by
  have ht : ∀ g, vr.ownBlock = some g → ∃ cur e', wr.heap[g]? = some (.cells cur e' (0, 0)) ∧ e' ≠ 5 := fun g e => by obtain ⟨cur, hc⟩ := own_type h.r e; exact ⟨cur, _, hc, by decide⟩
  have h1 : ∀ g, vr.ownBlock = some g → vo.ownBlock ≠ some g := fun g e e2 => by obtain ⟨c1, h1⟩ := own_type h.r e; obtain ⟨c2, h2⟩ := own_type h.o.1 e2; rw [h1] at h2; cases h2
  have h2 : ∀ g, vr.ownBlock = some g → vb.ownBlock ≠ some g := fun g e e2 => by obtain ⟨c1, h1⟩ := own_type h.r e; obtain ⟨c2, h2⟩ := own_type h.b.1 e2; rw [h1] at h2; cases h2
  have hoo : OwnOpts w' base vo Eo := h.o.apart hg h1 ht
  have hbb : OwnOpts w' base vb Eb := h.b.apart hg h2 ht
  have hll := own_grown h.l hg (fun k hk hkr => h.rl k hkr.symm hk)
  have hs := block_apart h.s hg (own_ne_type h.r h.s (by decide))
  have h4 := block_apart h.x4 hg (own_ne_type h.r h.x4 (by decide))
  have hx2 := block_apart h.x2 hg (own_ne_type h.r h.x2 (by decide))
  refine ⟨hoo.set hs (by decide) (by decide) _, hbb.set hs (by decide) (by decide) _, ?_, ownsRow_setCell_other hll (own_ne_type hll hs (by decide)) _, ?_, ?_, ?_, h.ne, h.ob, hw.apart h.rl (fun g e => own_lt h.l e)⟩
  · rw [cellsR_snoc, List.length_append]; exact ownsRow_setCell_other h3 (own_ne_type h3 hs (by decide)) _
  · rw [heap_setCell_same _ X5 2 _ _ _ hs]; rfl
  · rw [heap_setCell_other _ _ _ _ (by simp; exact h.ne)]; exact h4
  · rw [heap_setCell_other _ _ _ _ (by simp; intro e; rw [e] at hx2; rw [hs] at hx2; cases hx2)]; exact hx2
theorem SW.lack {r : Rl} (h : SW wr base X2 X4 X5 q vo vb vr vl Eo Eb Rr Rk) (h3 : w'.ownsRow base 39 7 v3 (Rk.length + 1) (cellsR Rk ++ cell7 r)) (hg : wr.grownBy w' vl.ownBlock) (hw : Whither wr w' vl v3) :
    SW (w'.setCell ⟨X5, 3, none⟩ v3) base X2 X4 X5 q vo vb vr v3 Eo Eb Rr (Rk ++ [r]) := by
  have ht : ∀ g, vl.ownBlock = some g → ∃ cur e', wr.heap[g]? = some (.cells cur e' (0, 0)) ∧ e' ≠ 5 := fun g e => by obtain ⟨cur, hc⟩ := own_type h.l e; exact ⟨cur, _, hc, by decide⟩
  have h1 : ∀ g, vl.ownBlock = some g → vo.ownBlock ≠ some g := fun g e e2 => by obtain ⟨c1, h1⟩ := own_type h.l e; obtain ⟨c2, h2⟩ := own_type h.o.1 e2; rw [h1] at h2; cases h2
  have h2 : ∀ g, vl.ownBlock = some g → vb.ownBlock ≠ some g := fun g e e2 => by obtain ⟨c1, h1⟩ := own_type h.l e; obtain ⟨c2, h2⟩ := own_type h.b.1 e2; rw [h1] at h2; cases h2
  have hlr : ∀ g, vl.ownBlock = some g → vr.ownBlock ≠ some g := fun g e e2 => h.rl g e2 e
  have hoo : OwnOpts w' base vo Eo := h.o.apart hg h1 ht
  have hbb : OwnOpts w' base vb Eb := h.b.apart hg h2 ht
  have hrr := own_grown h.r hg (fun k hk hkr => hlr k hkr.symm hk)
  have hs := block_apart h.s hg (own_ne_type h.l h.s (by decide))
  have h4 := block_apart h.x4 hg (own_ne_type h.l h.x4 (by decide))
  have hx2 := block_apart h.x2 hg (own_ne_type h.l h.x2 (by decide))
  refine ⟨hoo.set hs (by decide) (by decide) _, hbb.set hs (by decide) (by decide) _, ownsRow_setCell_other hrr (own_ne_type hrr hs (by decide)) _, ?_, ?_, ?_, ?_, h.ne, h.ob, fun g e e2 => hw.apart hlr (fun g e => own_lt h.r e) g e2 e⟩
  · rw [cellsR_snoc, List.length_append]; exact ownsRow_setCell_other h3 (own_ne_type h3 hs (by decide)) _
  · rw [heap_setCell_same _ X5 3 _ _ _ hs]; rfl
  · rw [heap_setCell_other _ _ _ _ (by simp; exact h.ne)]; exact h4
  · rw [heap_setCell_other _ _ _ _ (by simp; intro e; rw [e] at hx2; rw [hs] at hx2; cases hx2)]; exact hx2
theorem SW.s_o {wa : World} (h : SW wr base X2 X4 X5 q vo vb vr vl Eo Eb Rr Rk) (hb : Below wr.heap.size wr wa) (hg : wa.grownBy w' vo.ownBlock) : w'.heap[X5]? = some (.cells #[vo, vb, vr, vl] 49 (0, 0)) :=
  block_apart (h.keep hb).s hg (own_ne_type (h.keep hb).o.1 (h.keep hb).s (by decide))
theorem SW.s_b {wa : World} (h : SW wr base X2 X4 X5 q vo vb vr vl Eo Eb Rr Rk) (hb : Below wr.heap.size wr wa) (hg : wa.grownBy w' vb.ownBlock) : w'.heap[X5]? = some (.cells #[vo, vb, vr, vl] 49 (0, 0)) :=
  block_apart (h.keep hb).s hg (own_ne_type (h.keep hb).b.1 (h.keep hb).s (by decide))
theorem SW.s_r {wa : World} (h : SW wr base X2 X4 X5 q vo vb vr vl Eo Eb Rr Rk) (hb : Below wr.heap.size wr wa) (hg : wa.grownBy w' vr.ownBlock) : w'.heap[X5]? = some (.cells #[vo, vb, vr, vl] 49 (0, 0)) :=
  block_apart (h.keep hb).s hg (own_ne_type (h.keep hb).r (h.keep hb).s (by decide))
theorem SW.s_l {wa : World} (h : SW wr base X2 X4 X5 q vo vb vr vl Eo Eb Rr Rk) (hb : Below wr.heap.size wr wa) (hg : wa.grownBy w' vl.ownBlock) : w'.heap[X5]? = some (.cells #[vo, vb, vr, vl] 49 (0, 0)) :=
  block_apart (h.keep hb).s hg (own_ne_type (h.keep hb).l (h.keep hb).s (by decide))
theorem SW.drawn {n : Nat} (h : SW wr base X2 X4 X5 q vo vb vr vl Eo Eb Rr Rk) : SW (wr.drewN n) base X2 X4 X5 q vo vb vr vl Eo Eb Rr Rk := ⟨h.o, h.b, h.r, h.l, h.s, h.x4, h.x2, h.ne, h.ob, h.rl⟩
end
theorem four_cells {W : World} {X : Nat} {a b c d : Value} {T : TypeId} (h : W.heap[X]? = some (.cells #[a, b, c, d] T (0, 0))) : W.cell? ⟨X, 0, none⟩ = some a ∧ W.cell? ⟨X, 1, none⟩ = some b ∧ W.cell? ⟨X, 2, none⟩ = some c ∧ W.cell? ⟨X, 3, none⟩ = some d ∧ W.frozen? ⟨X, 0, none⟩ = false ∧ W.frozen? ⟨X, 1, none⟩ = false ∧ W.frozen? ⟨X, 2, none⟩ = false ∧ W.frozen? ⟨X, 3, none⟩ = false := by
  refine ⟨?_, ?_, ?_, ?_, frozen_of_row W X 0 _ _ h, frozen_of_row W X 1 _ _ h, frozen_of_row W X 2 _ _ h, frozen_of_row W X 3 _ _ h⟩
  · rw [cell_of_row W X 0 _ _ _ h]; rfl
  · rw [cell_of_row W X 1 _ _ _ h]; rfl
  · rw [cell_of_row W X 2 _ _ _ h]; rfl
  · rw [cell_of_row W X 3 _ _ _ h]; rfl
theorem row4 {w : World} {X : Nat} {cs : Array Value} {T : TypeId} (h : w.heap[X]? = some (.cells cs T (0, 0))) (hc : cs.size = 4) (a b c d : Value) :
    ((((w.setCell ⟨X, 0, none⟩ a).setCell ⟨X, 1, none⟩ b).setCell ⟨X, 2, none⟩ c).setCell ⟨X, 3, none⟩ d).heap[X]? = some (.cells #[a, b, c, d] T (0, 0)) := by
  obtain ⟨l⟩ := cs
  match l, hc with
  | [x0, x1, x2, x3], _ =>
    rw [heap_setCell_same _ X 3 _ _ _ (heap_setCell_same _ X 2 _ _ _ (heap_setCell_same _ X 1 _ _ _ (heap_setCell_same _ X 0 _ _ _ h)))]
    rfl
/-- What is told: four rows of one's own. -/
structure Rows4 (w' : World) (base : Nat) (vo vb vr vl : Value) (Eo Eb : List Ent) (Rr Rk : List Rl) : Prop where
  o : OwnOpts w' base vo Eo
  b : OwnOpts w' base vb Eb
  r : w'.ownsRow base 39 7 vr Rr.length (cellsR Rr)
  l : w'.ownsRow base 39 7 vl Rk.length (cellsR Rk)
theorem SW.out {wr : World} {base X2 X4 X5 : Nat} {q vo vb vr vl : Value} {Eo Eb : List Ent} {Rr Rk : List Rl} (h : SW wr base X2 X4 X5 q vo vb vr vl Eo Eb Rr Rk) (a b c d : Value) :
    Rows4 ((((wr.setCell ⟨X4, 0, none⟩ a).setCell ⟨X4, 1, none⟩ b).setCell ⟨X4, 2, none⟩ c).setCell ⟨X4, 3, none⟩ d) base vo vb vr vl Eo Eb Rr Rk := by
  have h1 := heap_setCell_same wr X4 0 _ _ a h.x4
  have h2 := heap_setCell_same _ X4 1 _ _ b h1
  have h3 := heap_setCell_same _ X4 2 _ _ c h2
  have ho : ∀ {e : TypeId} {size n : Nat} {v : Value} {xs : List Value}, e ≠ 49 → wr.ownsRow base e size v n xs → ((((wr.setCell ⟨X4, 0, none⟩ a).setCell ⟨X4, 1, none⟩ b).setCell ⟨X4, 2, none⟩ c).setCell ⟨X4, 3, none⟩ d).ownsRow base e size v n xs := fun he hr => by
    have k0 := own_ne_type hr h.x4 he
    exact ownsRow_setCell_other (ownsRow_setCell_other (ownsRow_setCell_other (ownsRow_setCell_other hr k0 _) k0 _) k0 _) k0 _
  exact ⟨⟨ho (by decide) h.o.1, fun e he => ho (by decide) (h.o.2 e he)⟩, ⟨ho (by decide) h.b.1, fun e he => ho (by decide) (h.b.2 e he)⟩, ho (by decide) h.r, ho (by decide) h.l⟩
def SortP (w : World) (R : List Rl) (L : List Opt) (x : Ending) (w' : World) : Prop :=
  ∃ (Ao Ab Ar Al : Option Addr) (no nb nr nl co cb cr cl : Nat) (Eo Eb : List Ent), x = .returned (.agg #[.slice Ao no co, .slice Ab nb cb, .slice Ar nr cr, .slice Al nl cl]) ∧ Below w.heap.size w w' ∧
    Rows4 w' w.heap.size (.slice Ao no co) (.slice Ab nb cb) (.slice Ar nr cr) (.slice Al nl cl) Eo Eb (sortK R L L.length).2.2 (lackL R L) ∧ Eo.map Ent.o = (sortK R L L.length).1 ∧ Eb.map Ent.o = (sortK R L L.length).2.1 ∧ no = Eo.length ∧ nb = Eb.length ∧ nr = (sortK R L L.length).2.2.length ∧ nl = (lackL R L).length
theorem are_ok {R : List Rl} (h : areB R = true) {r : Rl} (hr : r ∈ R) : r.ok = true := by
  obtain ⟨k, hk, rfl⟩ := List.mem_iff_getElem.1 hr
  unfold areB goodK at h
  simp only [Bool.and_eq_true, List.all_eq_true, List.mem_range] at h
  have h2 := h.2 k hk
  rw [item_at hk] at h2
  simp only [Bool.and_eq_true] at h2
  exact h2.1
theorem ok_bounds {r : Rl} (h : r.ok = true) : 0 ≤ r.sz ∧ r.sz ≤ 4 ∧ 0 ≤ r.gd ∧ r.gd < 4294967296 ∧ r.takes r.gd = true ∧ r.gd < lim r.sz := by
  unfold Rl.ok okB preB inL at h
  simp only [Bool.and_eq_true, decide_eq_true_eq] at h
  obtain ⟨⟨⟨⟨⟨h1, h2⟩, h3⟩, h4⟩, h5⟩, h6, h7, ⟨h8, h9⟩, h10, h11⟩ := h
  have hl : lim r.sz ≤ 4294967296 := by
    have : r.sz = 0 ∨ r.sz = 1 ∨ r.sz = 2 ∨ r.sz = 3 ∨ r.sz = 4 := by omega
    rcases this with e | e | e | e | e <;> rw [e] <;> decide
  exact ⟨h3, h4, h8, by omega, h11, h9⟩
theorem cellsE_take (E : List Ent) (k : Nat) : cellsE (E.take k) = (cellsE E).take (2 * k) := by
  induction E generalizing k with
  | nil => simp [cellsE]
  | cons e E ih =>
    cases k with
    | zero => simp [cellsE]
    | succ k =>
      have e1 : ∀ (y : Ent) (F : List Ent), cellsE (y :: F) = .int .i64 y.t :: y.v :: cellsE F := fun _ _ => rfl
      rw [List.take_succ_cons, e1, e1, ih, show 2 * (k + 1) = 2 * k + 1 + 1 by omega, List.take_succ_cons, List.take_succ_cons]
theorem OptsAt.take {W : World} {B : Nat} {A : Option Addr} {E : List Ent} (h : OptsAt W B A E) (k : Nat) : OptsAt W B A (E.take k) :=
  ⟨by rw [cellsE_take]; exact h.1.take _, fun e he => h.2 e (List.mem_of_mem_take he)⟩
theorem wp_world {P : Program} {c : Code} {Q : Exit → Act → World → Prop} {a : Act} {w : World} (S : World → Prop) (hS : S w) (h : ∀ W, S W → c.wp P Q a W) : c.wp P Q a w := h w hS
end Go.Proofs.Ytlkijhcgiilmhaa
