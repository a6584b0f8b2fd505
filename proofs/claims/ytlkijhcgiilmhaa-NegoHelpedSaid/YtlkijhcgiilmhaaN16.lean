/- Rules in memory; which rows of rules may be; a map that counts. -/
import Derived.Test.YtlkijhcgiilmhaaN15
import Derived.Maps.OwnOps
import Derived.Maps.Views
namespace Go.Proofs.Ytlkijhcgiilmhaa
open Go.RowKit Go.Maps
set_option linter.unusedSimpArgs false
set_option linter.unusedVariables false
def wf64 (t : Int) : Prop := -9223372036854775808 ≤ t ∧ t ≤ 9223372036854775807
structure RuleAt (W : World) (b o k : Nat) (r : Rl) : Prop where
  c0 : W.cell? ⟨b, o + k * 7, none⟩ = some (.int .i64 r.t)
  c1 : W.cell? ⟨b, o + k * 7 + 1, none⟩ = some (.int .i64 r.sz)
  c2 : W.cell? ⟨b, o + k * 7 + 2, none⟩ = some (.int .i64 r.kd)
  c3 : W.cell? ⟨b, o + k * 7 + 3, none⟩ = some (.int .i64 r.lo)
  c4 : W.cell? ⟨b, o + k * 7 + 4, none⟩ = some (.int .i64 r.hi)
  c5 : W.cell? ⟨b, o + k * 7 + 5, none⟩ = some (.int .i64 r.gd)
  c6 : W.cell? ⟨b, o + k * 7 + 6, none⟩ = some (.bool r.must)
/-- Rules that can be read, of numbers that can be. -/
def RulesAt (W : World) (B : Nat) (A : Option Addr) (R : List Rl) : Prop :=
  (R = [] ∨ ∃ b o, A = some ⟨b, o, none⟩ ∧ b < B ∧ ∀ (k : Nat) (hk : k < R.length), RuleAt W b o k R[k]) ∧ ∀ r ∈ R, wf64 r.t ∧ wf64 r.sz ∧ wf64 r.lo ∧ wf64 r.hi ∧ wf64 r.gd
theorem RulesAt.get {W : World} {B : Nat} {A : Option Addr} {R : List Rl} (h : RulesAt W B A R) {k : Nat} (hk : k < R.length) : ∃ b o, A = some ⟨b, o, none⟩ ∧ b < B ∧ RuleAt W b o k R[k] := by
  rcases h.1 with h | ⟨b, o, hA, hB, h⟩
  · subst h; simp at hk
  · exact ⟨b, o, hA, hB, h k hk⟩
theorem RuleAt.keep {W W' : World} {B b o k : Nat} {r : Rl} (h : RuleAt W b o k r) (hb : Below B W W') (hB : b < B) : RuleAt W' b o k r :=
  ⟨(hb.cell (p := ⟨b, _, none⟩) hB).trans h.c0, (hb.cell (p := ⟨b, _, none⟩) hB).trans h.c1, (hb.cell (p := ⟨b, _, none⟩) hB).trans h.c2, (hb.cell (p := ⟨b, _, none⟩) hB).trans h.c3, (hb.cell (p := ⟨b, _, none⟩) hB).trans h.c4, (hb.cell (p := ⟨b, _, none⟩) hB).trans h.c5, (hb.cell (p := ⟨b, _, none⟩) hB).trans h.c6⟩
theorem RulesAt.keep {W W' : World} {B : Nat} {A : Option Addr} {R : List Rl} (h : RulesAt W B A R) (hb : Below B W W') : RulesAt W' B A R := by
  refine ⟨?_, h.2⟩
  rcases h.1 with h | ⟨b, o, hA, hB, h⟩
  · exact .inl h
  · exact .inr ⟨b, o, hA, hB, fun k hk => (h k hk).keep hb hB⟩
theorem RulesAt.more {W : World} {B B' : Nat} {A : Option Addr} {R : List Rl} (h : RulesAt W B A R) (hB : B ≤ B') : RulesAt W B' A R := by
  refine ⟨?_, h.2⟩
  rcases h.1 with h | ⟨b, o, hA, hb, h⟩
  · exact .inl h
  · exact .inr ⟨b, o, hA, by omega, h⟩
/-- How many of the first k rules have a type. -/
def cntB (R : List Rl) (k : Nat) (t : Int) : Nat := (R.take k).countP fun r => r.t == t
def itemB (R : List Rl) (i : Nat) : Bool :=
  match R[i]? with
  | some r => r.ok && decide (cntB R i r.t = 0)
  | none => true
def goodK (R : List Rl) (k : Nat) : Bool := (List.range k).all (itemB R)
def areB (R : List Rl) : Bool := decide (R.length ≤ 16) && goodK R R.length
theorem goodK_succ (R : List Rl) (k : Nat) : goodK R (k + 1) = (goodK R k && itemB R k) := by
  unfold goodK
  rw [List.range_succ, List.all_append]; simp
theorem item_at {R : List Rl} {k : Nat} (hk : k < R.length) : itemB R k = (R[k].ok && decide (cntB R k R[k].t = 0)) := by
  unfold itemB
  rw [List.getElem?_eq_getElem hk]
theorem are_not {R : List Rl} {k : Nat} (hk : k < R.length) (h : itemB R k = false) : areB R = false := by
  unfold areB goodK
  have : (List.range R.length).all (itemB R) = false := by
    rw [List.all_eq_false]
    exact ⟨k, by simpa using hk, by simp [h]⟩
  rw [this, Bool.and_false]
theorem cnt_succ {R : List Rl} {k : Nat} (hk : k < R.length) (t : Int) : cntB R (k + 1) t = cntB R k t + if R[k].t = t then 1 else 0 := by
  unfold cntB
  rw [List.take_succ_eq_append_getElem hk, List.countP_append]
  by_cases h : R[k].t = t <;> simp [h]
theorem cnt_le (R : List Rl) (k : Nat) (t : Int) : cntB R k t ≤ k := by
  unfold cntB
  have := List.countP_le_length (p := fun r : Rl => r.t == t) (l := R.take k)
  rw [List.length_take] at this
  omega
/-- A map that holds for each number how often f says. -/
def CountMap (w : World) (b n : Nat) (f : Int → Nat) : Prop :=
  ∃ D : DataW Unit, w.ownsMap Try.prog 3 (plainElem Try.prog 3) b n D ∧ IsMap D ∧ ∀ t, D.atKey (.int .i64 t) (.lit (.int .i64 0)) = .lit (.int .i64 (f t : Int))
theorem lawI : Keyed Try.prog 3 := int_keyed Try.underlying3
theorem zeroI (w : World) : (zeroValue 3).run Try.prog w = .ok (.int .i64 0) w := by kernel_rfl
theorem wfI {t : Int} (h : wf64 t) : (Lit.int .i64 t).wf = true := by
  unfold wf64 at h
  simp [Lit.wf, IntKind.min, IntKind.max, IntKind.signed, IntKind.bits]; omega
theorem CountMap.made (w : World) : CountMap (w.alloc (.map #[] 0)) w.heap.size 0 (fun _ => 0) :=
  ⟨.map [], World.ownsMap_made _ _ _ _, ⟨_, rfl⟩, fun t => rfl⟩
theorem CountMap.lt {w : World} {b n : Nat} {f : Int → Nat} (h : CountMap w b n f) : b < w.heap.size := by
  obtain ⟨D, h1, -⟩ := h
  exact h1.lt
theorem CountMap.keep {w w' : World} {b n : Nat} {f : Int → Nat} (h : CountMap w b n f) (hb : w'.heap[b]? = w.heap[b]?) : CountMap w' b n f := by
  obtain ⟨D, ⟨es, clock, h1, F, hs, hD⟩, h2, h3⟩ := h
  exact ⟨D, ⟨es, clock, hb.trans h1, F, hs, hD⟩, h2, h3⟩
theorem CountMap.look {w : World} {b n : Nat} {f : Int → Nat} (h : CountMap w b n f) {t : Int} (ht : wf64 t) : (Instr.lookup 54 (.map (some b)) (.int .i64 t) false).run Try.prog w = .ok (.int .i64 (f t : Int)) w := by
  obtain ⟨D, h1, -, h3⟩ := h
  obtain ⟨c, hr, hat, -⟩ := h1.lookup_int lawI Try.underlying54 Try.underlying3 (zeroI w) (keyOf_int_mk Try.underlying3 (wfI ht))
  rw [h3] at hat
  cases hat
  exact hr
theorem CountMap.store {w : World} {b n : Nat} {f g : Int → Nat} (h : CountMap w b n f) (hn : n < maxLen) {t : Int} (ht : wf64 t) {c : Nat} (hc : wf64 (c : Int)) (hg : ∀ u, g u = if t = u then c else f u) :
    ∃ w', (Instr.mapUpdate 54 (.map (some b)) (.int .i64 t) (.int .i64 (c : Int))).run Try.prog w = .ok () w' ∧ CountMap w' b (n + 1) g ∧ w.grownBy w' (some b) := by
  obtain ⟨D, h1, h2, h3⟩ := h
  obtain ⟨w', hr, ho, hgr⟩ := h1.update lawI Try.underlying54 hn (keyOf_int_mk Try.underlying3 (wfI ht)) (plainElem_int Try.underlying3 (wfI hc))
  refine ⟨w', hr, ⟨_, ho, h2.put _ _, fun u => ?_⟩, hgr⟩
  rw [hg u]
  by_cases e : t = u
  · subst e
    rw [if_pos rfl]
    exact atKey_put_same h2 (by exact trivial) _ _
  · rw [if_neg e, ← h3 u]
    exact atKey_put_other (by intro h; cases h; exact e rfl) _ _
theorem seven {W : World} {X : Nat} {r : Rl} {T : TypeId} (h : W.heap[X]? = some (.cells #[.int .i64 r.t, .int .i64 r.sz, .int .i64 r.kd, .int .i64 r.lo, .int .i64 r.hi, .int .i64 r.gd, .bool r.must] T (0, 0))) :
    W.cell? ⟨X, 0, none⟩ = some (.int .i64 r.t) ∧ W.cell? ⟨X, 1, none⟩ = some (.int .i64 r.sz) ∧ W.cell? ⟨X, 2, none⟩ = some (.int .i64 r.kd) ∧ W.cell? ⟨X, 3, none⟩ = some (.int .i64 r.lo) ∧ W.cell? ⟨X, 4, none⟩ = some (.int .i64 r.hi) ∧ W.cell? ⟨X, 5, none⟩ = some (.int .i64 r.gd) ∧ W.cell? ⟨X, 6, none⟩ = some (.bool r.must) ∧ X < W.heap.size := by
  refine ⟨?_, ?_, ?_, ?_, ?_, ?_, ?_, ?_⟩
  · rw [cell_of_row W X 0 _ _ _ h]; rfl
  · rw [cell_of_row W X 1 _ _ _ h]; rfl
  · rw [cell_of_row W X 2 _ _ _ h]; rfl
  · rw [cell_of_row W X 3 _ _ _ h]; rfl
  · rw [cell_of_row W X 4 _ _ _ h]; rfl
  · rw [cell_of_row W X 5 _ _ _ h]; rfl
  · rw [cell_of_row W X 6 _ _ _ h]; rfl
  · rw [Array.getElem?_eq_some_iff] at h; exact h.1
end Go.Proofs.Ytlkijhcgiilmhaa
