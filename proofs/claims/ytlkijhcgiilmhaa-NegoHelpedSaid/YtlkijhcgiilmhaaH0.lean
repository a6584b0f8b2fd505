/- Options in memory of one's own; append inside a fence. -/
import Derived.Test.YtlkijhcgiilmhaaRF
import Derived.Test.YtlkijhcgiilmhaaO
import Derived.Laws.OwnMore
namespace Go.Proofs.Ytlkijhcgiilmhaa
open Go.RowKit
set_option linter.unusedSimpArgs false
set_option linter.unusedVariables false
@[go_sem] theorem lt_grow_of {a x : Nat} {l : List Obj} (h : a < x) : a < grow x l := by simp only [grow]; omega
@[go_sem] theorem lt_grow_of1 {a x : Nat} {l : List Obj} (h : a < x) : a < grow x l + 1 := by simp only [grow]; omega
@[go_sem] theorem lt_grow_of2 {a x : Nat} {l : List Obj} (h : a < x) : a < grow x l + 1 + 1 := by simp only [grow]; omega
@[go_sem] theorem lt_grow_of3 {a x : Nat} {l : List Obj} (h : a < x) : a < grow x l + 1 + 1 + 1 := by simp only [grow]; omega
@[go_sem] theorem lt_grow_of4 {a x : Nat} {l : List Obj} (h : a < x) : a < grow x l + 1 + 1 + 1 + 1 := by simp only [grow]; omega
@[go_sem] theorem alloc_drewN (w : World) (n : Nat) (o : Obj) : (w.drewN n).alloc o = (w.alloc o).drewN n := rfl
@[go_sem] theorem setCell_drewN (w : World) (n : Nat) (p : Addr) (v : Value) : (w.drewN n).setCell p v = (w.setCell p v).drewN n := rfl
theorem infoOpt : (Try.prog.info? 42).map (fun i => (i.zero, i.size, i.bytes)) = some (some (.agg #[.int .i64 0, .slice none 0 0]), 2, 32) := by kernel_rfl
/-- An option in memory: its type, its data, where these lie. -/
structure Ent where
  t : Int
  d : List UInt8
  a : Option Addr
  c : Nat
def Ent.v (e : Ent) : Value := .slice e.a e.d.length e.c
def Ent.o (e : Ent) : Int × List UInt8 := (e.t, e.d)
def cellsE (E : List Ent) : List Value := E.flatMap fun e => [.int .i64 e.t, e.v]
/-- Whatever lies in memory of one's own from block base on: the row v of options E, and their data. -/
def OwnOpts (W : World) (base : Nat) (v : Value) (E : List Ent) : Prop :=
  W.ownsRow base 42 2 v E.length (cellsE E) ∧ ∀ e ∈ E, W.ownsRow base 5 1 e.v e.d.length (e.d.map bv)
/-- Options that can be read. -/
def OptsAt (W : World) (B : Nat) (A : Option Addr) (E : List Ent) : Prop :=
  At W B A (cellsE E) ∧ ∀ e ∈ E, At W B e.a (e.d.map bv) ∧ e.d.length ≤ e.c
theorem cellsE_len (E : List Ent) : (cellsE E).length = 2 * E.length := by
  induction E with
  | nil => rfl
  | cons e E ih => simp only [cellsE, List.flatMap_cons, List.length_append, List.length_cons, List.length_nil] at *; omega
theorem cellsE_snoc (E : List Ent) (e : Ent) : cellsE (E ++ [e]) = cellsE E ++ [.int .i64 e.t, e.v] := by simp [cellsE]
theorem cellsE_get : ∀ (E : List Ent) (k : Nat) (hk : k < E.length), (cellsE E)[2 * k]? = some (.int .i64 E[k].t) ∧ (cellsE E)[2 * k + 1]? = some E[k].v
  | e :: E, 0, _ => ⟨rfl, rfl⟩
  | e :: E, k + 1, hk => by
    have := cellsE_get E k (by simpa using hk)
    have e1 : cellsE (e :: E) = .int .i64 e.t :: e.v :: cellsE E := rfl
    rw [e1]
    have h2 : 2 * (k + 1) = 2 * k + 1 + 1 := by omega
    rw [h2]
    simpa using this
theorem cellsE_one (E : List Ent) : ∀ u ∈ cellsE E, u.oneCell' = true := by
  intro u hu
  simp only [cellsE, List.mem_flatMap, List.mem_cons, List.not_mem_nil, or_false] at hu
  obtain ⟨e, _, rfl | rfl⟩ := hu <;> rfl
theorem bv_all (l : List UInt8) : ∀ u ∈ l.map bv, u.oneCell' = true := by
  intro u hu
  obtain ⟨x, _, rfl⟩ := List.mem_map.1 hu
  rfl
theorem OptsAt.keep {W W' : World} {B : Nat} {A : Option Addr} {E : List Ent} (h : OptsAt W B A E) (hb : Below B W W') : OptsAt W' B A E :=
  ⟨h.1.keep hb, fun e he => ⟨(h.2 e he).1.keep hb, (h.2 e he).2⟩⟩
theorem OptsAt.more {W : World} {B B' : Nat} {A : Option Addr} {E : List Ent} (h : OptsAt W B A E) (hB : B ≤ B') : OptsAt W B' A E :=
  ⟨h.1.more hB, fun e he => ⟨(h.2 e he).1.more hB, (h.2 e he).2⟩⟩
theorem OptsAt.move {W W' : World} {B B' : Nat} {A : Option Addr} {E : List Ent} (h : OptsAt W B A E) (hb : Below B W W') (hB : B ≤ B') : OptsAt W' B' A E := (h.keep hb).more hB
theorem OwnOpts.at {W : World} {base : Nat} {A : Option Addr} {n c : Nat} {E : List Ent} (h : OwnOpts W base (.slice A n c) E) : OptsAt W W.heap.size A E := by
  refine ⟨?_, fun e he => ?_⟩
  · have := h.1
    obtain ⟨A', c', hv, -, -⟩ := ownsRow_form this
    cases hv
    exact At.of_own this
  · have := h.2 e he
    obtain ⟨A', c', hv, hc, -⟩ := ownsRow_form this
    cases hv
    exact ⟨At.of_own this, hc⟩
/-- The cells of one option. -/
theorem OptsAt.get {W : World} {B : Nat} {A : Option Addr} {E : List Ent} (h : OptsAt W B A E) {k : Nat} (hk : k < E.length) :
    ∃ b o, A = some ⟨b, o, none⟩ ∧ b < B ∧ W.cell? ⟨b, o + k * 2, none⟩ = some (.int .i64 E[k].t) ∧ W.cell? ⟨b, o + k * 2 + 1, none⟩ = some E[k].v := by
  obtain ⟨b, o, hA, hB, hc⟩ := h.1.get (by rw [cellsE_len]; omega)
  obtain ⟨h0, h1⟩ := cellsE_get E k hk
  exact ⟨b, o, hA, hB, by have := hc _ _ h0; rwa [show o + 2 * k = o + k * 2 by omega] at this, by have := hc _ _ h1; rwa [show o + (2 * k + 1) = o + k * 2 + 1 by omega] at this⟩
theorem own_type {w : World} {base : Nat} {e : TypeId} {size n : Nat} {v : Value} {xs : List Value} (h : w.ownsRow base e size v n xs) {k : Nat} (hk : v.ownBlock = some k) : ∃ cur, w.heap[k]? = some (.cells cur e (0, 0)) := by
  rcases h.2 with ⟨rfl, _⟩ | ⟨g, cap, cur, rfl, _, hh, _⟩
  · cases hk
  · simp only [Value.ownBlock, Option.some.injEq] at hk; subst hk; exact ⟨cur, hh⟩
/-- Rows of one's own stay where another block is turned: one below, one that is no cells, or one of another type. -/
theorem own_stays {A C : World} {base : Nat} {e : TypeId} {size n : Nat} {v : Value} {xs : List Value} {row : Option Nat} (h : A.ownsRow base e size v n xs) (hg : A.grownBy C row)
    (hr : ∀ r, row = some r → r < base ∨ (∃ o : Obj, A.heap[r]? = some o ∧ o.isCells = false) ∨ (∃ cur e', A.heap[r]? = some (.cells cur e' (0, 0)) ∧ e' ≠ e)) : C.ownsRow base e size v n xs := by
  refine own_grown h hg fun k hk hkr => ?_
  obtain ⟨cur, hh⟩ := own_type h hk
  have hle := own_le h hk
  rcases hr k hkr.symm with h1 | ⟨o, h1, h2⟩ | ⟨cur', e', h1, h2⟩
  · omega
  · rw [hh] at h1; cases h1; cases h2
  · rw [hh] at h1; cases h1; exact h2 rfl
theorem OwnOpts.stays {A C : World} {base : Nat} {v : Value} {E : List Ent} {row : Option Nat} (h : OwnOpts A base v E) (hg : A.grownBy C row)
    (hr : ∀ r, row = some r → r < base ∨ (∃ o : Obj, A.heap[r]? = some o ∧ o.isCells = false)) : OwnOpts C base v E :=
  ⟨own_stays h.1 hg fun r e => (hr r e).imp id .inl, fun x hx => own_stays (h.2 x hx) hg fun r e => (hr r e).imp id .inl⟩
theorem OwnOpts.below {A C : World} {base : Nat} {v : Value} {E : List Ent} (h : OwnOpts A base v E) (hb : Below A.heap.size A C) : OwnOpts C base v E :=
  ⟨own_below h.1 hb, fun x hx => own_below (h.2 x hx) hb⟩
theorem OwnOpts.base {A : World} {b b' : Nat} {v : Value} {E : List Ent} (h : OwnOpts A b v E) (hb : b' ≤ b) : OwnOpts A b' v E :=
  ⟨own_base h.1 hb, fun x hx => own_base (h.2 x hx) hb⟩
theorem OwnOpts.nil (A : World) (b : Nat) : OwnOpts A b (.slice none 0 0) [] := ⟨own_nil _ _ _ _, fun _ h => by cases h⟩
section
variable {F : Fence} {n : Nat} {P : Program} {ops : Array Oper} {rest : List Oper} {o : Oper} {a : Act} {Q : Exit → Act → World → Prop} {w : World}
theorem wpListIn_appv (hgd : o.guard = none) (s x : Operand) (t : TypeId)
    (ho : o.op = .call { callee := .builtin .append, args := #[s, x], argTypes := #[t, t] })
    (e : TypeId) (ht : P.underlying t = some (.slice e)) (z : Value) (size bytes : Nat) (hinfo : (P.info? e).map (fun i => (i.zero, i.size, i.bytes)) = some (some z, size, bytes)) (hzs : z.cells.size = size) (hsz : 0 < size) (hby : bytes ≤ 256)
    (base : Nat) (v : Value) (k : Nat) (xs : List Value) (hs : a.eval s = v) (hown : w.ownsRow base e size v k xs)
    (B : Nat) (A : Option Addr) (m c : Nat) (news : List Value) (hx : a.eval x = .slice A m c) (hl : news.length = m * size) (hm : k + m ≤ 500000000) (hr : At w B A news) (h1 : ∀ u ∈ news, u.oneCell' = true) (hbase : base ≤ w.heap.size)
    (h : ∀ A' c' w', w'.ownsRow base e size (.slice A' (k + m) c') (k + m) (xs ++ news) → k + m ≤ c' → w.grownBy w' v.ownBlock → wpListIn F n P ops Q rest (a.put o.dst (.slice A' (k + m) c')) w') :
    wpListIn F n P ops Q (o :: rest) a w := by
  obtain ⟨i0, hi, hz0, hz1, hz2⟩ := info_parts hinfo
  refine wpListIn_plain hgd fun K hK' => ?_
  obtain ⟨v', w', hrun, h2, h3, -⟩ := run_app (P := P) base t o.type e i0 z size bytes ht hi hz0 hz1 hz2 hzs hsz _ k xs hown B A m c news hl hr h1 (by unfold maxLen; omega)
    (by have : (k + m) * bytes ≤ 500000000 * 256 := Nat.mul_le_mul hm hby; omega) hbase
  obtain ⟨A', c', rfl, hc', -⟩ := ownsRow_form h2
  unfold Oper.wpIn
  refine ⟨?_, ?_⟩
  · simp [Oper.about, ho, resolve, Target.leads, Sem.run_pure]
  · rw [Oper.semAt_plain F _ _ (by rw [ho]; intro c hc'; cases hc')]
    simp [execOp, ho, resolve, invoke, builtin, hs, hx, hrun, Result.andThen]
    exact hK' _ _ (h A' c' w' h2 hc' h3)
end
end Go.Proofs.Ytlkijhcgiilmhaa
