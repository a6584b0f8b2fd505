/- The memory of an automaton that is being changed; packets in memory of one's own. -/
import Derived.Test.YthidhfkbfoejbaaGreatQ1
import Derived.Test.YthidhfkbfoejbaaGreatC
namespace Go.Proofs.YthidhfkbfoejbaaGreat
open Go.RowKit
set_option linter.ambiguousOpen false
open Ne (Rl Opt RulesAt areB)
set_option linter.unusedSimpArgs false
set_option linter.unusedVariables false
/-- A packet in memory. -/
structure Pe where
  code : Int
  id : Int
  d : List UInt8
  a : Option Addr
  c : Nat
def Pe.v (e : Pe) : Value := .slice e.a e.d.length e.c
def Pe.o (e : Pe) : Pk := ⟨e.code, e.id, e.d⟩
def cellsP (P : List Pe) : List Value := P.flatMap fun e => [.int .i64 e.code, .int .i64 e.id, e.v]
def OwnPks (W : World) (base : Nat) (v : Value) (P : List Pe) : Prop :=
  W.ownsRow base 32 3 v P.length (cellsP P) ∧ ∀ e ∈ P, W.ownsRow base 5 1 e.v e.d.length (e.d.map bv)
/-- Packets that can be read. -/
def PksAt (W : World) (B : Nat) (A : Option Addr) (P : List Pe) : Prop :=
  At W B A (cellsP P) ∧ ∀ e ∈ P, At W B e.a (e.d.map bv) ∧ e.d.length ≤ e.c
theorem infoCtl : (Tryz.prog.info? 32).map (fun i => (i.zero, i.size, i.bytes)) = some (some (.agg #[.int .i64 0, .int .i64 0, .slice none 0 0]), 3, 40) := by kernel_rfl
theorem cellsP_len (P : List Pe) : (cellsP P).length = 3 * P.length := by
  induction P with
  | nil => rfl
  | cons e E ih => simp only [cellsP, List.flatMap_cons, List.length_append, List.length_cons, List.length_nil] at *; omega
theorem cellsP_snoc (P : List Pe) (e : Pe) : cellsP (P ++ [e]) = cellsP P ++ [.int .i64 e.code, .int .i64 e.id, e.v] := by simp [cellsP]
theorem cellsP_get : ∀ (P : List Pe) (k : Nat) (hk : k < P.length), (cellsP P)[3 * k]? = some (.int .i64 P[k].code) ∧ (cellsP P)[3 * k + 1]? = some (.int .i64 P[k].id) ∧ (cellsP P)[3 * k + 2]? = some P[k].v
  | e :: E, 0, _ => ⟨rfl, rfl, rfl⟩
  | e :: E, k + 1, hk => by
    have := cellsP_get E k (by simpa using hk)
    have e1 : cellsP (e :: E) = .int .i64 e.code :: .int .i64 e.id :: e.v :: cellsP E := rfl
    rw [e1]
    have h2 : 3 * (k + 1) = 3 * k + 1 + 1 + 1 := by omega
    rw [h2]
    simpa using this
theorem cellsP_one (P : List Pe) : ∀ u ∈ cellsP P, u.oneCell' = true := by
  intro u hu
  simp only [cellsP, List.mem_flatMap, List.mem_cons, List.not_mem_nil, or_false] at hu
  obtain ⟨e, _, rfl | rfl | rfl⟩ := hu <;> rfl
theorem PksAt.keep {W W' : World} {B : Nat} {A : Option Addr} {P : List Pe} (h : PksAt W B A P) (hb : Below B W W') : PksAt W' B A P :=
  ⟨h.1.keep hb, fun e he => ⟨(h.2 e he).1.keep hb, (h.2 e he).2⟩⟩
theorem PksAt.more {W : World} {B B' : Nat} {A : Option Addr} {P : List Pe} (h : PksAt W B A P) (hB : B ≤ B') : PksAt W B' A P :=
  ⟨h.1.more hB, fun e he => ⟨(h.2 e he).1.more hB, (h.2 e he).2⟩⟩
theorem OwnPks.at {W : World} {base : Nat} {A : Option Addr} {n c : Nat} {P : List Pe} (h : OwnPks W base (.slice A n c) P) : PksAt W W.heap.size A P := by
  refine ⟨?_, fun e he => ?_⟩
  · have := h.1
    obtain ⟨A', c', hv, -, -⟩ := ownsRow_form this
    cases hv
    exact At.of_own this
  · have := h.2 e he
    obtain ⟨A', c', hv, hc, -⟩ := ownsRow_form this
    cases hv
    exact ⟨At.of_own this, hc⟩
theorem PksAt.get {W : World} {B : Nat} {A : Option Addr} {P : List Pe} (h : PksAt W B A P) {k : Nat} (hk : k < P.length) :
    ∃ b o, A = some ⟨b, o, none⟩ ∧ b < B ∧ W.cell? ⟨b, o + k * 3, none⟩ = some (.int .i64 P[k].code) ∧ W.cell? ⟨b, o + k * 3 + 1, none⟩ = some (.int .i64 P[k].id) ∧ W.cell? ⟨b, o + k * 3 + 2, none⟩ = some P[k].v := by
  obtain ⟨b, o, hA, hB, hc⟩ := h.1.get (by rw [cellsP_len]; omega)
  obtain ⟨h0, h1, h2⟩ := cellsP_get P k hk
  exact ⟨b, o, hA, hB, by have := hc _ _ h0; rwa [show o + 3 * k = o + k * 3 by omega] at this, by have := hc _ _ h1; rwa [show o + (3 * k + 1) = o + k * 3 + 1 by omega] at this, by have := hc _ _ h2; rwa [show o + (3 * k + 2) = o + k * 3 + 2 by omega] at this⟩
theorem OwnPks.below {A C : World} {base : Nat} {v : Value} {P : List Pe} (h : OwnPks A base v P) (hb : Below A.heap.size A C) : OwnPks C base v P :=
  ⟨own_below h.1 hb, fun x hx => own_below (h.2 x hx) hb⟩
theorem OwnPks.base {A : World} {b b' : Nat} {v : Value} {P : List Pe} (h : OwnPks A b v P) (hb : b' ≤ b) : OwnPks A b' v P :=
  ⟨own_base h.1 hb, fun x hx => own_base (h.2 x hx) hb⟩
theorem OwnPks.nil (A : World) (b : Nat) : OwnPks A b (.slice none 0 0) [] := ⟨own_nil _ _ _ _, fun _ h => by cases h⟩
/-- Rows of one's own stay where a block below is turned. -/
theorem OwnPks.stays {A C : World} {base : Nat} {v : Value} {P : List Pe} {row : Option Nat} (h : OwnPks A base v P) (hg : A.grownBy C row) (hr : ∀ r, row = some r → r < base) : OwnPks C base v P :=
  ⟨own_stays h.1 hg fun r e => .inl (hr r e), fun x hx => own_stays (h.2 x hx) hg fun r e => .inl (hr r e)⟩
theorem OwnPks.pushed {W W2 : World} {base : Nat} {v v3 : Value} {P : List Pe} {co id : Int} {A2 : Option Addr} {dd : List UInt8} {c2 : Nat} (h : OwnPks W base v P)
    (h2 : W.ownsRow base 5 1 (.slice A2 dd.length c2) dd.length (dd.map bv)) (h3 : W2.ownsRow base 32 3 v3 (P.length + 1) (cellsP P ++ [.int .i64 co, .int .i64 id, .slice A2 dd.length c2]))
    (hg : W.grownBy W2 v.ownBlock) : OwnPks W2 base v3 (P ++ [⟨co, id, dd, A2, c2⟩]) := by
  have hr : ∀ r, v.ownBlock = some r → r < base ∨ (∃ o : Obj, W.heap[r]? = some o ∧ o.isCells = false) ∨ (∃ cur e', W.heap[r]? = some (.cells cur e' (0, 0)) ∧ e' ≠ 5) := fun r e => by
    obtain ⟨cur, hc⟩ := own_type h.1 e
    exact .inr (.inr ⟨cur, 32, hc, by decide⟩)
  refine ⟨by rw [cellsP_snoc]; simpa [Pe.v] using h3, fun e he => ?_⟩
  rcases List.mem_append.1 he with he | he
  · exact own_stays (h.2 e he) hg hr
  · simp only [List.mem_singleton] at he
    subst he
    exact own_stays h2 hg hr
/-- The memory of a run: what its cells hold. -/
structure Rm where
  vr : Value
  mc : Int
  mt : Int
  mf : Int
  wt : Int
  st : Int
  id : Int
  req : Int
  va : Value
  cnt : Int
  tim : Int
  nak : Int
  ic : Int
  ii : Int
  vi : Value
  ac : Int
  ai : Int
  vn : Value
  tick : Int
  vd : Value
  vo : Value
def Rm.cs (s : Rm) : Array Value := #[s.vr, .int .i64 s.mc, .int .i64 s.mt, .int .i64 s.mf, .int .i64 s.wt, .int .i64 s.st, .int .i64 s.id, .int .i64 s.req, s.va, .int .i64 s.cnt, .int .i64 s.tim, .int .i64 s.nak, .int .i64 s.ic, .int .i64 s.ii, s.vi, .int .i64 s.ac, .int .i64 s.ai, s.vn, .int .i64 s.tick, s.vd, s.vo]
def RunAt (W : World) (b : Nat) (s : Rm) : Prop := W.heap[b]? = some (.cells s.cs 77 (0, 0))
section
variable {W W' : World} {b : Nat} {s : Rm}
theorem RunAt.lt (h : RunAt W b s) : b < W.heap.size := by have h2 := h; unfold RunAt at h2; rw [Array.getElem?_eq_some_iff] at h2; exact h2.1
theorem RunAt.cell (h : RunAt W b s) (i : Nat) {v : Value} (hv : s.cs[i]? = some v) : W.cell? ⟨b, i, none⟩ = some v := (cell_of_row W b i _ _ _ h).trans hv
theorem RunAt.free (h : RunAt W b s) (i : Nat) : W.frozen? ⟨b, i, none⟩ = false := frozen_of_row W b i _ _ h
theorem RunAt.keep (h : RunAt W b s) (hb : Below W.heap.size W W') : RunAt W' b s := (hb.block b h.lt).trans h
theorem RunAt.apart (h : RunAt W b s) {row : Option Nat} (hg : W.grownBy W' row) (hr : row ≠ some b) : RunAt W' b s := (hg.block b h.lt (fun e => hr e.symm)).trans h
theorem RunAt.st (h : RunAt W b s) (x : Int) : RunAt (W.setCell ⟨b, 5, none⟩ (.int .i64 x)) b { s with st := x } := heap_setCell_same W b 5 _ _ _ h
theorem RunAt.id (h : RunAt W b s) (x : Int) : RunAt (W.setCell ⟨b, 6, none⟩ (.int .i64 x)) b { s with id := x } := heap_setCell_same W b 6 _ _ _ h
theorem RunAt.req (h : RunAt W b s) (x : Int) : RunAt (W.setCell ⟨b, 7, none⟩ (.int .i64 x)) b { s with req := x } := heap_setCell_same W b 7 _ _ _ h
theorem RunAt.cnt (h : RunAt W b s) (x : Int) : RunAt (W.setCell ⟨b, 9, none⟩ (.int .i64 x)) b { s with cnt := x } := heap_setCell_same W b 9 _ _ _ h
theorem RunAt.tim (h : RunAt W b s) (x : Int) : RunAt (W.setCell ⟨b, 10, none⟩ (.int .i64 x)) b { s with tim := x } := heap_setCell_same W b 10 _ _ _ h
theorem RunAt.nak (h : RunAt W b s) (x : Int) : RunAt (W.setCell ⟨b, 11, none⟩ (.int .i64 x)) b { s with nak := x } := heap_setCell_same W b 11 _ _ _ h
theorem RunAt.out (h : RunAt W b s) (v : Value) : RunAt (W.setCell ⟨b, 20, none⟩ v) b { s with vo := v } := heap_setCell_same W b 20 _ _ _ h
end
theorem grown_set (w : World) (b i : Nat) (v : Value) : w.grownBy (w.setCell ⟨b, i, none⟩ v) (some b) :=
  ⟨rfl, rfl, rfl, by simp, fun k hk hne => heap_setCell_other _ _ _ _ (by simpa using hne)⟩
section
variable {w w' : World} {r : Option Nat} {b : Nat}
theorem grown_drewN (h : w.grownBy w' r) (n : Nat) : w.grownBy (w'.drewN n) r := ⟨h.os, h.tape, h.output, h.size, h.block⟩
theorem grown_drew (h : w.grownBy w' r) : w.grownBy w'.drew r := ⟨h.os, h.tape, h.output, h.size, h.block⟩
theorem grown_store (h : w.grownBy w' (some b)) (i : Nat) (v : Value) : w.grownBy (w'.setCell ⟨b, i, none⟩ v) (some b) := h.trans (grown_set _ _ _ _)
theorem grown_high (h : w.grownBy w' r) (p : Addr) (hp : w.heap.size ≤ p.block) (v : Value) : w.grownBy (w'.setCell p v) r :=
  ⟨h.os, h.tape, h.output, by rw [World.size_setCell]; exact h.size, fun k hk hne => (heap_setCell_other _ _ _ _ (by omega)).trans (h.block k hk hne)⟩
theorem grown_ext (h : w.grownBy w' r) (xs : List Obj) (d : Nat) : w.grownBy (ext w' xs d) r :=
  ⟨h.os, h.tape, h.output, by have := h.size; simp [size_ext, grow]; omega, fun k hk hne => (ext_block w' xs d k (by have := h.size; omega)).trans (h.block k hk hne)⟩
theorem grown_alloc (h : w.grownBy w' r) (o : Obj) : w.grownBy (w'.alloc o) r :=
  ⟨h.os, h.tape, h.output, by have := h.size; simp; omega, fun k hk hne => (Below.heap_alloc w' o k (by have := h.size; omega)).trans (h.block k hk hne)⟩
/-- What has turned lies in one block, or is new: step by step, found by the tactic. -/
theorem grn {w W : World} {r : Option Nat} (h : w.grownBy W r := by (repeat (first | with_reducible exact World.grownBy.refl _ _ | with_reducible assumption | with_reducible refine grown_drew ?_ | with_reducible refine grown_drewN ?_ _ | with_reducible refine grown_store ?_ _ _ | with_reducible refine grown_ext ?_ _ _ | with_reducible refine grown_alloc ?_ _ | (with_reducible refine grown_high ?_ _ (by first | (simp [size_ext, grow]; done) | (simp [size_ext, grow]; omega) | omega) _)))) : w.grownBy W r := h
end
section
variable {P : Program} {ops : Array Oper} {rest : List Oper} {o : Oper} {a : Act} {K : Act → World → Prop} {Q : Exit → Act → World → Prop} {w : World}
/-- append onto a row of the call's own, whatever its base; the world behind it is a variable. -/
theorem wp_appg (base : Nat) (s x : Operand) (t : TypeId)
    (ho : o.op = .call { callee := .builtin .append, args := #[s, x], argTypes := #[t, t] })
    (e : TypeId) (ht : P.underlying t = some (.slice e)) (z : Value) (size bytes : Nat) (hinfo : (P.info? e).map (fun i => (i.zero, i.size, i.bytes)) = some (some z, size, bytes)) (hzs : z.cells.size = size) (hsz : 0 < size) (hby : bytes ≤ 256)
    (v : Value) (n : Nat) (xs : List Value) (hs : a.eval s = v) (hown : w.ownsRow base e size v n xs)
    (B : Nat) (A : Option Addr) (m c : Nat) (news : List Value) (hx : a.eval x = .slice A m c) (hl : news.length = m * size) (hm : n + m ≤ 500000000) (hr : At w B A news) (h1 : ∀ u ∈ news, u.oneCell' = true) (hb : base ≤ w.heap.size)
    (h : ∀ A' c' w', w'.ownsRow base e size (.slice A' (n + m) c') (n + m) (xs ++ news) → n + m ≤ c' → w.grownBy w' v.ownBlock → K (a.put o.dst (.slice A' (n + m) c')) w') : o.wp P a w K Q := by
  obtain ⟨i0, hi, hz0, hz1, hz2⟩ := info_parts hinfo
  obtain ⟨v', w', hrun, h2, h3, h4⟩ := run_app (P := P) base t o.type e i0 z size bytes ht hi hz0 hz1 hz2 hzs hsz _ n xs hown B A m c news hl hr h1 (by unfold maxLen; omega)
    (by have : (n + m) * bytes ≤ 500000000 * 256 := Nat.mul_le_mul hm hby; omega) hb
  obtain ⟨A', c', rfl, hc', -⟩ := ownsRow_form h2
  unfold Oper.wp execOp
  simp only [ho, resolve, invoke, builtin, Sem.run_bind, Sem.run_pure, Result.andThen_ok, List.map_toArray, List.map_cons, List.map_nil, hs, hx, hrun]
  exact h A' c' w' h2 hc' h3
theorem wpList_appg (base : Nat) (hgd : o.guard = none) (s x : Operand) (t : TypeId)
    (ho : o.op = .call { callee := .builtin .append, args := #[s, x], argTypes := #[t, t] })
    (e : TypeId) (ht : P.underlying t = some (.slice e)) (z : Value) (size bytes : Nat) (hinfo : (P.info? e).map (fun i => (i.zero, i.size, i.bytes)) = some (some z, size, bytes)) (hzs : z.cells.size = size) (hsz : 0 < size) (hby : bytes ≤ 256)
    (v : Value) (n : Nat) (xs : List Value) (hs : a.eval s = v) (hown : w.ownsRow base e size v n xs)
    (B : Nat) (A : Option Addr) (m c : Nat) (news : List Value) (hx : a.eval x = .slice A m c) (hl : news.length = m * size) (hm : n + m ≤ 500000000) (hr : At w B A news) (h1 : ∀ u ∈ news, u.oneCell' = true) (hb : base ≤ w.heap.size)
    (h : ∀ A' c' w', w'.ownsRow base e size (.slice A' (n + m) c') (n + m) (xs ++ news) → n + m ≤ c' → w.grownBy w' v.ownBlock → wpList P ops Q rest (a.put o.dst (.slice A' (n + m) c')) w') :
    wpList P ops Q (o :: rest) a w :=
  wpList_plain hgd fun K hK => wp_appg base s x t ho e ht z size bytes hinfo hzs hsz hby v n xs hs hown B A m c news hx hl hm hr h1 hb fun A' c' w' h1 h2 h3 => hK _ _ (h A' c' w' h1 h2 h3)
theorem step_appg {E : Prop} (base : Nat) (hgd : o.guard = none) (s x : Operand) (t : TypeId)
    (ho : o.op = .call { callee := .builtin .append, args := #[s, x], argTypes := #[t, t] })
    (e : TypeId) (ht : P.underlying t = some (.slice e)) (z : Value) (size bytes : Nat) (hinfo : (P.info? e).map (fun i => (i.zero, i.size, i.bytes)) = some (some z, size, bytes)) (hzs : z.cells.size = size) (hsz : 0 < size) (hby : bytes ≤ 256)
    (v : Value) (n : Nat) (xs : List Value) (hs : a.eval s = v) (hown : w.ownsRow base e size v n xs)
    (B : Nat) (A : Option Addr) (m c : Nat) (news : List Value) (hx : a.eval x = .slice A m c) (hl : news.length = m * size) (hm : n + m ≤ 500000000) (hr : At w B A news) (h1 : ∀ u ∈ news, u.oneCell' = true) (hb : base ≤ w.heap.size)
    (h : ∀ A' c' w', w'.ownsRow base e size (.slice A' (n + m) c') (n + m) (xs ++ news) → n + m ≤ c' → w.grownBy w' v.ownBlock → K (a.put o.dst (.slice A' (n + m) c')) w') :
    if Region.wanted o (yielded ops a.tmps) = true then Oper.wp P o a w K Q else E := by
  rw [if_pos (by simp [Region.wanted, hgd])]
  exact wp_appg base s x t ho e ht z size bytes hinfo hzs hsz hby v n xs hs hown B A m c news hx hl hm hr h1 hb h
end
end Go.Proofs.YthidhfkbfoejbaaGreat
