/- append onto a row of the call's own, and in which block the new row lies. -/
import Derived.Test.YtlkijhcgiilmhaaT
namespace Go.Proofs.Ytlkijhcgiilmhaa
open Go.RowKit
set_option linter.unusedSimpArgs false
set_option linter.unusedVariables false
/-- The row stays in its block, or lies in a new one and nothing else has turned. -/
def Whither (w w' : World) (v v' : Value) : Prop := v'.ownBlock = v.ownBlock ∨ (v'.ownBlock = some w.heap.size ∧ ∀ k, k < w.heap.size → w'.heap[k]? = w.heap[k]?)
section
variable {P : Program} {ops : Array Oper} {rest : List Oper} {o : Oper} {a : Act} {K : Act → World → Prop} {Q : Exit → Act → World → Prop} {w : World}
theorem wp_appw (w1 : World) (s x : Operand) (t : TypeId)
    (ho : o.op = .call { callee := .builtin .append, args := #[s, x], argTypes := #[t, t] })
    (e : TypeId) (ht : P.underlying t = some (.slice e)) (z : Value) (size bytes : Nat) (hinfo : (P.info? e).map (fun i => (i.zero, i.size, i.bytes)) = some (some z, size, bytes)) (hzs : z.cells.size = size) (hsz : 0 < size) (hby : bytes ≤ 256)
    (v : Value) (n : Nat) (xs : List Value) (hs : a.eval s = v) (hown : w.ownsRow w1.heap.size e size v n xs)
    (B : Nat) (A : Option Addr) (m c : Nat) (news : List Value) (hx : a.eval x = .slice A m c) (hl : news.length = m * size) (hm : n + m ≤ 500000000) (hr : At w B A news) (h1 : ∀ u ∈ news, u.oneCell' = true) (hw : Below w1.heap.size w1 w)
    (h : ∀ A' c' w', w'.ownsRow w1.heap.size e size (.slice A' (n + m) c') (n + m) (xs ++ news) → n + m ≤ c' → Below w1.heap.size w1 w' → w.grownBy w' v.ownBlock → Whither w w' v (.slice A' (n + m) c') → K (a.put o.dst (.slice A' (n + m) c')) w') : o.wp P a w K Q := by
  obtain ⟨i0, hi, hz0, hz1, hz2⟩ := info_parts hinfo
  obtain ⟨v', w', hrun, h2, h3, h4⟩ := run_app (P := P) w1.heap.size t o.type e i0 z size bytes ht hi hz0 hz1 hz2 hzs hsz _ n xs hown B A m c news hl hr h1 (by unfold maxLen; omega)
    (by have : (n + m) * bytes ≤ 500000000 * 256 := Nat.mul_le_mul hm hby; omega) hw.size
  have hbel : Below w1.heap.size w1 w' := hw.grown h3 hw.size (fun k hk => own_le hown hk)
  obtain ⟨A', c', rfl, hc', -⟩ := ownsRow_form h2
  unfold Oper.wp execOp
  simp only [ho, resolve, invoke, builtin, Sem.run_bind, Sem.run_pure, Result.andThen_ok, List.map_toArray, List.map_cons, List.map_nil, hs, hx, hrun]
  exact h A' c' w' h2 hc' hbel h3 h4
theorem wpList_appw (w1 : World) (hgd : o.guard = none) (s x : Operand) (t : TypeId)
    (ho : o.op = .call { callee := .builtin .append, args := #[s, x], argTypes := #[t, t] })
    (e : TypeId) (ht : P.underlying t = some (.slice e)) (z : Value) (size bytes : Nat) (hinfo : (P.info? e).map (fun i => (i.zero, i.size, i.bytes)) = some (some z, size, bytes)) (hzs : z.cells.size = size) (hsz : 0 < size) (hby : bytes ≤ 256)
    (v : Value) (n : Nat) (xs : List Value) (hs : a.eval s = v) (hown : w.ownsRow w1.heap.size e size v n xs)
    (B : Nat) (A : Option Addr) (m c : Nat) (news : List Value) (hx : a.eval x = .slice A m c) (hl : news.length = m * size) (hm : n + m ≤ 500000000) (hr : At w B A news) (h1 : ∀ u ∈ news, u.oneCell' = true) (hw : Below w1.heap.size w1 w)
    (h : ∀ A' c' w', w'.ownsRow w1.heap.size e size (.slice A' (n + m) c') (n + m) (xs ++ news) → n + m ≤ c' → Below w1.heap.size w1 w' → w.grownBy w' v.ownBlock → Whither w w' v (.slice A' (n + m) c') → wpList P ops Q rest (a.put o.dst (.slice A' (n + m) c')) w') :
    wpList P ops Q (o :: rest) a w :=
  wpList_plain hgd fun K hK => wp_appw w1 s x t ho e ht z size bytes hinfo hzs hsz hby v n xs hs hown B A m c news hx hl hm hr h1 hw fun A' c' w' h1 h2 h3 h4 h5 => hK _ _ (h A' c' w' h1 h2 h3 h4 h5)
theorem step_appw {E : Prop} (w1 : World) (hgd : o.guard = none) (s x : Operand) (t : TypeId)
    (ho : o.op = .call { callee := .builtin .append, args := #[s, x], argTypes := #[t, t] })
    (e : TypeId) (ht : P.underlying t = some (.slice e)) (z : Value) (size bytes : Nat) (hinfo : (P.info? e).map (fun i => (i.zero, i.size, i.bytes)) = some (some z, size, bytes)) (hzs : z.cells.size = size) (hsz : 0 < size) (hby : bytes ≤ 256)
    (v : Value) (n : Nat) (xs : List Value) (hs : a.eval s = v) (hown : w.ownsRow w1.heap.size e size v n xs)
    (B : Nat) (A : Option Addr) (m c : Nat) (news : List Value) (hx : a.eval x = .slice A m c) (hl : news.length = m * size) (hm : n + m ≤ 500000000) (hr : At w B A news) (h1 : ∀ u ∈ news, u.oneCell' = true) (hw : Below w1.heap.size w1 w)
    (h : ∀ A' c' w', w'.ownsRow w1.heap.size e size (.slice A' (n + m) c') (n + m) (xs ++ news) → n + m ≤ c' → Below w1.heap.size w1 w' → w.grownBy w' v.ownBlock → Whither w w' v (.slice A' (n + m) c') → K (a.put o.dst (.slice A' (n + m) c')) w') :
    if Region.wanted o (yielded ops a.tmps) = true then Oper.wp P o a w K Q else E := by
  rw [if_pos (by simp [Region.wanted, hgd])]
  exact wp_appw w1 s x t ho e ht z size bytes hinfo hzs hsz hby v n xs hs hown B A m c news hx hl hm hr h1 hw h
end
end Go.Proofs.Ytlkijhcgiilmhaa
