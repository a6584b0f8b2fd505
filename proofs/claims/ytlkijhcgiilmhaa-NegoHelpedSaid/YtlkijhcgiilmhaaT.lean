/- append onto a row of the call's own, of any element type; the world behind it is a variable. -/
import Derived.Test.YtlkijhcgiilmhaaS2
namespace Go.Proofs.Ytlkijhcgiilmhaa
open Go.RowKit
set_option linter.unusedSimpArgs false
set_option linter.unusedVariables false
section
variable {P : Program} {ops : Array Oper} {rest : List Oper} {o : Oper} {a : Act} {K : Act → World → Prop} {Q : Exit → Act → World → Prop} {w : World}
theorem wp_appv (w1 : World) (s x : Operand) (t : TypeId)
    (ho : o.op = .call { callee := .builtin .append, args := #[s, x], argTypes := #[t, t] })
    (e : TypeId) (ht : P.underlying t = some (.slice e)) (z : Value) (size bytes : Nat) (hinfo : (P.info? e).map (fun i => (i.zero, i.size, i.bytes)) = some (some z, size, bytes)) (hzs : z.cells.size = size) (hsz : 0 < size) (hby : bytes ≤ 256)
    (v : Value) (n : Nat) (xs : List Value) (hs : a.eval s = v) (hown : w.ownsRow w1.heap.size e size v n xs)
    (B : Nat) (A : Option Addr) (m c : Nat) (news : List Value) (hx : a.eval x = .slice A m c) (hl : news.length = m * size) (hm : n + m ≤ 500000000) (hr : At w B A news) (h1 : ∀ u ∈ news, u.oneCell' = true) (hw : Below w1.heap.size w1 w)
    (h : ∀ A' c' w', w'.ownsRow w1.heap.size e size (.slice A' (n + m) c') (n + m) (xs ++ news) → n + m ≤ c' → Below w1.heap.size w1 w' → w.grownBy w' v.ownBlock → K (a.put o.dst (.slice A' (n + m) c')) w') : o.wp P a w K Q := by
  obtain ⟨i0, hi, hz0, hz1, hz2⟩ := info_parts hinfo
  obtain ⟨v', w', hrun, h2, h3, h4⟩ := run_app (P := P) w1.heap.size t o.type e i0 z size bytes ht hi hz0 hz1 hz2 hzs hsz _ n xs hown B A m c news hl hr h1 (by unfold maxLen; omega)
    (by have : (n + m) * bytes ≤ 500000000 * 256 := Nat.mul_le_mul hm hby; omega) hw.size
  have hbel : Below w1.heap.size w1 w' := hw.grown h3 hw.size (fun k hk => own_le hown hk)
  obtain ⟨A', c', rfl, hc', -⟩ := ownsRow_form h2
  unfold Oper.wp execOp
  simp only [ho, resolve, invoke, builtin, Sem.run_bind, Sem.run_pure, Result.andThen_ok, List.map_toArray, List.map_cons, List.map_nil, hs, hx, hrun]
  exact h A' c' w' h2 hc' hbel h3
theorem wpList_appv (w1 : World) (hgd : o.guard = none) (s x : Operand) (t : TypeId)
    (ho : o.op = .call { callee := .builtin .append, args := #[s, x], argTypes := #[t, t] })
    (e : TypeId) (ht : P.underlying t = some (.slice e)) (z : Value) (size bytes : Nat) (hinfo : (P.info? e).map (fun i => (i.zero, i.size, i.bytes)) = some (some z, size, bytes)) (hzs : z.cells.size = size) (hsz : 0 < size) (hby : bytes ≤ 256)
    (v : Value) (n : Nat) (xs : List Value) (hs : a.eval s = v) (hown : w.ownsRow w1.heap.size e size v n xs)
    (B : Nat) (A : Option Addr) (m c : Nat) (news : List Value) (hx : a.eval x = .slice A m c) (hl : news.length = m * size) (hm : n + m ≤ 500000000) (hr : At w B A news) (h1 : ∀ u ∈ news, u.oneCell' = true) (hw : Below w1.heap.size w1 w)
    (h : ∀ A' c' w', w'.ownsRow w1.heap.size e size (.slice A' (n + m) c') (n + m) (xs ++ news) → n + m ≤ c' → Below w1.heap.size w1 w' → w.grownBy w' v.ownBlock → wpList P ops Q rest (a.put o.dst (.slice A' (n + m) c')) w') :
    wpList P ops Q (o :: rest) a w :=
  wpList_plain hgd fun K hK => wp_appv w1 s x t ho e ht z size bytes hinfo hzs hsz hby v n xs hs hown B A m c news hx hl hm hr h1 hw fun A' c' w' h1 h2 h3 h4 => hK _ _ (h A' c' w' h1 h2 h3 h4)
theorem step_appv {E : Prop} (w1 : World) (hgd : o.guard = none) (s x : Operand) (t : TypeId)
    (ho : o.op = .call { callee := .builtin .append, args := #[s, x], argTypes := #[t, t] })
    (e : TypeId) (ht : P.underlying t = some (.slice e)) (z : Value) (size bytes : Nat) (hinfo : (P.info? e).map (fun i => (i.zero, i.size, i.bytes)) = some (some z, size, bytes)) (hzs : z.cells.size = size) (hsz : 0 < size) (hby : bytes ≤ 256)
    (v : Value) (n : Nat) (xs : List Value) (hs : a.eval s = v) (hown : w.ownsRow w1.heap.size e size v n xs)
    (B : Nat) (A : Option Addr) (m c : Nat) (news : List Value) (hx : a.eval x = .slice A m c) (hl : news.length = m * size) (hm : n + m ≤ 500000000) (hr : At w B A news) (h1 : ∀ u ∈ news, u.oneCell' = true) (hw : Below w1.heap.size w1 w)
    (h : ∀ A' c' w', w'.ownsRow w1.heap.size e size (.slice A' (n + m) c') (n + m) (xs ++ news) → n + m ≤ c' → Below w1.heap.size w1 w' → w.grownBy w' v.ownBlock → K (a.put o.dst (.slice A' (n + m) c')) w') :
    if Region.wanted o (yielded ops a.tmps) = true then Oper.wp P o a w K Q else E := by
  rw [if_pos (by simp [Region.wanted, hgd])]
  exact wp_appv w1 s x t ho e ht z size bytes hinfo hzs hsz hby v n xs hs hown B A m c news hx hl hm hr h1 hw h
end
/-- A new block that is known whole reads as its cells. -/
theorem At.new (w : World) (cs : Array Value) (e : TypeId) (l : List Value) (hl : cs.toList = l) : At (w.alloc (.cells cs e)) (w.heap.size + 1) (some ⟨w.heap.size, 0, none⟩) l := by
  subst hl
  refine .inr ⟨_, 0, rfl, by omega, fun j u hu => ?_⟩
  rw [cell_of_row (w.alloc (.cells cs e)) w.heap.size (0 + j) cs e (0, 0) (heap_alloc_new w _)]
  simpa using hu
theorem At.newN (w : World) (cs : Array Value) (e : TypeId) (l : List Value) (N : Nat) (hN : N = w.heap.size) (hl : cs.toList = l) : At (w.alloc (.cells cs e)) (N + 1) (some ⟨N, 0, none⟩) l := by
  subst hN; exact At.new w cs e l hl
theorem At.grown {w w' : World} {B : Nat} {A : Option Addr} {xs : List Value} {r : Option Nat} (h : At w B A xs) (hg : w.grownBy w' r) (hB : B ≤ w.heap.size) (hr : ∀ k, r = some k → B ≤ k) : At w' B A xs := by
  rcases h with h | ⟨b, o, e, hb, hc⟩
  · exact .inl h
  · refine .inr ⟨b, o, e, hb, fun j u hu => ?_⟩
    rw [World.cell?_of_block (w := w) (a := ⟨b, o + j, none⟩) (hg.block b (by omega) (fun e => by have := hr b e.symm; omega))]
    exact hc j u hu
/-- A row of the call's own stays while another one grows. -/
theorem own_grown {w w' : World} {base : Nat} {e : TypeId} {size n : Nat} {v : Value} {xs : List Value} {r : Option Nat} (h : w.ownsRow base e size v n xs) (hg : w.grownBy w' r) (hr : ∀ k, v.ownBlock = some k → some k ≠ r) : w'.ownsRow base e size v n xs :=
  own_keep h fun k hk => hg.block k (own_lt h hk) (hr k hk)
end Go.Proofs.Ytlkijhcgiilmhaa
