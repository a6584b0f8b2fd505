/- append, told in full: what was appended to still reads as it did. -/
import Derived.Test.YtlkijhcgiilmhaaS
namespace Go.Proofs.Ytlkijhcgiilmhaa
open Go.RowKit
set_option linter.unusedSimpArgs false
set_option linter.unusedVariables false
theorem own_at {w : World} {base : Nat} {e : TypeId} {size n : Nat} {v : Value} {xs : List Value} (h : w.ownsRow base e size v n xs) {g : Nat} (hg : v.ownBlock = some g) :
    ∃ cap cur, v = .slice (some ⟨g, 0, none⟩) n cap ∧ w.heap[g]? = some (.cells cur e (0, 0)) ∧ cur.toList.take (n * size) = xs := by
  rcases h.2 with ⟨rfl, _⟩ | ⟨g', cap, cur, rfl, _, hh, _, _, _, ht⟩
  · cases hg
  · simp only [Value.ownBlock, Option.some.injEq] at hg
    subst hg
    exact ⟨cap, cur, rfl, hh, ht⟩
theorem run_app {P : Program} {w : World} (base : Nat) (t ty e : TypeId) (i : TypeInfo) (z : Value) (size bytes : Nat) (ht : P.underlying t = some (.slice e)) (hi : P.info? e = some i) (hz : i.zero = some z)
    (hsize : i.size = size) (hby : i.bytes = bytes) (hzs : z.cells.size = size) (hsz : 0 < size)
    (v : Value) (n : Nat) (xs : List Value) (hown : w.ownsRow base e size v n xs)
    (B : Nat) (A : Option Addr) (m c : Nat) (news : List Value) (hl : news.length = m * size) (hr : At w B A news) (h1 : ∀ u ∈ news, u.oneCell' = true)
    (h63 : n + m ≤ maxLen) (hbytes : (n + m) * bytes ≤ 140737488355328) (hbase : base ≤ w.heap.size) :
    ∃ v' w', (Builtin.append_ #[t, t] ty #[v, .slice A m c]).run P w = .ok v' w' ∧ w'.ownsRow base e size v' (n + m) (xs ++ news) ∧ w.grownBy w' v.ownBlock ∧
      (v'.ownBlock = v.ownBlock ∨ (v'.ownBlock = some w.heap.size ∧ ∀ k, k < w.heap.size → w'.heap[k]? = w.heap[k]?)) := by
  have key : ∀ ad : Addr, A = some ad → (∀ j u, news[j]? = some u → w.cell? (ad.add j) = some u) →
      ∃ v' w', (Builtin.append_ #[t, t] ty #[v, .slice A m c]).run P w = .ok v' w' ∧ w'.ownsRow base e size v' (n + m) (xs ++ news) ∧ w.grownBy w' v.ownBlock ∧
        (v'.ownBlock = v.ownBlock ∨ (v'.ownBlock = some w.heap.size ∧ ∀ k, k < w.heap.size → w'.heap[k]? = w.heap[k]?)) := fun ad hA hc => by
    subst hA
    obtain ⟨v', w', h2, h3, h4, _, h5⟩ := run_append_own_at (P := P) w base t ty e i z size bytes ht hi hz hsize hby hzs hsz v n xs hown ad m c news hl hc h1 h63 hbytes hbase
    refine ⟨v', w', h2, h3, h4, ?_⟩
    rcases h5 with h5 | h5
    · exact .inl h5
    · cases hb : v.ownBlock with
      | none => exact .inr ⟨h5, fun k hk => h4.block k hk (by rw [hb]; simp)⟩
      | some g =>
        obtain ⟨cap, cur, rfl, hh, htk⟩ := own_at hown hb
        subst hsize hby
        rcases hown.2 with ⟨hv, _⟩ | ⟨g', cap', cur', hv, hbg, hg, hnc, hcm, hcs, htake⟩
        · cases hv
        · cases hv
          by_cases hroom : n + m ≤ cap
          · have hfit : n * i.size + news.length ≤ cur'.size := by rw [hl, hcs, ← Nat.add_mul]; exact Nat.mul_le_mul_right _ hroom
            have hrr := run_append_room (P := P) w t ty e i ht hi g n cap cur' hg ad m c news hl hc h1 hroom hfit
            rw [hrr] at h2
            injection h2 with e1 e2
            subst e1
            simp only [Value.ownBlock, Option.some.injEq] at h5
            have hlt : g < w.heap.size := own_lt hown hb
            omega
          · have holds : ∀ j u, xs[j]? = some u → w.cell? ((⟨g, 0, none⟩ : Addr).add j) = some u := hown.cells (g := g) rfl
            have hrr := run_append_grow (P := P) w t ty e i z ht hi hz ⟨g, 0, none⟩ n cap xs hown.1 holds ad m c news hl hc (by omega) (by simp only [maxLen] at h63; omega) (growslice_fits (by omega) hbytes)
            rw [hrr] at h2
            injection h2 with e1 e2
            subst e2
            exact .inr ⟨h5, fun k hk => Below.heap_alloc w.drew _ k hk⟩
  rcases hr with hnil | ⟨b, off, hA, hB, hc⟩
  · cases A with
    | some ad => exact key ad rfl (fun j u hu => by rw [hnil] at hu; simp at hu)
    | none =>
      subst hnil
      have hm : m = 0 := by
        rcases Nat.eq_zero_or_pos m with h0 | h0
        · exact h0
        · have := Nat.mul_pos h0 hsz
          simp at hl
          omega
      subst hm
      refine ⟨v, w, ?_, by simpa using hown, World.grownBy.refl w _, .inl rfl⟩
      rcases hown.2 with ⟨rfl, rfl⟩ | ⟨g, cap, cur, rfl, _, _, hnc, _⟩
      · simp [Builtin.append_, run_underlying ht, sizeOf, typeInfo, hi, Builtin.lenOf, Builtin.firstCells]
      · simp [Builtin.append_, run_underlying ht, sizeOf, typeInfo, hi, Builtin.lenOf, Builtin.firstCells, hnc, storeCells]
  · refine key _ hA (fun j u hu => ?_)
    have := hc j u hu
    simp only [Addr.add]
    by_cases h0 : j = 0
    · subst h0; simpa using this
    · simpa [h0] using this
/-- Behind an append the shorter slice reads as it did. -/
theorem at_behind {w w' : World} {base e size n m : Nat} {v v' : Value} {xs news : List Value} (h : w.ownsRow base e size v n xs) (h' : w'.ownsRow base e size v' (n + m) (xs ++ news))
    (hs : w.heap.size ≤ w'.heap.size) (hat : v'.ownBlock = v.ownBlock ∨ (v'.ownBlock = some w.heap.size ∧ ∀ k, k < w.heap.size → w'.heap[k]? = w.heap[k]?)) {A : Option Addr} {c : Nat} (hv : v = .slice A n c) : At w' w'.heap.size A xs := by
  have hl := h.1
  cases hb : v.ownBlock with
  | none =>
    rcases h.2 with ⟨rfl, rfl⟩ | ⟨g', cap, cur, rfl, _⟩
    · left; simpa using hl
    · cases hb
  | some g =>
    obtain ⟨cap, cur, hvg, hh, ht⟩ := own_at h hb
    have hglt := own_lt h hb
    rw [hv] at hvg
    injection hvg with hA _ _
    refine .inr ⟨g, 0, hA, by omega, fun j u hu => ?_⟩
    have hj : j < n * size := by
      rcases Nat.lt_or_ge j xs.length with h1 | h1
      · omega
      · rw [List.getElem?_eq_none h1] at hu; cases hu
    rcases hat with hat | ⟨_, hat⟩
    · obtain ⟨cap', cur', _, hh', ht'⟩ := own_at h' (hat.trans hb)
      have hu2 : (xs ++ news)[j]? = some u := by rw [List.getElem?_append_left (by omega)]; exact hu
      have hj2 : j < (n + m) * size := by rw [Nat.add_mul]; omega
      rw [← ht', List.getElem?_take, if_pos hj2] at hu2
      simp only [World.cell?, hh', Option.isSome_none, Nat.zero_add]
      simpa using hu2
    · rw [← ht, List.getElem?_take, if_pos hj] at hu
      simp only [World.cell?, hat g hglt, hh, Option.isSome_none, Nat.zero_add]
      simpa using hu
section
variable {P : Program} {ops : Array Oper} {rest : List Oper} {o : Oper} {a : Act} {K : Act → World → Prop} {Q : Exit → Act → World → Prop} {w : World}
/-- append(v, x...) of bytes, v a row of the call's own; v reads on. -/
theorem wp_appb2 (w1 : World) (s x : Operand) (t : TypeId)
    (ho : o.op = .call { callee := .builtin .append, args := #[s, x], argTypes := #[t, t] })
    (e : TypeId) (ht : P.underlying t = some (.slice e)) (hinfo : (P.info? e).map (fun i => (i.zero, i.size, i.bytes)) = some (some (.int .u8 0), 1, 1))
    (A0 : Option Addr) (c0 : Nat) (n : Nat) (xs : List UInt8) (hs : a.eval s = .slice A0 n c0) (hown : w.ownsRow w1.heap.size e 1 (.slice A0 n c0) n (xs.map bv))
    (B : Nat) (A : Option Addr) (m c : Nat) (l : List UInt8) (hx : a.eval x = .slice A m c) (hl : m = l.length) (hm : n + m ≤ 2000000000) (hr : At w B A (l.map bv)) (hw : Below w1.heap.size w1 w)
    (h : ∀ A' c' ys d, (ext w1 ys d).ownsRow w1.heap.size e 1 (.slice A' (n + m) c') (n + m) ((xs ++ l).map bv) → n + m ≤ c' → At (ext w1 ys d) (ext w1 ys d).heap.size A0 (xs.map bv) → K (a.put o.dst (.slice A' (n + m) c')) (ext w1 ys d)) :
    o.wp P a w K Q := by
  obtain ⟨i0, hi, hz0, hz1, hz2⟩ := info_parts hinfo
  obtain ⟨v', w', hrun, h2, h3, h4⟩ := run_app (P := P) w1.heap.size t o.type e i0 (.int .u8 0) 1 1 ht hi hz0 hz1 hz2 rfl (by decide) _ n (xs.map bv) hown B A m c (l.map bv) (by simp [hl]) hr (by
    intro u hu
    obtain ⟨x, _, rfl⟩ := List.mem_map.1 hu
    rfl) (by unfold maxLen; omega) (by omega) hw.size
  have hbel : Below w1.heap.size w1 w' := hw.grown h3 hw.size (fun k hk => own_le hown hk)
  obtain ⟨ys, d, rfl⟩ := ext_of hbel
  obtain ⟨A', c', rfl, hc', -⟩ := ownsRow_form h2
  unfold Oper.wp execOp
  simp only [ho, resolve, invoke, builtin, Sem.run_bind, Sem.run_pure, Result.andThen_ok, List.map_toArray, List.map_cons, List.map_nil, hs, hx, hrun]
  exact h A' c' ys d (by rw [List.map_append]; exact h2) hc' (at_behind hown h2 h3.size h4 rfl)
theorem wpList_appb2 (w1 : World) (hgd : o.guard = none) (s x : Operand) (t : TypeId)
    (ho : o.op = .call { callee := .builtin .append, args := #[s, x], argTypes := #[t, t] })
    (e : TypeId) (ht : P.underlying t = some (.slice e)) (hinfo : (P.info? e).map (fun i => (i.zero, i.size, i.bytes)) = some (some (.int .u8 0), 1, 1))
    (A0 : Option Addr) (c0 : Nat) (n : Nat) (xs : List UInt8) (hs : a.eval s = .slice A0 n c0) (hown : w.ownsRow w1.heap.size e 1 (.slice A0 n c0) n (xs.map bv))
    (B : Nat) (A : Option Addr) (m c : Nat) (l : List UInt8) (hx : a.eval x = .slice A m c) (hl : m = l.length) (hm : n + m ≤ 2000000000) (hr : At w B A (l.map bv)) (hw : Below w1.heap.size w1 w)
    (h : ∀ A' c' ys d, (ext w1 ys d).ownsRow w1.heap.size e 1 (.slice A' (n + m) c') (n + m) ((xs ++ l).map bv) → n + m ≤ c' → At (ext w1 ys d) (ext w1 ys d).heap.size A0 (xs.map bv) → wpList P ops Q rest (a.put o.dst (.slice A' (n + m) c')) (ext w1 ys d)) :
    wpList P ops Q (o :: rest) a w :=
  wpList_plain hgd fun K hK => wp_appb2 w1 s x t ho e ht hinfo A0 c0 n xs hs hown B A m c l hx hl hm hr hw fun A' c' ys d h1 h2 h3 => hK _ _ (h A' c' ys d h1 h2 h3)
theorem step_appb2 {E : Prop} (w1 : World) (hgd : o.guard = none) (s x : Operand) (t : TypeId)
    (ho : o.op = .call { callee := .builtin .append, args := #[s, x], argTypes := #[t, t] })
    (e : TypeId) (ht : P.underlying t = some (.slice e)) (hinfo : (P.info? e).map (fun i => (i.zero, i.size, i.bytes)) = some (some (.int .u8 0), 1, 1))
    (A0 : Option Addr) (c0 : Nat) (n : Nat) (xs : List UInt8) (hs : a.eval s = .slice A0 n c0) (hown : w.ownsRow w1.heap.size e 1 (.slice A0 n c0) n (xs.map bv))
    (B : Nat) (A : Option Addr) (m c : Nat) (l : List UInt8) (hx : a.eval x = .slice A m c) (hl : m = l.length) (hm : n + m ≤ 2000000000) (hr : At w B A (l.map bv)) (hw : Below w1.heap.size w1 w)
    (h : ∀ A' c' ys d, (ext w1 ys d).ownsRow w1.heap.size e 1 (.slice A' (n + m) c') (n + m) ((xs ++ l).map bv) → n + m ≤ c' → At (ext w1 ys d) (ext w1 ys d).heap.size A0 (xs.map bv) → K (a.put o.dst (.slice A' (n + m) c')) (ext w1 ys d)) :
    if Region.wanted o (yielded ops a.tmps) = true then Oper.wp P o a w K Q else E := by
  rw [if_pos (by simp [Region.wanted, hgd])]
  exact wp_appb2 w1 s x t ho e ht hinfo A0 c0 n xs hs hown B A m c l hx hl hm hr hw h
end
end Go.Proofs.Ytlkijhcgiilmhaa
