/- Slices that are read: what stands at an address; bytes; strings of bytes; append onto a row of the call's own. -/
import Derived.Test.YtlkijhcgiilmhaaL
import Derived.Maps.AppendAt
import Derived.Laws.BytesString
import Derived.Laws.Cells
namespace Go.Proofs.Ytlkijhcgiilmhaa
open Go.RowKit
set_option linter.unusedSimpArgs false
set_option linter.unusedVariables false

/-- At address A (below block B) stand the cells xs. -/
def At (w : World) (B : Nat) (A : Option Addr) (xs : List Value) : Prop :=
  xs = [] ∨ ∃ b o, A = some ⟨b, o, none⟩ ∧ b < B ∧ ∀ j u, xs[j]? = some u → w.cell? ⟨b, o + j, none⟩ = some u

theorem At.nil (w : World) (B : Nat) (A : Option Addr) : At w B A [] := .inl rfl
theorem At.get {w : World} {B : Nat} {A : Option Addr} {xs : List Value} (h : At w B A xs) (hx : 0 < xs.length) :
    ∃ b o, A = some ⟨b, o, none⟩ ∧ b < B ∧ ∀ j u, xs[j]? = some u → w.cell? ⟨b, o + j, none⟩ = some u := by
  rcases h with h | h
  · subst h; simp at hx
  · exact h
theorem At.keep {w w' : World} {B : Nat} {A : Option Addr} {xs : List Value} (h : At w B A xs) (hb : Below B w w') : At w' B A xs := by
  rcases h with h | ⟨b, o, e, hB, hc⟩
  · exact .inl h
  · exact .inr ⟨b, o, e, hB, fun j u hu => (hb.cell (p := ⟨b, o + j, none⟩) hB).trans (hc j u hu)⟩
theorem At.more {w : World} {B B' : Nat} {A : Option Addr} {xs : List Value} (h : At w B A xs) (hB : B ≤ B') : At w B' A xs := by
  rcases h with h | ⟨b, o, e, hb, hc⟩
  · exact .inl h
  · exact .inr ⟨b, o, e, by omega, hc⟩
theorem At.move {w w' : World} {B B' : Nat} {A : Option Addr} {xs : List Value} (h : At w B A xs) (hb : Below B w w') (hB : B ≤ B') : At w' B' A xs := (h.keep hb).more hB
theorem At.take {w : World} {B : Nat} {A : Option Addr} {xs : List Value} (n : Nat) (h : At w B A xs) : At w B A (xs.take n) := by
  rcases h with h | ⟨b, o, e, hb, hc⟩
  · exact .inl (by simp [h])
  · refine .inr ⟨b, o, e, hb, fun j u hu => hc j u ?_⟩
    rw [List.getElem?_take] at hu
    split at hu
    · exact hu
    · cases hu
theorem At.drop {w : World} {B : Nat} {A : Option Addr} {xs : List Value} (n m : Nat) (hm : m = n → xs.drop n = []) (h : At w B A xs) : At w B (if m = n then A else A.map (·.add n)) (xs.drop n) := by
  rcases h with h | ⟨b, o, e, hb, hc⟩
  · exact .inl (by simp [h])
  · by_cases he : m = n
    · exact .inl (hm he)
    · rw [if_neg he, e]
      refine .inr ⟨b, o + n, ?_, hb, fun j u hu => ?_⟩
      · simp only [Option.map_some, Addr.add]
        by_cases h0 : n = 0 <;> simp [h0]
      · rw [List.getElem?_drop] at hu
        have := hc _ _ hu
        rwa [← Nat.add_assoc] at this
theorem At.of_own {w : World} {base : Nat} {e : TypeId} {size n c : Nat} {A : Option Addr} {xs : List Value} (h : w.ownsRow base e size (.slice A n c) n xs) : At w w.heap.size A xs := by
  obtain ⟨h1, h2⟩ := h
  rcases h2 with ⟨hv, rfl⟩ | ⟨g, cap, cur, hv, hg, hh, hc, hm, hcur, ht⟩
  · exact .inl (by simpa using h1)
  · injection hv with hA _ _
    refine .inr ⟨g, 0, hA, ?_, fun j u hu => ?_⟩
    · rcases Nat.lt_or_ge g w.heap.size with hlt | hge
      · exact hlt
      · rw [Array.getElem?_eq_none hge] at hh; cases hh
    · rw [← ht, List.getElem?_take] at hu
      split at hu
      · simp only [World.cell?, hh, Option.isSome_none, Nat.zero_add]
        simpa using hu
      · cases hu
theorem ownsRow_form {w : World} {base : Nat} {e : TypeId} {size n : Nat} {v : Value} {xs : List Value} (h : w.ownsRow base e size v n xs) : ∃ A c, v = .slice A n c ∧ n ≤ c ∧ c ≤ maxLen := by
  obtain ⟨h1, h2⟩ := h
  rcases h2 with ⟨hv, rfl⟩ | ⟨g, cap, cur, hv, hg, hh, hc, hm, hcur, ht⟩
  · exact ⟨none, 0, hv, Nat.le_refl _, by simp [maxLen]⟩
  · exact ⟨_, cap, hv, hc, hm⟩

@[go_sem] theorem At_drew (w : World) (B : Nat) (A : Option Addr) (xs : List Value) : At w.drew B A xs = At w B A xs := rfl
@[go_sem] theorem At_drewN (w : World) (n B : Nat) (A : Option Addr) (xs : List Value) : At (w.drewN n) B A xs = At w B A xs := rfl
theorem At_eq {w w' : World} {B : Nat} {A : Option Addr} {xs : List Value} (h : ∀ k, k < B → w'.heap[k]? = w.heap[k]?) : At w' B A xs = At w B A xs := by
  apply propext
  unfold At
  constructor
  · rintro (h1 | ⟨b, o, e, hB, hc⟩)
    · exact .inl h1
    · exact .inr ⟨b, o, e, hB, fun j u hu => (World.cell?_of_block (w := w) (w' := w') (h b hB)).symm.trans (hc j u hu)⟩
  · rintro (h1 | ⟨b, o, e, hB, hc⟩)
    · exact .inl h1
    · exact .inr ⟨b, o, e, hB, fun j u hu => (World.cell?_of_block (w := w) (w' := w') (h b hB)).trans (hc j u hu)⟩
@[go_sem] theorem At_ext (w : World) (xs : List Obj) (d B : Nat) (A : Option Addr) (l : List Value) (hB : B ≤ w.heap.size) : At (ext w xs d) B A l = At w B A l :=
  At_eq fun k hk => ext_block w xs d k (by omega)
@[go_sem] theorem At_alloc (w : World) (o : Obj) (B : Nat) (A : Option Addr) (l : List Value) (hB : B ≤ w.heap.size) : At (w.alloc o) B A l = At w B A l :=
  At_eq fun k hk => Below.heap_alloc w o k (by omega)
@[go_sem] theorem At_setCell (w : World) (p : Addr) (v : Value) (B : Nat) (A : Option Addr) (l : List Value) (hB : B ≤ p.block) : At (w.setCell p v) B A l = At w B A l :=
  At_eq fun k hk => Below.heap_setCell w p v k (by omega)

/-- A byte as a cell. -/
def bv (x : UInt8) : Value := .int .u8 (x.toNat : Int)
theorem bv_one (x : UInt8) : (bv x).oneCell' = true := rfl
theorem bv_get {l : List UInt8} {i : Nat} (h : i < l.length) : (l.map bv)[i]? = some (.int .u8 ((l[i]).toNat : Int)) := by
  rw [List.getElem?_map, List.getElem?_eq_getElem h]; rfl

theorem foldl_push (l : List UInt8) : ∀ s : ByteArray, (l.map fun x => (x.toNat : Int)).foldl (fun (r : ByteArray) n => r.push (UInt8.ofNat n.toNat)) s = ⟨(s.data.toList ++ l).toArray⟩ := by
  induction l with
  | nil => intro s; simp
  | cons x l ih =>
    intro s
    simp only [List.map_cons, List.foldl_cons]
    rw [ih]
    simp

/-- string(b), whatever b is: nil, empty or not. -/
theorem run_str {P : Program} {w : World} {src dst e : TypeId} (hs : P.underlying src = some (.slice e)) (he : P.underlying e = some (.int .u8)) (hd : P.underlying dst = some .string)
    {B : Nat} {A : Option Addr} {c : Nat} {l : List UInt8} {n : Nat} (hn : n = l.length) (h : At w B A (l.map bv)) : (convert src dst (.slice A n c)).run P w = .ok (.string ⟨l.toArray⟩) w := by
  subst hn
  rw [run_convert_bytes_string w src dst e A l.length c hs he hd]
  rcases h with h | ⟨b, o, rfl, hB, hc⟩
  · have hl : l = [] := by simpa using h
    subst hl
    cases A with
    | none => simp [Conv.bytesToString, Sem.run_pure]; rfl
    | some a =>
      have hq := run_loadCells_list (P := P) w a [] (by intro j v h; simp at h)
      exact (run_bytesToString (P := P) w a 0 c [] (by simpa using hq))
  · have hl : (l.map fun x => (x.toNat : Int)).map (Value.int .u8) = l.map bv := by simp [bv, Function.comp_def]
    rw [run_bytesToString w _ l.length c (l.map fun x => (x.toNat : Int)) (by
      rw [hl]
      have := run_loadCells_list (P := P) w ⟨b, o, none⟩ (l.map bv) (fun j v hv => by
        have := hc j v hv
        simp only [Addr.add]
        by_cases h0 : j = 0
        · subst h0; simpa using this
        · simpa [h0] using this)
      simpa using this)]
    rw [foldl_push]
    simp

/-- append(v, x...) onto a row of the call's own: x is read; the world goes on from w0, below which nothing turns. -/
theorem wp_app {P : Program} {o : Oper} {a : Act} {K : Act → World → Prop} {Q : Exit → Act → World → Prop} {w : World} (w0 : World) (s x : Operand) (t : TypeId)
    (ho : o.op = .call { callee := .builtin .append, args := #[s, x], argTypes := #[t, t] })
    (base : Nat) (e : TypeId) (i : TypeInfo) (z : Value) (size bytes : Nat) (ht : P.underlying t = some (.slice e)) (hi : P.info? e = some i) (hz : i.zero = some z)
    (hsize : i.size = size) (hby : i.bytes = bytes) (hzs : z.cells.size = size) (hsz : 0 < size)
    (v : Value) (n : Nat) (xs : List Value) (hs : a.eval s = v) (hown : w.ownsRow base e size v n xs)
    (B : Nat) (A : Option Addr) (m c : Nat) (news : List Value) (hx : a.eval x = .slice A m c) (hl : news.length = m * size) (hr : At w B A news) (h1 : ∀ u ∈ news, u.oneCell' = true)
    (h63 : n + m ≤ maxLen) (hbytes : (n + m) * bytes ≤ 140737488355328) (hw : Below w0.heap.size w0 w) (hb0 : w0.heap.size ≤ base) (hbase : base ≤ w.heap.size)
    (h : ∀ v' ys d, (ext w0 ys d).ownsRow base e size v' (n + m) (xs ++ news) → (∀ k, k < w.heap.size → some k ≠ v.ownBlock → (ext w0 ys d).heap[k]? = w.heap[k]?) → w.heap.size ≤ (ext w0 ys d).heap.size →
      (v'.ownBlock = v.ownBlock ∨ v'.ownBlock = some w.heap.size) → K (a.put o.dst v') (ext w0 ys d)) : o.wp P a w K Q := by
  have own_le : ∀ g, v.ownBlock = some g → base ≤ g := by
    intro g hg
    rcases hown.2 with ⟨rfl, _⟩ | ⟨g', cap, cur, rfl, hge, _⟩
    · cases hg
    · simp only [Value.ownBlock, Option.some.injEq] at hg; omega
  have hmain : ∃ v' w', (Builtin.append_ #[t, t] o.type #[v, .slice A m c]).run P w = .ok v' w' ∧ w'.ownsRow base e size v' (n + m) (xs ++ news) ∧ w.grownBy w' v.ownBlock ∧ (v'.ownBlock = v.ownBlock ∨ v'.ownBlock = some w.heap.size) := by
    have key : ∀ ad : Addr, A = some ad → (∀ j u, news[j]? = some u → w.cell? (ad.add j) = some u) →
        ∃ v' w', (Builtin.append_ #[t, t] o.type #[v, .slice A m c]).run P w = .ok v' w' ∧ w'.ownsRow base e size v' (n + m) (xs ++ news) ∧ w.grownBy w' v.ownBlock ∧ (v'.ownBlock = v.ownBlock ∨ v'.ownBlock = some w.heap.size) := fun ad hA hc => by
      obtain ⟨v', w', h2, h3, h4, _, h5⟩ := run_append_own_at (P := P) w base t o.type e i z size bytes ht hi hz hsize hby hzs hsz v n xs hown ad m c news hl hc h1 h63 hbytes hbase
      exact ⟨v', w', by rw [hA]; exact h2, h3, h4, h5⟩
    rcases hr with hnil | ⟨b, off, hA, hB, hc⟩
    · cases A with
      | some ad => exact key ad rfl (fun j u hu => by rw [hnil] at hu; simp at hu)
      | none =>
        subst hnil
        have hm : m = 0 := by
          rcases Nat.eq_zero_or_pos m with h0 | h0
          · exact h0
          · have := Nat.mul_pos h0 hsz
            simp at hl
            omega
        subst hm
        refine ⟨v, w, ?_, by simpa using hown, World.grownBy.refl w _, .inl rfl⟩
        rcases hown.2 with ⟨rfl, rfl⟩ | ⟨g, cap, cur, rfl, _, _, hnc, _⟩
        · simp [Builtin.append_, run_underlying ht, sizeOf, typeInfo, hi, Builtin.lenOf, Builtin.firstCells]
        · simp [Builtin.append_, run_underlying ht, sizeOf, typeInfo, hi, Builtin.lenOf, Builtin.firstCells, hnc, storeCells]
    · refine key _ hA (fun j u hu => ?_)
      have := hc j u hu
      simp only [Addr.add]
      by_cases h0 : j = 0
      · subst h0; simpa using this
      · simpa [h0] using this
  obtain ⟨v', w', hrun, h2, h3, h4⟩ := hmain
  have hbel : Below w0.heap.size w0 w' := hw.grown h3 hw.size (fun k hk => by have := own_le k hk; omega)
  obtain ⟨ys, d, rfl⟩ := ext_of hbel
  unfold Oper.wp execOp
  simp only [ho, resolve, invoke, builtin, Sem.run_bind, Sem.run_pure, Result.andThen_ok, List.map_toArray, List.map_cons, List.map_nil, hs, hx, hrun]
  exact h v' ys d h2 (fun k hk hne => h3.block k hk hne) h3.size h4

theorem own_empty (w : World) (base : Nat) (e : TypeId) (size : Nat) (hb : base ≤ w.heap.size) : (w.alloc (.cells #[] e)).ownsRow base e size (.slice (some ⟨w.heap.size, 0, none⟩) 0 0) 0 [] :=
  ⟨by simp, .inr ⟨w.heap.size, 0, #[], rfl, hb, heap_alloc_new w _, Nat.le_refl _, Nat.zero_le _, by simp, by simp⟩⟩
theorem own_nil (w : World) (base : Nat) (e : TypeId) (size : Nat) : w.ownsRow base e size (.slice none 0 0) 0 [] := ⟨by simp, .inl ⟨rfl, rfl⟩⟩
theorem own_keep {w w' : World} {base : Nat} {e : TypeId} {size n : Nat} {v : Value} {xs : List Value} (h : w.ownsRow base e size v n xs) (hb : ∀ k, v.ownBlock = some k → w'.heap[k]? = w.heap[k]?) : w'.ownsRow base e size v n xs := by
  obtain ⟨h1, h2⟩ := h
  refine ⟨h1, ?_⟩
  rcases h2 with h2 | ⟨g, cap, cur, rfl, hg, hh, r⟩
  · exact .inl h2
  · exact .inr ⟨g, cap, cur, rfl, hg, by rw [hb g rfl]; exact hh, r⟩
theorem own_lt {w : World} {base : Nat} {e : TypeId} {size n : Nat} {v : Value} {xs : List Value} (h : w.ownsRow base e size v n xs) {k : Nat} (hk : v.ownBlock = some k) : k < w.heap.size := by
  rcases h.2 with ⟨rfl, _⟩ | ⟨g, cap, cur, rfl, hg, hh, _⟩
  · cases hk
  · simp only [Value.ownBlock, Option.some.injEq] at hk
    subst hk
    rcases Nat.lt_or_ge g w.heap.size with hlt | hge
    · exact hlt
    · rw [Array.getElem?_eq_none hge] at hh; cases hh
theorem own_le {w : World} {base : Nat} {e : TypeId} {size n : Nat} {v : Value} {xs : List Value} (h : w.ownsRow base e size v n xs) {k : Nat} (hk : v.ownBlock = some k) : base ≤ k := by
  rcases h.2 with ⟨rfl, _⟩ | ⟨g, cap, cur, rfl, hg, _⟩
  · cases hk
  · simp only [Value.ownBlock, Option.some.injEq] at hk; omega
theorem own_base {w : World} {base base' : Nat} {e : TypeId} {size n : Nat} {v : Value} {xs : List Value} (h : w.ownsRow base e size v n xs) (hb : base' ≤ base) : w.ownsRow base' e size v n xs := by
  obtain ⟨h1, h2⟩ := h
  refine ⟨h1, ?_⟩
  rcases h2 with h2 | ⟨g, cap, cur, hv, hg, r⟩
  · exact .inl h2
  · exact .inr ⟨g, cap, cur, hv, by omega, r⟩
/-- What the call owns stays owned as the world goes on. -/
theorem own_below {w w' : World} {base : Nat} {e : TypeId} {size n : Nat} {v : Value} {xs : List Value} (h : w.ownsRow base e size v n xs) (hb : Below w.heap.size w w') : w'.ownsRow base e size v n xs :=
  own_keep h fun k hk => hb.block k (own_lt h hk)

theorem ext_high (w w' : World) (xs : List Obj) (d d' k : Nat) (hs : w.heap.size = w'.heap.size) (hk : w.heap.size ≤ k) : (ext w' xs d').heap[k]? = (ext w xs d).heap[k]? := by
  simp only [ext, Array.getElem?_append]
  rw [if_neg (by omega), if_neg (by omega), hs]
/-- What lies in the new blocks doesn't hang on what the old ones hold. -/
theorem own_swap {w w' : World} {xs : List Obj} {d d' : Nat} {base : Nat} {e : TypeId} {size n : Nat} {v : Value} {l : List Value} (h : (ext w xs d).ownsRow base e size v n l) (hs : w.heap.size = w'.heap.size) (hb : w.heap.size ≤ base) :
    (ext w' xs d').ownsRow base e size v n l :=
  own_keep h fun k hk => ext_high w w' xs d d' k hs (by have := own_le h hk; omega)

/-- A block that is known whole, as a row of the call's own. -/
theorem own_lit {w : World} {base g : Nat} {e : TypeId} {size n : Nat} {cs : Array Value} {xs : List Value} (h : w.heap[g]? = some (.cells cs e (0, 0))) (hb : base ≤ g) (hn : n ≤ maxLen) (hs : cs.size = n * size) (hx : cs.toList = xs) :
    w.ownsRow base e size (.slice (some ⟨g, 0, none⟩) n n) n xs := by
  subst hx
  refine ⟨by simpa using hs, .inr ⟨g, n, cs, rfl, hb, h, Nat.le_refl _, hn, hs, ?_⟩⟩
  rw [List.take_of_length_le (by simp; omega)]

section
variable {P : Program} {ops : Array Oper} {rest : List Oper} {o : Oper} {a : Act} {K : Act → World → Prop} {Q : Exit → Act → World → Prop} {w : World}
/-- append(v, x...) of bytes, v a row of the call's own. -/
theorem wp_appb (w1 : World) (s x : Operand) (t : TypeId)
    (ho : o.op = .call { callee := .builtin .append, args := #[s, x], argTypes := #[t, t] })
    (e : TypeId) (ht : P.underlying t = some (.slice e)) (hinfo : (P.info? e).map (fun i => (i.zero, i.size, i.bytes)) = some (some (.int .u8 0), 1, 1))
    (v : Value) (n : Nat) (xs : List UInt8) (hs : a.eval s = v) (hown : w.ownsRow w1.heap.size e 1 v n (xs.map bv))
    (B : Nat) (A : Option Addr) (m c : Nat) (l : List UInt8) (hx : a.eval x = .slice A m c) (hl : m = l.length) (hm : n + m ≤ 2000000000) (hr : At w B A (l.map bv)) (hw : Below w1.heap.size w1 w)
    (h : ∀ v' ys d, (ext w1 ys d).ownsRow w1.heap.size e 1 v' (n + m) ((xs ++ l).map bv) → (∀ k, k < w.heap.size → some k ≠ v.ownBlock → (ext w1 ys d).heap[k]? = w.heap[k]?) → w.heap.size ≤ (ext w1 ys d).heap.size → K (a.put o.dst v') (ext w1 ys d)) :
    o.wp P a w K Q := by
  obtain ⟨i0, hi, hz0, hz1, hz2⟩ := info_parts hinfo
  refine wp_app w1 s x t ho w1.heap.size e i0 (.int .u8 0) 1 1 ht hi hz0 hz1 hz2 rfl (by decide) v n (xs.map bv) hs hown B A m c (l.map bv) hx (by simp [hl]) hr ?_ (by unfold maxLen; omega) (by omega)
    hw (Nat.le_refl _) hw.size ?_
  · intro u hu
    obtain ⟨x, _, rfl⟩ := List.mem_map.1 hu
    rfl
  · intro v' ys d hown hk hsz _
    exact h v' ys d (by rw [List.map_append]; exact hown) hk hsz
theorem wpList_appb (w1 : World) (hgd : o.guard = none) (s x : Operand) (t : TypeId)
    (ho : o.op = .call { callee := .builtin .append, args := #[s, x], argTypes := #[t, t] })
    (e : TypeId) (ht : P.underlying t = some (.slice e)) (hinfo : (P.info? e).map (fun i => (i.zero, i.size, i.bytes)) = some (some (.int .u8 0), 1, 1))
    (v : Value) (n : Nat) (xs : List UInt8) (hs : a.eval s = v) (hown : w.ownsRow w1.heap.size e 1 v n (xs.map bv))
    (B : Nat) (A : Option Addr) (m c : Nat) (l : List UInt8) (hx : a.eval x = .slice A m c) (hl : m = l.length) (hm : n + m ≤ 2000000000) (hr : At w B A (l.map bv)) (hw : Below w1.heap.size w1 w)
    (h : ∀ v' ys d, (ext w1 ys d).ownsRow w1.heap.size e 1 v' (n + m) ((xs ++ l).map bv) → (∀ k, k < w.heap.size → some k ≠ v.ownBlock → (ext w1 ys d).heap[k]? = w.heap[k]?) → w.heap.size ≤ (ext w1 ys d).heap.size → wpList P ops Q rest (a.put o.dst v') (ext w1 ys d)) :
    wpList P ops Q (o :: rest) a w :=
  wpList_plain hgd fun K hK => wp_appb w1 s x t ho e ht hinfo v n xs hs hown B A m c l hx hl hm hr hw fun v' ys d h1 h2 h3 => hK _ _ (h v' ys d h1 h2 h3)
theorem step_appb {E : Prop} (w1 : World) (hgd : o.guard = none) (s x : Operand) (t : TypeId)
    (ho : o.op = .call { callee := .builtin .append, args := #[s, x], argTypes := #[t, t] })
    (e : TypeId) (ht : P.underlying t = some (.slice e)) (hinfo : (P.info? e).map (fun i => (i.zero, i.size, i.bytes)) = some (some (.int .u8 0), 1, 1))
    (v : Value) (n : Nat) (xs : List UInt8) (hs : a.eval s = v) (hown : w.ownsRow w1.heap.size e 1 v n (xs.map bv))
    (B : Nat) (A : Option Addr) (m c : Nat) (l : List UInt8) (hx : a.eval x = .slice A m c) (hl : m = l.length) (hm : n + m ≤ 2000000000) (hr : At w B A (l.map bv)) (hw : Below w1.heap.size w1 w)
    (h : ∀ v' ys d, (ext w1 ys d).ownsRow w1.heap.size e 1 v' (n + m) ((xs ++ l).map bv) → (∀ k, k < w.heap.size → some k ≠ v.ownBlock → (ext w1 ys d).heap[k]? = w.heap[k]?) → w.heap.size ≤ (ext w1 ys d).heap.size → K (a.put o.dst v') (ext w1 ys d)) :
    if Region.wanted o (yielded ops a.tmps) = true then Oper.wp P o a w K Q else E := by
  rw [if_pos (by simp [Region.wanted, hgd])]
  exact wp_appb w1 s x t ho e ht hinfo v n xs hs hown B A m c l hx hl hm hr hw h
end
/-- 'append([]byte{}, x...)': a row of the call's own with x's bytes; the world goes on from w1. -/
theorem wpList_dupb {P : Program} {ops : Array Oper} {rest : List Oper} {o : Oper} {a : Act} {Q : Exit → Act → World → Prop} (w1 : World) (hgd : o.guard = none) (s x : Operand) (t : TypeId)
    (ho : o.op = .call { callee := .builtin .append, args := #[s, x], argTypes := #[t, t] })
    (e : TypeId) (ht : P.underlying t = some (.slice e)) (hinfo : (P.info? e).map (fun i => (i.zero, i.size, i.bytes)) = some (some (.int .u8 0), 1, 1))
    (N : Nat) (hN : N = w1.heap.size) (hs : a.eval s = .slice (some ⟨N, 0, none⟩) 0 0) (B : Nat) (A : Option Addr) (m c : Nat) (l : List UInt8) (hx : a.eval x = .slice A m c) (hl : m = l.length) (hm : m ≤ 1000000000) (hr : At w1 B A (l.map bv)) (hB : B ≤ w1.heap.size)
    (h : ∀ v' ys d, (ext w1 ys d).ownsRow w1.heap.size e 1 v' m (l.map bv) → wpList P ops Q rest (a.put o.dst v') (ext w1 ys d)) :
    wpList P ops Q (o :: rest) a (w1.alloc (.cells #[] e)) := by
  subst hN
  refine wpList_appb w1 hgd s x t ho e ht hinfo _ 0 [] hs (own_empty w1 _ e 1 (Nat.le_refl _)) B A m c l hx hl (by omega) ?_ ((Below.refl _ _).alloc (Nat.le_refl _) _) ?_
  · rw [At_alloc _ _ _ _ _ hB]; exact hr
  · intro v' ys d hown _ _
    exact h v' ys d (by simpa using hown)
end Go.Proofs.Ytlkijhcgiilmhaa
