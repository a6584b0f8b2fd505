/- What is allowed, in plain words; a map's entry laid and filled. -/
import Derived.Test.YtlholmndckhhgaaM2
import Derived.WideKeyEntry
namespace Go.Proofs.Ytlholmndckhhgaa
open Go.RowKit Go.Maps
set_option linter.unusedSimpArgs false
set_option linter.unusedVariables false
/-- A limiter's state: its bucket, its tick, the buckets of addresses. -/
structure LimS where
  bt : Int
  bk : Int
  tick : Int
  L : Ents
def nowT (tick t : Int) : Int := if inB t tick 1099511627776 = true then t else tick
def kept (e2 m2 : Int) (s : LimS) (t : Int) : Ents := s.L.filter (keepB e2 m2 (nowT s.tick t))
def mine (e2 m2 : Int) (s : LimS) (k : Lit) (t : Int) : Int × Int := (getL (kept e2 m2 s t) k).getD (m2, nowT s.tick t)
def tooMany (e2 m2 : Int) (s : LimS) (k : Lit) (t : Int) : Bool := !hasL (kept e2 m2 s t) k && decide (256 ≤ (kept e2 m2 s t).length)
def allowB (e1 m1 e2 m2 : Int) (s : LimS) (k : Lit) (t : Int) : Bool :=
  !tooMany e2 m2 s k t && (tkOk e1 m1 s.bt s.bk (nowT s.tick t) && tkOk e2 m2 (mine e2 m2 s k t).1 (mine e2 m2 s k t).2 (nowT s.tick t))
def allowS (e1 m1 e2 m2 : Int) (s : LimS) (k : Lit) (t : Int) : LimS :=
  if allowB e1 m1 e2 m2 s k t = true then
    ⟨tkTok e1 m1 s.bt s.bk (nowT s.tick t), tkTick e1 m1 s.bt s.bk (nowT s.tick t), nowT s.tick t, dropL (kept e2 m2 s t) k ++ [(k, (tkTok e2 m2 (mine e2 m2 s k t).1 (mine e2 m2 s k t).2 (nowT s.tick t), tkTick e2 m2 (mine e2 m2 s k t).1 (mine e2 m2 s k t).2 (nowT s.tick t)))]⟩
  else ⟨s.bt, s.bk, nowT s.tick t, kept e2 m2 s t⟩
/-- Only two blocks have turned. -/
structure Two (l bm : Nat) (W W' : World) : Prop where
  os : W'.os = W.os
  tape : W'.tape = W.tape
  output : W'.output = W.output
  size : W.heap.size ≤ W'.heap.size
  block : ∀ k, k < W.heap.size → k ≠ l → k ≠ bm → W'.heap[k]? = W.heap[k]?
theorem Two.refl (l bm : Nat) (W : World) : Two l bm W W := ⟨rfl, rfl, rfl, Nat.le_refl _, fun _ _ _ _ => rfl⟩
theorem Two.trans {l bm : Nat} {A B C : World} (h : Two l bm A B) (k : Two l bm B C) : Two l bm A C :=
  ⟨k.os.trans h.os, k.tape.trans h.tape, k.output.trans h.output, Nat.le_trans h.size k.size, fun i hi h1 h2 => (k.block i (Nat.lt_of_lt_of_le hi h.size) h1 h2).trans (h.block i hi h1 h2)⟩
theorem Two.of_below {l bm : Nat} {A B : World} (h : Below A.heap.size A B) : Two l bm A B := ⟨h.os, h.tape, h.output, h.size, fun k hk _ _ => h.block k hk⟩
theorem Two.of_grown {l bm : Nat} {A B : World} (h : A.grownBy B (some bm)) : Two l bm A B := ⟨h.os, h.tape, h.output, h.size, fun k hk _ h2 => h.block k hk (by simpa using h2)⟩
theorem Two.store {l bm j : Nat} {A B : World} (h : Two l bm A B) (v : Value) : Two l bm A (B.setCell ⟨l, j, none⟩ v) :=
  ⟨h.os, h.tape, h.output, by simpa using h.size, fun k hk h1 h2 => (Below.heap_setCell B ⟨l, j, none⟩ v k h1).trans (h.block k hk h1 h2)⟩
theorem Two.below {l bm B : Nat} {W W' : World} (h : Two l bm W W') (hB : B ≤ W.heap.size) (h1 : B ≤ l) (h2 : B ≤ bm) : Below B W W' :=
  ⟨h.os, h.tape, h.output, h.size, fun k hk => h.block k (by omega) (by omega) (by omega)⟩
theorem MapAt.kept {W W' : World} {bm : Nat} {L : Ents} (h : MapAt W bm L) (hb : W'.heap[bm]? = W.heap[bm]?) : MapAt W' bm L := by
  obtain ⟨D, hr, es, clock, h1, h2, h3, h4⟩ := h
  exact ⟨D, hr, es, clock, hb.trans h1, h2, h3, h4⟩
theorem MapAt.lt {W : World} {bm : Nat} {L : Ents} (h : MapAt W bm L) : bm < W.heap.size := by
  obtain ⟨D, hr, h⟩ := h
  exact h.lt
theorem LimC.ne' {W : World} {l : Nat} {e1 m1 e2 m2 bt bk : Int} {bm : Option Nat} {tick : Int} {b : Nat} {L : Ents} (h : LimC W l e1 m1 e2 m2 bt bk bm tick) (hm : MapAt W b L) : l ≠ b := by
  obtain ⟨D, hr, h'⟩ := hm
  exact h.ne h'
theorem zero25 (w : World) : (zeroValue 25).run Try.prog w = .ok (.agg #[.int .i64 0, .int .i64 0]) w := by kernel_rfl
theorem look_eq {W : World} {bm : Nat} {L : Ents} (h : MapAt W bm L) {key : Value} {k : Lit} (hk : keyOf Try.prog 45 key = some k) :
    (Instr.lookup 61 (.map (some bm)) key true).run Try.prog W = .ok (.tuple #[.agg #[.int .i64 ((getL L k).getD (0, 0)).1, .int .i64 ((getL L k).getD (0, 0)).2], .bool (hasL L k)]) W := by
  obtain ⟨D, hr, hown⟩ := h
  obtain ⟨v, ps, h1, h2⟩ := hown.look_ok law45 (e := 25) (by kernel_rfl) (zero25 W) (Rb_mk 0 0) hk
  rw [h1, hr.has]
  rw [hr.at (law45.key hk)] at h2
  obtain ⟨c, rfl, h3⟩ := Rb_inv h2
  simp only [Prod.mk.injEq] at h3
  cases hg : getL L k with
  | none =>
    rw [hg] at h3
    obtain rfl := bkt_inj h3.1
    rfl
  | some b =>
    rw [hg] at h3
    obtain rfl := bkt_inj h3.1
    rfl
theorem key45 : WideMaps.KeyLaw Try.prog 45 := deep_law_laid (m := 3) (by kernel_rfl) (by decide) (of_decide_eq_true (by kernel_rfl)) (by kernel_rfl) (by kernel_rfl)
/-- An entry is laid; where it is filled, the map is as it shall be. -/
theorem entry_laid {W : World} {bm : Nat} {L : Ents} (h : MapAt W bm L) (hl : L.length < 1000000) {key : Value} {k : Lit} (hk : keyOf Try.prog 45 key = some k) :
    ∃ (v0 : Value) (st : Nat) (W1 : World), (Instr.mapEntry 61 (.map (some bm)) key).run Try.prog W = .ok (.tuple #[v0, .int .i64 st]) W1 ∧ W.grownBy W1 (some bm) ∧ W1.heap.size = W.heap.size ∧
      ∀ (W2 : World) (a b : Int), W2.heap[bm]? = W1.heap[bm]? → ∃ W3, (Instr.entryStore 61 (.map (some bm)) (.int .i64 st) (.agg #[.int .i64 a, .int .i64 b])).run Try.prog W2 = .ok () W3 ∧ MapAt W3 bm (dropL L k ++ [(k, (a, b))]) ∧ W2.grownBy W3 (some bm) := by
  obtain ⟨D, hr, hown⟩ := h
  have hown' := hown
  obtain ⟨es, clock, hb, F, hs, hD⟩ := hown
  obtain ⟨v0, st, es1, clock1, hrun, -, hfill⟩ := WideElems.entry_then_store (e := 25) key45 (by kernel_rfl) (z := .agg #[.int .i64 0, .int .i64 0]) zero25 hb F hk
  have hset := MapKept.heap_set (o' := .map es1 clock1) hb
  refine ⟨v0, st, _, hrun, ⟨rfl, rfl, rfl, by simp [ChangeMaps.setBlock], fun i _ hi => hset.2 i (fun e1 => hi (by rw [e1]))⟩, by simp [ChangeMaps.setBlock], fun W2 a b hW2 => ?_⟩
  have hb2 : W2.heap[bm]? = some (.map es1 clock1) := hW2.trans hset.1
  obtain ⟨es', clock', h1, h2⟩ := hfill W2 (.agg #[.int .i64 a, .int .i64 b]) hb2
  obtain ⟨w', g1, g2, -⟩ := hown'.store (e := 25) law45 (by kernel_rfl) (by unfold maxLen; omega) hk (Rb_mk a b)
  rw [h2] at g1
  simp only [Result.ok.injEq, true_and] at g1
  subst g1
  obtain ⟨es2, clock2, q1, q2, q3, q4⟩ := g2
  have hset1 := MapKept.heap_set (o' := .map es' clock') hb
  have e : es2 = es' ∧ clock2 = clock' := by
    have := q1.symm.trans hset1.1
    simp only [Option.some.injEq, Obj.map.injEq] at this
    exact this
  obtain ⟨rfl, rfl⟩ := e
  have hset2 := MapKept.heap_set (o' := .map es2 clock2) hb2
  refine ⟨_, h1, MapAt.of (n := L.length + 1) (D := D.put k (bkt (a, b))) ⟨es2, clock2, hset2.1, q2, q3, q4⟩ (hr.put (law45.key hk) (a, b)), ⟨rfl, rfl, rfl, by simp [ChangeMaps.setBlock], fun i _ hi => hset2.2 i (fun e1 => hi (by rw [e1]))⟩⟩
section
variable {P : Program} {ops : Array Oper} {rest : List Oper} {o : Oper} {a : Act} {Q : Exit → Act → World → Prop} {w w' : World}
theorem wpList_mapEntry (hg : o.guard = none) (m x : Operand) (t : TypeId) (hop : o.op = Op.mapEntry t m x) (M X : Value) (hm : a.eval m = M) (hx : a.eval x = X) (v : Value) (hrun : (Instr.mapEntry t M X).run P w = .ok v w')
    (hK : wpList P ops Q rest (a.put o.dst v) w') : wpList P ops Q (o :: rest) a w := by
  refine wpList_plain hg fun K' hK' => ?_
  unfold Oper.wp
  simp [execOp, hop, hm, hx, hrun, Result.andThen]
  exact hK' _ _ hK
theorem wpList_entryStore (hg : o.guard = none) (m s v : Operand) (t : TypeId) (hop : o.op = Op.entryStore t m s v) (M S X : Value) (hm : a.eval m = M) (hs : a.eval s = S) (hx : a.eval v = X) (hrun : (Instr.entryStore t M S X).run P w = .ok () w')
    (hK : wpList P ops Q rest (a.put o.dst undef) w') : wpList P ops Q (o :: rest) a w := by
  refine wpList_plain hg fun K' hK' => ?_
  unfold Oper.wp
  simp [execOp, hop, hm, hs, hx, hrun, Result.andThen]
  exact hK' _ _ hK
end
end Go.Proofs.Ytlholmndckhhgaa
