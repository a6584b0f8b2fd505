/- Arguments opened: settings, automata, packets, rows of things that come. -/
import Derived.Test.YthidhfkbfoejbaaGreatA
import Derived.Test.YthidhfkbfoejbaaGreatN2
import Derived.Lib.SmallJoins
namespace Go.Proofs.YthidhfkbfoejbaaGreat
open Go.ChangeShapes Go.WideShapes Go.ChangeAt Go.RowKit Go.Joins Go.Deep
set_option linter.unusedSimpArgs false
set_option linter.unusedVariables false
set_option linter.ambiguousOpen false
set_option maxRecDepth 100000
open Ne (Rl RulesAt RuleAt wf64)
theorem open_fields {H : Type} {enc : TypeId × Value → H} {P : Program} {w : World} {base : Nat} {spare : Nat → Bool} {held : Bool} {r : Reach} {b0 : Nat} {t : TypeId} {fs : Array Field} {v : Value} {d : DataW H} {p : List MemPlace}
    (hs : P.underlying t = some (.struct fs)) (hone : oneCellFields P fs = true) (hC : P.cellsOf t = fs.size) (hv : Value.okWide P w r b0 t v) (h : DataW.Trod enc P w base spare held t v d p) :
    ∃ (cs : Array Value) (n : Nat), v = .agg cs ∧ cs.size = fs.size ∧ ∀ (j : Nat) (f : Field), fs[j]? = some f → ∃ (u : Value) (y : DataW H × List MemPlace), cs[j]? = some u ∧ DataW.trod enc P w base spare held n f.type [u] = some y := by
  obtain ⟨cs, rfl, hsz⟩ := okWide_struct hs hv
  obtain ⟨fuel, hf⟩ := h
  obtain ⟨ys, n', hn', hy, hlen, hyl, hff⟩ := DataW.trod_struct hs hf
  refine ⟨cs, n', rfl, hsz.trans hC, fun j f hj => ?_⟩
  obtain ⟨ho, hk⟩ := hone_of hone j f hj
  have hjl : j < fs.size := (Array.getElem?_eq_some_iff.1 hj).1
  have h1 := hff j f hj
  rw [ho, hk] at h1
  have hjc : j < cs.toList.length := by simpa using (by omega : j < cs.size)
  have hone' : (cs.toList.drop j).take 1 = [cs[j]'(by omega)] := by
    rw [List.drop_eq_getElem_cons hjc]
    simp
  have h1 : DataW.trod enc P w base spare held n' f.type ((cs.toList.drop j).take 1) = ys[j]? := h1
  rw [hone'] at h1
  have hys : ys[j]? = some (ys[j]'(by omega)) := List.getElem?_eq_getElem (by omega)
  exact ⟨cs[j]'(by omega), _, by simp, h1.trans hys⟩
theorem open_rules_in {H : Type} {enc : TypeId × Value → H} {W : World} {fuel : Nat} {v : Value} {x : DataW H × List MemPlace} (hf : DataW.trod enc Tryz.prog W 0 (fun _ => true) true fuel 22 [v] = some x) :
    ∃ (A : Option Addr) (n c : Nat) (R : List Rl), v = .slice A n c ∧ RulesAt W W.heap.size A R ∧ n = R.length ∧ n ≤ c ∧ (n : Int) ≤ 9223372036854775807 := by
  rcases open_slice_fields Tryz.underlying22 Tryz.underlying101 (by kernel_rfl) (by kernel_rfl) hf with ⟨hcs, -⟩ | ⟨a', len', cap', m, D, Pl, hcs, -, hl, hm, hmm, -, hi⟩
  · simp only [List.cons.injEq, and_true] at hcs
    exact ⟨none, 0, 0, [], hcs, ⟨.inl rfl, fun _ h => by cases h⟩, rfl, Nat.le_refl _, by omega⟩
  · simp only [List.cons.injEq, and_true] at hcs
    subst hcs
    simp only [if_true] at hmm
    subst hmm
    unfold maxLen at hm
    rcases Nat.eq_zero_or_pos len' with h0 | h0
    · subst h0
      exact ⟨_, 0, m, [], rfl, ⟨.inl rfl, fun _ h => by cases h⟩, rfl, Nat.zero_le _, by omega⟩
    · obtain ⟨b, off, spot⟩ := a'
      obtain ⟨ys, n, -, -, -, hf⟩ := hi 0 (by omega)
      obtain ⟨v0, y0, hc0, -, -⟩ := hf 0 _ rfl
      have hspot : spot = none := by simpa [Addr.add] using World.cell?_spot hc0
      subst hspot
      have hlt : b < W.heap.size := by
        have := World.block_lt_of_cell? W _ hc0
        simpa [Addr.add] using this
      have each : ∀ i, i < m → ∃ x : Rl, RuleAt W b off i x ∧ (wf64 x.t ∧ wf64 x.sz ∧ wf64 x.lo ∧ wf64 x.hi ∧ wf64 x.gd) := by
        intro i him
        obtain ⟨ys, n, -, -, -, hf⟩ := hi i him
        obtain ⟨v0, y0, g0, -, t0⟩ := hf 0 _ rfl
        obtain ⟨v1, y1, g1, -, t1⟩ := hf 1 _ rfl
        obtain ⟨v2, y2, g2, -, t2⟩ := hf 2 _ rfl
        obtain ⟨v3, y3, g3, -, t3⟩ := hf 3 _ rfl
        obtain ⟨v4, y4, g4, -, t4⟩ := hf 4 _ rfl
        obtain ⟨v5, y5, g5, -, t5⟩ := hf 5 _ rfl
        obtain ⟨v6, y6, g6, -, t6⟩ := hf 6 _ rfl
        obtain ⟨x0, e0, -, w0⟩ := DataW.trod_int Tryz.underlying3 t0
        obtain ⟨x1, e1, -, w1⟩ := DataW.trod_int Tryz.underlying3 t1
        obtain ⟨x2, e2, -, w2⟩ := DataW.trod_int Tryz.underlying99 t2
        obtain ⟨x3, e3, -, w3⟩ := DataW.trod_int Tryz.underlying3 t3
        obtain ⟨x4, e4, -, w4⟩ := DataW.trod_int Tryz.underlying3 t4
        obtain ⟨x5, e5, -, w5⟩ := DataW.trod_int Tryz.underlying3 t5
        obtain ⟨x6, e6, -⟩ := DataW.trod_bool Tryz.underlying4 t6
        simp only [List.cons.injEq, and_true] at e0 e1 e2 e3 e4 e5 e6
        have wfb : ∀ {x : Int}, (Lit.int .i64 x).wf = true → wf64 x := fun {x} h => by
          have : -9223372036854775808 ≤ x ∧ x ≤ 9223372036854775807 := by simpa [Lit.wf, IntKind.min, IntKind.max, IntKind.signed, IntKind.bits] using h
          exact this
        rw [add_none] at g0 g1 g2 g3 g4 g5 g6
        refine ⟨⟨x0, x1, x2, x3, x4, x5, x6⟩, ⟨?_, ?_, ?_, ?_, ?_, ?_, ?_⟩, wfb w0, wfb w1, wfb w3, wfb w4, wfb w5⟩
        · rw [← e0]; exact g0
        · rw [← e1]; exact g1
        · rw [← e2]; exact g2
        · rw [← e3]; exact g3
        · rw [← e4]; exact g4
        · rw [← e5]; exact g5
        · rw [← e6]; exact g6
      have : Inhabited Rl := ⟨⟨0, 0, 0, 0, 0, 0, false⟩⟩
      obtain ⟨y, hy⟩ := choose_lt each
      refine ⟨some ⟨b, off, none⟩, len', m, (List.range len').map y, rfl, ⟨.inr ⟨b, off, rfl, hlt, fun k hk => ?_⟩, fun r hr => ?_⟩, by simp, hl, by omega⟩
      · simp only [List.getElem_map, List.getElem_range]
        exact (hy k (by simp at hk; omega)).1
      · simp only [List.mem_map, List.mem_range] at hr
        obtain ⟨k, hk, rfl⟩ := hr
        exact (hy k (by omega)).2
theorem open_opts_in {H : Type} {enc : TypeId × Value → H} {W : World} {fuel : Nat} {v : Value} {x : DataW H × List MemPlace} (hf : DataW.trod enc Tryz.prog W 0 (fun _ => true) true fuel 26 [v] = some x) :
    ∃ (A : Option Addr) (n c : Nat) (E : List Ent), v = .slice A n c ∧ OptsAt W W.heap.size A E ∧ n = E.length ∧ n ≤ c ∧ (n : Int) ≤ 9223372036854775807 ∧ ∀ e ∈ E, (e.d.length : Int) ≤ 9223372036854775807 := by
  rcases open_slice_pairs Tryz.underlying26 Tryz.underlying57 (by kernel_rfl) rfl rfl (by kernel_rfl) (by kernel_rfl) hf with ⟨hcs, -⟩ | ⟨a', len', cap', m, n, V0, V1, D0, D1, P0, P1, hcs, -, hl, hm, hmm, -, hi⟩
  · simp only [List.cons.injEq, and_true] at hcs
    exact ⟨none, 0, 0, [], hcs, ⟨At.nil _ _ _, fun _ h => by cases h⟩, rfl, Nat.le_refl _, by omega, fun _ h => by cases h⟩
  · simp only [List.cons.injEq, and_true] at hcs
    subst hcs
    simp only [if_true] at hmm
    subst hmm
    unfold maxLen at hm
    have each : ∀ i, i < m → ∃ e : Ent, V0 i = .int .i64 e.t ∧ V1 i = e.v ∧ At W W.heap.size e.a (e.d.map bv) ∧ e.d.length ≤ e.c ∧ (e.d.length : Int) ≤ 9223372036854775807 := by
      intro i him
      obtain ⟨-, -, g0, g1⟩ := hi i him
      obtain ⟨t, e0, -⟩ := DataW.trod_int Tryz.underlying3 g0
      obtain ⟨A, l1, c, l, hcs, hA, hl1, hc, hb⟩ := open_bytes g1
      simp at e0 hcs
      subst hl1
      exact ⟨⟨t, l, A, c⟩, e0, hcs, hA, hc, hb⟩
    have : Inhabited Ent := ⟨⟨0, [], none, 0⟩⟩
    obtain ⟨y, hy⟩ := choose_lt each
    rcases Nat.eq_zero_or_pos len' with h0 | h0
    · subst h0
      exact ⟨_, 0, m, [], rfl, ⟨At.nil _ _ _, fun _ h => by cases h⟩, rfl, Nat.zero_le _, by omega, fun _ h => by cases h⟩
    · have hc0 := (hi 0 (by omega)).1
      obtain ⟨b, off, spot⟩ := a'
      have hspot : spot = none := by simpa [Addr.add] using World.cell?_spot hc0
      subst hspot
      have hlt : b < W.heap.size := by
        have := World.block_lt_of_cell? W _ hc0
        simpa [Addr.add] using this
      refine ⟨some ⟨b, off, none⟩, len', m, (List.range len').map y, rfl, OptsAt.mk hlt (fun k hk => ?_) (fun e he => ?_), by simp, hl, by omega, fun e he => ?_⟩
      · have hk' : k < m := by simp at hk; omega
        obtain ⟨c0, c1, -, -⟩ := hi k hk'
        obtain ⟨e0, e1, -⟩ := hy k hk'
        rw [add_none] at c0 c1
        simp only [List.getElem_map, List.getElem_range]
        rw [c0, ← Nat.add_assoc] at *
        exact ⟨by rw [e0], by rw [c1, e1]⟩
      · simp only [List.mem_map, List.mem_range] at he
        obtain ⟨k, hk, rfl⟩ := he
        exact ⟨(hy k (by omega)).2.2.1, (hy k (by omega)).2.2.2.1⟩
      · simp only [List.mem_map, List.mem_range] at he
        obtain ⟨k, hk, rfl⟩ := he
        exact (hy k (by omega)).2.2.2.2
theorem arr5 {cs : Array Value} (h : cs.size = 5) {a b c d e : Value} (h0 : cs[0]? = some a) (h1 : cs[1]? = some b) (h2 : cs[2]? = some c) (h3 : cs[3]? = some d) (h4 : cs[4]? = some e) : cs = #[a, b, c, d, e] := by
  obtain ⟨l⟩ := cs
  match l, h with
  | [x0, x1, x2, x3, x4], _ => simp at h0 h1 h2 h3 h4; subst h0 h1 h2 h3 h4; rfl
theorem arr7 {cs : Array Value} (h : cs.size = 7) {a b c d e f g : Value} (h0 : cs[0]? = some a) (h1 : cs[1]? = some b) (h2 : cs[2]? = some c) (h3 : cs[3]? = some d) (h4 : cs[4]? = some e) (h5 : cs[5]? = some f) (h6 : cs[6]? = some g) : cs = #[a, b, c, d, e, f, g] := by
  obtain ⟨l⟩ := cs
  match l, h with
  | [x0, x1, x2, x3, x4, x5, x6], _ => simp at h0 h1 h2 h3 h4 h5 h6; subst h0 h1 h2 h3 h4 h5 h6; rfl
theorem arr3 {cs : Array Value} (h : cs.size = 3) {a b c : Value} (h0 : cs[0]? = some a) (h1 : cs[1]? = some b) (h2 : cs[2]? = some c) : cs = #[a, b, c] := by
  obtain ⟨l⟩ := cs
  match l, h with
  | [x0, x1, x2], _ => simp at h0 h1 h2; subst h0 h1 h2; rfl
theorem open_conf {H : Type} {enc : TypeId × Value → H} {W : World} {base : Nat} {v : Value} {d : DataW H} {p : List MemPlace} (o : Value.okWide Tryz.prog W .any base 24 v) (h : DataW.Trod enc Tryz.prog W 0 (fun _ => true) true 24 v d p) :
    ∃ (A : Option Addr) (n c : Nat) (R : List Rl) (mc mt mf wt : Int), v = .agg #[.slice A n c, .int .i64 mc, .int .i64 mt, .int .i64 mf, .int .i64 wt] ∧ RulesAt W W.heap.size A R ∧ n = R.length ∧ n ≤ c ∧ (n : Int) ≤ 9223372036854775807 := by
  obtain ⟨cs, n, rfl, hs, hf⟩ := open_fields Tryz.underlying24 (by kernel_rfl) (by kernel_rfl) o h
  obtain ⟨v0, y0, g0, t0⟩ := hf 0 _ rfl
  obtain ⟨v1, y1, g1, t1⟩ := hf 1 _ rfl
  obtain ⟨v2, y2, g2, t2⟩ := hf 2 _ rfl
  obtain ⟨v3, y3, g3, t3⟩ := hf 3 _ rfl
  obtain ⟨v4, y4, g4, t4⟩ := hf 4 _ rfl
  obtain ⟨A, n, c, R, rfl, hR, hn, hc, hl⟩ := open_rules_in t0
  obtain ⟨x1, e1, -, w1⟩ := DataW.trod_int Tryz.underlying3 t1
  obtain ⟨x2, e2, -, w2⟩ := DataW.trod_int Tryz.underlying3 t2
  obtain ⟨x3, e3, -, w3⟩ := DataW.trod_int Tryz.underlying3 t3
  obtain ⟨x4, e4, -, w4⟩ := DataW.trod_int Tryz.underlying3 t4
  simp only [List.cons.injEq, and_true] at e1 e2 e3 e4
  subst e1 e2 e3 e4
  exact ⟨A, n, c, R, x1, x2, x3, x4, by rw [arr5 hs g0 g1 g2 g3 g4], hR, hn, hc, hl⟩
theorem open_auto {H : Type} {enc : TypeId × Value → H} {W : World} {base : Nat} {v : Value} {d : DataW H} {p : List MemPlace} (o : Value.okWide Tryz.prog W .any base 28 v) (h : DataW.Trod enc Tryz.prog W 0 (fun _ => true) true 28 v d p) :
    ∃ (st id req : Int) (A : Option Addr) (n c : Nat) (E : List Ent) (cnt tim nak : Int), v = .agg #[.int .i64 st, .int .i64 id, .int .i64 req, .slice A n c, .int .i64 cnt, .int .i64 tim, .int .i64 nak] ∧ OptsAt W W.heap.size A E ∧ n = E.length ∧ n ≤ c ∧ (n : Int) ≤ 9223372036854775807 ∧ ∀ e ∈ E, (e.d.length : Int) ≤ 9223372036854775807 := by
  obtain ⟨cs, n, rfl, hs, hf⟩ := open_fields Tryz.underlying28 (by kernel_rfl) (by kernel_rfl) o h
  obtain ⟨v0, y0, g0, t0⟩ := hf 0 _ rfl
  obtain ⟨v1, y1, g1, t1⟩ := hf 1 _ rfl
  obtain ⟨v2, y2, g2, t2⟩ := hf 2 _ rfl
  obtain ⟨v3, y3, g3, t3⟩ := hf 3 _ rfl
  obtain ⟨v4, y4, g4, t4⟩ := hf 4 _ rfl
  obtain ⟨v5, y5, g5, t5⟩ := hf 5 _ rfl
  obtain ⟨v6, y6, g6, t6⟩ := hf 6 _ rfl
  obtain ⟨x0, e0, -, w0⟩ := DataW.trod_int Tryz.underlying25 t0
  obtain ⟨x1, e1, -, w1⟩ := DataW.trod_int Tryz.underlying3 t1
  obtain ⟨x2, e2, -, w2⟩ := DataW.trod_int Tryz.underlying3 t2
  obtain ⟨A, n, c, E, rfl, hE, hn, hc, hl, hd⟩ := open_opts_in t3
  obtain ⟨x4, e4, -, w4⟩ := DataW.trod_int Tryz.underlying3 t4
  obtain ⟨x5, e5, -, w5⟩ := DataW.trod_int Tryz.underlying3 t5
  obtain ⟨x6, e6, -, w6⟩ := DataW.trod_int Tryz.underlying3 t6
  simp only [List.cons.injEq, and_true] at e0 e1 e2 e4 e5 e6
  subst e0 e1 e2 e4 e5 e6
  exact ⟨x0, x1, x2, A, n, c, E, x4, x5, x6, by rw [arr7 hs g0 g1 g2 g3 g4 g5 g6], hE, hn, hc, hl, hd⟩
theorem open_pk {H : Type} {enc : TypeId × Value → H} {W : World} {base : Nat} {v : Value} {d : DataW H} {p : List MemPlace} (o : Value.okWide Tryz.prog W .any base 32 v) (h : DataW.Trod enc Tryz.prog W 0 (fun _ => true) true 32 v d p) :
    ∃ (a b : Int) (A : Option Addr) (len c : Nat) (l : List UInt8), v = .agg #[.int .i64 a, .int .i64 b, .slice A len c] ∧ At W W.heap.size A (l.map bv) ∧ len = l.length ∧ len ≤ c ∧ (len : Int) ≤ 9223372036854775807 := by
  obtain ⟨cs, n, rfl, hs, hf⟩ := open_fields Tryz.underlying32 (by kernel_rfl) (by kernel_rfl) o h
  obtain ⟨v0, y0, g0, t0⟩ := hf 0 _ rfl
  obtain ⟨v1, y1, g1, t1⟩ := hf 1 _ rfl
  obtain ⟨v2, y2, g2, t2⟩ := hf 2 _ rfl
  obtain ⟨x0, e0, -, w0⟩ := DataW.trod_int Tryz.underlying3 t0
  obtain ⟨x1, e1, -, w1⟩ := DataW.trod_int Tryz.underlying3 t1
  obtain ⟨A, len, c, l, hcs, r⟩ := open_bytes t2
  simp only [List.cons.injEq, and_true] at e0 e1 hcs
  subst e0 e1 hcs
  exact ⟨x0, x1, A, len, c, l, by rw [arr3 hs g0 g1 g2], r⟩
end Go.Proofs.YthidhfkbfoejbaaGreat
