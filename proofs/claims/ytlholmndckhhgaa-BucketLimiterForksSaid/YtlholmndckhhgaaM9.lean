/- Arguments of asks opened. -/
import Derived.Test.YtlholmndckhhgaaM8
import Derived.Deep.Slices
import Derived.Deep.Fields
import Derived.ChangeSame
namespace Go.Proofs.Ytlholmndckhhgaa
open Go.ChangeShapes Go.WideShapes Go.ChangeAt Go.RowKit Go.Joins Go.Deep
set_option linter.unusedSimpArgs false
set_option linter.unusedVariables false
section
variable {H : Type} {enc : TypeId × Value → H} {P : Program} {w : World} {base : Nat} {spare : Nat → Bool} {held : Bool}
theorem open_slice_fields {t e : TypeId} {fs : Array Field} {fuel : Nat} {cs : List Value} {x : DataW H × List MemPlace} (ht : P.underlying t = some (.slice e)) (he : P.underlying e = some (.struct fs))
    (hone : oneCellFields P fs = true) (hC : P.cellsOf e = fs.size) (h : DataW.trod enc P w base spare held fuel t cs = some x) :
    (cs = [.slice none 0 0] ∧ x = (.nil, [])) ∨
    ∃ (a : Addr) (len cap m : Nat) (D : Nat → DataW H) (Pl : Nat → List MemPlace), cs = [.slice (some a) len cap] ∧ base ≤ a.block ∧ len ≤ cap ∧ cap ≤ maxLen ∧ m = (if spare a.block then cap else len) ∧
      x = (.slice ((List.range len).map D) ((List.range (m - len)).map fun j => D (len + j)), MemPlace.row a (m * fs.size) ++ (List.range m).flatMap Pl) ∧
      ∀ i, i < m → ∃ (ys : List (DataW H × List MemPlace)) (n : Nat), D i = .agg (ys.map (·.1)) ∧ Pl i = ys.flatMap (·.2) ∧ ys.length = fs.size ∧
        ∀ (j : Nat) (f : Field), fs[j]? = some f → ∃ (v : Value) (y : DataW H × List MemPlace), w.cell? (a.add (i * fs.size + j)) = some v ∧ ys[j]? = some y ∧ DataW.trod enc P w base spare held n f.type [v] = some y := by
  rcases open_slice ht h with h0 | ⟨a, len, cap, m, n, D, Pl, hcs, hb, hl, hm, hmm, hx, hi⟩
  · exact .inl h0
  · refine .inr ⟨a, len, cap, m, D, Pl, hcs, hb, hl, hm, hmm, by rw [hC] at hx; exact hx, fun i him => ?_⟩
    obtain ⟨cs', hc, ht'⟩ := hi i him
    rw [hC] at hc
    obtain ⟨ys, n', hn', hy, hlen, hyl, hf⟩ := DataW.trod_struct he ht'
    obtain ⟨_, hcl, hat⟩ := World.cells?_some hc
    simp only [Prod.mk.injEq] at hy
    refine ⟨ys, n', hy.1, hy.2, hyl, fun j f hj => ?_⟩
    obtain ⟨ho, hk⟩ := hone_of hone j f hj
    have hjl : j < fs.size := (Array.getElem?_eq_some_iff.1 hj).1
    have hcell := hat j hjl
    have hv : cs'[j]? = some (cs'[j]'(by omega)) := List.getElem?_eq_getElem (by omega)
    have h1 := hf j f hj
    rw [ho, hk] at h1
    have hone' : (cs'.drop j).take 1 = [cs'[j]'(by omega)] := by
      rw [List.drop_eq_getElem_cons (by omega)]
      rfl
    rw [hone'] at h1
    have hys : ys[j]? = some (ys[j]'(by omega)) := List.getElem?_eq_getElem (by omega)
    refine ⟨_, _, ?_, hys, h1.trans hys⟩
    rw [← Go.Deep.add_add, hcell, hv]
end
/-- An address that asks. -/
structure Ask where
  m : Nat
  later : Nat
  raw : Bool
  t : Int
def AskAt (W : World) (b o : Nat) (k : Nat) (x : Ask) : Prop :=
  W.cell? ⟨b, o + k * 4, none⟩ = some (.int .u8 (x.m : Int)) ∧ W.cell? ⟨b, o + k * 4 + 1, none⟩ = some (.int .u8 (x.later : Int)) ∧ W.cell? ⟨b, o + k * 4 + 2, none⟩ = some (.bool x.raw) ∧ W.cell? ⟨b, o + k * 4 + 3, none⟩ = some (.int .i64 x.t) ∧ x.m < 256 ∧ x.later < 256
def AsksAt (W : World) (B : Nat) (A : Option Addr) (L : List Ask) : Prop :=
  L = [] ∨ ∃ b o, A = some ⟨b, o, none⟩ ∧ b < B ∧ ∀ (k : Nat) (hk : k < L.length), AskAt W b o k L[k]
theorem AsksAt.keep {W W' : World} {B : Nat} {A : Option Addr} {L : List Ask} (h : AsksAt W B A L) (hb : Below B W W') : AsksAt W' B A L := by
  rcases h with h | ⟨b, o, rfl, hB, h⟩
  · exact .inl h
  · refine .inr ⟨b, o, rfl, hB, fun k hk => ?_⟩
    obtain ⟨h0, h1, h2, h3, h4⟩ := h k hk
    exact ⟨(hb.cell (p := ⟨b, _, none⟩) hB).trans h0, (hb.cell (p := ⟨b, _, none⟩) hB).trans h1, (hb.cell (p := ⟨b, _, none⟩) hB).trans h2, (hb.cell (p := ⟨b, _, none⟩) hB).trans h3, h4⟩
theorem AsksAt.get {W : World} {B : Nat} {A : Option Addr} {L : List Ask} (h : AsksAt W B A L) {k : Nat} (hk : k < L.length) : ∃ b o, A = some ⟨b, o, none⟩ ∧ b < B ∧ AskAt W b o k L[k] := by
  rcases h with h | ⟨b, o, hA, hB, h⟩
  · subst h; simp at hk
  · exact ⟨b, o, hA, hB, h k hk⟩
theorem add_none (b o k : Nat) : (⟨b, o, none⟩ : Addr).add k = ⟨b, o + k, none⟩ := by
  simp only [Addr.add]
  by_cases h0 : k = 0 <;> simp [h0]
theorem open_asks {H : Type} {enc : TypeId × Value → H} {W : World} {base : Nat} {v : Value} {d : DataW H} {p : List MemPlace} (o : Value.okWide Try.prog W .any base 36 v) (h : DataW.Trod enc Try.prog W 0 (fun _ => true) true 36 v d p) :
    ∃ (A : Option Addr) (n c : Nat) (L : List Ask), v = .slice A n c ∧ AsksAt W W.heap.size A L ∧ n = L.length ∧ n ≤ c ∧ (n : Int) ≤ 9223372036854775807 := by
  obtain ⟨a, len, cap, rfl⟩ := okWide_slice Try.underlying36 o
  obtain ⟨fuel, hf⟩ := h
  rcases open_slice_fields Try.underlying36 Try.underlying42 (by kernel_rfl) (by kernel_rfl) hf with ⟨hcs, -⟩ | ⟨a', len', cap', m, D, Pl, hcs, -, hl, hm, hmm, -, hi⟩
  · simp only [Value.cells, List.cons.injEq, and_true, Value.slice.injEq] at hcs
    obtain ⟨rfl, rfl, rfl⟩ := hcs
    exact ⟨none, 0, 0, [], rfl, .inl rfl, rfl, Nat.le_refl _, by omega⟩
  · simp only [Value.cells, List.cons.injEq, and_true, Value.slice.injEq] at hcs
    obtain ⟨rfl, rfl, rfl⟩ := hcs
    simp only [if_true] at hmm
    subst hmm
    unfold maxLen at hm
    rcases Nat.eq_zero_or_pos len with h0 | h0
    · subst h0
      exact ⟨_, 0, m, [], rfl, .inl rfl, rfl, Nat.zero_le _, by omega⟩
    · obtain ⟨b, off, spot⟩ := a'
      obtain ⟨ys, n, -, -, -, hf⟩ := hi 0 (by omega)
      obtain ⟨v0, y0, hc0, -, -⟩ := hf 0 _ rfl
      have hspot : spot = none := by simpa [Addr.add] using World.cell?_spot hc0
      subst hspot
      have hlt : b < W.heap.size := by
        have := World.block_lt_of_cell? W _ hc0
        simpa [Addr.add] using this
      have each : ∀ i, i < m → ∃ x : Ask, AskAt W b off i x := by
        intro i him
        obtain ⟨ys, n, -, -, -, hf⟩ := hi i him
        obtain ⟨v0, y0, g0, -, t0⟩ := hf 0 _ rfl
        obtain ⟨v1, y1, g1, -, t1⟩ := hf 1 _ rfl
        obtain ⟨v2, y2, g2, -, t2⟩ := hf 2 _ rfl
        obtain ⟨v3, y3, g3, -, t3⟩ := hf 3 _ rfl
        obtain ⟨x0, e0, -, w0⟩ := DataW.trod_int Try.underlying5 t0
        obtain ⟨x1, e1, -, w1⟩ := DataW.trod_int Try.underlying5 t1
        obtain ⟨x2, e2, -⟩ := DataW.trod_bool Try.underlying4 t2
        obtain ⟨x3, e3, -⟩ := DataW.trod_int Try.underlying3 t3
        simp only [List.cons.injEq, and_true] at e0 e1 e2 e3
        have b0 : 0 ≤ x0 ∧ x0 ≤ 255 := by simpa [Lit.wf, IntKind.min, IntKind.max, IntKind.signed, IntKind.bits] using w0
        have b1 : 0 ≤ x1 ∧ x1 ≤ 255 := by simpa [Lit.wf, IntKind.min, IntKind.max, IntKind.signed, IntKind.bits] using w1
        obtain ⟨j0, rfl⟩ := Int.eq_ofNat_of_zero_le b0.1
        obtain ⟨j1, rfl⟩ := Int.eq_ofNat_of_zero_le b1.1
        rw [add_none] at g0 g1 g2 g3
        refine ⟨⟨j0, j1, x2, x3⟩, ?_, ?_, ?_, ?_, by simp only; omega, by simp only; omega⟩
        · rw [← e0]; exact g0
        · rw [← e1]; exact g1
        · rw [← e2]; exact g2
        · rw [← e3]; exact g3
      have : Inhabited Ask := ⟨⟨0, 0, false, 0⟩⟩
      obtain ⟨y, hy⟩ := choose_lt each
      refine ⟨some ⟨b, off, none⟩, len, m, (List.range len).map y, rfl, .inr ⟨b, off, rfl, hlt, fun k hk => ?_⟩, by simp, hl, by omega⟩
      simp only [List.getElem_map, List.getElem_range]
      exact hy k (by simp at hk; omega)
end Go.Proofs.Ytlholmndckhhgaa
