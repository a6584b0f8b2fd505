/- A Nak of the own address is answered by asking it again: plain words; rows of bytes, opened. -/
import Derived.Test.YtfkgmbknfnhjoaaGreatZ10
import Derived.Lib.SmallJoins
import Derived.Deep.Slices
namespace Go.Proofs.YtfkgmbknfnhjoaaGreat
set_option linter.unusedSimpArgs false
set_option linter.unusedVariables false
set_option linter.ambiguousOpen false
set_option maxRecDepth 100000
open Ne (Rl Opt RulesAt areB wf64)
open Fs (av hasB)
open Go.ChangeShapes Go.WideShapes Go.ChangeAt Go.RowKit Go.Joins Go.Deep
structure By where
 a : Option Addr
 d : List UInt8
 c : Nat
structure ByAt (W : World) (B b o k : Nat) (x : By) : Prop where
 c0 : W.cell? ⟨b, o + k, none⟩ = some (.slice x.a x.d.length x.c)
 inn : At W B x.a (x.d.map bv)
 le : x.d.length ≤ x.c
 lt : (x.d.length : Int) ≤ 9223372036854775807
def BysAt (W : World) (B : Nat) (A : Option Addr) (L : List By) : Prop :=
 L = [] ∨ ∃ b o, A = some ⟨b, o, none⟩ ∧ b < B ∧ ∀ (k : Nat) (hk : k < L.length), ByAt W B b o k L[k]
theorem BysAt.keep {W W' : World} {B : Nat} {A : Option Addr} {L : List By} (h : BysAt W B A L) (hb : Below B W W') : BysAt W' B A L := by
 rcases h with h | ⟨b, o, rfl, hB, h⟩
 ·exact .inl h
 ·exact .inr ⟨b, o, rfl, hB, fun k hk => ⟨(hb.cell (p := ⟨b, _, none⟩) hB).trans (h k hk).c0, (h k hk).inn.keep hb, (h k hk).le, (h k hk).lt⟩⟩
theorem BysAt.get {W : World} {B : Nat} {A : Option Addr} {L : List By} (h : BysAt W B A L) {k : Nat} (hk : k < L.length) : ∃ b o, A = some ⟨b, o, none⟩ ∧ b < B ∧ ByAt W B b o k L[k] := by
 rcases h with h | ⟨b, o, hA, hB, h⟩
 ·subst h; simp at hk
 ·exact ⟨b, o, hA, hB, h k hk⟩
theorem open_rows {H : Type} {enc : TypeId × Value → H} {W : World} {base : Nat} {v : Value} {d : DataW H} {p : List MemPlace} (o : Value.okWide Tryz.prog W .any base 73 v) (h : DataW.Trod enc Tryz.prog W 0 (fun _ => true) true 73 v d p) :
  ∃ (A : Option Addr) (n c : Nat) (L : List By), v = .slice A n c ∧ BysAt W W.heap.size A L ∧ n = L.length ∧ (n : Int) ≤ 9223372036854775807 := by
 obtain ⟨a, len, cap, rfl⟩ := okWide_slice Tryz.underlying73 o
 obtain ⟨fuel, hf⟩ := h
 rcases open_slice Tryz.underlying73 hf with ⟨hcs, -⟩ | ⟨a', len', cap', m, n, D, Pl, hcs, -, hl, hm, hmm, -, hi⟩
 ·simp only [Value.cells, List.cons.injEq, and_true, Value.slice.injEq] at hcs
  obtain ⟨rfl, rfl, rfl⟩ := hcs
  exact ⟨none, 0, 0, [], rfl, .inl rfl, rfl, by omega⟩
 ·simp only [Value.cells, List.cons.injEq, and_true, Value.slice.injEq] at hcs
  obtain ⟨rfl, rfl, rfl⟩ := hcs
  simp only [if_true] at hmm
  subst hmm
  unfold maxLen at hm
  have hC : Tryz.prog.cellsOf 30 = 1 := by kernel_rfl
  rw [hC] at hi
  rcases Nat.eq_zero_or_pos len with h0 | h0
  ·subst h0
   exact ⟨_, 0, m, [], rfl, .inl rfl, rfl, by omega⟩
  ·obtain ⟨b, off, spot⟩ := a'
   have each0 : ∀ i, i < m → ∃ x : By, W.cell? ((⟨b, off, spot⟩ : Addr).add i) = some (.slice x.a x.d.length x.c) ∧ At W W.heap.size x.a (x.d.map bv) ∧ x.d.length ≤ x.c ∧ (x.d.length : Int) ≤ 9223372036854775807 := by
    intro i him
    obtain ⟨cs', hc, ht'⟩ := hi i him
    obtain ⟨_, hcl, hat⟩ := World.cells?_some hc
    have h1 : cs'.length = 1 := hcl
    obtain ⟨v0, rfl⟩ : ∃ v0, cs' = [v0] := by
     match cs', h1 with
     | [v0], _ => exact ⟨v0, rfl⟩
    have hx := hat 0 (by omega)
    obtain ⟨A, ln, c, l, e4, hA, hl1, hc1, hb1⟩ := open_bytes ht'
    simp only [List.cons.injEq, and_true] at e4
    subst e4
    subst hl1
    refine ⟨⟨A, l, c⟩, ?_, hA, hc1, hb1⟩
    have h2 : (((⟨b, off, spot⟩ : Addr).add (i * 1)).add 0) = (⟨b, off, spot⟩ : Addr).add i := by rw [Go.Deep.add_add]; simp
    rw [h2] at hx
    exact hx
   obtain ⟨x0, hx0, -⟩ := each0 0 (by omega)
   have hspot : spot = none := by simpa [Addr.add] using World.cell?_spot hx0
   subst hspot
   have hlt : b < W.heap.size := by
    have := World.block_lt_of_cell? W _ hx0
    simpa [Addr.add] using this
   have : Inhabited By := ⟨⟨none, [], 0⟩⟩
   obtain ⟨y, hy⟩ := choose_lt each0
   refine ⟨some ⟨b, off, none⟩, len, m, (List.range len).map y, rfl, .inr ⟨b, off, rfl, hlt, fun k hk => ?_⟩, by simp, by omega⟩
   simp only [List.length_map, List.length_range] at hk
   simp only [List.getElem_map, List.getElem_range]
   obtain ⟨g0, g1, g2, g3⟩ := hy k (by omega)
   rw [add_none] at g0
   exact ⟨g0, g1, g2, g3⟩
theorem nak_now {own peer j t tick : Int} {b : List UInt8} (h1 : inB own 1 4294967295 = true) (h2 : inB peer 1 4294967295 = true) (hj : 0 ≤ j ∧ j ≤ 255) (ht : 1 ≤ t ∧ t ≤ 100) (hk : 0 ≤ tick ∧ tick ≤ 100) (hb : b.length ≤ 60) :
  iPackO 3 2 4 5 ⟨6, j, j, askI own, 2, t, 0⟩ own peer ⟨3, j, b⟩ tick = (⟨6, nxt j, nxt j, askI own, 2, tick + 5, 0⟩, [⟨1, nxt j, [3, 6] ++ putB own.toNat 4⟩], Fs.tabActs 10 6) := by
 have ha : isB ⟨6, j, j, askI own, 2, t, 0⟩ = true := isI0 (by simp [numsB, inB]; omega) (by unfold timB; rw [if_pos (by rfl)]; simp [inB]; omega)
 have hkk : inB tick 0 1099511627776 = true := by simp [inB]; omega
 have he : Cp.encErr 3 j b.length = 0 := by
  unfold Cp.encErr
  rw [if_neg (by simp [inB]; omega), if_neg (by omega)]
 unfold iPackO
 rw [if_pos ⟨fineI0 h1 h2 ha hkk, he⟩, if_pos rfl, if_pos rfl]
 unfold doO
 rw [if_pos ⟨fineB0 h2 ha hkk, by rfl⟩, if_pos (by rfl)]
 have he := encI own
 rw [show ([3, 6] ++ putB own.toNat 4 : List UInt8) = (Op.encR (askI own)).1 by rw [he]]
 rfl
end Go.Proofs.YtfkgmbknfnhjoaaGreat
