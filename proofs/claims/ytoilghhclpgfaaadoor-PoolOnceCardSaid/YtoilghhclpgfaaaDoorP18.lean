/- Operations opened; a pool beside the reference's. -/
import Derived.Test.YtoilghhclpgfaaaDoorP17
namespace Go.Proofs.YtoilghhclpgfaaaDoor
open Go.ChangeShapes Go.WideShapes Go.ChangeAt Go.RowKit Go.Joins Go.Deep
set_option linter.unusedSimpArgs false
set_option linter.unusedVariables false
structure OpAt (W : World) (b o : Nat) (k : Nat) (x : Op1) : Prop where
  d : W.cell? ⟨b, o + k * 3, none⟩ = some (.int .u8 (x.d : Int))
  a : W.cell? ⟨b, o + k * 3 + 1, none⟩ = some (.int .i64 x.a)
  i : W.cell? ⟨b, o + k * 3 + 2, none⟩ = some (.bool x.i)
  d1 : x.d < 256
  a1 : x.a ≤ 9223372036854775807
  a2 : -9223372036854775808 ≤ x.a
def OpsAt (W : World) (B : Nat) (A : Option Addr) (L : List Op1) : Prop :=
  L = [] ∨ ∃ b o, A = some ⟨b, o, none⟩ ∧ b < B ∧ ∀ (k : Nat) (hk : k < L.length), OpAt W b o k L[k]
theorem OpsAt.get {W : World} {B : Nat} {A : Option Addr} {L : List Op1} (h : OpsAt W B A L) {k : Nat} (hk : k < L.length) : ∃ b o, A = some ⟨b, o, none⟩ ∧ b < B ∧ OpAt W b o k L[k] := by
  rcases h with h | ⟨b, o, hA, hB, h⟩
  · subst h; simp at hk
  · exact ⟨b, o, hA, hB, h k hk⟩
theorem add_none (b o k : Nat) : (⟨b, o, none⟩ : Addr).add k = ⟨b, o + k, none⟩ := by
  simp only [Addr.add]
  by_cases h0 : k = 0 <;> simp [h0]
theorem open_ops {H : Type} {enc : TypeId × Value → H} {W : World} {base : Nat} {v : Value} {d : DataW H} {p : List MemPlace} (o : Value.okWide Tryd.prog W .any base 29 v) (h : DataW.Trod enc Tryd.prog W 0 (fun _ => true) true 29 v d p) :
    ∃ (A : Option Addr) (n c : Nat) (L : List Op1), v = .slice A n c ∧ OpsAt W W.heap.size A L ∧ n = L.length ∧ n ≤ c ∧ (n : Int) ≤ 9223372036854775807 := by
  obtain ⟨a, len, cap, rfl⟩ := okWide_slice Tryd.underlying29 o
  obtain ⟨fuel, hf⟩ := h
  rcases open_slice_fields Tryd.underlying29 Tryd.underlying35 (by kernel_rfl) (by kernel_rfl) hf with ⟨hcs, -⟩ | ⟨a', len', cap', m, D, Pl, hcs, -, hl, hm, hmm, -, hi⟩
  · simp only [Value.cells, List.cons.injEq, and_true, Value.slice.injEq] at hcs
    obtain ⟨rfl, rfl, rfl⟩ := hcs
    exact ⟨none, 0, 0, [], rfl, .inl rfl, rfl, Nat.le_refl _, by omega⟩
  · simp only [Value.cells, List.cons.injEq, and_true, Value.slice.injEq] at hcs
    obtain ⟨rfl, rfl, rfl⟩ := hcs
    simp only [if_true] at hmm
    subst hmm
    unfold maxLen at hm
    rcases Nat.eq_zero_or_pos len with h0 | h0
    · subst h0
      exact ⟨_, 0, m, [], rfl, .inl rfl, rfl, Nat.zero_le _, by omega⟩
    · obtain ⟨b, off, spot⟩ := a'
      obtain ⟨ys, n, -, -, -, hf⟩ := hi 0 (by omega)
      obtain ⟨v0, y0, hc0, -, -⟩ := hf 0 _ rfl
      have hspot : spot = none := by simpa [Addr.add] using World.cell?_spot hc0
      subst hspot
      have hlt : b < W.heap.size := by
        have := World.block_lt_of_cell? W _ hc0
        simpa [Addr.add] using this
      have each : ∀ i, i < m → ∃ x : Op1, OpAt W b off i x := by
        intro i him
        obtain ⟨ys, n, -, -, -, hf⟩ := hi i him
        obtain ⟨v0, y0, g0, -, t0⟩ := hf 0 _ rfl
        obtain ⟨v1, y1, g1, -, t1⟩ := hf 1 _ rfl
        obtain ⟨v2, y2, g2, -, t2⟩ := hf 2 _ rfl
        obtain ⟨x0, e0, -, w0⟩ := DataW.trod_int Tryd.underlying5 t0
        obtain ⟨x1, e1, -, w1⟩ := DataW.trod_int Tryd.underlying3 t1
        obtain ⟨x2, e2, -⟩ := DataW.trod_bool Tryd.underlying4 t2
        simp only [List.cons.injEq, and_true] at e0 e1 e2
        have b0 : 0 ≤ x0 ∧ x0 ≤ 255 := by simpa [Lit.wf, IntKind.min, IntKind.max, IntKind.signed, IntKind.bits] using w0
        have b1 : -9223372036854775808 ≤ x1 ∧ x1 ≤ 9223372036854775807 := by simpa [Lit.wf, IntKind.min, IntKind.max, IntKind.signed, IntKind.bits] using w1
        obtain ⟨j0, rfl⟩ := Int.eq_ofNat_of_zero_le b0.1
        rw [add_none] at g0 g1 g2
        refine ⟨⟨j0, x1, x2⟩, ?_, ?_, ?_, by simp only; omega, b1.2, b1.1⟩
        · rw [← e0]; exact g0
        · rw [← e1]; exact g1
        · rw [← e2]; exact g2
      have : Inhabited Op1 := ⟨⟨0, 0, false⟩⟩
      obtain ⟨y, hy⟩ := choose_lt each
      refine ⟨some ⟨b, off, none⟩, len, m, (List.range len).map y, rfl, .inr ⟨b, off, rfl, hlt, fun k hk => ?_⟩, by simp, hl, by omega⟩
      simp only [List.getElem_map, List.getElem_range]
      exact hy k (by simp at hk; omega)
def rowP (b : Int) (s : Nat) (A : Option Addr) (n c : Nat) (B : Option Addr) (m d : Nat) : Array Value := #[.int .i64 b, .int .i64 (s : Int), .slice A n c, .slice B m d]
/-- The pool as it lies, and the reference's beside it. -/
structure PW (w : World) (YB p : Nat) (S : PoolS) (b : Int) (s : Nat) (R : List Int) (A : Option Addr) (n c : Nat) (B : Option Addr) (m d : Nat) (L : List Int) (B1 : Nat) (wr : World) : Prop where
  pool : PoolAt wr p S
  inv : Inv b s R S
  below : Below w.heap.size w wr
  y : wr.heap[YB]? = some (.cells (rowP b s A n c B m d) 49 (0, 0))
  atL : At wr B1 B (ints L)
  hm : m = L.length
  hB1 : B1 ≤ wr.heap.size
  far : ∀ a, B = some a → a.block < B1 → a.block ≠ p ∧ a.block ≠ S.af ∧ a.block ≠ YB
  pY : p ≠ YB
  aY : S.af ≠ YB
  oY : S.ao ≠ YB
  hp : w.heap.size ≤ p
  ha : w.heap.size ≤ S.af
  hY : w.heap.size ≤ YB
  oz : S.ao < wr.heap.size
  az : S.af < wr.heap.size
  op : S.ao ≠ p
section
variable {w wr w' : World} {YB p : Nat} {S S' : PoolS} {b : Int} {s : Nat} {R : List Int} {A : Option Addr} {n c : Nat} {B : Option Addr} {m d : Nat} {L : List Int} {B1 : Nat}
theorem PW.pz (h : PW w YB p S b s R A n c B m d L B1 wr) : p < wr.heap.size := lt_of_block h.pool.st
theorem PW.yz (h : PW w YB p S b s R A n c B m d L B1 wr) : YB < wr.heap.size := lt_of_block h.y
theorem PW.grow (h : PW w YB p S b s R A n c B m d L B1 wr) (hb : Below wr.heap.size wr w') : PW w YB p S b s R A n c B m d L B1 w' :=
  { h with pool := h.pool.keep hb, below := h.below.trans (hb.mono h.below.size), y := (hb.block YB h.yz).trans h.y, atL := h.atL.keep (hb.mono h.hB1), hB1 := Nat.le_trans h.hB1 hb.size, oz := Nat.lt_of_lt_of_le h.oz hb.size, az := Nat.lt_of_lt_of_le h.az hb.size }
theorem PW.turn (h : PW w YB p S b s R A n c B m d L B1 wr) (ht : Two p S.af wr w') (hp : PoolAt w' p S') (hi : Inv b s R S') (haf : S'.af = S.af) (hao : S'.ao = S.ao) : PW w YB p S' b s R A n c B m d L B1 w' :=
  { pool := hp, inv := hi, below := h.below.trans (ht.below h.below.size h.hp h.ha), y := (ht.block YB h.yz (fun e => h.pY e.symm) (fun e => h.aY e.symm)).trans h.y,
    atL := h.atL.other' fun a ha hl => ht.block _ (Nat.lt_of_lt_of_le hl h.hB1) (h.far a ha hl).1 (h.far a ha hl).2.1,
    hm := h.hm, hB1 := Nat.le_trans h.hB1 ht.size, far := (by rw [haf]; exact h.far), pY := h.pY, aY := (by rw [haf]; exact h.aY), oY := (by rw [hao]; exact h.oY), hp := h.hp, ha := (by rw [haf]; exact h.ha), hY := h.hY,
    oz := (by rw [hao]; exact Nat.lt_of_lt_of_le h.oz ht.size), az := (by rw [haf]; exact Nat.lt_of_lt_of_le h.az ht.size), op := (by rw [hao]; exact h.op) }
theorem PW.fork (h : PW w YB p S b s R A n c B m d L B1 wr) {F af cf : Nat} (hb : Below wr.heap.size wr w') (hF : wr.heap.size ≤ F) (haf : wr.heap.size ≤ af) (hpa : PoolAt w' F { S with af := af, cf := cf }) (haz : af < w'.heap.size) :
    PW w YB F { S with af := af, cf := cf } b s R A n c B m d L B1 w' ∧ p ≠ F ∧ p ≠ af ∧ S.af ≠ F ∧ S.af ≠ af ∧ p ≠ S.ao := by
  have h1 := h.pz
  have h2 := h.yz
  have h3 := h.hB1
  have h4 := h.below.size
  have h5 := h.az
  have h6 := h.oz
  refine ⟨{ h.grow hb with pool := hpa, inv := ⟨h.inv.hb, h.inv.hs, h.inv.own, h.inv.sub, h.inv.left⟩, far := (fun a ha hl => ⟨by omega, by simp only; omega, (h.far a ha hl).2.2⟩), pY := by omega, aY := by simp only; omega, oY := h.oY, hp := by omega, ha := by simp only; omega, az := haz, op := by simp only; omega }, by omega, by omega, by omega, by omega, fun e => h.op e.symm⟩
/-- The old pool turns, the fork stays. -/
theorem PW.other {F : Nat} {S2 : PoolS} (h : PW w YB F S2 b s R A n c B m d L B1 wr) (ho : PW w YB p S b s R A n c B m d L B1 wr) (hne : p ≠ F ∧ p ≠ S2.af ∧ S.af ≠ F ∧ S.af ≠ S2.af ∧ p ≠ S2.ao ∧ S.af ≠ S2.ao) (ht : Two p S.af wr w') : PW w YB F S2 b s R A n c B m d L B1 w' :=
  { h with pool := h.pool.turned ht (Ne.symm hne.1) (Ne.symm hne.2.2.1) (Ne.symm hne.2.1) (Ne.symm hne.2.2.2.1) (Ne.symm hne.2.2.2.2.1) (Ne.symm hne.2.2.2.2.2), below := h.below.trans (ht.below h.below.size ho.hp ho.ha), y := (ht.block YB h.yz (fun e => ho.pY e.symm) (fun e => ho.aY e.symm)).trans h.y, atL := h.atL.other' (fun a ha hl => ht.block _ (Nat.lt_of_lt_of_le hl h.hB1) (ho.far a ha hl).1 (ho.far a ha hl).2.1), hB1 := Nat.le_trans h.hB1 ht.size, oz := Nat.lt_of_lt_of_le h.oz ht.size, az := Nat.lt_of_lt_of_le h.az ht.size }
theorem PW.put {B' : Option Addr} {d' : Nat} {L' : List Int} (h : PW w YB p S b s R A n c B m d L B1 wr) {B2 : Nat} (hat : At wr B2 B' (ints L')) (hB2 : B2 ≤ wr.heap.size) (hfar : ∀ a, B' = some a → a.block < B2 → a.block ≠ p ∧ a.block ≠ S.af ∧ a.block ≠ YB) :
    PW w YB p S b s R A n c B' L'.length d' L' B2 ((((wr.setCell ⟨YB, 0, none⟩ (.int .i64 b)).setCell ⟨YB, 1, none⟩ (.int .i64 (s : Int))).setCell ⟨YB, 2, none⟩ (.slice A n c)).setCell ⟨YB, 3, none⟩ (.slice B' L'.length d')) := by
  have hrow := row4 h.y (.int .i64 b) (.int .i64 (s : Int)) (.slice A n c) (.slice B' L'.length d')
  have htwo := two4 (b := YB) wr (.int .i64 b) (.int .i64 (s : Int)) (.slice A n c) (.slice B' L'.length d')
  revert hrow htwo
  generalize ((((wr.setCell ⟨YB, 0, none⟩ (.int .i64 b)).setCell ⟨YB, 1, none⟩ (.int .i64 (s : Int))).setCell ⟨YB, 2, none⟩ (.slice A n c)).setCell ⟨YB, 3, none⟩ (.slice B' L'.length d')) = w9
  intro hrow ht
  exact { h with pool := h.pool.turned ht h.pY h.pY h.aY h.aY h.oY h.oY, below := h.below.trans (ht.below h.below.size h.hY h.hY), y := hrow, atL := hat.other' (fun a ha hl => ht.block _ (Nat.lt_of_lt_of_le hl hB2) (hfar a ha hl).2.2 (hfar a ha hl).2.2), hm := rfl, hB1 := Nat.le_trans hB2 ht.size, far := hfar, oz := Nat.lt_of_lt_of_le h.oz ht.size, az := Nat.lt_of_lt_of_le h.az ht.size }
end
end Go.Proofs.YtoilghhclpgfaaaDoor
