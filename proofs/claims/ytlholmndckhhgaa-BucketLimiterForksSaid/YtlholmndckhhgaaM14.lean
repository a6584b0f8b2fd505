/- The reference's limiter: rows of entries. -/
import Derived.Test.YtlholmndckhhgaaM8
import Derived.Test.YtlholmndckhhgaaT
import Derived.Laws.OwnMore
import Derived.OneCell
namespace Go.Proofs.Ytlholmndckhhgaa
open Go.RowKit Go.Maps
set_option linter.unusedSimpArgs false
set_option linter.unusedVariables false
abbrev Rows6 := List (M6 × (Int × Int))
def entR (p : M6 × (Int × Int)) : Lit × (Int × Int) := (keyL p.1, p.2)
def cellR (p : M6 × (Int × Int)) : List Value := [.int .u8 p.1.a, .int .u8 p.1.b, .int .u8 p.1.c, .int .u8 p.1.d, .int .u8 p.1.e, .int .u8 p.1.f, .int .i64 p.2.1, .int .i64 p.2.2]
def cellsR (R : Rows6) : List Value := R.flatMap cellR
theorem cellsR_len (R : Rows6) : (cellsR R).length = 8 * R.length := by
  induction R with
  | nil => rfl
  | cons p R ih => simp only [cellsR, List.flatMap_cons, List.length_append, List.length_cons] at *; rw [ih]; simp [cellR]; omega
theorem cellsR_snoc (R : Rows6) (p : M6 × (Int × Int)) : cellsR (R ++ [p]) = cellsR R ++ cellR p := by simp [cellsR]
theorem cellsR_one (R : Rows6) : ∀ u ∈ cellsR R, u.oneCell' = true := by
  intro u hu
  simp only [cellsR, List.mem_flatMap, cellR, List.mem_cons, List.not_mem_nil, or_false] at hu
  obtain ⟨p, -, h⟩ := hu
  rcases h with rfl | rfl | rfl | rfl | rfl | rfl | rfl | rfl <;> rfl
theorem cellsR_get : ∀ (R : Rows6) (k : Nat) (hk : k < R.length) (j : Nat), j < 8 → (cellsR R)[8 * k + j]? = (cellR R[k])[j]?
  | p :: R, 0, _, j, hj => by
    have e : cellsR (p :: R) = cellR p ++ cellsR R := rfl
    rw [e, List.getElem?_append_left (by simp [cellR]; omega)]
    simp
  | p :: R, k + 1, hk, j, hj => by
    have e : cellsR (p :: R) = cellR p ++ cellsR R := rfl
    have := cellsR_get R k (by simpa using hk) j hj
    rw [e, List.getElem?_append_right (by simp [cellR]; omega)]
    simp only [List.getElem_cons_succ]
    rw [← this]
    congr 1
    simp [cellR]
    omega
theorem rowR_get {W : World} {B : Nat} {A : Option Addr} {R : Rows6} (h : At W B A (cellsR R)) {k : Nat} (hk : k < R.length) :
    ∃ b o, A = some ⟨b, o, none⟩ ∧ b < B ∧ ∀ j, j < 8 → W.cell? ⟨b, o + k * 8 + j, none⟩ = (cellR R[k])[j]? := by
  obtain ⟨b, o, hA, hB, hc⟩ := h.get (by rw [cellsR_len]; omega)
  refine ⟨b, o, hA, hB, fun j hj => ?_⟩
  have h1 := cellsR_get R k hk j hj
  have hl : j < (cellR R[k]).length := by simp [cellR]; omega
  rw [List.getElem?_eq_getElem hl] at h1 ⊢
  have := hc _ _ h1
  rwa [show o + (8 * k + j) = o + k * 8 + j by omega] at this
theorem info69 : (Try.prog.info? 69).map (fun i => (i.zero, i.size, i.bytes)) = some (some (.agg #[.int .u8 0, .int .u8 0, .int .u8 0, .int .u8 0, .int .u8 0, .int .u8 0, .int .i64 0, .int .i64 0]), 8, 24) := by kernel_rfl
structure RefS where
  A : Option Addr
  n : Nat
  c : Nat
  R : Rows6
def refV (e1 m1 e2 m2 : Int) (s : LimS) (r : RefS) : Value := .agg #[.int .i64 e1, .int .i64 m1, .int .i64 e2, .int .i64 m2, .int .i64 s.bt, .int .i64 s.bk, .slice r.A r.n r.c, .int .i64 s.tick]
/-- The reference's limiter as it lies. -/
structure RefAt (W : World) (B : Nat) (s : LimS) (r : RefS) : Prop where
  at_ : At W B r.A (cellsR r.R)
  n : r.n = r.R.length
  c : r.n ≤ r.c
  L : r.R.map entR = s.L
  ok : ∀ p ∈ r.R, p.1.ok
theorem RefAt.keep {W W' : World} {B : Nat} {s : LimS} {r : RefS} (h : RefAt W B s r) (hb : Below B W W') : RefAt W' B s r := ⟨h.at_.keep hb, h.n, h.c, h.L, h.ok⟩
theorem RefAt.more {W : World} {B B' : Nat} {s : LimS} {r : RefS} (h : RefAt W B s r) (hb : B ≤ B') : RefAt W B' s r := ⟨h.at_.more hb, h.n, h.c, h.L, h.ok⟩
/-- What the reference keeps, of the first entries. -/
def keepR (e2 m2 n : Int) (p : M6 × (Int × Int)) : Bool := decide (atTok e2 m2 p.2.1 p.2.2 n < m2)
theorem keepR_eq {e2 m2 n : Int} (hr : rated e2 m2 = true) (p : M6 × (Int × Int)) : keepR e2 m2 n p = keepB e2 m2 n (entR p) := by
  have hr' := (rated_iff e2 m2).1 hr
  unfold keepR keepB entR
  simp only
  cases ha : atOk e2 m2 p.2.1 p.2.2 n
  · have : atTok e2 m2 p.2.1 p.2.2 n = 0 := by unfold atTok; rw [ha]; rfl
    rw [this]; simp; omega
  · have hle : atTok e2 m2 p.2.1 p.2.2 n ≤ m2 := by unfold atTok; rw [if_pos ha]; omega
    rw [Bool.eq_iff_iff]; simp; omega
theorem keptR_eq {e2 m2 n : Int} (hr : rated e2 m2 = true) (R : Rows6) : (R.filter (keepR e2 m2 n)).map entR = (R.map entR).filter (keepB e2 m2 n) := by
  rw [List.filter_map]
  congr 1
  apply List.filter_congr
  intro p _
  exact keepR_eq hr p
theorem filter_snoc {α : Type} {l : List α} {j : Nat} (hj : j < l.length) (f : α → Bool) : (l.take (j + 1)).filter f = if f l[j] = true then (l.take j).filter f ++ [l[j]] else (l.take j).filter f := by
  rw [List.take_succ_eq_append_getElem hj, List.filter_append]
  by_cases h : f l[j] = true
  · rw [if_pos h]; simp [h]
  · rw [if_neg h]; simp [h]
theorem has_snoc (R : Rows6) (p : M6 × (Int × Int)) (k : Lit) : hasL ((R ++ [p]).map entR) k = (hasL (R.map entR) k || (keyL p.1).sameKey k) := by unfold hasL; simp [entR]
theorem get_snoc_other (R : Rows6) (p : M6 × (Int × Int)) (k : Lit) (h : (keyL p.1).sameKey k = false) : getL ((R ++ [p]).map entR) k = getL (R.map entR) k := by
  unfold getL
  rw [List.map_append, List.find?_append]
  cases hf : (R.map entR).find? (fun q => q.1.sameKey k) with
  | some q => rfl
  | none => simp [entR, h]
theorem get_snoc_same (R : Rows6) (p : M6 × (Int × Int)) (k : Lit) (h : (keyL p.1).sameKey k = true) (hno : hasL (R.map entR) k = false) : getL ((R ++ [p]).map entR) k = some p.2 := by
  have hg := getL_none hno
  unfold getL at hg ⊢
  rw [List.map_append, List.find?_append, Option.map_eq_none_iff.1 hg]
  simp [entR, h]
def eq6 (x y : M6) : Bool := x.a == y.a && (x.b == y.b && (x.c == y.c && (x.d == y.d && (x.e == y.e && x.f == y.f))))
theorem eq6_iff (x y : M6) : eq6 x y = true ↔ x = y := by
  obtain ⟨a, b, c, d, e, f⟩ := x
  obtain ⟨a', b', c', d', e', f'⟩ := y
  simp [eq6]
theorem dropR_eq {x : M6} (hx : x.ok) (R : Rows6) (hR : ∀ p ∈ R, p.1.ok) : (R.filter fun p => !eq6 p.1 x).map entR = dropL (R.map entR) (keyL x) := by
  unfold dropL
  rw [List.filter_map]
  congr 1
  apply List.filter_congr
  intro p hp
  have : (keyL p.1).sameKey (keyL x) = eq6 p.1 x := by
    rw [Bool.eq_iff_iff, sameKey_iff (keyL_key hx)]
    rw [eq6_iff]
    exact ⟨fun e => keyL_inj (hR p hp) hx e, fun e => by rw [e]⟩
  simp [entR, this]
theorem same6 {x y : M6} (hx : x.ok) (hy : y.ok) : (keyL x).sameKey (keyL y) = eq6 x y := by
  rw [Bool.eq_iff_iff, sameKey_iff (keyL_key hy)]
  rw [eq6_iff]
  exact ⟨fun e => keyL_inj hx hy e, fun e => by rw [e]⟩
end Go.Proofs.Ytlholmndckhhgaa
