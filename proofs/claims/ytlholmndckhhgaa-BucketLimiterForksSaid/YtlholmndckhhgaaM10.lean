/- BucketLimiterWindows: its walk. -/
import Derived.Test.YtlholmndckhhgaaM9
import Derived.Test.YtlholmndckhhgaaM7
namespace Go.Proofs.Ytlholmndckhhgaa
open Go.ChangeShapes Go.WideShapes Go.ChangeAt Go.RowKit Go.Joins Go.Deep Go.Maps
set_option linter.unusedSimpArgs false
set_option linter.unusedVariables false
def mac4 (k : Nat) : M6 := ⟨2, 0, 0, 0, 0, (k : Int)⟩
theorem mac4_ok {k : Nat} (h : k < 256) : (mac4 k).ok := ⟨by show (Lit.int .u8 2).wf = true; decide, by show (Lit.int .u8 0).wf = true; decide, by show (Lit.int .u8 0).wf = true; decide, by show (Lit.int .u8 0).wf = true; decide, by show (Lit.int .u8 0).wf = true; decide, wf_u8 (by simp only [mac4]; omega) (by simp only [mac4]; omega)⟩
theorem mac4_inj {i j : Nat} (hi : i < 256) (hj : j < 256) (h : keyL (mac4 i) = keyL (mac4 j)) : i = j := by
  have := keyL_inj (mac4_ok hi) (mac4_ok hj) h
  simp only [mac4, M6.mk.injEq, true_and] at this
  omega
structure Win (e m : Int) (from_ width : Nat) (T count cap : Int) : Prop where
  lo : 0 ≤ count
  hi : count ≤ m + e * (width : Int)
  zero : T < (from_ : Int) → count = 0
  some : (from_ : Int) ≤ T → T < (from_ : Int) + (width : Int) → count + cap ≤ m + e * (T - (from_ : Int))
theorem win_start {e m : Int} {f w : Nat} {cap : Int} (hr : rated e m = true) (h : cap ≤ m) : Win e m f w 0 0 cap := by
  have hr := (rated_iff e m).1 hr
  have := mul_nn (e := e) (d := (w : Int)) (by omega) (by omega)
  refine ⟨Int.le_refl _, by omega, fun _ => rfl, fun h1 h2 => ?_⟩
  have := mul_nn (e := e) (d := (0 : Int) - (f : Int)) (by omega) (by omega)
  omega
theorem win_no {e m : Int} {f w : Nat} {T T' count cap cap' c2 : Int} (hr : rated e m = true) (h : Win e m f w T count cap) (h1 : T ≤ T') (h2 : cap' ≤ cap + e * (T' - T)) (h3 : cap' ≤ m) (h4 : c2 ≤ cap') : Win e m f w T' count c2 := by
  have hr := (rated_iff e m).1 hr
  refine ⟨h.lo, h.hi, fun h5 => h.zero (by omega), fun h5 h6 => ?_⟩
  have hs := mul_split e (f : Int) T T'
  by_cases h7 : T < (f : Int)
  · have := h.zero h7
    have := mul_nn (e := e) (d := T' - (f : Int)) (by omega) (by omega)
    omega
  · have := h.some (by omega) (by omega)
    omega
theorem win_yes {e m : Int} {f w : Nat} {T T' count cap cap' : Int} (hr : rated e m = true) (h : Win e m f w T count cap) (h1 : T ≤ T') (h2 : cap' ≤ cap + e * (T' - T)) (h3 : cap' ≤ m) (h4 : 1 ≤ cap') (h5 : (f : Int) ≤ T') (h6 : T' < (f : Int) + (w : Int)) : Win e m f w T' (count + 1) (cap' - 1) := by
  have hr' := (rated_iff e m).1 hr
  have key := (win_no hr h h1 h2 h3 (Int.le_refl _)).some h5 h6
  have lo := h.lo
  refine ⟨by omega, ?_, fun h7 => by omega, fun _ _ => by omega⟩
  have hs : e * (w : Int) = e * (T' - (f : Int)) + e * ((w : Int) - (T' - (f : Int))) := by rw [← Int.mul_add]; congr 1; omega
  have := mul_nn (e := e) (d := (w : Int) - (T' - (f : Int))) (by omega) (by omega)
  omega
def cells4 (c : Nat → Int) : Array Value := #[.int .i64 (c 0), .int .i64 (c 1), .int .i64 (c 2), .int .i64 (c 3)]
theorem cells4_get (c : Nat → Int) {k : Nat} (h : k < 4) : (cells4 c)[k]? = some (.int .i64 (c k)) := by
  match k, h with
  | 0, _ => rfl
  | 1, _ => rfl
  | 2, _ => rfl
  | 3, _ => rfl
def put4 (c : Nat → Int) (k : Nat) (v : Int) : Nat → Int := fun j => if j = k then v else c j
theorem cells4_set (c : Nat → Int) {k : Nat} (h : k < 4) (v : Int) : (cells4 c).setIfInBounds k (.int .i64 v) = cells4 (put4 c k v) := by
  match k, h with
  | 0, _ => rfl
  | 1, _ => rfl
  | 2, _ => rfl
  | 3, _ => rfl
theorem v_step {e1 m1 e2 m2 : Int} {s : LimS} {k : Lit} {t t' : Int} (h : sOK e1 m1 e2 m2 s) (hk : WideAt.IsKeyLit k) (h1 : s.tick ≤ t) (h2 : t ≤ t') : vTok e2 m2 s k t' ≤ vTok e2 m2 s k t + e2 * (t' - t) ∧ vTok e2 m2 s k t' ≤ m2 := by
  have hr := (rated_iff e2 m2).1 h.r2
  unfold vTok
  cases hg : getL s.L k with
  | none =>
    have := mul_nn (e := e2) (d := t' - t) (by omega) (by omega)
    simp only
    omega
  | some b =>
    have hb := (h.each _ (getL_mem hk hg)).1
    exact ⟨(cap_step h.r2 hb h1 h2).2, (cap_bd h.r2 hb (Int.le_trans h1 h2)).2⟩
theorem capT_now (e m x t : Int) : capT e m (x, t) t = min m x := by
  unfold capT
  simp only [Int.sub_self, Int.mul_zero, Int.add_zero]
theorem cap_cap' {e m t T : Int} {b : Int × Int} (hr : rated e m = true) (hb : bOK m b T) (h1 : T ≤ t) : capT e m (capT e m b t - 1, t) t = capT e m b t - 1 := by
  have := cap_bd hr hb h1
  rw [capT_now]
  omega
def macL (k : Nat) : Lit := keyL (mac4 k)
theorem macL_key {k : Nat} (h : k < 256) : WideAt.IsKeyLit (macL k) := keyL_key (mac4_ok h)
/-- What holds at each round's head. -/
structure WinS (e1 m1 e2 m2 : Int) (f w : Nat) (i : Nat) (T many : Int) (c : Nat → Int) (s : LimS) : Prop where
  ok : sOK e1 m1 e2 m2 s
  tick : s.tick = T
  t0 : 0 ≤ T
  t1 : T ≤ 255 * (i : Int)
  len : s.L.length ≤ i
  m0 : many ≤ i
  c0 : ∀ k, k < 4 → c k ≤ i
  all : Win e1 m1 f w T many (capT e1 m1 (s.bt, s.bk) T)
  own : ∀ k, k < 4 → Win e2 m2 f w T (c k) (vTok e2 m2 s (macL k) T)
theorem winS_no {e1 m1 e2 m2 : Int} {f w i later k : Nat} {T many : Int} {c : Nat → Int} {s : LimS} (h : WinS e1 m1 e2 m2 f w i T many c s) (hi : i < 120) (hl : later < 256) (hk : k < 4) :
    WinS e1 m1 e2 m2 f w (i + 1) (T + (later : Int)) many c (allowS e1 m1 e2 m2 s (macL k) (T + (later : Int))) := by
  have hs := step_ok (e1 := e1) (m1 := m1) (k := macL k) (t := T + (later : Int)) h.ok (macL_key (by omega)) (by rw [h.tick]; omega) (by have := h.t1; omega)
  have t0 := h.t0
  have t1 := h.t1
  have hT := h.tick
  refine ⟨hs.ok, hs.tick, by omega, by omega, Nat.le_trans hs.len (by have := h.len; omega), by have := h.m0; omega, fun j hj => by have := h.c0 j hj; omega, ?_, fun j hj => ?_⟩
  · have hc := cap_step (t' := T + (later : Int)) h.ok.r1 h.ok.b (Int.le_of_eq hT) (by omega)
    have hb := cap_bd (t := T + (later : Int)) h.ok.r1 h.ok.b (by omega)
    refine win_no h.ok.r1 h.all (by omega) hc.2 hb.2 ?_
    rw [hs.all]
    split
    · rw [cap_cap' h.ok.r1 h.ok.b (by omega)]; omega
    · omega
  · have hv := v_step (k := macL j) h.ok (macL_key (by omega)) (Int.le_of_eq hT) (show T ≤ T + (later : Int) by omega)
    refine win_no h.ok.r2 (h.own j hj) (by omega) hv.1 hv.2 ?_
    by_cases hB : allowB e1 m1 e2 m2 s (macL k) (T + (later : Int)) = true
    · by_cases hne : macL j = macL k
      · rw [hne, hs.own hB _ (Int.le_refl _), capT_now]
        omega
      · rw [hs.other _ (macL_key (by omega)) (.inr hne) _ (Int.le_refl _)]; omega
    · rw [hs.other _ (macL_key (by omega)) (.inl (by simpa using hB)) _ (Int.le_refl _)]; omega
theorem winS_yes {e1 m1 e2 m2 : Int} {f w i later k : Nat} {T many : Int} {c : Nat → Int} {s : LimS} (h : WinS e1 m1 e2 m2 f w i T many c s) (hi : i < 120) (hl : later < 256) (hk : k < 4)
    (hB : allowB e1 m1 e2 m2 s (macL k) (T + (later : Int)) = true) (h5 : (f : Int) ≤ T + (later : Int)) (h6 : T + (later : Int) < (f : Int) + (w : Int)) :
    WinS e1 m1 e2 m2 f w (i + 1) (T + (later : Int)) (many + 1) (put4 c k (c k + 1)) (allowS e1 m1 e2 m2 s (macL k) (T + (later : Int))) := by
  have hs := step_ok (e1 := e1) (m1 := m1) (k := macL k) (t := T + (later : Int)) h.ok (macL_key (by omega)) (by rw [h.tick]; omega) (by have := h.t1; omega)
  have t0 := h.t0
  have t1 := h.t1
  have hT := h.tick
  have hm := hs.must hB
  refine ⟨hs.ok, hs.tick, by omega, by omega, Nat.le_trans hs.len (by have := h.len; omega), by have := h.m0; omega, fun j hj => ?_, ?_, fun j hj => ?_⟩
  · unfold put4
    have h1 := h.c0 j hj
    have h2 := h.c0 k hk
    split <;> omega
  · have hc := cap_step (t' := T + (later : Int)) h.ok.r1 h.ok.b (Int.le_of_eq hT) (by omega)
    have hb := cap_bd (t := T + (later : Int)) h.ok.r1 h.ok.b (by omega)
    have := win_yes h.ok.r1 h.all (by omega) hc.2 hb.2 hm.1 h5 h6
    rw [hs.all, if_pos hB]
    rw [capT_now]
    rw [show min m1 (capT e1 m1 (s.bt, s.bk) (T + (later : Int)) - 1) = capT e1 m1 (s.bt, s.bk) (T + (later : Int)) - 1 by omega]
    exact this
  · have hv := v_step (k := macL j) h.ok (macL_key (by omega)) (Int.le_of_eq hT) (show T ≤ T + (later : Int) by omega)
    by_cases hjk : j = k
    · subst hjk
      have := win_yes h.ok.r2 (h.own j hj) (by omega) hv.1 hv.2 hm.2 h5 h6
      rw [hs.own hB _ (Int.le_refl _), capT_now]
      rw [show min m2 (vTok e2 m2 s (macL j) (T + (later : Int)) - 1) = vTok e2 m2 s (macL j) (T + (later : Int)) - 1 by omega]
      unfold put4
      rw [if_pos rfl]
      exact this
    · have hne : macL j ≠ macL k := fun e => hjk (mac4_inj (by omega) (by omega) e)
      have := win_no h.ok.r2 (h.own j hj) (show T ≤ T + (later : Int) by omega) hv.1 hv.2 (Int.le_refl _)
      rw [hs.other _ (macL_key (by omega)) (.inr hne) _ (Int.le_refl _)]
      unfold put4
      rw [if_neg hjk]
      exact this
end Go.Proofs.Ytlholmndckhhgaa
