/- BucketLimiterFair: in plain words. -/
import Derived.Test.YtlholmndckhhgaaM10
namespace Go.Proofs.Ytlholmndckhhgaa
open Go.RowKit Go.Maps
set_option linter.unusedSimpArgs false
set_option linter.unusedVariables false
structure FairS (e2 m2 : Int) (i : Nat) (T : Int) (b : Nat → Int × Int) (s : LimS) : Prop where
  ok : sOK 0 1000 e2 m2 s
  tick : s.tick = T
  t0 : 0 ≤ T
  t1 : T ≤ 255 * (i : Int)
  len : s.L.length ≤ i
  room : 1000 - (i : Int) ≤ s.bt
  bok : ∀ k, k < 4 → bOK m2 (b k) T
  same : ∀ k, k < 4 → ∀ t, T ≤ t → capT e2 m2 (b k) t = vTok e2 m2 s (macL k) t
def put2 (b : Nat → Int × Int) (k : Nat) (v : Int × Int) : Nat → Int × Int := fun j => if j = k then v else b j
theorem cap0 {bt bk t : Int} (h : bt ≤ 1000) : capT 0 1000 (bt, bk) t = bt := by unfold capT; simp only [Int.zero_mul, Int.add_zero]; omega
theorem fair_step {e2 m2 : Int} {i later k : Nat} {T : Int} {b : Nat → Int × Int} {s : LimS} (h : FairS e2 m2 i T b s) (hi : i < 100) (hl : later < 256) (hk : k < 4) :
    allowB 0 1000 e2 m2 s (macL k) (T + (later : Int)) = tkOk e2 m2 (b k).1 (b k).2 (T + (later : Int)) ∧
    FairS e2 m2 (i + 1) (T + (later : Int)) (put2 b k (tkTok e2 m2 (b k).1 (b k).2 (T + (later : Int)), tkTick e2 m2 (b k).1 (b k).2 (T + (later : Int)))) (allowS 0 1000 e2 m2 s (macL k) (T + (later : Int))) := by
  have t0 := h.t0
  have t1 := h.t1
  have hT := h.tick
  obtain ⟨t, ht⟩ : ∃ t, T + (later : Int) = t := ⟨_, rfl⟩
  rw [ht]
  have htT : T ≤ t := by omega
  have hs := step_ok (e1 := 0) (m1 := 1000) (k := macL k) (t := t) h.ok (macL_key (by omega)) (by omega) (by omega)
  have hb := h.bok k hk
  obtain ⟨x1, x2, x3⟩ := tk_valid h.ok.r2 hb htT (by omega)
  have hsame := h.same k hk t htT
  have hroom := h.room
  have hbk := h.ok.b
  obtain ⟨b1, b2, b3, b4⟩ := hbk
  simp only at b1 b2 b3 b4
  have hcb := cap_bd h.ok.r2 hb htT
  have hall : capT 0 1000 (s.bt, s.bk) t = s.bt := cap0 b2
  have hlen := h.len
  have hB : allowB 0 1000 e2 m2 s (macL k) t = tkOk e2 m2 (b k).1 (b k).2 t := by
    rw [hs.yes (by omega), hall, x1, hsame, show decide (1 ≤ s.bt) = true by simp; omega]; rfl
  refine ⟨hB, ?_⟩
  rw [x2, x3]
  refine ⟨hs.ok, hs.tick, by omega, by omega, Nat.le_trans hs.len (by omega), ?_, fun j hj => ?_, fun j hj t' ht' => ?_⟩
  · have := hs.all
    split at this
    · simp only [Prod.mk.injEq] at this; rw [this.1, hall]; omega
    · simp only [Prod.mk.injEq] at this; rw [this.1]; omega
  · unfold put2
    by_cases hjk : j = k
    · rw [if_pos hjk]
      refine ⟨?_, ?_, by simp only; omega, by simp only; omega⟩
      · simp only; split <;> omega
      · have := (rated_iff e2 m2).1 h.ok.r2
        simp only; split <;> omega
    · rw [if_neg hjk]
      obtain ⟨c1, c2, c3, c4⟩ := h.bok j hj
      exact ⟨c1, c2, c3, by omega⟩
  · unfold put2
    by_cases hjk : j = k
    · subst hjk
      rw [if_pos rfl]
      by_cases hc : 1 ≤ capT e2 m2 (b j) t
      · rw [if_pos hc]
        have hBt : allowB 0 1000 e2 m2 s (macL j) t = true := by rw [hB, x1]; simpa using hc
        rw [hs.own hBt _ ht', hsame]
      · rw [if_neg hc]
        have hBf : allowB 0 1000 e2 m2 s (macL j) t = false := by rw [hB, x1]; simpa using hc
        rw [hs.other _ (macL_key (by omega)) (.inl hBf) _ ht', ← h.same j hj t' (by omega)]
        have h0 : capT e2 m2 (b j) t = 0 := by omega
        have := cap_cap h.ok.r2 hb htT ht'
        rw [h0] at this
        exact this
    · rw [if_neg hjk]
      have hne : macL j ≠ macL k := fun e => hjk (mac4_inj (by omega) (by omega) e)
      rw [hs.other _ (macL_key (by omega)) (.inr hne) _ ht']
      exact h.same j hj t' (by omega)
theorem fair_start {e2 m2 : Int} (hr : rated e2 m2 = true) : FairS e2 m2 0 0 (fun _ => (m2, 0)) ⟨1000, 0, 0, []⟩ := by
  have := (rated_iff e2 m2).1 hr
  refine ⟨⟨by decide, hr, ⟨by decide, by decide, by decide, by decide⟩, by decide, by decide, (fun p hp => by cases hp), List.Pairwise.nil⟩, rfl, by decide, by decide, Nat.le_refl _, by decide, fun k hk => ⟨by simp only; omega, Int.le_refl _, Int.le_refl _, Int.le_refl _⟩, fun k hk t ht => ?_⟩
  show capT e2 m2 (m2, 0) t = m2
  exact cap_new hr ht
def cells8 (b : Nat → Int × Int) : Array Value := #[.int .i64 (b 0).1, .int .i64 (b 0).2, .int .i64 (b 1).1, .int .i64 (b 1).2, .int .i64 (b 2).1, .int .i64 (b 2).2, .int .i64 (b 3).1, .int .i64 (b 3).2]
theorem cells8_get (b : Nat → Int × Int) {k : Nat} (h : k < 4) : (cells8 b)[k * 2]? = some (.int .i64 (b k).1) ∧ (cells8 b)[k * 2 + 1]? = some (.int .i64 (b k).2) := by
  match k, h with
  | 0, _ => exact ⟨rfl, rfl⟩
  | 1, _ => exact ⟨rfl, rfl⟩
  | 2, _ => exact ⟨rfl, rfl⟩
  | 3, _ => exact ⟨rfl, rfl⟩
theorem cells8_set (b : Nat → Int × Int) {k : Nat} (h : k < 4) (u v : Int) : ((cells8 b).setIfInBounds (k * 2) (.int .i64 u)).setIfInBounds (k * 2 + 1) (.int .i64 v) = cells8 (put2 b k (u, v)) := by
  match k, h with
  | 0, _ => rfl
  | 1, _ => rfl
  | 2, _ => rfl
  | 3, _ => rfl
def firstB (m : Int) (k : Nat) : Nat → Int × Int := fun j => if j < k then (m, 0) else (0, 0)
theorem firstB_succ (m : Int) (k : Nat) : put2 (firstB m k) k (m, 0) = firstB m (k + 1) := by
  funext j
  unfold put2 firstB
  by_cases h1 : j = k
  · subst h1; simp
  · by_cases h2 : j < k
    · simp [h1, h2, Nat.lt_succ_of_lt h2]
    · simp [h1, h2]; omega
theorem firstB_4 (m : Int) : cells8 (firstB m 4) = cells8 (fun _ => (m, 0)) := rfl
end Go.Proofs.Ytlholmndckhhgaa
