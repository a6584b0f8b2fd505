/- Buckets in plain words: what is there as of a tick. -/
import Derived.Test.YtlholmndckhhgaaM6
namespace Go.Proofs.Ytlholmndckhhgaa
open Go.RowKit Go.Maps
set_option linter.unusedSimpArgs false
set_option linter.unusedVariables false
def capT (e m : Int) (b : Int × Int) (t : Int) : Int := min m (b.1 + e * (t - b.2))
def bOK (m : Int) (b : Int × Int) (T : Int) : Prop := 0 ≤ b.1 ∧ b.1 ≤ m ∧ 0 ≤ b.2 ∧ b.2 ≤ T
theorem mul_split (e a b c : Int) : e * (c - a) = e * (b - a) + e * (c - b) := by rw [← Int.mul_add]; congr 1; omega
theorem mul_nn {e d : Int} (h : 0 ≤ e) (h2 : 0 ≤ d) : 0 ≤ e * d := Int.mul_nonneg h h2
theorem at_valid {e m t T : Int} {b : Int × Int} (hr : rated e m = true) (hb : bOK m b T) (h1 : T ≤ t) (h2 : t ≤ 1099511627776) : atOk e m b.1 b.2 t = true ∧ atTok e m b.1 b.2 t = capT e m b t ∧ atTick e m b.1 b.2 t = t := by
  obtain ⟨a1, a2, a3, a4⟩ := hb
  have ha : atOk e m b.1 b.2 t = true := by simp [atOk, hr, inB]; omega
  refine ⟨ha, ?_, ?_⟩
  · unfold atTok capT; rw [if_pos ha]
  · unfold atTick; rw [if_pos ha]
theorem cap_bd {e m t T : Int} {b : Int × Int} (hr : rated e m = true) (hb : bOK m b T) (h1 : T ≤ t) : 0 ≤ capT e m b t ∧ capT e m b t ≤ m := by
  obtain ⟨a1, a2, a3, a4⟩ := hb
  have hr := (rated_iff e m).1 hr
  have := mul_nn (e := e) (d := t - b.2) (by omega) (by omega)
  unfold capT
  omega
theorem cap_step {e m t t' T : Int} {b : Int × Int} (hr : rated e m = true) (hb : bOK m b T) (h1 : T ≤ t) (h2 : t ≤ t') : capT e m b t ≤ capT e m b t' ∧ capT e m b t' ≤ capT e m b t + e * (t' - t) := by
  have hr := (rated_iff e m).1 hr
  have := mul_nn (e := e) (d := t' - t) (by omega) (by omega)
  have := mul_split e b.2 t t'
  unfold capT
  omega
/-- A bucket as of t, looked at later, is what it was. -/
theorem cap_cap {e m t t' T : Int} {b : Int × Int} (hr : rated e m = true) (hb : bOK m b T) (h1 : T ≤ t) (h2 : t ≤ t') : capT e m (capT e m b t, t) t' = capT e m b t' := by
  have hr := (rated_iff e m).1 hr
  have := mul_nn (e := e) (d := t' - t) (by omega) (by omega)
  have := mul_split e b.2 t t'
  unfold capT
  simp only
  omega
theorem cap_full {e m t t' T : Int} {b : Int × Int} (hr : rated e m = true) (hb : bOK m b T) (h1 : T ≤ t) (h2 : t ≤ t') (h : capT e m b t = m) : capT e m b t' = m := by
  have := cap_step hr hb h1 h2
  have := cap_bd hr hb (Int.le_trans h1 h2)
  omega
theorem cap_new {e m t t' : Int} (hr : rated e m = true) (h2 : t ≤ t') : capT e m (m, t) t' = m := by
  have hr := (rated_iff e m).1 hr
  have := mul_nn (e := e) (d := t' - t) (by omega) (by omega)
  unfold capT
  simp only
  omega
theorem tk_valid {e m t T : Int} {b : Int × Int} (hr : rated e m = true) (hb : bOK m b T) (h1 : T ≤ t) (h2 : t ≤ 1099511627776) :
    tkOk e m b.1 b.2 t = decide (1 ≤ capT e m b t) ∧ tkTick e m b.1 b.2 t = t ∧ tkTok e m b.1 b.2 t = if 1 ≤ capT e m b t then capT e m b t - 1 else 0 := by
  obtain ⟨a1, a2, a3⟩ := at_valid hr hb h1 h2
  have hb2 := cap_bd hr hb h1
  have hk : tkOk e m b.1 b.2 t = decide (1 ≤ capT e m b t) := by
    unfold tkOk; rw [a1, a2, Bool.eq_iff_iff]; simp; omega
  refine ⟨hk, a3, ?_⟩
  unfold tkTok
  rw [hk, a2]
  by_cases h : 1 ≤ capT e m b t
  · simp [h]
  · simp only [decide_eq_true_eq, if_neg h]; omega
structure sOK (e1 m1 e2 m2 : Int) (s : LimS) : Prop where
  r1 : rated e1 m1 = true
  r2 : rated e2 m2 = true
  b : bOK m1 (s.bt, s.bk) s.tick
  t0 : 0 ≤ s.tick
  t1 : s.tick ≤ 1099511627776
  each : ∀ p ∈ s.L, bOK m2 p.2 s.tick ∧ WideAt.IsKeyLit p.1
  apart : s.L.Pairwise (fun p q => p.1 ≠ q.1)
def vTok (e2 m2 : Int) (s : LimS) (k : Lit) (t : Int) : Int := match getL s.L k with
  | some b => capT e2 m2 b t
  | none => m2
theorem getL_mem {L : Ents} {k : Lit} {b : Int × Int} (hk : WideAt.IsKeyLit k) (h : getL L k = some b) : (k, b) ∈ L := by
  unfold getL at h
  obtain ⟨p, hp, rfl⟩ := Option.map_eq_some_iff.1 h
  have h1 := List.mem_of_find?_eq_some hp
  have h2 : p.1.sameKey k = true := by have := List.find?_some hp; simpa using this
  rw [← (sameKey_iff hk).1 h2]
  exact h1
theorem mem_getL {L : Ents} {k : Lit} {b : Int × Int} (hk : WideAt.IsKeyLit k) (hd : L.Pairwise (fun p q => p.1 ≠ q.1)) (h : (k, b) ∈ L) : getL L k = some b := by
  cases hg : getL L k with
  | none =>
    unfold getL at hg
    have := List.find?_eq_none.1 (Option.map_eq_none_iff.1 hg) _ h
    simp only [Bool.not_eq_true] at this
    rw [(sameKey_iff hk).2 rfl] at this
    cases this
  | some c =>
    have := apart_eq hd h (getL_mem hk hg) rfl
    simp only [Prod.mk.injEq, true_and] at this
    rw [this]
theorem getL_none_of {L : Ents} {k : Lit} (hk : WideAt.IsKeyLit k) (h : ∀ b, (k, b) ∉ L) : getL L k = none := by
  cases hg : getL L k with
  | none => rfl
  | some c => exact absurd (getL_mem hk hg) (h c)
theorem getL_filter {L : Ents} {k : Lit} (hk : WideAt.IsKeyLit k) (hd : L.Pairwise (fun p q => p.1 ≠ q.1)) (f : Lit × (Int × Int) → Bool) : getL (L.filter f) k = match getL L k with | some b => if f (k, b) then some b else none | none => none := by
  cases hg : getL L k with
  | none => exact getL_none_of hk fun b hb => by have := mem_getL hk hd (List.mem_filter.1 hb).1; rw [hg] at this; cases this
  | some b =>
    by_cases hf : f (k, b) = true
    · simp only [hf, if_true]
      exact mem_getL hk (hd.filter _) (List.mem_filter.2 ⟨getL_mem hk hg, hf⟩)
    · simp only [hf]
      refine getL_none_of hk fun c hc => ?_
      have h1 := List.mem_filter.1 hc
      have h2 := mem_getL hk hd h1.1
      rw [hg] at h2
      cases h2
      exact hf h1.2
theorem getL_drop_same {L : Ents} {k : Lit} (hk : WideAt.IsKeyLit k) (b : Int × Int) (hd : L.Pairwise (fun p q => p.1 ≠ q.1)) : getL (dropL L k ++ [(k, b)]) k = some b := by
  unfold getL
  rw [List.find?_append]
  have : (dropL L k).find? (fun p => p.1.sameKey k) = none := by
    rw [List.find?_eq_none]
    intro p hp
    have := (List.mem_filter.1 hp).2
    simpa using this
  rw [this]
  simp [(sameKey_iff hk).2 rfl]
theorem getL_drop_other {L : Ents} {k k' : Lit} (hk : WideAt.IsKeyLit k) (hk' : WideAt.IsKeyLit k') (hne : k' ≠ k) (b : Int × Int) (hd : L.Pairwise (fun p q => p.1 ≠ q.1)) : getL (dropL L k ++ [(k, b)]) k' = getL L k' := by
  have h1 : getL (dropL L k) k' = getL L k' := by
    unfold dropL
    rw [getL_filter hk' hd]
    cases getL L k' with
    | none => rfl
    | some c =>
      have : k'.sameKey k = false := by cases h : k'.sameKey k; rfl; exact absurd ((sameKey_iff hk).1 h) hne
      simp [this]
  unfold getL at h1 ⊢
  rw [List.find?_append]
  cases hf : (dropL L k).find? (fun p => p.1.sameKey k') with
  | some p => rw [hf] at h1; simp only [Option.or]; exact h1
  | none =>
    rw [hf] at h1
    have : k.sameKey k' = false := by cases h : k.sameKey k'; rfl; exact absurd ((sameKey_iff hk').1 h).symm hne
    simp only [Option.or, List.find?_cons, this, List.find?_nil]
    exact h1
/-- What one question makes. -/
structure Step (e1 m1 e2 m2 : Int) (s : LimS) (k : Lit) (t : Int) : Prop where
  ok : sOK e1 m1 e2 m2 (allowS e1 m1 e2 m2 s k t)
  tick : (allowS e1 m1 e2 m2 s k t).tick = t
  len : (allowS e1 m1 e2 m2 s k t).L.length ≤ s.L.length + 1
  yes : s.L.length < 256 → allowB e1 m1 e2 m2 s k t = (decide (1 ≤ capT e1 m1 (s.bt, s.bk) t) && decide (1 ≤ vTok e2 m2 s k t))
  must : allowB e1 m1 e2 m2 s k t = true → 1 ≤ capT e1 m1 (s.bt, s.bk) t ∧ 1 ≤ vTok e2 m2 s k t
  all : ((allowS e1 m1 e2 m2 s k t).bt, (allowS e1 m1 e2 m2 s k t).bk) = if allowB e1 m1 e2 m2 s k t = true then (capT e1 m1 (s.bt, s.bk) t - 1, t) else (s.bt, s.bk)
  own : allowB e1 m1 e2 m2 s k t = true → ∀ t', t ≤ t' → vTok e2 m2 (allowS e1 m1 e2 m2 s k t) k t' = capT e2 m2 (vTok e2 m2 s k t - 1, t) t'
  other : ∀ k', WideAt.IsKeyLit k' → (allowB e1 m1 e2 m2 s k t = false ∨ k' ≠ k) → ∀ t', t ≤ t' → vTok e2 m2 (allowS e1 m1 e2 m2 s k t) k' t' = vTok e2 m2 s k' t'
theorem keep_iff {e2 m2 t T : Int} {p : Lit × (Int × Int)} (hr : rated e2 m2 = true) (hb : bOK m2 p.2 T) (h1 : T ≤ t) (h2 : t ≤ 1099511627776) : keepB e2 m2 t p = !(capT e2 m2 p.2 t == m2) := by
  obtain ⟨a1, a2, -⟩ := at_valid hr hb h1 h2
  unfold keepB
  rw [a1, a2]; rfl
theorem step_ok {e1 m1 e2 m2 : Int} {s : LimS} {k : Lit} {t : Int} (h : sOK e1 m1 e2 m2 s) (hk : WideAt.IsKeyLit k) (h1 : s.tick ≤ t) (h2 : t ≤ 1099511627776) : Step e1 m1 e2 m2 s k t := by
  have hn : nowT s.tick t = t := by unfold nowT; rw [if_pos (by simp [inB]; omega)]
  have hkept : kept e2 m2 s t = s.L.filter (keepB e2 m2 t) := by unfold kept; rw [hn]
  obtain ⟨K, hK⟩ : ∃ K, kept e2 m2 s t = K := ⟨_, rfl⟩
  have hKf := hK
  rw [hkept] at hKf
  have hKd : K.Pairwise (fun p q => p.1 ≠ q.1) := by rw [← hKf]; exact h.apart.filter _
  have hKm : ∀ p ∈ K, bOK m2 p.2 s.tick ∧ WideAt.IsKeyLit p.1 := fun p hp => h.each p (by rw [← hKf] at hp; exact (List.mem_filter.1 hp).1)
  -- what is kept says of any address what was said
  have hV : ∀ k', WideAt.IsKeyLit k' → ∀ t', t ≤ t' → (match getL K k' with | some b => capT e2 m2 b t' | none => m2) = vTok e2 m2 s k' t' := by
    intro k' hk' t' ht'
    rw [← hKf, getL_filter hk' h.apart]
    unfold vTok
    cases hg : getL s.L k' with
    | none => rfl
    | some b =>
      have hb := (h.each _ (getL_mem hk' hg)).1
      simp only at hb
      simp only
      by_cases hf : keepB e2 m2 t (k', b) = true
      · rw [if_pos hf]
      · rw [if_neg hf]
        rw [keep_iff h.r2 hb h1 h2] at hf
        simp only [Bool.not_eq_true', Bool.not_eq_false, beq_iff_eq] at hf
        exact (cap_full h.r2 hb h1 ht' (by simpa using hf)).symm
  obtain ⟨q, hq⟩ : ∃ q, mine e2 m2 s k t = q := ⟨_, rfl⟩
  have hqv : (bOK m2 q t) ∧ capT e2 m2 q t = vTok e2 m2 s k t := by
    have := hV k hk t (Int.le_refl _)
    rw [← this, ← hq]
    unfold mine
    rw [hK, hn]
    cases hg : getL K k with
    | none =>
      simp only [Option.getD_none]
      have hr := (rated_iff e2 m2).1 h.r2
      refine ⟨⟨?_, ?_, ?_, ?_⟩, cap_new h.r2 (Int.le_refl _)⟩
      · simp only; omega
      · simp only; omega
      · have := h.t0; simp only; omega
      · simp only; omega
    | some b =>
      simp only [Option.getD_some]
      obtain ⟨a1, a2, a3, a4⟩ := (hKm _ (getL_mem hk hg)).1
      exact ⟨⟨a1, a2, a3, by simp only at a4; omega⟩, trivial⟩
  obtain ⟨ta1, ta2, ta3⟩ := tk_valid h.r1 h.b h1 h2
  obtain ⟨to1, to2, to3⟩ := tk_valid h.r2 hqv.1 (Int.le_refl _) h2
  simp only at ta1 ta2 ta3
  rw [hqv.2] at to1 to3
  have hca := cap_bd h.r1 h.b h1
  have hvb := cap_bd h.r2 hqv.1 (Int.le_refl _)
  rw [hqv.2] at hvb
  have hlen : K.length ≤ s.L.length := by rw [← hKf]; exact List.length_filter_le _ _
  have hyes : s.L.length < 256 → allowB e1 m1 e2 m2 s k t = (decide (1 ≤ capT e1 m1 (s.bt, s.bk) t) && decide (1 ≤ vTok e2 m2 s k t)) := fun hl => by
    rw [allow_eq (many_no hK (.inr (by omega))) hn hq, ta1, to1]
  have hmust : allowB e1 m1 e2 m2 s k t = true → 1 ≤ capT e1 m1 (s.bt, s.bk) t ∧ 1 ≤ vTok e2 m2 s k t := fun hB => by
    unfold allowB at hB
    rw [hn, hq, ta1, to1] at hB
    simp only [Bool.and_eq_true, decide_eq_true_eq] at hB
    exact hB.2
  cases hB : allowB e1 m1 e2 m2 s k t
  · have hS : allowS e1 m1 e2 m2 s k t = ⟨s.bt, s.bk, t, K⟩ := by unfold allowS; rw [hB, if_neg (by simp), hn, hK]
    have b' := h.b
    refine ⟨?_, by rw [hS], by rw [hS]; exact Nat.le_succ_of_le hlen, fun hl => by rw [← hyes hl, hB], (fun e => by rw [hB] at e; cases e), by rw [hS, if_neg (by simp [hB])], (fun e => by rw [hB] at e; cases e), fun k' hk' _ t' ht' => by rw [hS]; exact hV k' hk' t' ht'⟩
    rw [hS]
    obtain ⟨a1, a2, a3, a4⟩ := h.b
    refine ⟨h.r1, h.r2, ⟨a1, a2, a3, ?_⟩, ?_, h2, fun p hp => ?_, hKd⟩
    · simp only at a4 ⊢; omega
    · have := h.t0; simp only; omega
    · obtain ⟨⟨c1, c2, c3, c4⟩, c5⟩ := hKm p hp
      exact ⟨⟨c1, c2, c3, by simp only; omega⟩, c5⟩
  · have hm := hmust hB
    rw [if_pos hm.1] at ta3
    rw [if_pos hm.2] at to3
    have hS : allowS e1 m1 e2 m2 s k t = ⟨capT e1 m1 (s.bt, s.bk) t - 1, t, t, dropL K k ++ [(k, (vTok e2 m2 s k t - 1, t))]⟩ := by
      unfold allowS
      rw [hB, if_pos rfl, hn, hK, hq, ta2, ta3, to2, to3]
    refine ⟨?_, by rw [hS], ?_, fun hl => by rw [← hyes hl, hB], fun _ => hm, by rw [hS, if_pos hB], fun _ t' ht' => ?_, fun k' hk' hne t' ht' => ?_⟩
    · rw [hS]
      refine ⟨h.r1, h.r2, ⟨?_, ?_, ?_, ?_⟩, ?_, h2, fun p hp => ?_, ?_⟩
      · simp only; omega
      · simp only; omega
      · have := h.t0; simp only; omega
      · simp only; omega
      · have := h.t0; simp only; omega
      · rcases List.mem_append.1 hp with hp | hp
        · obtain ⟨⟨c1, c2, c3, c4⟩, c5⟩ := hKm p (List.mem_filter.1 hp).1
          exact ⟨⟨c1, c2, c3, by simp only; omega⟩, c5⟩
        · simp only [List.mem_singleton] at hp
          subst hp
          exact ⟨⟨by simp only; omega, by simp only; omega, by have := h.t0; simp only; omega, by simp only; omega⟩, hk⟩
      · simp only
        rw [List.pairwise_append]
        refine ⟨hKd.filter _, List.pairwise_singleton _ _, fun p hp q hq => ?_⟩
        simp only [List.mem_singleton] at hq
        subst hq
        have := (List.mem_filter.1 hp).2
        intro e
        rw [(sameKey_iff hk).2 e] at this
        cases this
    · rw [hS]
      simp only [List.length_append, List.length_singleton]
      have : (dropL K k).length ≤ K.length := List.length_filter_le _ _
      omega
    · rw [hS]
      unfold vTok
      simp only
      rw [getL_drop_same hk _ hKd]
    · rcases hne with hne | hne
      · rw [hB] at hne; cases hne
      · rw [hS]
        show (match getL (dropL K k ++ [(k, (vTok e2 m2 s k t - 1, t))]) k' with | some b => capT e2 m2 b t' | none => m2) = _
        rw [getL_drop_other hk hk' hne _ hKd]
        exact hV k' hk' t' ht'
end Go.Proofs.Ytlholmndckhhgaa
