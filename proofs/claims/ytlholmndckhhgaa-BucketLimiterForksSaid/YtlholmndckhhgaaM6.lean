/- Keys; so many addresses, in plain words. -/
import Derived.Test.YtlholmndckhhgaaM5
namespace Go.Proofs.Ytlholmndckhhgaa
open Go.RowKit Go.Maps
set_option linter.unusedSimpArgs false
set_option linter.unusedVariables false
def keyL (x : M6) : Lit := .string (keyBytes [.int .u8 x.a, .int .u8 x.b, .int .u8 x.c, .int .u8 x.d, .int .u8 x.e, .int .u8 x.f])
def M6.v (x : M6) : Value := .agg #[.int .u8 x.a, .int .u8 x.b, .int .u8 x.c, .int .u8 x.d, .int .u8 x.e, .int .u8 x.f]
structure M6.ok (x : M6) : Prop where
  a : (Lit.int .u8 x.a).wf = true
  b : (Lit.int .u8 x.b).wf = true
  c : (Lit.int .u8 x.c).wf = true
  d : (Lit.int .u8 x.d).wf = true
  e : (Lit.int .u8 x.e).wf = true
  f : (Lit.int .u8 x.f).wf = true
theorem key6 {x : M6} (h : x.ok) : keyOf Try.prog 45 x.v = some (keyL x) := by
  obtain ⟨m, hm⟩ : ∃ sz, Try.prog.types.size = sz + 1 := ⟨Try.prog.types.size - 1, by have : 45 < Try.prog.types.size := of_decide_eq_true (by kernel_rfl); omega⟩
  have hkt := arr45.keyType ⟨m, hm⟩
  have he : Try.prog.underlying 5 = some (.int .u8) := Try.underlying5
  unfold keyOf M6.v keyL
  simp only [arr45.hu]
  rw [if_pos (by simp [hkt, Value.formed, arr45.hu, arr45.size]), hm]
  unfold Program.keyLits
  simp only [arr45.hu, Value.cells]
  rw [if_pos (by rw [arr45.size]; rfl), show List.range 6 = [0, 1, 2, 3, 4, 5] from rfl]
  simp only [List.mapM_cons, List.mapM_nil]
  simp [arr45.one, Program.keyLits, he, h.a, h.b, h.c, h.d, h.e, h.f]
theorem wf_u8 {n : Int} (h : 0 ≤ n) (h2 : n ≤ 255) : (Lit.int .u8 n).wf = true := by
  simp [Lit.wf, IntKind.min, IntKind.max, IntKind.signed, IntKind.bits]; omega
theorem keyL_inj {x y : M6} (hx : x.ok) (hy : y.ok) (h : keyL x = keyL y) : x = y := by
  have h1 := key6 hx
  have h2 := key6 hy
  rw [h] at h1
  have := law45.inj h1 h2
  unfold M6.v at this
  obtain ⟨a, b, c, d, e, f⟩ := x
  obtain ⟨a', b', c', d', e', f'⟩ := y
  simp only [Value.agg.injEq, Array.mk.injEq, List.cons.injEq, Value.int.injEq, true_and, and_true] at this
  obtain ⟨rfl, rfl, rfl, rfl, rfl, rfl⟩ := this
  rfl
theorem keyL_key {x : M6} (hx : x.ok) : WideAt.IsKeyLit (keyL x) := law45.key (key6 hx)
theorem hasL_false {L : Ents} {k : Lit} (hk : WideAt.IsKeyLit k) (h : ∀ p ∈ L, p.1 ≠ k) : hasL L k = false := by
  unfold hasL
  rw [List.any_eq_false]
  intro p hp e
  exact h p hp ((sameKey_iff hk).1 e)
theorem dropL_none {L : Ents} {k : Lit} (h : hasL L k = false) : dropL L k = L := by
  unfold dropL
  rw [List.filter_eq_self]
  intro p hp
  have := List.any_eq_false.1 h p hp
  simpa using this
/-- The address of the law's i-th question. -/
def mk (i : Nat) : M6 := ⟨2, 0, 0, 0, (i : Int) / 256, (i : Int) % 256⟩
theorem mk_ok {i : Nat} (h : i < 65536) : (mk i).ok := ⟨by show (Lit.int .u8 2).wf = true; decide, by show (Lit.int .u8 0).wf = true; decide, by show (Lit.int .u8 0).wf = true; decide, by show (Lit.int .u8 0).wf = true; decide, wf_u8 (by simp only [mk]; omega) (by simp only [mk]; omega), wf_u8 (by simp only [mk]; omega) (by simp only [mk]; omega)⟩
theorem mk_inj {i j : Nat} (hi : i < 65536) (hj : j < 65536) (h : keyL (mk i) = keyL (mk j)) : i = j := by
  have := keyL_inj (mk_ok hi) (mk_ok hj) h
  simp only [mk, M6.mk.injEq, true_and] at this
  omega
def manyL (i : Nat) : Ents := (List.range i).map fun (j : Nat) => (keyL (mk j), ((1 : Int), (0 : Int)))
def manyS (i : Nat) : LimS := ⟨100000 - (min i 256 : Nat), 0, 0, manyL (min i 256)⟩
theorem manyL_len (i : Nat) : (manyL i).length = i := by unfold manyL; simp
theorem manyL_kept (i : Nat) : (manyL i).filter (keepB 1 2 0) = manyL i := by
  rw [List.filter_eq_self]
  intro p hp
  unfold manyL at hp
  obtain ⟨j, hj, rfl⟩ := List.mem_map.1 hp
  rfl
theorem manyL_has {i j : Nat} (h : i ≤ j) (hj : j < 65536) : hasL (manyL i) (keyL (mk j)) = false := by
  refine hasL_false (keyL_key (mk_ok hj)) fun p hp => ?_
  unfold manyL at hp
  obtain ⟨q, hq, rfl⟩ := List.mem_map.1 hp
  have hq' := List.mem_range.1 hq
  intro e
  have := mk_inj (by omega) hj e
  omega
theorem manyL_succ (i : Nat) : manyL (i + 1) = manyL i ++ [(keyL (mk i), (1, 0))] := by unfold manyL; rw [List.range_succ, List.map_append]; rfl
theorem now0 : nowT 0 0 = 0 := rfl
theorem tk_all {b t : Int} (h1 : 1 ≤ b) (h2 : b ≤ 100000) (h3 : 0 ≤ t) (h4 : t ≤ 255) : tkOk 1000 100000 b 0 t = true ∧ (t = 0 → tkTok 1000 100000 b 0 t = b - 1 ∧ tkTick 1000 100000 b 0 t = 0) := by
  have ha : atOk 1000 100000 b 0 t = true := by simp [atOk, rated, inB]; omega
  have ht : atTok 1000 100000 b 0 t = min 100000 (b + 1000 * t) := by unfold atTok; rw [if_pos ha]; simp
  have hk : tkOk 1000 100000 b 0 t = true := by unfold tkOk; rw [ha, ht]; simp; omega
  refine ⟨hk, fun h => ?_⟩
  subst h
  refine ⟨?_, ?_⟩
  · unfold tkTok; rw [hk, ht]; simp; omega
  · unfold tkTick atTick; rw [ha]; simp
theorem many_step {i : Nat} (h : i < 300) : allowB 1000 100000 1 2 (manyS i) (keyL (mk i)) 0 = decide (i < 256) ∧ allowS 1000 100000 1 2 (manyS i) (keyL (mk i)) 0 = manyS (i + 1) := by
  have hk : kept 1 2 (manyS i) 0 = manyL (min i 256) := by unfold kept manyS; exact manyL_kept _
  have hh : hasL (manyL (min i 256)) (keyL (mk i)) = false := manyL_has (by omega) (by omega)
  have hm : mine 1 2 (manyS i) (keyL (mk i)) 0 = (2, 0) := by unfold mine; rw [hk, getL_none hh]; rfl
  by_cases h6 : i < 256
  · have hmin : min i 256 = i := by omega
    have hmin1 : min (i + 1) 256 = i + 1 := by omega
    rw [hmin] at hk hh
    have ht : tooMany 1 2 (manyS i) (keyL (mk i)) 0 = false := many_no hk (.inr (by rw [manyL_len]; exact h6))
    have hb := tk_all (b := 100000 - (i : Nat)) (t := 0) (by omega) (by omega) (by omega) (by omega)
    have hbt : (manyS i).bt = 100000 - (i : Nat) := by unfold manyS; rw [hmin]
    have hB : allowB 1000 100000 1 2 (manyS i) (keyL (mk i)) 0 = true := by
      rw [allow_eq (n := 0) ht rfl hm, hbt]
      show (tkOk 1000 100000 (100000 - (i : Nat)) 0 0 && _) = true
      rw [hb.1]; rfl
    refine ⟨by rw [hB]; simp [h6], ?_⟩
    unfold allowS
    rw [hB, if_pos rfl, hm, hk, dropL_none hh, hbt]
    show LimS.mk (tkTok 1000 100000 (100000 - (i : Nat)) 0 0) (tkTick 1000 100000 (100000 - (i : Nat)) 0 0) 0 _ = _
    rw [(hb.2 rfl).1, (hb.2 rfl).2]
    unfold manyS
    rw [hmin1, manyL_succ]
    simp only [LimS.mk.injEq, true_and]
    exact ⟨by omega, rfl⟩
  · have hmin : min i 256 = 256 := by omega
    have hmin1 : min (i + 1) 256 = 256 := by omega
    rw [hmin] at hk hh
    have hB : allowB 1000 100000 1 2 (manyS i) (keyL (mk i)) 0 = false := many_yes hk hh (by rw [manyL_len]; omega)
    refine ⟨by rw [hB]; simp [h6], ?_⟩
    unfold allowS
    rw [hB, if_neg (by simp), hk]
    unfold manyS
    rw [hmin, hmin1]
    rfl
def key4 : M6 := ⟨4, 0, 0, 0, 0, 0⟩
theorem key4_ok : key4.ok := ⟨by decide, by decide, by decide, by decide, by decide, by decide⟩
theorem manyL_has4 {i : Nat} (h : i ≤ 256) : hasL (manyL i) (keyL key4) = false := by
  refine hasL_false (keyL_key key4_ok) fun p hp => ?_
  unfold manyL at hp
  obtain ⟨q, hq, rfl⟩ := List.mem_map.1 hp
  have hq' := List.mem_range.1 hq
  intro e
  have := keyL_inj (mk_ok (by omega)) key4_ok e
  simp [mk, key4] at this
theorem many_last0 {i : Nat} (h : i < 300) : allowB 1000 100000 1 2 (manyS i) (keyL key4) 0 = decide (i < 256) := by
  have hk : kept 1 2 (manyS i) 0 = manyL (min i 256) := by unfold kept manyS; exact manyL_kept _
  have hh : hasL (manyL (min i 256)) (keyL key4) = false := manyL_has4 (by omega)
  have hm : mine 1 2 (manyS i) (keyL key4) 0 = (2, 0) := by unfold mine; rw [hk, getL_none hh]; rfl
  by_cases h6 : i < 256
  · have ht : tooMany 1 2 (manyS i) (keyL key4) 0 = false := many_no hk (.inr (by rw [manyL_len]; omega))
    have hb := tk_all (b := 100000 - (min i 256 : Nat)) (t := 0) (by omega) (by omega) (by omega) (by omega)
    rw [allow_eq (n := 0) ht rfl hm]
    show (tkOk 1000 100000 (100000 - (min i 256 : Nat)) 0 0 && _) = _
    rw [hb.1]; simp [h6]; rfl
  · rw [many_yes hk hh (by rw [manyL_len]; omega)]; simp [h6]
theorem many_last1 {i : Nat} {t : Int} (h : i < 300) (h1 : 1 ≤ t) (h2 : t ≤ 255) : allowB 1000 100000 1 2 (manyS i) (keyL key4) t = true ∧ (allowS 1000 100000 1 2 (manyS i) (keyL key4) t).L.length = 1 := by
  have hn : nowT 0 t = t := by unfold nowT; rw [if_pos (by simp [inB]; omega)]
  have hk : kept 1 2 (manyS i) t = [] := by
    unfold kept manyS
    rw [hn, List.filter_eq_nil_iff]
    intro p hp
    unfold manyL at hp
    obtain ⟨j, hj, rfl⟩ := List.mem_map.1 hp
    have ha : atOk 1 2 1 0 t = true := by simp [atOk, rated, inB]; omega
    have ht : atTok 1 2 1 0 t = 2 := by unfold atTok; rw [if_pos ha]; omega
    unfold keepB
    simp only
    rw [ha, ht]
    simp
  have hm : mine 1 2 (manyS i) (keyL key4) t = (2, t) := by unfold mine; rw [hk]; show ((none : Option (Int × Int)).getD (2, nowT 0 t)) = _; rw [hn]; rfl
  have ht : tooMany 1 2 (manyS i) (keyL key4) t = false := many_no hk (.inr (by simp))
  have hb := tk_all (b := 100000 - (min i 256 : Nat)) (t := t) (by omega) (by omega) (by omega) (by omega)
  have ho : tkOk 1 2 2 t t = true := by
    have ha : atOk 1 2 2 t t = true := by simp [atOk, rated, inB]; omega
    have ht2 : atTok 1 2 2 t t = 2 := by unfold atTok; rw [if_pos ha]; omega
    unfold tkOk; rw [ha, ht2]; rfl
  have hB : allowB 1000 100000 1 2 (manyS i) (keyL key4) t = true := by
    rw [allow_eq (n := t) ht hn hm]
    show (tkOk 1000 100000 (100000 - (min i 256 : Nat)) 0 t && _) = true
    rw [hb.1]; exact ho
  refine ⟨hB, ?_⟩
  unfold allowS
  rw [hB, if_pos rfl, hk]
  simp [dropL]
end Go.Proofs.Ytlholmndckhhgaa
