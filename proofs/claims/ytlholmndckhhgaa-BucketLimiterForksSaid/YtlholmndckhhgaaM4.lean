/- Allow. -/
import Derived.Test.YtlholmndckhhgaaM3
namespace Go.Proofs.Ytlholmndckhhgaa
open Go.RowKit Go.Maps
set_option linter.unusedSimpArgs false
set_option linter.unusedVariables false
theorem limC_tick {W : World} {l : Nat} {e1 m1 e2 m2 bt bk tick t : Int} {bm : Option Nat} (h : LimC W l e1 m1 e2 m2 bt bk bm tick) : LimC (W.setCell ⟨l, 7, none⟩ (.int .i64 t)) l e1 m1 e2 m2 bt bk bm t :=
  heap_setCell_same W l 7 _ 63 _ h
theorem limC_bucket {W : World} {l : Nat} {e1 m1 e2 m2 bt bk tick a b : Int} {bm : Option Nat} (h : LimC W l e1 m1 e2 m2 bt bk bm tick) : LimC ((W.setCell ⟨l, 4, none⟩ (.int .i64 a)).setCell ⟨l, 5, none⟩ (.int .i64 b)) l e1 m1 e2 m2 a b bm tick :=
  heap_setCell_same _ l 5 _ 63 _ (heap_setCell_same W l 4 _ 63 _ h)
/-- What stands behind the cleaning. -/
structure StA (W : World) (l : Nat) (e1 m1 e2 m2 bt bk : Int) (bm : Nat) (n : Int) (L : Ents) (K : Nat) (x : M6) (w : World) : Prop where
  lim : LimC w l e1 m1 e2 m2 bt bk (some bm) n
  map : MapAt w bm L
  key : w.heap[K]? = some (.cells #[.int .u8 x.a, .int .u8 x.b, .int .u8 x.c, .int .u8 x.d, .int .u8 x.e, .int .u8 x.f] 45 (0, 0))
  two : Two l bm W w
  hK : W.heap.size ≤ K
theorem StA.grow {W : World} {l : Nat} {e1 m1 e2 m2 bt bk : Int} {bm : Nat} {n : Int} {L : Ents} {K : Nat} {x : M6} {w w' : World} (h : StA W l e1 m1 e2 m2 bt bk bm n L K x w) (hb : Below w.heap.size w w') : StA W l e1 m1 e2 m2 bt bk bm n L K x w' :=
  ⟨(hb.block l (lt_of_block h.lim)).trans h.lim, h.map.kept (hb.block bm h.map.lt), (hb.block K (lt_of_block h.key)).trans h.key, h.two.trans (Two.of_below hb), h.hK⟩
@[go_sem] theorem MapAt_drew (w : World) (bm : Nat) (L : Ents) : MapAt w.drew bm L = MapAt w bm L := rfl
@[go_sem] theorem MapAt_drewN (w : World) (n bm : Nat) (L : Ents) : MapAt (w.drewN n) bm L = MapAt w bm L := rfl
theorem MapAt_eq {w w' : World} {bm : Nat} {L : Ents} (h : w'.heap[bm]? = w.heap[bm]?) : MapAt w' bm L = MapAt w bm L := propext ⟨fun k => k.kept h.symm, fun k => k.kept h⟩
@[go_sem] theorem MapAt_alloc (w : World) (o : Obj) (bm : Nat) (L : Ents) (h : bm < w.heap.size) : MapAt (w.alloc o) bm L = MapAt w bm L := MapAt_eq (Below.heap_alloc w o bm h)
@[go_sem] theorem MapAt_setCell (w : World) (p : Addr) (v : Value) (bm : Nat) (L : Ents) (h : bm < p.block) : MapAt (w.setCell p v) bm L = MapAt w bm L := MapAt_eq (Below.heap_setCell w p v bm (by omega))
section
variable {P : Program} {ops : Array Oper} {o : Oper} {a : Act} {Q : Exit → Act → World → Prop} {w : World} {K : Act → World → Prop}
theorem step_look {E : Prop} (hgd : o.guard = none) (m x : Operand) (t : TypeId) (hop : o.op = Op.lookup t m x true) (M X : Value) (hm : a.eval m = M) (hx : a.eval x = X) (v : Value) (hrun : (Instr.lookup t M X true).run P w = .ok v w)
    (h : K (a.put o.dst v) w) : if Region.wanted o (yielded ops a.tmps) = true then Oper.wp P o a w K Q else E := by
  rw [if_pos (by simp [Region.wanted, hgd])]
  unfold Oper.wp
  simp [execOp, hop, hm, hx, hrun, Result.andThen]
  exact h
end
theorem StA.put1 {W : World} {l : Nat} {e1 m1 e2 m2 bt bk : Int} {bm : Nat} {n : Int} {L : Ents} {K : Nat} {x : M6} {w : World} {P j : Nat} {v : Value} (h : StA W l e1 m1 e2 m2 bt bk bm n L K x w) (h1 : P ≠ l) (h2 : P ≠ bm) (h3 : P ≠ K) (h4 : W.heap.size ≤ P) :
    StA W l e1 m1 e2 m2 bt bk bm n L K x (w.setCell ⟨P, j, none⟩ v) :=
  ⟨(Below.heap_setCell w ⟨P, j, none⟩ v l (Ne.symm h1)).trans h.lim, h.map.kept (Below.heap_setCell w ⟨P, j, none⟩ v bm (Ne.symm h2)), (Below.heap_setCell w ⟨P, j, none⟩ v K (Ne.symm h3)).trans h.key,
    ⟨h.two.os, h.two.tape, h.two.output, by simpa using h.two.size, fun k hk g1 g2 => (Below.heap_setCell w ⟨P, j, none⟩ v k (by simp; omega)).trans (h.two.block k hk g1 g2)⟩, h.hK⟩
theorem StA.drew {W : World} {l : Nat} {e1 m1 e2 m2 bt bk : Int} {bm : Nat} {n : Int} {L : Ents} {K : Nat} {x : M6} {w : World} (h : StA W l e1 m1 e2 m2 bt bk bm n L K x w) : StA W l e1 m1 e2 m2 bt bk bm n L K x w.drew :=
  ⟨h.lim, h.map, h.key, ⟨h.two.os, h.two.tape, h.two.output, h.two.size, h.two.block⟩, h.hK⟩
theorem StA.put2 {W : World} {l : Nat} {e1 m1 e2 m2 bt bk : Int} {bm : Nat} {n : Int} {L : Ents} {K : Nat} {x : M6} {w : World} {P : Nat} {u v : Value} (h : StA W l e1 m1 e2 m2 bt bk bm n L K x w) (h1 : P ≠ l) (h2 : P ≠ bm) (h3 : P ≠ K) (h4 : W.heap.size ≤ P) :
    StA W l e1 m1 e2 m2 bt bk bm n L K x ((w.setCell ⟨P, 0, none⟩ u).setCell ⟨P, 1, none⟩ v).drew := ((h.put1 h1 h2 h3 h4).put1 h1 h2 h3 h4).drew
theorem put2_row {w : World} {P : Nat} {a b u v : Value} (h : w.heap[P]? = some (.cells #[a, b] 25 (0, 0))) : (((w.setCell ⟨P, 0, none⟩ u).setCell ⟨P, 1, none⟩ v).drew).heap[P]? = some (.cells #[u, v] 25 (0, 0)) :=
  heap_setCell_same _ P 1 _ 25 _ (heap_setCell_same w P 0 _ 25 _ h)
theorem MapAt.ne_cells {W : World} {bm : Nat} {L : Ents} (h : MapAt W bm L) {cs : Array Value} {e : TypeId} {f : Nat × Nat} (hc : W.heap[bm]? = some (.cells cs e f)) : False := by
  obtain ⟨D, hr, es, clock, h1, -⟩ := h
  rw [hc] at h1
  cases h1
theorem getL_none {L : Ents} {k : Lit} (h : hasL L k = false) : getL L k = none := by
  unfold getL
  unfold hasL at h
  rw [List.find?_eq_none.2 (fun p hp => by have := List.any_eq_false.1 h p hp; simpa using this)]
  rfl
theorem getL_some {L : Ents} {k : Lit} {b : Int × Int} (h : hasL L k = true) : (getL L k).getD b = (getL L k).getD (0, 0) := by
  cases hg : getL L k with
  | some c => rfl
  | none =>
    exfalso
    unfold getL at hg
    unfold hasL at h
    obtain ⟨p, hp, hpk⟩ := List.any_eq_true.1 h
    have h2 := Option.map_eq_none_iff.1 hg
    have := List.find?_eq_none.1 h2 p hp
    exact this hpk
theorem allow_no {W w : World} {l bm K : Nat} {e1 m1 e2 m2 t n : Int} {s : LimS} {x : M6} {k : Lit} {L1 : Ents} (h : StA W l e1 m1 e2 m2 s.bt s.bk bm n L1 K x w) (hn : nowT s.tick t = n) (hL : kept e2 m2 s t = L1) (hB : allowB e1 m1 e2 m2 s k t = false) :
    LimC w l e1 m1 e2 m2 (allowS e1 m1 e2 m2 s k t).bt (allowS e1 m1 e2 m2 s k t).bk (some bm) (allowS e1 m1 e2 m2 s k t).tick ∧ MapAt w bm (allowS e1 m1 e2 m2 s k t).L ∧ Two l bm W w := by
  unfold allowS
  rw [hB, if_neg (by simp), hn, hL]
  exact ⟨h.lim, h.map, h.two⟩
theorem many_yes {e1 m1 e2 m2 t : Int} {s : LimS} {k : Lit} {L1 : Ents} (hL : kept e2 m2 s t = L1) (h1 : hasL L1 k = false) (h2 : 256 ≤ L1.length) : allowB e1 m1 e2 m2 s k t = false := by
  unfold allowB tooMany; rw [hL, h1]; simp [h2]
theorem many_no {e2 m2 t : Int} {s : LimS} {k : Lit} {L1 : Ents} (hL : kept e2 m2 s t = L1) (h : hasL L1 k = true ∨ L1.length < 256) : tooMany e2 m2 s k t = false := by
  unfold tooMany; rw [hL]
  rcases h with h | h
  · rw [h]; rfl
  · simp; intro _; omega
theorem allow_eq {e1 m1 e2 m2 t n : Int} {s : LimS} {k : Lit} {q : Int × Int} (h : tooMany e2 m2 s k t = false) (hn : nowT s.tick t = n) (hq : mine e2 m2 s k t = q) :
    allowB e1 m1 e2 m2 s k t = (tkOk e1 m1 s.bt s.bk n && tkOk e2 m2 q.1 q.2 n) := by
  unfold allowB; rw [h, hn, hq]; simp
theorem allow_yes {W w : World} {l bm : Nat} {e1 m1 e2 m2 t n : Int} {s : LimS} {k : Lit} {L1 : Ents} {q : Int × Int} (hn : nowT s.tick t = n) (hL : kept e2 m2 s t = L1) (hq : mine e2 m2 s k t = q) (hB : allowB e1 m1 e2 m2 s k t = true)
    (h1 : LimC w l e1 m1 e2 m2 (tkTok e1 m1 s.bt s.bk n) (tkTick e1 m1 s.bt s.bk n) (some bm) n) (h2 : MapAt w bm (dropL L1 k ++ [(k, (tkTok e2 m2 q.1 q.2 n, tkTick e2 m2 q.1 q.2 n))])) (h3 : Two l bm W w) :
    LimC w l e1 m1 e2 m2 (allowS e1 m1 e2 m2 s k t).bt (allowS e1 m1 e2 m2 s k t).bk (some bm) (allowS e1 m1 e2 m2 s k t).tick ∧ MapAt w bm (allowS e1 m1 e2 m2 s k t).L ∧ Two l bm W w := by
  unfold allowS
  rw [hB, if_pos rfl, hn, hL, hq]
  exact ⟨h1, h2, h3⟩
set_option maxRecDepth 100000 in
set_option maxHeartbeats 2000000 in
theorem allow_any (l bm : Nat) (e1 m1 e2 m2 : Int) (s : LimS) (x : M6) (k : Lit) (t : Int) (W : World) (hk : keyOf Try.prog 45 (.agg #[.int .u8 x.a, .int .u8 x.b, .int .u8 x.c, .int .u8 x.d, .int .u8 x.e, .int .u8 x.f]) = some k) (hc : LimC W l e1 m1 e2 m2 s.bt s.bk (some bm) s.tick) (hm : MapAt W bm s.L) (hl : s.L.length ≤ 100000) :
    Calls Try.prog 21 #[.pointer (some ⟨l, 0, none⟩), .agg #[.int .u8 x.a, .int .u8 x.b, .int .u8 x.c, .int .u8 x.d, .int .u8 x.e, .int .u8 x.f], .int .i64 t] W fun y W' => y = .returned (.bool (allowB e1 m1 e2 m2 s k t)) ∧
      LimC W' l e1 m1 e2 m2 (allowS e1 m1 e2 m2 s k t).bt (allowS e1 m1 e2 m2 s k t).bk (some bm) (allowS e1 m1 e2 m2 s k t).tick ∧ MapAt W' bm (allowS e1 m1 e2 m2 s k t).L ∧ Two l bm W W' := by
  obtain ⟨bt, bk, tick, L⟩ := s
  simp only at hc hm hl
  have HC := Lib.hid hc
  have HM := Lib.hid hm
  have hz : l < W.heap.size := lt_of_block hc
  have c0 : W.cell? ⟨l, 0, none⟩ = some (.int .i64 e1) := (cell_of_row W l 0 _ _ (0, 0) hc).trans rfl
  have c1 : W.cell? ⟨l, 1, none⟩ = some (.int .i64 m1) := (cell_of_row W l 1 _ _ (0, 0) hc).trans rfl
  have c2 : W.cell? ⟨l, 2, none⟩ = some (.int .i64 e2) := (cell_of_row W l 2 _ _ (0, 0) hc).trans rfl
  have c3 : W.cell? ⟨l, 3, none⟩ = some (.int .i64 m2) := (cell_of_row W l 3 _ _ (0, 0) hc).trans rfl
  have c4 : W.cell? ⟨l, 4, none⟩ = some (.int .i64 bt) := (cell_of_row W l 4 _ _ (0, 0) hc).trans rfl
  have c5 : W.cell? ⟨l, 5, none⟩ = some (.int .i64 bk) := (cell_of_row W l 5 _ _ (0, 0) hc).trans rfl
  have c6 : W.cell? ⟨l, 6, none⟩ = some (.map (some bm)) := (cell_of_row W l 6 _ _ (0, 0) hc).trans rfl
  have c7 : W.cell? ⟨l, 7, none⟩ = some (.int .i64 tick) := (cell_of_row W l 7 _ _ (0, 0) hc).trans rfl
  have f7 : W.frozen? ⟨l, 7, none⟩ = false := frozen_of_row W l 7 _ 63 hc
  have hne := hc.ne' hm
  have hbz := hm.lt
  have HK := Lib.hid hk
  clear hc hm hk
  go_enter Try.func21, Try.ntmps21
  cases hin : inB t tick 1099511627776
  · have HN := Lib.hid (show nowT tick t = tick by unfold nowT; rw [hin]; rfl)
    go_upto_region 6 with (first | (go_at_call 30; refine (none_no l bm _ (by first | exact c6 | (simp [go_sem, *]; done))).mono ?_; rintro e w1 ⟨rfl, rfl⟩) | (go_at_call 28; refine (within_any _ _ _ _).mono ?_; rw [hin]; rintro e w1 ⟨rfl, rfl⟩) | (go_at_call 31; refine (clean_any l bm e1 m1 e2 m2 bt bk tick L _ ((Below.heap_alloc W _ l hz).trans HC.out) (HM.out.kept (Below.heap_alloc W _ bm hbz))).mono ?_; rintro e w1 ⟨rfl, hmap, hgr⟩))
    have HST := Lib.hid (show StA W l e1 m1 e2 m2 bt bk bm tick (L.filter (keepB e2 m2 tick)) W.heap.size x w1 from
      ⟨((hgr.block l (by simp; omega) (by simpa using hne)).trans (Below.heap_alloc W _ l hz)).trans HC.out, hmap, (hgr.block _ (by simp) (by simp; omega)).trans (heap_alloc_new W _), (Two.of_below ((Below.refl _ W).alloc (Nat.le_refl _) _)).trans (Two.of_grown hgr), Nat.le_refl _⟩)
    clear hmap hgr c0 c1 c2 c3 c4 c5 c6 c7 f7
    obtain ⟨L1, hL1⟩ : ∃ L1, L.filter (keepB e2 m2 tick) = L1 := ⟨_, rfl⟩
    obtain ⟨K, hKK⟩ : ∃ K, W.heap.size = K := ⟨_, rfl⟩
    rw [hL1] at HST
    have HKT := Lib.hid (show kept e2 m2 ⟨bt, bk, tick, L⟩ t = L1 by unfold kept; rw [HN.out]; exact hL1)
    have hL1l : L1.length ≤ 100000 := by rw [← hL1]; exact Nat.le_trans (List.length_filter_le _ _) hl
    rw [hKK] at HST ⊢
    have HKK := Lib.hid hKK
    clear hL1 hKK
    have hl1 : l < w1.heap.size := lt_of_block HST.out.lim
    have hb1 : bm < w1.heap.size := HST.out.map.lt
    have hk1 : K < w1.heap.size := lt_of_block HST.out.key
    have c6 : w1.cell? ⟨l, 6, none⟩ = some (.map (some bm)) := (cell_of_row w1 l 6 _ _ (0, 0) HST.out.lim).trans rfl
    have k0 : w1.cell? ⟨K, 0, none⟩ = some (.int .u8 x.a) := (cell_of_row w1 _ 0 _ _ (0, 0) HST.out.key).trans rfl
    have k1 : w1.cell? ⟨K, 1, none⟩ = some (.int .u8 x.b) := (cell_of_row w1 _ 1 _ _ (0, 0) HST.out.key).trans rfl
    have k2 : w1.cell? ⟨K, 2, none⟩ = some (.int .u8 x.c) := (cell_of_row w1 _ 2 _ _ (0, 0) HST.out.key).trans rfl
    have k3 : w1.cell? ⟨K, 3, none⟩ = some (.int .u8 x.d) := (cell_of_row w1 _ 3 _ _ (0, 0) HST.out.key).trans rfl
    have k4 : w1.cell? ⟨K, 4, none⟩ = some (.int .u8 x.e) := (cell_of_row w1 _ 4 _ _ (0, 0) HST.out.key).trans rfl
    have k5 : w1.cell? ⟨K, 5, none⟩ = some (.int .u8 x.f) := (cell_of_row w1 _ 5 _ _ (0, 0) HST.out.key).trans rfl
    have hlook : ∀ w' : World, MapAt w' bm L1 → (Instr.lookup 61 (.map (some bm)) (.agg #[.int .u8 x.a, .int .u8 x.b, .int .u8 x.c, .int .u8 x.d, .int .u8 x.e, .int .u8 x.f]) true).run Try.prog w' = .ok (.tuple #[.agg #[.int .i64 ((getL L1 k).getD (0, 0)).1, .int .i64 ((getL L1 k).getD (0, 0)).2], .bool (hasL L1 k)]) w' := fun w' h => look_eq h HK.out
    have hmap1 := HST.out.map
    obtain ⟨g, hg⟩ : ∃ g, (getL L1 k).getD (0, 0) = g := ⟨_, rfl⟩
    rw [hg] at hlook
    have HG := Lib.hid hg
    clear hg
    go_cut [7, 8] (fun s7 s8 wx => ∃ (w2 : World) (P : Nat), w2 = wx ∧ s7 = .pointer (some ⟨P, 0, none⟩) ∧ s8 = .bool (hasL L1 k) ∧ StA W l e1 m1 e2 m2 bt bk bm tick L1 K x w2 ∧ w2.heap[P]? = some (.cells #[.int .i64 g.1, .int .i64 g.2] 25 (0, 0)) ∧ w1.heap.size ≤ P)
    case first =>
      have hk0 := hlook w1 hmap1
      have hk1 := hlook w1.drew hmap1
      have hk2 := fun o => hlook (w1.alloc o) (hmap1.kept (Below.heap_alloc _ o _ hb1))
      have hk3 := fun o => hlook (w1.alloc o).drew (hmap1.kept (Below.heap_alloc _ o _ hb1))
      clear hlook
      go_region_held3 (fun w' => w'.cell? ⟨l, 6, none⟩ = some (.map (some bm)) ∧ w'.cell? ⟨K, 0, none⟩ = some (.int .u8 x.a) ∧ w'.cell? ⟨K, 1, none⟩ = some (.int .u8 x.b) ∧ w'.cell? ⟨K, 2, none⟩ = some (.int .u8 x.c) ∧ w'.cell? ⟨K, 3, none⟩ = some (.int .u8 x.d) ∧ w'.cell? ⟨K, 4, none⟩ = some (.int .u8 x.e) ∧ w'.cell? ⟨K, 5, none⟩ = some (.int .u8 x.f)) (first | (go_keep; done) | (go_simp; done) | (simp [go_sem]; done)) (fail)
      all_goals
        go_wp2_with fail
        go_meet
        exact ⟨_, _, rfl, rfl, rfl, HST.out.grow (by (repeat (first | exact Below.refl _ _ | exact Nat.le_refl _ | (refine below_ext ?_ (by first | (simp [size_ext, grow]; done) | (simp [size_ext, grow]; omega) | omega) _ _) | (refine Below.setCell ?_ (by first | (simp [size_ext, grow]; done) | (simp [size_ext, grow]; omega) | omega) _) | (refine Below.alloc ?_ (by first | (simp [size_ext, grow]; done) | (simp [size_ext, grow]; omega) | omega) _) | refine Below.drew ?_ | refine below_drewN ?_ _ | (refine Below.trans ?_ (Below.mono (by assumption) (by first | (simp [size_ext, grow]; done) | (simp [size_ext, grow]; omega) | omega)))))), by (repeat (first | ((refine heap_alloc_at _ _ _ ?_); (simp [go_sem]; done)) | ((refine (heap_ext _ _ _ _ ?_).trans ?_); (focus (simp [go_sem]; done))) | ((refine (heap_alloc_past _ _ _ ?_).trans ?_); (focus (simp [go_sem]; done))))), Nat.le_refl _⟩
    case rest =>
      obtain ⟨w2, P, rfl, rfl, rfl, hst2, hP, hPK⟩ := hcut
      have HST2 := Lib.hid hst2
      have HP := Lib.hid hP
      have hl2 : l < w2.heap.size := lt_of_block hst2.lim
      have hb2 : bm < w2.heap.size := hst2.map.lt
      have hk2 : K < w2.heap.size := lt_of_block hst2.key
      have hp2 : P < w2.heap.size := lt_of_block hP
      have hmap2 := hst2.map
      clear hst2 hP k0 k1 k2 k3 k4 k5 c6 hlook hmap1
      have c6 : w2.cell? ⟨l, 6, none⟩ = some (.map (some bm)) := (cell_of_row w2 l 6 _ _ (0, 0) HST2.out.lim).trans rfl
      cases hh : hasL L1 k
      · have HH := Lib.hid hh
        clear hh
        by_cases hmany : 256 ≤ L1.length
        · go_wp2_with (at_len; obtain ⟨D, hr, hown⟩ := hmap2; go_loud (refine wpList_len_own _ rfl (.tmp 41) 61 rfl 45 25 (by kernel_rfl) Rb bm _ D rfl hown ?_); rw [hr.size]; clear hr hown)
          have HB := Lib.hid (many_yes (e1 := e1) (m1 := m1) HKT.out HH.out hmany)
          go_ret
          exact ⟨by rw [HB.out]; rfl, allow_no HST2.out HN.out HKT.out HB.out⟩
        · have hlt : L1.length < 256 := by omega
          have HMINE := Lib.hid (show mine e2 m2 ⟨bt, bk, tick, L⟩ k t = (m2, tick) by unfold mine; rw [HKT.out, getL_none HH.out, HN.out]; rfl)
          have HTM := Lib.hid (many_no (s := ⟨bt, bk, tick, L⟩) HKT.out (.inr hlt) : tooMany e2 m2 ⟨bt, bk, tick, L⟩ k t = false)
          have p0 : w2.cell? ⟨P, 0, none⟩ = some (.int .i64 g.1) := (cell_of_row w2 P 0 _ _ (0, 0) HP.out).trans rfl
          have p1 : w2.cell? ⟨P, 1, none⟩ = some (.int .i64 g.2) := (cell_of_row w2 P 1 _ _ (0, 0) HP.out).trans rfl
          have pf0 : w2.frozen? ⟨P, 0, none⟩ = false := frozen_of_row w2 P 0 _ 25 HP.out
          have pf1 : w2.frozen? ⟨P, 1, none⟩ = false := frozen_of_row w2 P 1 _ 25 HP.out
          have c3 : w2.cell? ⟨l, 3, none⟩ = some (.int .i64 m2) := (cell_of_row w2 l 3 _ _ (0, 0) HST2.out.lim).trans rfl
          have c7 : w2.cell? ⟨l, 7, none⟩ = some (.int .i64 tick) := (cell_of_row w2 l 7 _ _ (0, 0) HST2.out.lim).trans rfl
          have hP1l : P ≠ l := by omega
          have hP1b : P ≠ bm := by omega
          have hP1K : P ≠ K := by omega
          have hP1W : W.heap.size ≤ P := by have := HKK.out; omega
          have hPl' : l ≠ P := by omega
          have hl256 : decide ((256 : Int) ≤ (L1.length : Int)) = false := by simp; omega
          go_upto_region 10 with (at_len; obtain ⟨D, hr, hown⟩ := hmap2; go_loud (refine wpList_len_own _ rfl (.tmp 41) 61 rfl 45 25 (by kernel_rfl) Rb bm _ D rfl hown ?_); rw [hr.size]; clear hr hown)
          go_cut [] (fun wx => ∃ w3 : World, w3 = wx ∧ StA W l e1 m1 e2 m2 bt bk bm tick L1 K x w3 ∧ w3.heap[P]? = some (.cells #[.int .i64 m2, .int .i64 tick] 25 (0, 0)))
          case first =>
            go_region_held3 (fun w' => w'.cell? ⟨l, 3, none⟩ = some (.int .i64 m2) ∧ w'.cell? ⟨l, 7, none⟩ = some (.int .i64 tick)) (first | (go_keep; done) | (go_simp; done) | (simp [go_sem]; done)) (fail)
            all_goals
              go_wp2_with fail
              go_meet
              exact ⟨_, rfl, HST2.out.put2 hP1l hP1b hP1K hP1W, put2_row HP.out⟩
          case rest =>
            obtain ⟨w3, rfl, hst3, hP3⟩ := hcut
            have HST3 := Lib.hid hst3
            have HP3 := Lib.hid hP3
            clear hst3 hP3 c6 c3 c7 p0 p1 pf0 pf1 hl2 hb2 hk2 hp2
            go_upto_region 11 with (fail)
            have HSTX := HST3
            have HPX := HP3
            have hl3 : l < w3.heap.size := lt_of_block HSTX.out.lim
            have c0 : w3.cell? ⟨l, 0, none⟩ = some (.int .i64 e1) := (cell_of_row w3 l 0 _ _ (0, 0) HSTX.out.lim).trans rfl
            have c1 : w3.cell? ⟨l, 1, none⟩ = some (.int .i64 m1) := (cell_of_row w3 l 1 _ _ (0, 0) HSTX.out.lim).trans rfl
            have c2 : w3.cell? ⟨l, 2, none⟩ = some (.int .i64 e2) := (cell_of_row w3 l 2 _ _ (0, 0) HSTX.out.lim).trans rfl
            have c3 : w3.cell? ⟨l, 3, none⟩ = some (.int .i64 m2) := (cell_of_row w3 l 3 _ _ (0, 0) HSTX.out.lim).trans rfl
            have c4 : w3.cell? ⟨l, 4, none⟩ = some (.int .i64 bt) := (cell_of_row w3 l 4 _ _ (0, 0) HSTX.out.lim).trans rfl
            have c5 : w3.cell? ⟨l, 5, none⟩ = some (.int .i64 bk) := (cell_of_row w3 l 5 _ _ (0, 0) HSTX.out.lim).trans rfl
            have c6 : w3.cell? ⟨l, 6, none⟩ = some (.map (some bm)) := (cell_of_row w3 l 6 _ _ (0, 0) HSTX.out.lim).trans rfl
            have c7 : w3.cell? ⟨l, 7, none⟩ = some (.int .i64 tick) := (cell_of_row w3 l 7 _ _ (0, 0) HSTX.out.lim).trans rfl
            go_cut [9, 10] (fun s9 s10 wx => ∃ (w4 : World) (P9 : Nat), w4 = wx ∧ s9 = .pointer (some ⟨P9, 0, none⟩) ∧ s10 = .bool (tkOk e1 m1 bt bk tick) ∧ StA W l e1 m1 e2 m2 bt bk bm tick L1 K x w4 ∧ w4.heap[P]? = some (.cells #[.int .i64 m2, .int .i64 tick] 25 (0, 0)) ∧ w4.heap[P9]? = some (.cells #[.int .i64 (tkTok e1 m1 bt bk tick), .int .i64 (tkTick e1 m1 bt bk tick)] 25 (0, 0)))
            case first =>
              go_region_held3 (fun w' => w'.cell? ⟨l, 0, none⟩ = some (.int .i64 e1) ∧ w'.cell? ⟨l, 1, none⟩ = some (.int .i64 m1) ∧ w'.cell? ⟨l, 4, none⟩ = some (.int .i64 bt) ∧ w'.cell? ⟨l, 5, none⟩ = some (.int .i64 bk) ∧ w'.cell? ⟨l, 7, none⟩ = some (.int .i64 tick)) (first | (go_keep; done) | (go_simp; done) | (simp [go_sem]; done)) ((go_at_call 18; refine (take_any _ _ _ _ _ _).mono ?_; rintro e w5 ⟨rfl, hb⟩; obtain ⟨xs5, dr5, rfl⟩ := ext_of hb; clear hb))
              all_goals
                go_wp2_with fail
                go_meet
                exact ⟨_, _, rfl, rfl, rfl, HSTX.out.grow (by (repeat (first | exact Below.refl _ _ | exact Nat.le_refl _ | (refine below_ext ?_ (by first | (simp [size_ext, grow]; done) | (simp [size_ext, grow]; omega) | omega) _ _) | (refine Below.setCell ?_ (by first | (simp [size_ext, grow]; done) | (simp [size_ext, grow]; omega) | omega) _) | (refine Below.alloc ?_ (by first | (simp [size_ext, grow]; done) | (simp [size_ext, grow]; omega) | omega) _) | refine Below.drew ?_ | refine below_drewN ?_ _ | (refine Below.trans ?_ (Below.mono (by assumption) (by first | (simp [size_ext, grow]; done) | (simp [size_ext, grow]; omega) | omega)))))), (Below.block (B := w3.heap.size) (by (repeat (first | exact Below.refl _ _ | exact Nat.le_refl _ | (refine below_ext ?_ (by first | (simp [size_ext, grow]; done) | (simp [size_ext, grow]; omega) | omega) _ _) | (refine Below.setCell ?_ (by first | (simp [size_ext, grow]; done) | (simp [size_ext, grow]; omega) | omega) _) | (refine Below.alloc ?_ (by first | (simp [size_ext, grow]; done) | (simp [size_ext, grow]; omega) | omega) _) | refine Below.drew ?_ | refine below_drewN ?_ _ | (refine Below.trans ?_ (Below.mono (by assumption) (by first | (simp [size_ext, grow]; done) | (simp [size_ext, grow]; omega) | omega)))))) P (lt_of_block HPX.out)).trans HPX.out, by (repeat (first | ((refine heap_alloc_at _ _ _ ?_); (simp [go_sem]; done)) | ((refine (heap_ext _ _ _ _ ?_).trans ?_); (focus (simp [go_sem]; done))) | ((refine (heap_alloc_past _ _ _ ?_).trans ?_); (focus (simp [go_sem]; done)))))⟩
            case rest =>
              obtain ⟨w4, P9, rfl, rfl, rfl, hst4, hP4, hP9⟩ := hcut
              have HST4 := Lib.hid hst4
              have HP4 := Lib.hid hP4
              have HP9 := Lib.hid hP9
              clear hst4 hP4 hP9 HSTX HPX c0 c1 c2 c3 c4 c5 c6 c7 hl3
              have hl4 : l < w4.heap.size := lt_of_block HST4.out.lim
              have hp4 : P < w4.heap.size := lt_of_block HP4.out
              have c0 : w4.cell? ⟨l, 0, none⟩ = some (.int .i64 e1) := (cell_of_row w4 l 0 _ _ (0, 0) HST4.out.lim).trans rfl
              have c1 : w4.cell? ⟨l, 1, none⟩ = some (.int .i64 m1) := (cell_of_row w4 l 1 _ _ (0, 0) HST4.out.lim).trans rfl
              have c2 : w4.cell? ⟨l, 2, none⟩ = some (.int .i64 e2) := (cell_of_row w4 l 2 _ _ (0, 0) HST4.out.lim).trans rfl
              have c3 : w4.cell? ⟨l, 3, none⟩ = some (.int .i64 m2) := (cell_of_row w4 l 3 _ _ (0, 0) HST4.out.lim).trans rfl
              have c4 : w4.cell? ⟨l, 4, none⟩ = some (.int .i64 bt) := (cell_of_row w4 l 4 _ _ (0, 0) HST4.out.lim).trans rfl
              have c5 : w4.cell? ⟨l, 5, none⟩ = some (.int .i64 bk) := (cell_of_row w4 l 5 _ _ (0, 0) HST4.out.lim).trans rfl
              have c6 : w4.cell? ⟨l, 6, none⟩ = some (.map (some bm)) := (cell_of_row w4 l 6 _ _ (0, 0) HST4.out.lim).trans rfl
              have c7 : w4.cell? ⟨l, 7, none⟩ = some (.int .i64 tick) := (cell_of_row w4 l 7 _ _ (0, 0) HST4.out.lim).trans rfl
              have p0 : w4.cell? ⟨P, 0, none⟩ = some (.int .i64 m2) := (cell_of_row w4 P 0 _ _ (0, 0) HP4.out).trans rfl
              have p1 : w4.cell? ⟨P, 1, none⟩ = some (.int .i64 tick) := (cell_of_row w4 P 1 _ _ (0, 0) HP4.out).trans rfl
              go_upto_region 12 with (fail)
              go_cut [11, 12] (fun s9 s10 wx => ∃ (w6 : World) (P11 : Nat), w6 = wx ∧ s9 = .pointer (some ⟨P11, 0, none⟩) ∧ s10 = .bool (tkOk e2 m2 m2 tick tick) ∧ StA W l e1 m1 e2 m2 bt bk bm tick L1 K x w6 ∧ w6.heap[P9]? = some (.cells #[.int .i64 (tkTok e1 m1 bt bk tick), .int .i64 (tkTick e1 m1 bt bk tick)] 25 (0, 0)) ∧ w6.heap[P11]? = some (.cells #[.int .i64 (tkTok e2 m2 m2 tick tick), .int .i64 (tkTick e2 m2 m2 tick tick)] 25 (0, 0)))
              case first =>
                go_region_held3 (fun w' => w'.cell? ⟨l, 2, none⟩ = some (.int .i64 e2) ∧ w'.cell? ⟨l, 3, none⟩ = some (.int .i64 m2) ∧ w'.cell? ⟨l, 7, none⟩ = some (.int .i64 tick) ∧ w'.cell? ⟨P, 0, none⟩ = some (.int .i64 m2) ∧ w'.cell? ⟨P, 1, none⟩ = some (.int .i64 tick)) (first | (go_keep; done) | (go_simp; done) | (simp [go_sem]; done)) ((go_at_call 18; refine (take_any _ _ _ _ _ _).mono ?_; rintro e w5 ⟨rfl, hb⟩; obtain ⟨xs5, dr5, rfl⟩ := ext_of hb; clear hb))
                all_goals
                  go_wp2_with fail
                  go_meet
                  exact ⟨_, _, rfl, rfl, rfl, HST4.out.grow (by (repeat (first | exact Below.refl _ _ | exact Nat.le_refl _ | (refine below_ext ?_ (by first | (simp [size_ext, grow]; done) | (simp [size_ext, grow]; omega) | omega) _ _) | (refine Below.setCell ?_ (by first | (simp [size_ext, grow]; done) | (simp [size_ext, grow]; omega) | omega) _) | (refine Below.alloc ?_ (by first | (simp [size_ext, grow]; done) | (simp [size_ext, grow]; omega) | omega) _) | refine Below.drew ?_ | refine below_drewN ?_ _ | (refine Below.trans ?_ (Below.mono (by assumption) (by first | (simp [size_ext, grow]; done) | (simp [size_ext, grow]; omega) | omega)))))), (Below.block (B := w4.heap.size) (by (repeat (first | exact Below.refl _ _ | exact Nat.le_refl _ | (refine below_ext ?_ (by first | (simp [size_ext, grow]; done) | (simp [size_ext, grow]; omega) | omega) _ _) | (refine Below.setCell ?_ (by first | (simp [size_ext, grow]; done) | (simp [size_ext, grow]; omega) | omega) _) | (refine Below.alloc ?_ (by first | (simp [size_ext, grow]; done) | (simp [size_ext, grow]; omega) | omega) _) | refine Below.drew ?_ | refine below_drewN ?_ _ | (refine Below.trans ?_ (Below.mono (by assumption) (by first | (simp [size_ext, grow]; done) | (simp [size_ext, grow]; omega) | omega)))))) P9 (lt_of_block HP9.out)).trans HP9.out, by (repeat (first | ((refine heap_alloc_at _ _ _ ?_); (simp [go_sem]; done)) | ((refine (heap_ext _ _ _ _ ?_).trans ?_); (focus (simp [go_sem]; done))) | ((refine (heap_alloc_past _ _ _ ?_).trans ?_); (focus (simp [go_sem]; done)))))⟩
              case rest =>
                obtain ⟨w6, P11, rfl, rfl, rfl, hst6, hP9, hP11⟩ := hcut
                have HST6 := Lib.hid hst6
                have HP96 := Lib.hid hP9
                have HP11 := Lib.hid hP11
                clear hst6 hP9 hP11 c0 c1 c2 c3 c4 c5 c6 c7 p0 p1 hl4 hp4
                have HAE := Lib.hid (allow_eq (e1 := e1) (m1 := m1) (s := ⟨bt, bk, tick, L⟩) HTM.out HN.out HMINE.out)
                simp only at HAE
                cases ha : tkOk e1 m1 bt bk tick
                · have HB := Lib.hid (show allowB e1 m1 e2 m2 ⟨bt, bk, tick, L⟩ k t = false by rw [HAE.out, ha]; rfl)
                  clear ha
                  go_wp2_with fail
                  go_ret
                  exact ⟨by rw [HB.out]; rfl, allow_no HST6.out HN.out HKT.out HB.out⟩
                · cases hb : tkOk e2 m2 m2 tick tick
                  · have HB := Lib.hid (show allowB e1 m1 e2 m2 ⟨bt, bk, tick, L⟩ k t = false by rw [HAE.out, hb]; simp)
                    clear hb
                    go_wp2_with fail
                    go_ret
                    exact ⟨by rw [HB.out]; rfl, allow_no HST6.out HN.out HKT.out HB.out⟩
                  · have HB := Lib.hid (show allowB e1 m1 e2 m2 ⟨bt, bk, tick, L⟩ k t = true by rw [HAE.out, ha, hb]; rfl)
                    go_upto_region 15 with (fail)
                    have hl6 : l < w6.heap.size := lt_of_block HST6.out.lim
                    have hb6 : bm < w6.heap.size := HST6.out.map.lt
                    have c6 : w6.cell? ⟨l, 6, none⟩ = some (.map (some bm)) := (cell_of_row w6 l 6 _ _ (0, 0) HST6.out.lim).trans rfl
                    have f4 : w6.frozen? ⟨l, 4, none⟩ = false := frozen_of_row w6 l 4 _ 63 HST6.out.lim
                    have f5 : w6.frozen? ⟨l, 5, none⟩ = false := frozen_of_row w6 l 5 _ 63 HST6.out.lim
                    have c4 : w6.cell? ⟨l, 4, none⟩ = some (.int .i64 bt) := (cell_of_row w6 l 4 _ _ (0, 0) HST6.out.lim).trans rfl
                    have c5 : w6.cell? ⟨l, 5, none⟩ = some (.int .i64 bk) := (cell_of_row w6 l 5 _ _ (0, 0) HST6.out.lim).trans rfl
                    have k0 : w6.cell? ⟨K, 0, none⟩ = some (.int .u8 x.a) := (cell_of_row w6 _ 0 _ _ (0, 0) HST6.out.key).trans rfl
                    have k1 : w6.cell? ⟨K, 1, none⟩ = some (.int .u8 x.b) := (cell_of_row w6 _ 1 _ _ (0, 0) HST6.out.key).trans rfl
                    have k2 : w6.cell? ⟨K, 2, none⟩ = some (.int .u8 x.c) := (cell_of_row w6 _ 2 _ _ (0, 0) HST6.out.key).trans rfl
                    have k3 : w6.cell? ⟨K, 3, none⟩ = some (.int .u8 x.d) := (cell_of_row w6 _ 3 _ _ (0, 0) HST6.out.key).trans rfl
                    have k4 : w6.cell? ⟨K, 4, none⟩ = some (.int .u8 x.e) := (cell_of_row w6 _ 4 _ _ (0, 0) HST6.out.key).trans rfl
                    have k5 : w6.cell? ⟨K, 5, none⟩ = some (.int .u8 x.f) := (cell_of_row w6 _ 5 _ _ (0, 0) HST6.out.key).trans rfl
                    have p0 : w6.cell? ⟨P9, 0, none⟩ = some (.int .i64 (tkTok e1 m1 bt bk tick)) := (cell_of_row w6 P9 0 _ _ (0, 0) HP96.out).trans rfl
                    have p1 : w6.cell? ⟨P9, 1, none⟩ = some (.int .i64 (tkTick e1 m1 bt bk tick)) := (cell_of_row w6 P9 1 _ _ (0, 0) HP96.out).trans rfl
                    have r0 : w6.cell? ⟨P11, 0, none⟩ = some (.int .i64 (tkTok e2 m2 m2 tick tick)) := (cell_of_row w6 P11 0 _ _ (0, 0) HP11.out).trans rfl
                    have r1 : w6.cell? ⟨P11, 1, none⟩ = some (.int .i64 (tkTick e2 m2 m2 tick tick)) := (cell_of_row w6 P11 1 _ _ (0, 0) HP11.out).trans rfl
                    obtain ⟨W7, hW7⟩ : ∃ W7, W7 = ((w6.setCell ⟨l, 4, none⟩ (.int .i64 (tkTok e1 m1 bt bk tick))).setCell ⟨l, 5, none⟩ (.int .i64 (tkTick e1 m1 bt bk tick))).drew := ⟨_, rfl⟩
                    have HM7 := Lib.hid (show MapAt W7 bm L1 by rw [hW7]; exact (HST6.out.map.kept (Below.heap_setCell _ _ _ _ (by simp; omega))).kept (Below.heap_setCell _ _ _ _ (by simp; omega)))
                    have HC7 := Lib.hid (show LimC W7 l e1 m1 e2 m2 (tkTok e1 m1 bt bk tick) (tkTick e1 m1 bt bk tick) (some bm) tick by rw [hW7]; exact limC_bucket HST6.out.lim)
                    have HT7 := Lib.hid (show Two l bm W W7 by rw [hW7]; exact ⟨HST6.out.two.os, HST6.out.two.tape, HST6.out.two.output, by have := HST6.out.two.size; simpa using this, fun i h1 h2 h3 => ((HST6.out.two.store _).store _).block i h1 h2 h3⟩)
                    obtain ⟨v0, st, W8, hrun, hg8, hs8, hfill⟩ := entry_laid HM7.out (by omega) HK.out
                    obtain ⟨W9, hrun9, hm9, hg9⟩ := hfill W8 (tkTok e2 m2 m2 tick tick) (tkTick e2 m2 m2 tick tick) rfl
                    have HT9 := Lib.hid ((HT7.out.trans (Two.of_grown hg8)).trans (Two.of_grown hg9))
                    have HC9 := Lib.hid (show LimC W9 l e1 m1 e2 m2 (tkTok e1 m1 bt bk tick) (tkTick e1 m1 bt bk tick) (some bm) tick from (hg9.block l (by rw [hs8]; exact lt_of_block HC7.out) (by simpa using hne)).trans ((hg8.block l (lt_of_block HC7.out) (by simpa using hne)).trans HC7.out))
                    have HM9 := Lib.hid hm9
                    have hKb : K ≠ bm := fun e => HST6.out.map.ne_cells (by rw [← e]; exact HST6.out.key)
                    have h9b : P9 ≠ bm := fun e => HST6.out.map.ne_cells (by rw [← e]; exact HP96.out)
                    have h11b : P11 ≠ bm := fun e => HST6.out.map.ne_cells (by rw [← e]; exact HP11.out)
                    have hKl : K ≠ l := by have := HKK.out; omega
                    have old : ∀ i, i < w6.heap.size → i ≠ l → i ≠ bm → W8.heap[i]? = w6.heap[i]? ∧ W9.heap[i]? = w6.heap[i]? := fun i h1 h2 h3 => by
                      have e7 : W7.heap[i]? = w6.heap[i]? := by rw [hW7]; exact (Below.heap_setCell _ _ _ _ (by simpa using h2)).trans (Below.heap_setCell _ _ _ _ (by simpa using h2))
                      have s7 : W7.heap.size = w6.heap.size := by rw [hW7]; simp
                      have e8 : W8.heap[i]? = w6.heap[i]? := (hg8.block i (by omega) (by simpa using h3)).trans e7
                      exact ⟨e8, (hg9.block i (by omega) (by simpa using h3)).trans e8⟩
                    have hl9 : P9 ≠ l := fun e => by have h1 := HP96.out; have h2 := HST6.out.lim; unfold LimC at h2; rw [e, h2] at h1; simp at h1
                    have hl11 : P11 ≠ l := fun e => by have h1 := HP11.out; have h2 := HST6.out.lim; unfold LimC at h2; rw [e, h2] at h1; simp at h1
                    have kk08 : W8.cell? ⟨K, 0, none⟩ = some (.int .u8 x.a) := (World.cell?_of_block (w := w6) (a := ⟨K, 0, none⟩) (old K (lt_of_block HST6.out.key) hKl hKb).1).trans k0
                    have kk18 : W8.cell? ⟨K, 1, none⟩ = some (.int .u8 x.b) := (World.cell?_of_block (w := w6) (a := ⟨K, 1, none⟩) (old K (lt_of_block HST6.out.key) hKl hKb).1).trans k1
                    have kk28 : W8.cell? ⟨K, 2, none⟩ = some (.int .u8 x.c) := (World.cell?_of_block (w := w6) (a := ⟨K, 2, none⟩) (old K (lt_of_block HST6.out.key) hKl hKb).1).trans k2
                    have kk38 : W8.cell? ⟨K, 3, none⟩ = some (.int .u8 x.d) := (World.cell?_of_block (w := w6) (a := ⟨K, 3, none⟩) (old K (lt_of_block HST6.out.key) hKl hKb).1).trans k3
                    have kk48 : W8.cell? ⟨K, 4, none⟩ = some (.int .u8 x.e) := (World.cell?_of_block (w := w6) (a := ⟨K, 4, none⟩) (old K (lt_of_block HST6.out.key) hKl hKb).1).trans k4
                    have kk58 : W8.cell? ⟨K, 5, none⟩ = some (.int .u8 x.f) := (World.cell?_of_block (w := w6) (a := ⟨K, 5, none⟩) (old K (lt_of_block HST6.out.key) hKl hKb).1).trans k5
                    have pp08 := (World.cell?_of_block (w := w6) (a := ⟨P9, 0, none⟩) (old P9 (lt_of_block HP96.out) hl9 h9b).1).trans p0
                    have pp18 := (World.cell?_of_block (w := w6) (a := ⟨P9, 1, none⟩) (old P9 (lt_of_block HP96.out) hl9 h9b).1).trans p1
                    have rr08 := (World.cell?_of_block (w := w6) (a := ⟨P11, 0, none⟩) (old P11 (lt_of_block HP11.out) hl11 h11b).1).trans r0
                    have rr18 := (World.cell?_of_block (w := w6) (a := ⟨P11, 1, none⟩) (old P11 (lt_of_block HP11.out) hl11 h11b).1).trans r1
                    have kk09 : W9.cell? ⟨K, 0, none⟩ = some (.int .u8 x.a) := (World.cell?_of_block (w := w6) (a := ⟨K, 0, none⟩) (old K (lt_of_block HST6.out.key) hKl hKb).2).trans k0
                    have kk19 : W9.cell? ⟨K, 1, none⟩ = some (.int .u8 x.b) := (World.cell?_of_block (w := w6) (a := ⟨K, 1, none⟩) (old K (lt_of_block HST6.out.key) hKl hKb).2).trans k1
                    have kk29 : W9.cell? ⟨K, 2, none⟩ = some (.int .u8 x.c) := (World.cell?_of_block (w := w6) (a := ⟨K, 2, none⟩) (old K (lt_of_block HST6.out.key) hKl hKb).2).trans k2
                    have kk39 : W9.cell? ⟨K, 3, none⟩ = some (.int .u8 x.d) := (World.cell?_of_block (w := w6) (a := ⟨K, 3, none⟩) (old K (lt_of_block HST6.out.key) hKl hKb).2).trans k3
                    have kk49 : W9.cell? ⟨K, 4, none⟩ = some (.int .u8 x.e) := (World.cell?_of_block (w := w6) (a := ⟨K, 4, none⟩) (old K (lt_of_block HST6.out.key) hKl hKb).2).trans k4
                    have kk59 : W9.cell? ⟨K, 5, none⟩ = some (.int .u8 x.f) := (World.cell?_of_block (w := w6) (a := ⟨K, 5, none⟩) (old K (lt_of_block HST6.out.key) hKl hKb).2).trans k5
                    have pp09 := (World.cell?_of_block (w := w6) (a := ⟨P9, 0, none⟩) (old P9 (lt_of_block HP96.out) hl9 h9b).2).trans p0
                    have pp19 := (World.cell?_of_block (w := w6) (a := ⟨P9, 1, none⟩) (old P9 (lt_of_block HP96.out) hl9 h9b).2).trans p1
                    have rr09 := (World.cell?_of_block (w := w6) (a := ⟨P11, 0, none⟩) (old P11 (lt_of_block HP11.out) hl11 h11b).2).trans r0
                    have rr19 := (World.cell?_of_block (w := w6) (a := ⟨P11, 1, none⟩) (old P11 (lt_of_block HP11.out) hl11 h11b).2).trans r1
                    have c68 : W8.cell? ⟨l, 6, none⟩ = some (.map (some bm)) := (cell_of_row W8 l 6 _ _ (0, 0) ((hg8.block l (lt_of_block HC7.out) (by simpa using hne)).trans HC7.out)).trans rfl
                    have c69 : W9.cell? ⟨l, 6, none⟩ = some (.map (some bm)) := (cell_of_row W9 l 6 _ _ (0, 0) HC9.out).trans rfl
                    rw [hW7] at hrun
                    clear hW7 hg8 hs8 hfill hg9 hm9 old HM7 HC7 HT7
                    go_region_held3 (fun w' => w'.cell? ⟨l, 6, none⟩ = some (.map (some bm)) ∧ w'.cell? ⟨K, 0, none⟩ = some (.int .u8 x.a) ∧ w'.cell? ⟨K, 1, none⟩ = some (.int .u8 x.b) ∧ w'.cell? ⟨K, 2, none⟩ = some (.int .u8 x.c) ∧ w'.cell? ⟨K, 3, none⟩ = some (.int .u8 x.d) ∧ w'.cell? ⟨K, 4, none⟩ = some (.int .u8 x.e) ∧ w'.cell? ⟨K, 5, none⟩ = some (.int .u8 x.f) ∧ w'.cell? ⟨P9, 0, none⟩ = some (.int .i64 (tkTok e1 m1 bt bk tick)) ∧ w'.cell? ⟨P9, 1, none⟩ = some (.int .i64 (tkTick e1 m1 bt bk tick)) ∧ w'.cell? ⟨P11, 0, none⟩ = some (.int .i64 (tkTok e2 m2 m2 tick tick)) ∧ w'.cell? ⟨P11, 1, none⟩ = some (.int .i64 (tkTick e2 m2 m2 tick tick))) (first | (go_keep; done) | (go_simp; done) | (simp [go_sem]; done)) (fail)
                    all_goals
                      go_wp2_with fail
                      go_ret
                      exact ⟨by rw [HB.out]; rfl, allow_yes HN.out HKT.out HMINE.out HB.out HC9.out HM9.out HT9.out⟩
      · have HMINE := Lib.hid (show mine e2 m2 ⟨bt, bk, tick, L⟩ k t = g by unfold mine; rw [HKT.out, ← HG.out]; exact getL_some hh)
        have HTM := Lib.hid (many_no (s := ⟨bt, bk, tick, L⟩) HKT.out (.inl hh) : tooMany e2 m2 ⟨bt, bk, tick, L⟩ k t = false)
        go_upto_region 11 with (fail)
        have HSTX := HST2
        have HPX := HP
        have hl3 : l < w2.heap.size := lt_of_block HSTX.out.lim
        have c0 : w2.cell? ⟨l, 0, none⟩ = some (.int .i64 e1) := (cell_of_row w2 l 0 _ _ (0, 0) HSTX.out.lim).trans rfl
        have c1 : w2.cell? ⟨l, 1, none⟩ = some (.int .i64 m1) := (cell_of_row w2 l 1 _ _ (0, 0) HSTX.out.lim).trans rfl
        have c2 : w2.cell? ⟨l, 2, none⟩ = some (.int .i64 e2) := (cell_of_row w2 l 2 _ _ (0, 0) HSTX.out.lim).trans rfl
        have c3 : w2.cell? ⟨l, 3, none⟩ = some (.int .i64 m2) := (cell_of_row w2 l 3 _ _ (0, 0) HSTX.out.lim).trans rfl
        have c4 : w2.cell? ⟨l, 4, none⟩ = some (.int .i64 bt) := (cell_of_row w2 l 4 _ _ (0, 0) HSTX.out.lim).trans rfl
        have c5 : w2.cell? ⟨l, 5, none⟩ = some (.int .i64 bk) := (cell_of_row w2 l 5 _ _ (0, 0) HSTX.out.lim).trans rfl
        have c6 : w2.cell? ⟨l, 6, none⟩ = some (.map (some bm)) := (cell_of_row w2 l 6 _ _ (0, 0) HSTX.out.lim).trans rfl
        have c7 : w2.cell? ⟨l, 7, none⟩ = some (.int .i64 tick) := (cell_of_row w2 l 7 _ _ (0, 0) HSTX.out.lim).trans rfl
        go_cut [9, 10] (fun s9 s10 wx => ∃ (w4 : World) (P9 : Nat), w4 = wx ∧ s9 = .pointer (some ⟨P9, 0, none⟩) ∧ s10 = .bool (tkOk e1 m1 bt bk tick) ∧ StA W l e1 m1 e2 m2 bt bk bm tick L1 K x w4 ∧ w4.heap[P]? = some (.cells #[.int .i64 g.1, .int .i64 g.2] 25 (0, 0)) ∧ w4.heap[P9]? = some (.cells #[.int .i64 (tkTok e1 m1 bt bk tick), .int .i64 (tkTick e1 m1 bt bk tick)] 25 (0, 0)))
        case first =>
          go_region_held3 (fun w' => w'.cell? ⟨l, 0, none⟩ = some (.int .i64 e1) ∧ w'.cell? ⟨l, 1, none⟩ = some (.int .i64 m1) ∧ w'.cell? ⟨l, 4, none⟩ = some (.int .i64 bt) ∧ w'.cell? ⟨l, 5, none⟩ = some (.int .i64 bk) ∧ w'.cell? ⟨l, 7, none⟩ = some (.int .i64 tick)) (first | (go_keep; done) | (go_simp; done) | (simp [go_sem]; done)) ((go_at_call 18; refine (take_any _ _ _ _ _ _).mono ?_; rintro e w5 ⟨rfl, hb⟩; obtain ⟨xs5, dr5, rfl⟩ := ext_of hb; clear hb))
          all_goals
            go_wp2_with fail
            go_meet
            exact ⟨_, _, rfl, rfl, rfl, HSTX.out.grow (by (repeat (first | exact Below.refl _ _ | exact Nat.le_refl _ | (refine below_ext ?_ (by first | (simp [size_ext, grow]; done) | (simp [size_ext, grow]; omega) | omega) _ _) | (refine Below.setCell ?_ (by first | (simp [size_ext, grow]; done) | (simp [size_ext, grow]; omega) | omega) _) | (refine Below.alloc ?_ (by first | (simp [size_ext, grow]; done) | (simp [size_ext, grow]; omega) | omega) _) | refine Below.drew ?_ | refine below_drewN ?_ _ | (refine Below.trans ?_ (Below.mono (by assumption) (by first | (simp [size_ext, grow]; done) | (simp [size_ext, grow]; omega) | omega)))))), (Below.block (B := w2.heap.size) (by (repeat (first | exact Below.refl _ _ | exact Nat.le_refl _ | (refine below_ext ?_ (by first | (simp [size_ext, grow]; done) | (simp [size_ext, grow]; omega) | omega) _ _) | (refine Below.setCell ?_ (by first | (simp [size_ext, grow]; done) | (simp [size_ext, grow]; omega) | omega) _) | (refine Below.alloc ?_ (by first | (simp [size_ext, grow]; done) | (simp [size_ext, grow]; omega) | omega) _) | refine Below.drew ?_ | refine below_drewN ?_ _ | (refine Below.trans ?_ (Below.mono (by assumption) (by first | (simp [size_ext, grow]; done) | (simp [size_ext, grow]; omega) | omega)))))) P (lt_of_block HPX.out)).trans HPX.out, by (repeat (first | ((refine heap_alloc_at _ _ _ ?_); (simp [go_sem]; done)) | ((refine (heap_ext _ _ _ _ ?_).trans ?_); (focus (simp [go_sem]; done))) | ((refine (heap_alloc_past _ _ _ ?_).trans ?_); (focus (simp [go_sem]; done)))))⟩
        case rest =>
          obtain ⟨w4, P9, rfl, rfl, rfl, hst4, hP4, hP9⟩ := hcut
          have HST4 := Lib.hid hst4
          have HP4 := Lib.hid hP4
          have HP9 := Lib.hid hP9
          clear hst4 hP4 hP9 HSTX HPX c0 c1 c2 c3 c4 c5 c6 c7 hl3
          have hl4 : l < w4.heap.size := lt_of_block HST4.out.lim
          have hp4 : P < w4.heap.size := lt_of_block HP4.out
          have c0 : w4.cell? ⟨l, 0, none⟩ = some (.int .i64 e1) := (cell_of_row w4 l 0 _ _ (0, 0) HST4.out.lim).trans rfl
          have c1 : w4.cell? ⟨l, 1, none⟩ = some (.int .i64 m1) := (cell_of_row w4 l 1 _ _ (0, 0) HST4.out.lim).trans rfl
          have c2 : w4.cell? ⟨l, 2, none⟩ = some (.int .i64 e2) := (cell_of_row w4 l 2 _ _ (0, 0) HST4.out.lim).trans rfl
          have c3 : w4.cell? ⟨l, 3, none⟩ = some (.int .i64 m2) := (cell_of_row w4 l 3 _ _ (0, 0) HST4.out.lim).trans rfl
          have c4 : w4.cell? ⟨l, 4, none⟩ = some (.int .i64 bt) := (cell_of_row w4 l 4 _ _ (0, 0) HST4.out.lim).trans rfl
          have c5 : w4.cell? ⟨l, 5, none⟩ = some (.int .i64 bk) := (cell_of_row w4 l 5 _ _ (0, 0) HST4.out.lim).trans rfl
          have c6 : w4.cell? ⟨l, 6, none⟩ = some (.map (some bm)) := (cell_of_row w4 l 6 _ _ (0, 0) HST4.out.lim).trans rfl
          have c7 : w4.cell? ⟨l, 7, none⟩ = some (.int .i64 tick) := (cell_of_row w4 l 7 _ _ (0, 0) HST4.out.lim).trans rfl
          have p0 : w4.cell? ⟨P, 0, none⟩ = some (.int .i64 g.1) := (cell_of_row w4 P 0 _ _ (0, 0) HP4.out).trans rfl
          have p1 : w4.cell? ⟨P, 1, none⟩ = some (.int .i64 g.2) := (cell_of_row w4 P 1 _ _ (0, 0) HP4.out).trans rfl
          go_upto_region 12 with (fail)
          go_cut [11, 12] (fun s9 s10 wx => ∃ (w6 : World) (P11 : Nat), w6 = wx ∧ s9 = .pointer (some ⟨P11, 0, none⟩) ∧ s10 = .bool (tkOk e2 m2 g.1 g.2 tick) ∧ StA W l e1 m1 e2 m2 bt bk bm tick L1 K x w6 ∧ w6.heap[P9]? = some (.cells #[.int .i64 (tkTok e1 m1 bt bk tick), .int .i64 (tkTick e1 m1 bt bk tick)] 25 (0, 0)) ∧ w6.heap[P11]? = some (.cells #[.int .i64 (tkTok e2 m2 g.1 g.2 tick), .int .i64 (tkTick e2 m2 g.1 g.2 tick)] 25 (0, 0)))
          case first =>
            go_region_held3 (fun w' => w'.cell? ⟨l, 2, none⟩ = some (.int .i64 e2) ∧ w'.cell? ⟨l, 3, none⟩ = some (.int .i64 m2) ∧ w'.cell? ⟨l, 7, none⟩ = some (.int .i64 tick) ∧ w'.cell? ⟨P, 0, none⟩ = some (.int .i64 g.1) ∧ w'.cell? ⟨P, 1, none⟩ = some (.int .i64 g.2)) (first | (go_keep; done) | (go_simp; done) | (simp [go_sem]; done)) ((go_at_call 18; refine (take_any _ _ _ _ _ _).mono ?_; rintro e w5 ⟨rfl, hb⟩; obtain ⟨xs5, dr5, rfl⟩ := ext_of hb; clear hb))
            all_goals
              go_wp2_with fail
              go_meet
              exact ⟨_, _, rfl, rfl, rfl, HST4.out.grow (by (repeat (first | exact Below.refl _ _ | exact Nat.le_refl _ | (refine below_ext ?_ (by first | (simp [size_ext, grow]; done) | (simp [size_ext, grow]; omega) | omega) _ _) | (refine Below.setCell ?_ (by first | (simp [size_ext, grow]; done) | (simp [size_ext, grow]; omega) | omega) _) | (refine Below.alloc ?_ (by first | (simp [size_ext, grow]; done) | (simp [size_ext, grow]; omega) | omega) _) | refine Below.drew ?_ | refine below_drewN ?_ _ | (refine Below.trans ?_ (Below.mono (by assumption) (by first | (simp [size_ext, grow]; done) | (simp [size_ext, grow]; omega) | omega)))))), (Below.block (B := w4.heap.size) (by (repeat (first | exact Below.refl _ _ | exact Nat.le_refl _ | (refine below_ext ?_ (by first | (simp [size_ext, grow]; done) | (simp [size_ext, grow]; omega) | omega) _ _) | (refine Below.setCell ?_ (by first | (simp [size_ext, grow]; done) | (simp [size_ext, grow]; omega) | omega) _) | (refine Below.alloc ?_ (by first | (simp [size_ext, grow]; done) | (simp [size_ext, grow]; omega) | omega) _) | refine Below.drew ?_ | refine below_drewN ?_ _ | (refine Below.trans ?_ (Below.mono (by assumption) (by first | (simp [size_ext, grow]; done) | (simp [size_ext, grow]; omega) | omega)))))) P9 (lt_of_block HP9.out)).trans HP9.out, by (repeat (first | ((refine heap_alloc_at _ _ _ ?_); (simp [go_sem]; done)) | ((refine (heap_ext _ _ _ _ ?_).trans ?_); (focus (simp [go_sem]; done))) | ((refine (heap_alloc_past _ _ _ ?_).trans ?_); (focus (simp [go_sem]; done)))))⟩
          case rest =>
            obtain ⟨w6, P11, rfl, rfl, rfl, hst6, hP9, hP11⟩ := hcut
            have HST6 := Lib.hid hst6
            have HP96 := Lib.hid hP9
            have HP11 := Lib.hid hP11
            clear hst6 hP9 hP11 c0 c1 c2 c3 c4 c5 c6 c7 p0 p1 hl4 hp4
            have HAE := Lib.hid (allow_eq (e1 := e1) (m1 := m1) (s := ⟨bt, bk, tick, L⟩) HTM.out HN.out HMINE.out)
            simp only at HAE
            cases ha : tkOk e1 m1 bt bk tick
            · have HB := Lib.hid (show allowB e1 m1 e2 m2 ⟨bt, bk, tick, L⟩ k t = false by rw [HAE.out, ha]; rfl)
              clear ha
              go_wp2_with fail
              go_ret
              exact ⟨by rw [HB.out]; rfl, allow_no HST6.out HN.out HKT.out HB.out⟩
            · cases hb : tkOk e2 m2 g.1 g.2 tick
              · have HB := Lib.hid (show allowB e1 m1 e2 m2 ⟨bt, bk, tick, L⟩ k t = false by rw [HAE.out, hb]; simp)
                clear hb
                go_wp2_with fail
                go_ret
                exact ⟨by rw [HB.out]; rfl, allow_no HST6.out HN.out HKT.out HB.out⟩
              · have HB := Lib.hid (show allowB e1 m1 e2 m2 ⟨bt, bk, tick, L⟩ k t = true by rw [HAE.out, ha, hb]; rfl)
                go_upto_region 15 with (fail)
                have hl6 : l < w6.heap.size := lt_of_block HST6.out.lim
                have hb6 : bm < w6.heap.size := HST6.out.map.lt
                have c6 : w6.cell? ⟨l, 6, none⟩ = some (.map (some bm)) := (cell_of_row w6 l 6 _ _ (0, 0) HST6.out.lim).trans rfl
                have f4 : w6.frozen? ⟨l, 4, none⟩ = false := frozen_of_row w6 l 4 _ 63 HST6.out.lim
                have f5 : w6.frozen? ⟨l, 5, none⟩ = false := frozen_of_row w6 l 5 _ 63 HST6.out.lim
                have c4 : w6.cell? ⟨l, 4, none⟩ = some (.int .i64 bt) := (cell_of_row w6 l 4 _ _ (0, 0) HST6.out.lim).trans rfl
                have c5 : w6.cell? ⟨l, 5, none⟩ = some (.int .i64 bk) := (cell_of_row w6 l 5 _ _ (0, 0) HST6.out.lim).trans rfl
                have k0 : w6.cell? ⟨K, 0, none⟩ = some (.int .u8 x.a) := (cell_of_row w6 _ 0 _ _ (0, 0) HST6.out.key).trans rfl
                have k1 : w6.cell? ⟨K, 1, none⟩ = some (.int .u8 x.b) := (cell_of_row w6 _ 1 _ _ (0, 0) HST6.out.key).trans rfl
                have k2 : w6.cell? ⟨K, 2, none⟩ = some (.int .u8 x.c) := (cell_of_row w6 _ 2 _ _ (0, 0) HST6.out.key).trans rfl
                have k3 : w6.cell? ⟨K, 3, none⟩ = some (.int .u8 x.d) := (cell_of_row w6 _ 3 _ _ (0, 0) HST6.out.key).trans rfl
                have k4 : w6.cell? ⟨K, 4, none⟩ = some (.int .u8 x.e) := (cell_of_row w6 _ 4 _ _ (0, 0) HST6.out.key).trans rfl
                have k5 : w6.cell? ⟨K, 5, none⟩ = some (.int .u8 x.f) := (cell_of_row w6 _ 5 _ _ (0, 0) HST6.out.key).trans rfl
                have p0 : w6.cell? ⟨P9, 0, none⟩ = some (.int .i64 (tkTok e1 m1 bt bk tick)) := (cell_of_row w6 P9 0 _ _ (0, 0) HP96.out).trans rfl
                have p1 : w6.cell? ⟨P9, 1, none⟩ = some (.int .i64 (tkTick e1 m1 bt bk tick)) := (cell_of_row w6 P9 1 _ _ (0, 0) HP96.out).trans rfl
                have r0 : w6.cell? ⟨P11, 0, none⟩ = some (.int .i64 (tkTok e2 m2 g.1 g.2 tick)) := (cell_of_row w6 P11 0 _ _ (0, 0) HP11.out).trans rfl
                have r1 : w6.cell? ⟨P11, 1, none⟩ = some (.int .i64 (tkTick e2 m2 g.1 g.2 tick)) := (cell_of_row w6 P11 1 _ _ (0, 0) HP11.out).trans rfl
                obtain ⟨W7, hW7⟩ : ∃ W7, W7 = ((w6.setCell ⟨l, 4, none⟩ (.int .i64 (tkTok e1 m1 bt bk tick))).setCell ⟨l, 5, none⟩ (.int .i64 (tkTick e1 m1 bt bk tick))).drew := ⟨_, rfl⟩
                have HM7 := Lib.hid (show MapAt W7 bm L1 by rw [hW7]; exact (HST6.out.map.kept (Below.heap_setCell _ _ _ _ (by simp; omega))).kept (Below.heap_setCell _ _ _ _ (by simp; omega)))
                have HC7 := Lib.hid (show LimC W7 l e1 m1 e2 m2 (tkTok e1 m1 bt bk tick) (tkTick e1 m1 bt bk tick) (some bm) tick by rw [hW7]; exact limC_bucket HST6.out.lim)
                have HT7 := Lib.hid (show Two l bm W W7 by rw [hW7]; exact ⟨HST6.out.two.os, HST6.out.two.tape, HST6.out.two.output, by have := HST6.out.two.size; simpa using this, fun i h1 h2 h3 => ((HST6.out.two.store _).store _).block i h1 h2 h3⟩)
                obtain ⟨v0, st, W8, hrun, hg8, hs8, hfill⟩ := entry_laid HM7.out (by omega) HK.out
                obtain ⟨W9, hrun9, hm9, hg9⟩ := hfill W8 (tkTok e2 m2 g.1 g.2 tick) (tkTick e2 m2 g.1 g.2 tick) rfl
                have HT9 := Lib.hid ((HT7.out.trans (Two.of_grown hg8)).trans (Two.of_grown hg9))
                have HC9 := Lib.hid (show LimC W9 l e1 m1 e2 m2 (tkTok e1 m1 bt bk tick) (tkTick e1 m1 bt bk tick) (some bm) tick from (hg9.block l (by rw [hs8]; exact lt_of_block HC7.out) (by simpa using hne)).trans ((hg8.block l (lt_of_block HC7.out) (by simpa using hne)).trans HC7.out))
                have HM9 := Lib.hid hm9
                have hKb : K ≠ bm := fun e => HST6.out.map.ne_cells (by rw [← e]; exact HST6.out.key)
                have h9b : P9 ≠ bm := fun e => HST6.out.map.ne_cells (by rw [← e]; exact HP96.out)
                have h11b : P11 ≠ bm := fun e => HST6.out.map.ne_cells (by rw [← e]; exact HP11.out)
                have hKl : K ≠ l := by have := HKK.out; omega
                have old : ∀ i, i < w6.heap.size → i ≠ l → i ≠ bm → W8.heap[i]? = w6.heap[i]? ∧ W9.heap[i]? = w6.heap[i]? := fun i h1 h2 h3 => by
                  have e7 : W7.heap[i]? = w6.heap[i]? := by rw [hW7]; exact (Below.heap_setCell _ _ _ _ (by simpa using h2)).trans (Below.heap_setCell _ _ _ _ (by simpa using h2))
                  have s7 : W7.heap.size = w6.heap.size := by rw [hW7]; simp
                  have e8 : W8.heap[i]? = w6.heap[i]? := (hg8.block i (by omega) (by simpa using h3)).trans e7
                  exact ⟨e8, (hg9.block i (by omega) (by simpa using h3)).trans e8⟩
                have hl9 : P9 ≠ l := fun e => by have h1 := HP96.out; have h2 := HST6.out.lim; unfold LimC at h2; rw [e, h2] at h1; simp at h1
                have hl11 : P11 ≠ l := fun e => by have h1 := HP11.out; have h2 := HST6.out.lim; unfold LimC at h2; rw [e, h2] at h1; simp at h1
                have kk08 : W8.cell? ⟨K, 0, none⟩ = some (.int .u8 x.a) := (World.cell?_of_block (w := w6) (a := ⟨K, 0, none⟩) (old K (lt_of_block HST6.out.key) hKl hKb).1).trans k0
                have kk18 : W8.cell? ⟨K, 1, none⟩ = some (.int .u8 x.b) := (World.cell?_of_block (w := w6) (a := ⟨K, 1, none⟩) (old K (lt_of_block HST6.out.key) hKl hKb).1).trans k1
                have kk28 : W8.cell? ⟨K, 2, none⟩ = some (.int .u8 x.c) := (World.cell?_of_block (w := w6) (a := ⟨K, 2, none⟩) (old K (lt_of_block HST6.out.key) hKl hKb).1).trans k2
                have kk38 : W8.cell? ⟨K, 3, none⟩ = some (.int .u8 x.d) := (World.cell?_of_block (w := w6) (a := ⟨K, 3, none⟩) (old K (lt_of_block HST6.out.key) hKl hKb).1).trans k3
                have kk48 : W8.cell? ⟨K, 4, none⟩ = some (.int .u8 x.e) := (World.cell?_of_block (w := w6) (a := ⟨K, 4, none⟩) (old K (lt_of_block HST6.out.key) hKl hKb).1).trans k4
                have kk58 : W8.cell? ⟨K, 5, none⟩ = some (.int .u8 x.f) := (World.cell?_of_block (w := w6) (a := ⟨K, 5, none⟩) (old K (lt_of_block HST6.out.key) hKl hKb).1).trans k5
                have pp08 := (World.cell?_of_block (w := w6) (a := ⟨P9, 0, none⟩) (old P9 (lt_of_block HP96.out) hl9 h9b).1).trans p0
                have pp18 := (World.cell?_of_block (w := w6) (a := ⟨P9, 1, none⟩) (old P9 (lt_of_block HP96.out) hl9 h9b).1).trans p1
                have rr08 := (World.cell?_of_block (w := w6) (a := ⟨P11, 0, none⟩) (old P11 (lt_of_block HP11.out) hl11 h11b).1).trans r0
                have rr18 := (World.cell?_of_block (w := w6) (a := ⟨P11, 1, none⟩) (old P11 (lt_of_block HP11.out) hl11 h11b).1).trans r1
                have kk09 : W9.cell? ⟨K, 0, none⟩ = some (.int .u8 x.a) := (World.cell?_of_block (w := w6) (a := ⟨K, 0, none⟩) (old K (lt_of_block HST6.out.key) hKl hKb).2).trans k0
                have kk19 : W9.cell? ⟨K, 1, none⟩ = some (.int .u8 x.b) := (World.cell?_of_block (w := w6) (a := ⟨K, 1, none⟩) (old K (lt_of_block HST6.out.key) hKl hKb).2).trans k1
                have kk29 : W9.cell? ⟨K, 2, none⟩ = some (.int .u8 x.c) := (World.cell?_of_block (w := w6) (a := ⟨K, 2, none⟩) (old K (lt_of_block HST6.out.key) hKl hKb).2).trans k2
                have kk39 : W9.cell? ⟨K, 3, none⟩ = some (.int .u8 x.d) := (World.cell?_of_block (w := w6) (a := ⟨K, 3, none⟩) (old K (lt_of_block HST6.out.key) hKl hKb).2).trans k3
                have kk49 : W9.cell? ⟨K, 4, none⟩ = some (.int .u8 x.e) := (World.cell?_of_block (w := w6) (a := ⟨K, 4, none⟩) (old K (lt_of_block HST6.out.key) hKl hKb).2).trans k4
                have kk59 : W9.cell? ⟨K, 5, none⟩ = some (.int .u8 x.f) := (World.cell?_of_block (w := w6) (a := ⟨K, 5, none⟩) (old K (lt_of_block HST6.out.key) hKl hKb).2).trans k5
                have pp09 := (World.cell?_of_block (w := w6) (a := ⟨P9, 0, none⟩) (old P9 (lt_of_block HP96.out) hl9 h9b).2).trans p0
                have pp19 := (World.cell?_of_block (w := w6) (a := ⟨P9, 1, none⟩) (old P9 (lt_of_block HP96.out) hl9 h9b).2).trans p1
                have rr09 := (World.cell?_of_block (w := w6) (a := ⟨P11, 0, none⟩) (old P11 (lt_of_block HP11.out) hl11 h11b).2).trans r0
                have rr19 := (World.cell?_of_block (w := w6) (a := ⟨P11, 1, none⟩) (old P11 (lt_of_block HP11.out) hl11 h11b).2).trans r1
                have c68 : W8.cell? ⟨l, 6, none⟩ = some (.map (some bm)) := (cell_of_row W8 l 6 _ _ (0, 0) ((hg8.block l (lt_of_block HC7.out) (by simpa using hne)).trans HC7.out)).trans rfl
                have c69 : W9.cell? ⟨l, 6, none⟩ = some (.map (some bm)) := (cell_of_row W9 l 6 _ _ (0, 0) HC9.out).trans rfl
                rw [hW7] at hrun
                clear hW7 hg8 hs8 hfill hg9 hm9 old HM7 HC7 HT7
                go_region_held3 (fun w' => w'.cell? ⟨l, 6, none⟩ = some (.map (some bm)) ∧ w'.cell? ⟨K, 0, none⟩ = some (.int .u8 x.a) ∧ w'.cell? ⟨K, 1, none⟩ = some (.int .u8 x.b) ∧ w'.cell? ⟨K, 2, none⟩ = some (.int .u8 x.c) ∧ w'.cell? ⟨K, 3, none⟩ = some (.int .u8 x.d) ∧ w'.cell? ⟨K, 4, none⟩ = some (.int .u8 x.e) ∧ w'.cell? ⟨K, 5, none⟩ = some (.int .u8 x.f) ∧ w'.cell? ⟨P9, 0, none⟩ = some (.int .i64 (tkTok e1 m1 bt bk tick)) ∧ w'.cell? ⟨P9, 1, none⟩ = some (.int .i64 (tkTick e1 m1 bt bk tick)) ∧ w'.cell? ⟨P11, 0, none⟩ = some (.int .i64 (tkTok e2 m2 g.1 g.2 tick)) ∧ w'.cell? ⟨P11, 1, none⟩ = some (.int .i64 (tkTick e2 m2 g.1 g.2 tick))) (first | (go_keep; done) | (go_simp; done) | (simp [go_sem]; done)) (fail)
                all_goals
                  go_wp2_with fail
                  go_ret
                  exact ⟨by rw [HB.out]; rfl, allow_yes HN.out HKT.out HMINE.out HB.out HC9.out HM9.out HT9.out⟩
  · have HN := Lib.hid (show nowT tick t = t by unfold nowT; rw [hin]; rfl)
    go_upto_region 6 with (first | (go_at_call 30; refine (none_no l bm _ (by first | exact c6 | (simp [go_sem, *]; done))).mono ?_; rintro e w1 ⟨rfl, rfl⟩) | (go_at_call 28; refine (within_any _ _ _ _).mono ?_; rw [hin]; rintro e w1 ⟨rfl, rfl⟩) | (go_at_call 31; refine (clean_any l bm e1 m1 e2 m2 bt bk t L _ ((Below.heap_alloc _ _ l (by simpa using hz)).trans (limC_tick HC.out)) ((HM.out.kept (Below.heap_setCell W _ _ bm (by simpa using Ne.symm hne))).kept (Below.heap_alloc _ _ bm (by simpa using hbz)))).mono ?_; rintro e w1 ⟨rfl, hmap, hgr⟩))
    have HST := Lib.hid (show StA W l e1 m1 e2 m2 bt bk bm t (L.filter (keepB e2 m2 t)) W.heap.size x w1 from
      ⟨((hgr.block l (by simp; omega) (by simpa using hne)).trans (Below.heap_alloc _ _ l (by simpa using hz))).trans (limC_tick HC.out), hmap, (hgr.block _ (by simp) (by simp; omega)).trans (by simpa using heap_alloc_new (W.setCell ⟨l, 7, none⟩ (.int .i64 t)) _),
        (((Two.refl l bm W).store _).trans (Two.of_below ((Below.refl _ _).alloc (Nat.le_refl _) _))).trans (Two.of_grown hgr), Nat.le_refl _⟩)
    clear hmap hgr c0 c1 c2 c3 c4 c5 c6 c7 f7
    obtain ⟨L1, hL1⟩ : ∃ L1, L.filter (keepB e2 m2 t) = L1 := ⟨_, rfl⟩
    obtain ⟨K, hKK⟩ : ∃ K, W.heap.size = K := ⟨_, rfl⟩
    rw [hL1] at HST
    have HKT := Lib.hid (show kept e2 m2 ⟨bt, bk, tick, L⟩ t = L1 by unfold kept; rw [HN.out]; exact hL1)
    have hL1l : L1.length ≤ 100000 := by rw [← hL1]; exact Nat.le_trans (List.length_filter_le _ _) hl
    rw [hKK] at HST ⊢
    have HKK := Lib.hid hKK
    clear hL1 hKK
    have hl1 : l < w1.heap.size := lt_of_block HST.out.lim
    have hb1 : bm < w1.heap.size := HST.out.map.lt
    have hk1 : K < w1.heap.size := lt_of_block HST.out.key
    have c6 : w1.cell? ⟨l, 6, none⟩ = some (.map (some bm)) := (cell_of_row w1 l 6 _ _ (0, 0) HST.out.lim).trans rfl
    have k0 : w1.cell? ⟨K, 0, none⟩ = some (.int .u8 x.a) := (cell_of_row w1 _ 0 _ _ (0, 0) HST.out.key).trans rfl
    have k1 : w1.cell? ⟨K, 1, none⟩ = some (.int .u8 x.b) := (cell_of_row w1 _ 1 _ _ (0, 0) HST.out.key).trans rfl
    have k2 : w1.cell? ⟨K, 2, none⟩ = some (.int .u8 x.c) := (cell_of_row w1 _ 2 _ _ (0, 0) HST.out.key).trans rfl
    have k3 : w1.cell? ⟨K, 3, none⟩ = some (.int .u8 x.d) := (cell_of_row w1 _ 3 _ _ (0, 0) HST.out.key).trans rfl
    have k4 : w1.cell? ⟨K, 4, none⟩ = some (.int .u8 x.e) := (cell_of_row w1 _ 4 _ _ (0, 0) HST.out.key).trans rfl
    have k5 : w1.cell? ⟨K, 5, none⟩ = some (.int .u8 x.f) := (cell_of_row w1 _ 5 _ _ (0, 0) HST.out.key).trans rfl
    have hlook : ∀ w' : World, MapAt w' bm L1 → (Instr.lookup 61 (.map (some bm)) (.agg #[.int .u8 x.a, .int .u8 x.b, .int .u8 x.c, .int .u8 x.d, .int .u8 x.e, .int .u8 x.f]) true).run Try.prog w' = .ok (.tuple #[.agg #[.int .i64 ((getL L1 k).getD (0, 0)).1, .int .i64 ((getL L1 k).getD (0, 0)).2], .bool (hasL L1 k)]) w' := fun w' h => look_eq h HK.out
    have hmap1 := HST.out.map
    obtain ⟨g, hg⟩ : ∃ g, (getL L1 k).getD (0, 0) = g := ⟨_, rfl⟩
    rw [hg] at hlook
    have HG := Lib.hid hg
    clear hg
    go_cut [7, 8] (fun s7 s8 wx => ∃ (w2 : World) (P : Nat), w2 = wx ∧ s7 = .pointer (some ⟨P, 0, none⟩) ∧ s8 = .bool (hasL L1 k) ∧ StA W l e1 m1 e2 m2 bt bk bm t L1 K x w2 ∧ w2.heap[P]? = some (.cells #[.int .i64 g.1, .int .i64 g.2] 25 (0, 0)) ∧ w1.heap.size ≤ P)
    case first =>
      have hk0 := hlook w1 hmap1
      have hk1 := hlook w1.drew hmap1
      have hk2 := fun o => hlook (w1.alloc o) (hmap1.kept (Below.heap_alloc _ o _ hb1))
      have hk3 := fun o => hlook (w1.alloc o).drew (hmap1.kept (Below.heap_alloc _ o _ hb1))
      clear hlook
      go_region_held3 (fun w' => w'.cell? ⟨l, 6, none⟩ = some (.map (some bm)) ∧ w'.cell? ⟨K, 0, none⟩ = some (.int .u8 x.a) ∧ w'.cell? ⟨K, 1, none⟩ = some (.int .u8 x.b) ∧ w'.cell? ⟨K, 2, none⟩ = some (.int .u8 x.c) ∧ w'.cell? ⟨K, 3, none⟩ = some (.int .u8 x.d) ∧ w'.cell? ⟨K, 4, none⟩ = some (.int .u8 x.e) ∧ w'.cell? ⟨K, 5, none⟩ = some (.int .u8 x.f)) (first | (go_keep; done) | (go_simp; done) | (simp [go_sem]; done)) (fail)
      all_goals
        go_wp2_with fail
        go_meet
        exact ⟨_, _, rfl, rfl, rfl, HST.out.grow (by (repeat (first | exact Below.refl _ _ | exact Nat.le_refl _ | (refine below_ext ?_ (by first | (simp [size_ext, grow]; done) | (simp [size_ext, grow]; omega) | omega) _ _) | (refine Below.setCell ?_ (by first | (simp [size_ext, grow]; done) | (simp [size_ext, grow]; omega) | omega) _) | (refine Below.alloc ?_ (by first | (simp [size_ext, grow]; done) | (simp [size_ext, grow]; omega) | omega) _) | refine Below.drew ?_ | refine below_drewN ?_ _ | (refine Below.trans ?_ (Below.mono (by assumption) (by first | (simp [size_ext, grow]; done) | (simp [size_ext, grow]; omega) | omega)))))), by (repeat (first | ((refine heap_alloc_at _ _ _ ?_); (simp [go_sem]; done)) | ((refine (heap_ext _ _ _ _ ?_).trans ?_); (focus (simp [go_sem]; done))) | ((refine (heap_alloc_past _ _ _ ?_).trans ?_); (focus (simp [go_sem]; done))))), Nat.le_refl _⟩
    case rest =>
      obtain ⟨w2, P, rfl, rfl, rfl, hst2, hP, hPK⟩ := hcut
      have HST2 := Lib.hid hst2
      have HP := Lib.hid hP
      have hl2 : l < w2.heap.size := lt_of_block hst2.lim
      have hb2 : bm < w2.heap.size := hst2.map.lt
      have hk2 : K < w2.heap.size := lt_of_block hst2.key
      have hp2 : P < w2.heap.size := lt_of_block hP
      have hmap2 := hst2.map
      clear hst2 hP k0 k1 k2 k3 k4 k5 c6 hlook hmap1
      have c6 : w2.cell? ⟨l, 6, none⟩ = some (.map (some bm)) := (cell_of_row w2 l 6 _ _ (0, 0) HST2.out.lim).trans rfl
      cases hh : hasL L1 k
      · have HH := Lib.hid hh
        clear hh
        by_cases hmany : 256 ≤ L1.length
        · go_wp2_with (at_len; obtain ⟨D, hr, hown⟩ := hmap2; go_loud (refine wpList_len_own _ rfl (.tmp 41) 61 rfl 45 25 (by kernel_rfl) Rb bm _ D rfl hown ?_); rw [hr.size]; clear hr hown)
          have HB := Lib.hid (many_yes (e1 := e1) (m1 := m1) HKT.out HH.out hmany)
          go_ret
          exact ⟨by rw [HB.out]; rfl, allow_no HST2.out HN.out HKT.out HB.out⟩
        · have hlt : L1.length < 256 := by omega
          have HMINE := Lib.hid (show mine e2 m2 ⟨bt, bk, tick, L⟩ k t = (m2, t) by unfold mine; rw [HKT.out, getL_none HH.out, HN.out]; rfl)
          have HTM := Lib.hid (many_no (s := ⟨bt, bk, tick, L⟩) HKT.out (.inr hlt) : tooMany e2 m2 ⟨bt, bk, tick, L⟩ k t = false)
          have p0 : w2.cell? ⟨P, 0, none⟩ = some (.int .i64 g.1) := (cell_of_row w2 P 0 _ _ (0, 0) HP.out).trans rfl
          have p1 : w2.cell? ⟨P, 1, none⟩ = some (.int .i64 g.2) := (cell_of_row w2 P 1 _ _ (0, 0) HP.out).trans rfl
          have pf0 : w2.frozen? ⟨P, 0, none⟩ = false := frozen_of_row w2 P 0 _ 25 HP.out
          have pf1 : w2.frozen? ⟨P, 1, none⟩ = false := frozen_of_row w2 P 1 _ 25 HP.out
          have c3 : w2.cell? ⟨l, 3, none⟩ = some (.int .i64 m2) := (cell_of_row w2 l 3 _ _ (0, 0) HST2.out.lim).trans rfl
          have c7 : w2.cell? ⟨l, 7, none⟩ = some (.int .i64 t) := (cell_of_row w2 l 7 _ _ (0, 0) HST2.out.lim).trans rfl
          have hP1l : P ≠ l := by omega
          have hP1b : P ≠ bm := by omega
          have hP1K : P ≠ K := by omega
          have hP1W : W.heap.size ≤ P := by have := HKK.out; omega
          have hPl' : l ≠ P := by omega
          have hl256 : decide ((256 : Int) ≤ (L1.length : Int)) = false := by simp; omega
          go_upto_region 10 with (at_len; obtain ⟨D, hr, hown⟩ := hmap2; go_loud (refine wpList_len_own _ rfl (.tmp 41) 61 rfl 45 25 (by kernel_rfl) Rb bm _ D rfl hown ?_); rw [hr.size]; clear hr hown)
          go_cut [] (fun wx => ∃ w3 : World, w3 = wx ∧ StA W l e1 m1 e2 m2 bt bk bm t L1 K x w3 ∧ w3.heap[P]? = some (.cells #[.int .i64 m2, .int .i64 t] 25 (0, 0)))
          case first =>
            go_region_held3 (fun w' => w'.cell? ⟨l, 3, none⟩ = some (.int .i64 m2) ∧ w'.cell? ⟨l, 7, none⟩ = some (.int .i64 t)) (first | (go_keep; done) | (go_simp; done) | (simp [go_sem]; done)) (fail)
            all_goals
              go_wp2_with fail
              go_meet
              exact ⟨_, rfl, HST2.out.put2 hP1l hP1b hP1K hP1W, put2_row HP.out⟩
          case rest =>
            obtain ⟨w3, rfl, hst3, hP3⟩ := hcut
            have HST3 := Lib.hid hst3
            have HP3 := Lib.hid hP3
            clear hst3 hP3 c6 c3 c7 p0 p1 pf0 pf1 hl2 hb2 hk2 hp2
            go_upto_region 11 with (fail)
            have HSTX := HST3
            have HPX := HP3
            have hl3 : l < w3.heap.size := lt_of_block HSTX.out.lim
            have c0 : w3.cell? ⟨l, 0, none⟩ = some (.int .i64 e1) := (cell_of_row w3 l 0 _ _ (0, 0) HSTX.out.lim).trans rfl
            have c1 : w3.cell? ⟨l, 1, none⟩ = some (.int .i64 m1) := (cell_of_row w3 l 1 _ _ (0, 0) HSTX.out.lim).trans rfl
            have c2 : w3.cell? ⟨l, 2, none⟩ = some (.int .i64 e2) := (cell_of_row w3 l 2 _ _ (0, 0) HSTX.out.lim).trans rfl
            have c3 : w3.cell? ⟨l, 3, none⟩ = some (.int .i64 m2) := (cell_of_row w3 l 3 _ _ (0, 0) HSTX.out.lim).trans rfl
            have c4 : w3.cell? ⟨l, 4, none⟩ = some (.int .i64 bt) := (cell_of_row w3 l 4 _ _ (0, 0) HSTX.out.lim).trans rfl
            have c5 : w3.cell? ⟨l, 5, none⟩ = some (.int .i64 bk) := (cell_of_row w3 l 5 _ _ (0, 0) HSTX.out.lim).trans rfl
            have c6 : w3.cell? ⟨l, 6, none⟩ = some (.map (some bm)) := (cell_of_row w3 l 6 _ _ (0, 0) HSTX.out.lim).trans rfl
            have c7 : w3.cell? ⟨l, 7, none⟩ = some (.int .i64 t) := (cell_of_row w3 l 7 _ _ (0, 0) HSTX.out.lim).trans rfl
            go_cut [9, 10] (fun s9 s10 wx => ∃ (w4 : World) (P9 : Nat), w4 = wx ∧ s9 = .pointer (some ⟨P9, 0, none⟩) ∧ s10 = .bool (tkOk e1 m1 bt bk t) ∧ StA W l e1 m1 e2 m2 bt bk bm t L1 K x w4 ∧ w4.heap[P]? = some (.cells #[.int .i64 m2, .int .i64 t] 25 (0, 0)) ∧ w4.heap[P9]? = some (.cells #[.int .i64 (tkTok e1 m1 bt bk t), .int .i64 (tkTick e1 m1 bt bk t)] 25 (0, 0)))
            case first =>
              go_region_held3 (fun w' => w'.cell? ⟨l, 0, none⟩ = some (.int .i64 e1) ∧ w'.cell? ⟨l, 1, none⟩ = some (.int .i64 m1) ∧ w'.cell? ⟨l, 4, none⟩ = some (.int .i64 bt) ∧ w'.cell? ⟨l, 5, none⟩ = some (.int .i64 bk) ∧ w'.cell? ⟨l, 7, none⟩ = some (.int .i64 t)) (first | (go_keep; done) | (go_simp; done) | (simp [go_sem]; done)) ((go_at_call 18; refine (take_any _ _ _ _ _ _).mono ?_; rintro e w5 ⟨rfl, hb⟩; obtain ⟨xs5, dr5, rfl⟩ := ext_of hb; clear hb))
              all_goals
                go_wp2_with fail
                go_meet
                exact ⟨_, _, rfl, rfl, rfl, HSTX.out.grow (by (repeat (first | exact Below.refl _ _ | exact Nat.le_refl _ | (refine below_ext ?_ (by first | (simp [size_ext, grow]; done) | (simp [size_ext, grow]; omega) | omega) _ _) | (refine Below.setCell ?_ (by first | (simp [size_ext, grow]; done) | (simp [size_ext, grow]; omega) | omega) _) | (refine Below.alloc ?_ (by first | (simp [size_ext, grow]; done) | (simp [size_ext, grow]; omega) | omega) _) | refine Below.drew ?_ | refine below_drewN ?_ _ | (refine Below.trans ?_ (Below.mono (by assumption) (by first | (simp [size_ext, grow]; done) | (simp [size_ext, grow]; omega) | omega)))))), (Below.block (B := w3.heap.size) (by (repeat (first | exact Below.refl _ _ | exact Nat.le_refl _ | (refine below_ext ?_ (by first | (simp [size_ext, grow]; done) | (simp [size_ext, grow]; omega) | omega) _ _) | (refine Below.setCell ?_ (by first | (simp [size_ext, grow]; done) | (simp [size_ext, grow]; omega) | omega) _) | (refine Below.alloc ?_ (by first | (simp [size_ext, grow]; done) | (simp [size_ext, grow]; omega) | omega) _) | refine Below.drew ?_ | refine below_drewN ?_ _ | (refine Below.trans ?_ (Below.mono (by assumption) (by first | (simp [size_ext, grow]; done) | (simp [size_ext, grow]; omega) | omega)))))) P (lt_of_block HPX.out)).trans HPX.out, by (repeat (first | ((refine heap_alloc_at _ _ _ ?_); (simp [go_sem]; done)) | ((refine (heap_ext _ _ _ _ ?_).trans ?_); (focus (simp [go_sem]; done))) | ((refine (heap_alloc_past _ _ _ ?_).trans ?_); (focus (simp [go_sem]; done)))))⟩
            case rest =>
              obtain ⟨w4, P9, rfl, rfl, rfl, hst4, hP4, hP9⟩ := hcut
              have HST4 := Lib.hid hst4
              have HP4 := Lib.hid hP4
              have HP9 := Lib.hid hP9
              clear hst4 hP4 hP9 HSTX HPX c0 c1 c2 c3 c4 c5 c6 c7 hl3
              have hl4 : l < w4.heap.size := lt_of_block HST4.out.lim
              have hp4 : P < w4.heap.size := lt_of_block HP4.out
              have c0 : w4.cell? ⟨l, 0, none⟩ = some (.int .i64 e1) := (cell_of_row w4 l 0 _ _ (0, 0) HST4.out.lim).trans rfl
              have c1 : w4.cell? ⟨l, 1, none⟩ = some (.int .i64 m1) := (cell_of_row w4 l 1 _ _ (0, 0) HST4.out.lim).trans rfl
              have c2 : w4.cell? ⟨l, 2, none⟩ = some (.int .i64 e2) := (cell_of_row w4 l 2 _ _ (0, 0) HST4.out.lim).trans rfl
              have c3 : w4.cell? ⟨l, 3, none⟩ = some (.int .i64 m2) := (cell_of_row w4 l 3 _ _ (0, 0) HST4.out.lim).trans rfl
              have c4 : w4.cell? ⟨l, 4, none⟩ = some (.int .i64 bt) := (cell_of_row w4 l 4 _ _ (0, 0) HST4.out.lim).trans rfl
              have c5 : w4.cell? ⟨l, 5, none⟩ = some (.int .i64 bk) := (cell_of_row w4 l 5 _ _ (0, 0) HST4.out.lim).trans rfl
              have c6 : w4.cell? ⟨l, 6, none⟩ = some (.map (some bm)) := (cell_of_row w4 l 6 _ _ (0, 0) HST4.out.lim).trans rfl
              have c7 : w4.cell? ⟨l, 7, none⟩ = some (.int .i64 t) := (cell_of_row w4 l 7 _ _ (0, 0) HST4.out.lim).trans rfl
              have p0 : w4.cell? ⟨P, 0, none⟩ = some (.int .i64 m2) := (cell_of_row w4 P 0 _ _ (0, 0) HP4.out).trans rfl
              have p1 : w4.cell? ⟨P, 1, none⟩ = some (.int .i64 t) := (cell_of_row w4 P 1 _ _ (0, 0) HP4.out).trans rfl
              go_upto_region 12 with (fail)
              go_cut [11, 12] (fun s9 s10 wx => ∃ (w6 : World) (P11 : Nat), w6 = wx ∧ s9 = .pointer (some ⟨P11, 0, none⟩) ∧ s10 = .bool (tkOk e2 m2 m2 t t) ∧ StA W l e1 m1 e2 m2 bt bk bm t L1 K x w6 ∧ w6.heap[P9]? = some (.cells #[.int .i64 (tkTok e1 m1 bt bk t), .int .i64 (tkTick e1 m1 bt bk t)] 25 (0, 0)) ∧ w6.heap[P11]? = some (.cells #[.int .i64 (tkTok e2 m2 m2 t t), .int .i64 (tkTick e2 m2 m2 t t)] 25 (0, 0)))
              case first =>
                go_region_held3 (fun w' => w'.cell? ⟨l, 2, none⟩ = some (.int .i64 e2) ∧ w'.cell? ⟨l, 3, none⟩ = some (.int .i64 m2) ∧ w'.cell? ⟨l, 7, none⟩ = some (.int .i64 t) ∧ w'.cell? ⟨P, 0, none⟩ = some (.int .i64 m2) ∧ w'.cell? ⟨P, 1, none⟩ = some (.int .i64 t)) (first | (go_keep; done) | (go_simp; done) | (simp [go_sem]; done)) ((go_at_call 18; refine (take_any _ _ _ _ _ _).mono ?_; rintro e w5 ⟨rfl, hb⟩; obtain ⟨xs5, dr5, rfl⟩ := ext_of hb; clear hb))
                all_goals
                  go_wp2_with fail
                  go_meet
                  exact ⟨_, _, rfl, rfl, rfl, HST4.out.grow (by (repeat (first | exact Below.refl _ _ | exact Nat.le_refl _ | (refine below_ext ?_ (by first | (simp [size_ext, grow]; done) | (simp [size_ext, grow]; omega) | omega) _ _) | (refine Below.setCell ?_ (by first | (simp [size_ext, grow]; done) | (simp [size_ext, grow]; omega) | omega) _) | (refine Below.alloc ?_ (by first | (simp [size_ext, grow]; done) | (simp [size_ext, grow]; omega) | omega) _) | refine Below.drew ?_ | refine below_drewN ?_ _ | (refine Below.trans ?_ (Below.mono (by assumption) (by first | (simp [size_ext, grow]; done) | (simp [size_ext, grow]; omega) | omega)))))), (Below.block (B := w4.heap.size) (by (repeat (first | exact Below.refl _ _ | exact Nat.le_refl _ | (refine below_ext ?_ (by first | (simp [size_ext, grow]; done) | (simp [size_ext, grow]; omega) | omega) _ _) | (refine Below.setCell ?_ (by first | (simp [size_ext, grow]; done) | (simp [size_ext, grow]; omega) | omega) _) | (refine Below.alloc ?_ (by first | (simp [size_ext, grow]; done) | (simp [size_ext, grow]; omega) | omega) _) | refine Below.drew ?_ | refine below_drewN ?_ _ | (refine Below.trans ?_ (Below.mono (by assumption) (by first | (simp [size_ext, grow]; done) | (simp [size_ext, grow]; omega) | omega)))))) P9 (lt_of_block HP9.out)).trans HP9.out, by (repeat (first | ((refine heap_alloc_at _ _ _ ?_); (simp [go_sem]; done)) | ((refine (heap_ext _ _ _ _ ?_).trans ?_); (focus (simp [go_sem]; done))) | ((refine (heap_alloc_past _ _ _ ?_).trans ?_); (focus (simp [go_sem]; done)))))⟩
              case rest =>
                obtain ⟨w6, P11, rfl, rfl, rfl, hst6, hP9, hP11⟩ := hcut
                have HST6 := Lib.hid hst6
                have HP96 := Lib.hid hP9
                have HP11 := Lib.hid hP11
                clear hst6 hP9 hP11 c0 c1 c2 c3 c4 c5 c6 c7 p0 p1 hl4 hp4
                have HAE := Lib.hid (allow_eq (e1 := e1) (m1 := m1) (s := ⟨bt, bk, tick, L⟩) HTM.out HN.out HMINE.out)
                simp only at HAE
                cases ha : tkOk e1 m1 bt bk t
                · have HB := Lib.hid (show allowB e1 m1 e2 m2 ⟨bt, bk, tick, L⟩ k t = false by rw [HAE.out, ha]; rfl)
                  clear ha
                  go_wp2_with fail
                  go_ret
                  exact ⟨by rw [HB.out]; rfl, allow_no HST6.out HN.out HKT.out HB.out⟩
                · cases hb : tkOk e2 m2 m2 t t
                  · have HB := Lib.hid (show allowB e1 m1 e2 m2 ⟨bt, bk, tick, L⟩ k t = false by rw [HAE.out, hb]; simp)
                    clear hb
                    go_wp2_with fail
                    go_ret
                    exact ⟨by rw [HB.out]; rfl, allow_no HST6.out HN.out HKT.out HB.out⟩
                  · have HB := Lib.hid (show allowB e1 m1 e2 m2 ⟨bt, bk, tick, L⟩ k t = true by rw [HAE.out, ha, hb]; rfl)
                    go_upto_region 15 with (fail)
                    have hl6 : l < w6.heap.size := lt_of_block HST6.out.lim
                    have hb6 : bm < w6.heap.size := HST6.out.map.lt
                    have c6 : w6.cell? ⟨l, 6, none⟩ = some (.map (some bm)) := (cell_of_row w6 l 6 _ _ (0, 0) HST6.out.lim).trans rfl
                    have f4 : w6.frozen? ⟨l, 4, none⟩ = false := frozen_of_row w6 l 4 _ 63 HST6.out.lim
                    have f5 : w6.frozen? ⟨l, 5, none⟩ = false := frozen_of_row w6 l 5 _ 63 HST6.out.lim
                    have c4 : w6.cell? ⟨l, 4, none⟩ = some (.int .i64 bt) := (cell_of_row w6 l 4 _ _ (0, 0) HST6.out.lim).trans rfl
                    have c5 : w6.cell? ⟨l, 5, none⟩ = some (.int .i64 bk) := (cell_of_row w6 l 5 _ _ (0, 0) HST6.out.lim).trans rfl
                    have k0 : w6.cell? ⟨K, 0, none⟩ = some (.int .u8 x.a) := (cell_of_row w6 _ 0 _ _ (0, 0) HST6.out.key).trans rfl
                    have k1 : w6.cell? ⟨K, 1, none⟩ = some (.int .u8 x.b) := (cell_of_row w6 _ 1 _ _ (0, 0) HST6.out.key).trans rfl
                    have k2 : w6.cell? ⟨K, 2, none⟩ = some (.int .u8 x.c) := (cell_of_row w6 _ 2 _ _ (0, 0) HST6.out.key).trans rfl
                    have k3 : w6.cell? ⟨K, 3, none⟩ = some (.int .u8 x.d) := (cell_of_row w6 _ 3 _ _ (0, 0) HST6.out.key).trans rfl
                    have k4 : w6.cell? ⟨K, 4, none⟩ = some (.int .u8 x.e) := (cell_of_row w6 _ 4 _ _ (0, 0) HST6.out.key).trans rfl
                    have k5 : w6.cell? ⟨K, 5, none⟩ = some (.int .u8 x.f) := (cell_of_row w6 _ 5 _ _ (0, 0) HST6.out.key).trans rfl
                    have p0 : w6.cell? ⟨P9, 0, none⟩ = some (.int .i64 (tkTok e1 m1 bt bk t)) := (cell_of_row w6 P9 0 _ _ (0, 0) HP96.out).trans rfl
                    have p1 : w6.cell? ⟨P9, 1, none⟩ = some (.int .i64 (tkTick e1 m1 bt bk t)) := (cell_of_row w6 P9 1 _ _ (0, 0) HP96.out).trans rfl
                    have r0 : w6.cell? ⟨P11, 0, none⟩ = some (.int .i64 (tkTok e2 m2 m2 t t)) := (cell_of_row w6 P11 0 _ _ (0, 0) HP11.out).trans rfl
                    have r1 : w6.cell? ⟨P11, 1, none⟩ = some (.int .i64 (tkTick e2 m2 m2 t t)) := (cell_of_row w6 P11 1 _ _ (0, 0) HP11.out).trans rfl
                    obtain ⟨W7, hW7⟩ : ∃ W7, W7 = ((w6.setCell ⟨l, 4, none⟩ (.int .i64 (tkTok e1 m1 bt bk t))).setCell ⟨l, 5, none⟩ (.int .i64 (tkTick e1 m1 bt bk t))).drew := ⟨_, rfl⟩
                    have HM7 := Lib.hid (show MapAt W7 bm L1 by rw [hW7]; exact (HST6.out.map.kept (Below.heap_setCell _ _ _ _ (by simp; omega))).kept (Below.heap_setCell _ _ _ _ (by simp; omega)))
                    have HC7 := Lib.hid (show LimC W7 l e1 m1 e2 m2 (tkTok e1 m1 bt bk t) (tkTick e1 m1 bt bk t) (some bm) t by rw [hW7]; exact limC_bucket HST6.out.lim)
                    have HT7 := Lib.hid (show Two l bm W W7 by rw [hW7]; exact ⟨HST6.out.two.os, HST6.out.two.tape, HST6.out.two.output, by have := HST6.out.two.size; simpa using this, fun i h1 h2 h3 => ((HST6.out.two.store _).store _).block i h1 h2 h3⟩)
                    obtain ⟨v0, st, W8, hrun, hg8, hs8, hfill⟩ := entry_laid HM7.out (by omega) HK.out
                    obtain ⟨W9, hrun9, hm9, hg9⟩ := hfill W8 (tkTok e2 m2 m2 t t) (tkTick e2 m2 m2 t t) rfl
                    have HT9 := Lib.hid ((HT7.out.trans (Two.of_grown hg8)).trans (Two.of_grown hg9))
                    have HC9 := Lib.hid (show LimC W9 l e1 m1 e2 m2 (tkTok e1 m1 bt bk t) (tkTick e1 m1 bt bk t) (some bm) t from (hg9.block l (by rw [hs8]; exact lt_of_block HC7.out) (by simpa using hne)).trans ((hg8.block l (lt_of_block HC7.out) (by simpa using hne)).trans HC7.out))
                    have HM9 := Lib.hid hm9
                    have hKb : K ≠ bm := fun e => HST6.out.map.ne_cells (by rw [← e]; exact HST6.out.key)
                    have h9b : P9 ≠ bm := fun e => HST6.out.map.ne_cells (by rw [← e]; exact HP96.out)
                    have h11b : P11 ≠ bm := fun e => HST6.out.map.ne_cells (by rw [← e]; exact HP11.out)
                    have hKl : K ≠ l := by have := HKK.out; omega
                    have old : ∀ i, i < w6.heap.size → i ≠ l → i ≠ bm → W8.heap[i]? = w6.heap[i]? ∧ W9.heap[i]? = w6.heap[i]? := fun i h1 h2 h3 => by
                      have e7 : W7.heap[i]? = w6.heap[i]? := by rw [hW7]; exact (Below.heap_setCell _ _ _ _ (by simpa using h2)).trans (Below.heap_setCell _ _ _ _ (by simpa using h2))
                      have s7 : W7.heap.size = w6.heap.size := by rw [hW7]; simp
                      have e8 : W8.heap[i]? = w6.heap[i]? := (hg8.block i (by omega) (by simpa using h3)).trans e7
                      exact ⟨e8, (hg9.block i (by omega) (by simpa using h3)).trans e8⟩
                    have hl9 : P9 ≠ l := fun e => by have h1 := HP96.out; have h2 := HST6.out.lim; unfold LimC at h2; rw [e, h2] at h1; simp at h1
                    have hl11 : P11 ≠ l := fun e => by have h1 := HP11.out; have h2 := HST6.out.lim; unfold LimC at h2; rw [e, h2] at h1; simp at h1
                    have kk08 : W8.cell? ⟨K, 0, none⟩ = some (.int .u8 x.a) := (World.cell?_of_block (w := w6) (a := ⟨K, 0, none⟩) (old K (lt_of_block HST6.out.key) hKl hKb).1).trans k0
                    have kk18 : W8.cell? ⟨K, 1, none⟩ = some (.int .u8 x.b) := (World.cell?_of_block (w := w6) (a := ⟨K, 1, none⟩) (old K (lt_of_block HST6.out.key) hKl hKb).1).trans k1
                    have kk28 : W8.cell? ⟨K, 2, none⟩ = some (.int .u8 x.c) := (World.cell?_of_block (w := w6) (a := ⟨K, 2, none⟩) (old K (lt_of_block HST6.out.key) hKl hKb).1).trans k2
                    have kk38 : W8.cell? ⟨K, 3, none⟩ = some (.int .u8 x.d) := (World.cell?_of_block (w := w6) (a := ⟨K, 3, none⟩) (old K (lt_of_block HST6.out.key) hKl hKb).1).trans k3
                    have kk48 : W8.cell? ⟨K, 4, none⟩ = some (.int .u8 x.e) := (World.cell?_of_block (w := w6) (a := ⟨K, 4, none⟩) (old K (lt_of_block HST6.out.key) hKl hKb).1).trans k4
                    have kk58 : W8.cell? ⟨K, 5, none⟩ = some (.int .u8 x.f) := (World.cell?_of_block (w := w6) (a := ⟨K, 5, none⟩) (old K (lt_of_block HST6.out.key) hKl hKb).1).trans k5
                    have pp08 := (World.cell?_of_block (w := w6) (a := ⟨P9, 0, none⟩) (old P9 (lt_of_block HP96.out) hl9 h9b).1).trans p0
                    have pp18 := (World.cell?_of_block (w := w6) (a := ⟨P9, 1, none⟩) (old P9 (lt_of_block HP96.out) hl9 h9b).1).trans p1
                    have rr08 := (World.cell?_of_block (w := w6) (a := ⟨P11, 0, none⟩) (old P11 (lt_of_block HP11.out) hl11 h11b).1).trans r0
                    have rr18 := (World.cell?_of_block (w := w6) (a := ⟨P11, 1, none⟩) (old P11 (lt_of_block HP11.out) hl11 h11b).1).trans r1
                    have kk09 : W9.cell? ⟨K, 0, none⟩ = some (.int .u8 x.a) := (World.cell?_of_block (w := w6) (a := ⟨K, 0, none⟩) (old K (lt_of_block HST6.out.key) hKl hKb).2).trans k0
                    have kk19 : W9.cell? ⟨K, 1, none⟩ = some (.int .u8 x.b) := (World.cell?_of_block (w := w6) (a := ⟨K, 1, none⟩) (old K (lt_of_block HST6.out.key) hKl hKb).2).trans k1
                    have kk29 : W9.cell? ⟨K, 2, none⟩ = some (.int .u8 x.c) := (World.cell?_of_block (w := w6) (a := ⟨K, 2, none⟩) (old K (lt_of_block HST6.out.key) hKl hKb).2).trans k2
                    have kk39 : W9.cell? ⟨K, 3, none⟩ = some (.int .u8 x.d) := (World.cell?_of_block (w := w6) (a := ⟨K, 3, none⟩) (old K (lt_of_block HST6.out.key) hKl hKb).2).trans k3
                    have kk49 : W9.cell? ⟨K, 4, none⟩ = some (.int .u8 x.e) := (World.cell?_of_block (w := w6) (a := ⟨K, 4, none⟩) (old K (lt_of_block HST6.out.key) hKl hKb).2).trans k4
                    have kk59 : W9.cell? ⟨K, 5, none⟩ = some (.int .u8 x.f) := (World.cell?_of_block (w := w6) (a := ⟨K, 5, none⟩) (old K (lt_of_block HST6.out.key) hKl hKb).2).trans k5
                    have pp09 := (World.cell?_of_block (w := w6) (a := ⟨P9, 0, none⟩) (old P9 (lt_of_block HP96.out) hl9 h9b).2).trans p0
                    have pp19 := (World.cell?_of_block (w := w6) (a := ⟨P9, 1, none⟩) (old P9 (lt_of_block HP96.out) hl9 h9b).2).trans p1
                    have rr09 := (World.cell?_of_block (w := w6) (a := ⟨P11, 0, none⟩) (old P11 (lt_of_block HP11.out) hl11 h11b).2).trans r0
                    have rr19 := (World.cell?_of_block (w := w6) (a := ⟨P11, 1, none⟩) (old P11 (lt_of_block HP11.out) hl11 h11b).2).trans r1
                    have c68 : W8.cell? ⟨l, 6, none⟩ = some (.map (some bm)) := (cell_of_row W8 l 6 _ _ (0, 0) ((hg8.block l (lt_of_block HC7.out) (by simpa using hne)).trans HC7.out)).trans rfl
                    have c69 : W9.cell? ⟨l, 6, none⟩ = some (.map (some bm)) := (cell_of_row W9 l 6 _ _ (0, 0) HC9.out).trans rfl
                    rw [hW7] at hrun
                    clear hW7 hg8 hs8 hfill hg9 hm9 old HM7 HC7 HT7
                    go_region_held3 (fun w' => w'.cell? ⟨l, 6, none⟩ = some (.map (some bm)) ∧ w'.cell? ⟨K, 0, none⟩ = some (.int .u8 x.a) ∧ w'.cell? ⟨K, 1, none⟩ = some (.int .u8 x.b) ∧ w'.cell? ⟨K, 2, none⟩ = some (.int .u8 x.c) ∧ w'.cell? ⟨K, 3, none⟩ = some (.int .u8 x.d) ∧ w'.cell? ⟨K, 4, none⟩ = some (.int .u8 x.e) ∧ w'.cell? ⟨K, 5, none⟩ = some (.int .u8 x.f) ∧ w'.cell? ⟨P9, 0, none⟩ = some (.int .i64 (tkTok e1 m1 bt bk t)) ∧ w'.cell? ⟨P9, 1, none⟩ = some (.int .i64 (tkTick e1 m1 bt bk t)) ∧ w'.cell? ⟨P11, 0, none⟩ = some (.int .i64 (tkTok e2 m2 m2 t t)) ∧ w'.cell? ⟨P11, 1, none⟩ = some (.int .i64 (tkTick e2 m2 m2 t t))) (first | (go_keep; done) | (go_simp; done) | (simp [go_sem]; done)) (fail)
                    all_goals
                      go_wp2_with fail
                      go_ret
                      exact ⟨by rw [HB.out]; rfl, allow_yes HN.out HKT.out HMINE.out HB.out HC9.out HM9.out HT9.out⟩
      · have HMINE := Lib.hid (show mine e2 m2 ⟨bt, bk, tick, L⟩ k t = g by unfold mine; rw [HKT.out, ← HG.out]; exact getL_some hh)
        have HTM := Lib.hid (many_no (s := ⟨bt, bk, tick, L⟩) HKT.out (.inl hh) : tooMany e2 m2 ⟨bt, bk, tick, L⟩ k t = false)
        go_upto_region 11 with (fail)
        have HSTX := HST2
        have HPX := HP
        have hl3 : l < w2.heap.size := lt_of_block HSTX.out.lim
        have c0 : w2.cell? ⟨l, 0, none⟩ = some (.int .i64 e1) := (cell_of_row w2 l 0 _ _ (0, 0) HSTX.out.lim).trans rfl
        have c1 : w2.cell? ⟨l, 1, none⟩ = some (.int .i64 m1) := (cell_of_row w2 l 1 _ _ (0, 0) HSTX.out.lim).trans rfl
        have c2 : w2.cell? ⟨l, 2, none⟩ = some (.int .i64 e2) := (cell_of_row w2 l 2 _ _ (0, 0) HSTX.out.lim).trans rfl
        have c3 : w2.cell? ⟨l, 3, none⟩ = some (.int .i64 m2) := (cell_of_row w2 l 3 _ _ (0, 0) HSTX.out.lim).trans rfl
        have c4 : w2.cell? ⟨l, 4, none⟩ = some (.int .i64 bt) := (cell_of_row w2 l 4 _ _ (0, 0) HSTX.out.lim).trans rfl
        have c5 : w2.cell? ⟨l, 5, none⟩ = some (.int .i64 bk) := (cell_of_row w2 l 5 _ _ (0, 0) HSTX.out.lim).trans rfl
        have c6 : w2.cell? ⟨l, 6, none⟩ = some (.map (some bm)) := (cell_of_row w2 l 6 _ _ (0, 0) HSTX.out.lim).trans rfl
        have c7 : w2.cell? ⟨l, 7, none⟩ = some (.int .i64 t) := (cell_of_row w2 l 7 _ _ (0, 0) HSTX.out.lim).trans rfl
        go_cut [9, 10] (fun s9 s10 wx => ∃ (w4 : World) (P9 : Nat), w4 = wx ∧ s9 = .pointer (some ⟨P9, 0, none⟩) ∧ s10 = .bool (tkOk e1 m1 bt bk t) ∧ StA W l e1 m1 e2 m2 bt bk bm t L1 K x w4 ∧ w4.heap[P]? = some (.cells #[.int .i64 g.1, .int .i64 g.2] 25 (0, 0)) ∧ w4.heap[P9]? = some (.cells #[.int .i64 (tkTok e1 m1 bt bk t), .int .i64 (tkTick e1 m1 bt bk t)] 25 (0, 0)))
        case first =>
          go_region_held3 (fun w' => w'.cell? ⟨l, 0, none⟩ = some (.int .i64 e1) ∧ w'.cell? ⟨l, 1, none⟩ = some (.int .i64 m1) ∧ w'.cell? ⟨l, 4, none⟩ = some (.int .i64 bt) ∧ w'.cell? ⟨l, 5, none⟩ = some (.int .i64 bk) ∧ w'.cell? ⟨l, 7, none⟩ = some (.int .i64 t)) (first | (go_keep; done) | (go_simp; done) | (simp [go_sem]; done)) ((go_at_call 18; refine (take_any _ _ _ _ _ _).mono ?_; rintro e w5 ⟨rfl, hb⟩; obtain ⟨xs5, dr5, rfl⟩ := ext_of hb; clear hb))
          all_goals
            go_wp2_with fail
            go_meet
            exact ⟨_, _, rfl, rfl, rfl, HSTX.out.grow (by (repeat (first | exact Below.refl _ _ | exact Nat.le_refl _ | (refine below_ext ?_ (by first | (simp [size_ext, grow]; done) | (simp [size_ext, grow]; omega) | omega) _ _) | (refine Below.setCell ?_ (by first | (simp [size_ext, grow]; done) | (simp [size_ext, grow]; omega) | omega) _) | (refine Below.alloc ?_ (by first | (simp [size_ext, grow]; done) | (simp [size_ext, grow]; omega) | omega) _) | refine Below.drew ?_ | refine below_drewN ?_ _ | (refine Below.trans ?_ (Below.mono (by assumption) (by first | (simp [size_ext, grow]; done) | (simp [size_ext, grow]; omega) | omega)))))), (Below.block (B := w2.heap.size) (by (repeat (first | exact Below.refl _ _ | exact Nat.le_refl _ | (refine below_ext ?_ (by first | (simp [size_ext, grow]; done) | (simp [size_ext, grow]; omega) | omega) _ _) | (refine Below.setCell ?_ (by first | (simp [size_ext, grow]; done) | (simp [size_ext, grow]; omega) | omega) _) | (refine Below.alloc ?_ (by first | (simp [size_ext, grow]; done) | (simp [size_ext, grow]; omega) | omega) _) | refine Below.drew ?_ | refine below_drewN ?_ _ | (refine Below.trans ?_ (Below.mono (by assumption) (by first | (simp [size_ext, grow]; done) | (simp [size_ext, grow]; omega) | omega)))))) P (lt_of_block HPX.out)).trans HPX.out, by (repeat (first | ((refine heap_alloc_at _ _ _ ?_); (simp [go_sem]; done)) | ((refine (heap_ext _ _ _ _ ?_).trans ?_); (focus (simp [go_sem]; done))) | ((refine (heap_alloc_past _ _ _ ?_).trans ?_); (focus (simp [go_sem]; done)))))⟩
        case rest =>
          obtain ⟨w4, P9, rfl, rfl, rfl, hst4, hP4, hP9⟩ := hcut
          have HST4 := Lib.hid hst4
          have HP4 := Lib.hid hP4
          have HP9 := Lib.hid hP9
          clear hst4 hP4 hP9 HSTX HPX c0 c1 c2 c3 c4 c5 c6 c7 hl3
          have hl4 : l < w4.heap.size := lt_of_block HST4.out.lim
          have hp4 : P < w4.heap.size := lt_of_block HP4.out
          have c0 : w4.cell? ⟨l, 0, none⟩ = some (.int .i64 e1) := (cell_of_row w4 l 0 _ _ (0, 0) HST4.out.lim).trans rfl
          have c1 : w4.cell? ⟨l, 1, none⟩ = some (.int .i64 m1) := (cell_of_row w4 l 1 _ _ (0, 0) HST4.out.lim).trans rfl
          have c2 : w4.cell? ⟨l, 2, none⟩ = some (.int .i64 e2) := (cell_of_row w4 l 2 _ _ (0, 0) HST4.out.lim).trans rfl
          have c3 : w4.cell? ⟨l, 3, none⟩ = some (.int .i64 m2) := (cell_of_row w4 l 3 _ _ (0, 0) HST4.out.lim).trans rfl
          have c4 : w4.cell? ⟨l, 4, none⟩ = some (.int .i64 bt) := (cell_of_row w4 l 4 _ _ (0, 0) HST4.out.lim).trans rfl
          have c5 : w4.cell? ⟨l, 5, none⟩ = some (.int .i64 bk) := (cell_of_row w4 l 5 _ _ (0, 0) HST4.out.lim).trans rfl
          have c6 : w4.cell? ⟨l, 6, none⟩ = some (.map (some bm)) := (cell_of_row w4 l 6 _ _ (0, 0) HST4.out.lim).trans rfl
          have c7 : w4.cell? ⟨l, 7, none⟩ = some (.int .i64 t) := (cell_of_row w4 l 7 _ _ (0, 0) HST4.out.lim).trans rfl
          have p0 : w4.cell? ⟨P, 0, none⟩ = some (.int .i64 g.1) := (cell_of_row w4 P 0 _ _ (0, 0) HP4.out).trans rfl
          have p1 : w4.cell? ⟨P, 1, none⟩ = some (.int .i64 g.2) := (cell_of_row w4 P 1 _ _ (0, 0) HP4.out).trans rfl
          go_upto_region 12 with (fail)
          go_cut [11, 12] (fun s9 s10 wx => ∃ (w6 : World) (P11 : Nat), w6 = wx ∧ s9 = .pointer (some ⟨P11, 0, none⟩) ∧ s10 = .bool (tkOk e2 m2 g.1 g.2 t) ∧ StA W l e1 m1 e2 m2 bt bk bm t L1 K x w6 ∧ w6.heap[P9]? = some (.cells #[.int .i64 (tkTok e1 m1 bt bk t), .int .i64 (tkTick e1 m1 bt bk t)] 25 (0, 0)) ∧ w6.heap[P11]? = some (.cells #[.int .i64 (tkTok e2 m2 g.1 g.2 t), .int .i64 (tkTick e2 m2 g.1 g.2 t)] 25 (0, 0)))
          case first =>
            go_region_held3 (fun w' => w'.cell? ⟨l, 2, none⟩ = some (.int .i64 e2) ∧ w'.cell? ⟨l, 3, none⟩ = some (.int .i64 m2) ∧ w'.cell? ⟨l, 7, none⟩ = some (.int .i64 t) ∧ w'.cell? ⟨P, 0, none⟩ = some (.int .i64 g.1) ∧ w'.cell? ⟨P, 1, none⟩ = some (.int .i64 g.2)) (first | (go_keep; done) | (go_simp; done) | (simp [go_sem]; done)) ((go_at_call 18; refine (take_any _ _ _ _ _ _).mono ?_; rintro e w5 ⟨rfl, hb⟩; obtain ⟨xs5, dr5, rfl⟩ := ext_of hb; clear hb))
            all_goals
              go_wp2_with fail
              go_meet
              exact ⟨_, _, rfl, rfl, rfl, HST4.out.grow (by (repeat (first | exact Below.refl _ _ | exact Nat.le_refl _ | (refine below_ext ?_ (by first | (simp [size_ext, grow]; done) | (simp [size_ext, grow]; omega) | omega) _ _) | (refine Below.setCell ?_ (by first | (simp [size_ext, grow]; done) | (simp [size_ext, grow]; omega) | omega) _) | (refine Below.alloc ?_ (by first | (simp [size_ext, grow]; done) | (simp [size_ext, grow]; omega) | omega) _) | refine Below.drew ?_ | refine below_drewN ?_ _ | (refine Below.trans ?_ (Below.mono (by assumption) (by first | (simp [size_ext, grow]; done) | (simp [size_ext, grow]; omega) | omega)))))), (Below.block (B := w4.heap.size) (by (repeat (first | exact Below.refl _ _ | exact Nat.le_refl _ | (refine below_ext ?_ (by first | (simp [size_ext, grow]; done) | (simp [size_ext, grow]; omega) | omega) _ _) | (refine Below.setCell ?_ (by first | (simp [size_ext, grow]; done) | (simp [size_ext, grow]; omega) | omega) _) | (refine Below.alloc ?_ (by first | (simp [size_ext, grow]; done) | (simp [size_ext, grow]; omega) | omega) _) | refine Below.drew ?_ | refine below_drewN ?_ _ | (refine Below.trans ?_ (Below.mono (by assumption) (by first | (simp [size_ext, grow]; done) | (simp [size_ext, grow]; omega) | omega)))))) P9 (lt_of_block HP9.out)).trans HP9.out, by (repeat (first | ((refine heap_alloc_at _ _ _ ?_); (simp [go_sem]; done)) | ((refine (heap_ext _ _ _ _ ?_).trans ?_); (focus (simp [go_sem]; done))) | ((refine (heap_alloc_past _ _ _ ?_).trans ?_); (focus (simp [go_sem]; done)))))⟩
          case rest =>
            obtain ⟨w6, P11, rfl, rfl, rfl, hst6, hP9, hP11⟩ := hcut
            have HST6 := Lib.hid hst6
            have HP96 := Lib.hid hP9
            have HP11 := Lib.hid hP11
            clear hst6 hP9 hP11 c0 c1 c2 c3 c4 c5 c6 c7 p0 p1 hl4 hp4
            have HAE := Lib.hid (allow_eq (e1 := e1) (m1 := m1) (s := ⟨bt, bk, tick, L⟩) HTM.out HN.out HMINE.out)
            simp only at HAE
            cases ha : tkOk e1 m1 bt bk t
            · have HB := Lib.hid (show allowB e1 m1 e2 m2 ⟨bt, bk, tick, L⟩ k t = false by rw [HAE.out, ha]; rfl)
              clear ha
              go_wp2_with fail
              go_ret
              exact ⟨by rw [HB.out]; rfl, allow_no HST6.out HN.out HKT.out HB.out⟩
            · cases hb : tkOk e2 m2 g.1 g.2 t
              · have HB := Lib.hid (show allowB e1 m1 e2 m2 ⟨bt, bk, tick, L⟩ k t = false by rw [HAE.out, hb]; simp)
                clear hb
                go_wp2_with fail
                go_ret
                exact ⟨by rw [HB.out]; rfl, allow_no HST6.out HN.out HKT.out HB.out⟩
              · have HB := Lib.hid (show allowB e1 m1 e2 m2 ⟨bt, bk, tick, L⟩ k t = true by rw [HAE.out, ha, hb]; rfl)
                go_upto_region 15 with (fail)
                have hl6 : l < w6.heap.size := lt_of_block HST6.out.lim
                have hb6 : bm < w6.heap.size := HST6.out.map.lt
                have c6 : w6.cell? ⟨l, 6, none⟩ = some (.map (some bm)) := (cell_of_row w6 l 6 _ _ (0, 0) HST6.out.lim).trans rfl
                have f4 : w6.frozen? ⟨l, 4, none⟩ = false := frozen_of_row w6 l 4 _ 63 HST6.out.lim
                have f5 : w6.frozen? ⟨l, 5, none⟩ = false := frozen_of_row w6 l 5 _ 63 HST6.out.lim
                have c4 : w6.cell? ⟨l, 4, none⟩ = some (.int .i64 bt) := (cell_of_row w6 l 4 _ _ (0, 0) HST6.out.lim).trans rfl
                have c5 : w6.cell? ⟨l, 5, none⟩ = some (.int .i64 bk) := (cell_of_row w6 l 5 _ _ (0, 0) HST6.out.lim).trans rfl
                have k0 : w6.cell? ⟨K, 0, none⟩ = some (.int .u8 x.a) := (cell_of_row w6 _ 0 _ _ (0, 0) HST6.out.key).trans rfl
                have k1 : w6.cell? ⟨K, 1, none⟩ = some (.int .u8 x.b) := (cell_of_row w6 _ 1 _ _ (0, 0) HST6.out.key).trans rfl
                have k2 : w6.cell? ⟨K, 2, none⟩ = some (.int .u8 x.c) := (cell_of_row w6 _ 2 _ _ (0, 0) HST6.out.key).trans rfl
                have k3 : w6.cell? ⟨K, 3, none⟩ = some (.int .u8 x.d) := (cell_of_row w6 _ 3 _ _ (0, 0) HST6.out.key).trans rfl
                have k4 : w6.cell? ⟨K, 4, none⟩ = some (.int .u8 x.e) := (cell_of_row w6 _ 4 _ _ (0, 0) HST6.out.key).trans rfl
                have k5 : w6.cell? ⟨K, 5, none⟩ = some (.int .u8 x.f) := (cell_of_row w6 _ 5 _ _ (0, 0) HST6.out.key).trans rfl
                have p0 : w6.cell? ⟨P9, 0, none⟩ = some (.int .i64 (tkTok e1 m1 bt bk t)) := (cell_of_row w6 P9 0 _ _ (0, 0) HP96.out).trans rfl
                have p1 : w6.cell? ⟨P9, 1, none⟩ = some (.int .i64 (tkTick e1 m1 bt bk t)) := (cell_of_row w6 P9 1 _ _ (0, 0) HP96.out).trans rfl
                have r0 : w6.cell? ⟨P11, 0, none⟩ = some (.int .i64 (tkTok e2 m2 g.1 g.2 t)) := (cell_of_row w6 P11 0 _ _ (0, 0) HP11.out).trans rfl
                have r1 : w6.cell? ⟨P11, 1, none⟩ = some (.int .i64 (tkTick e2 m2 g.1 g.2 t)) := (cell_of_row w6 P11 1 _ _ (0, 0) HP11.out).trans rfl
                obtain ⟨W7, hW7⟩ : ∃ W7, W7 = ((w6.setCell ⟨l, 4, none⟩ (.int .i64 (tkTok e1 m1 bt bk t))).setCell ⟨l, 5, none⟩ (.int .i64 (tkTick e1 m1 bt bk t))).drew := ⟨_, rfl⟩
                have HM7 := Lib.hid (show MapAt W7 bm L1 by rw [hW7]; exact (HST6.out.map.kept (Below.heap_setCell _ _ _ _ (by simp; omega))).kept (Below.heap_setCell _ _ _ _ (by simp; omega)))
                have HC7 := Lib.hid (show LimC W7 l e1 m1 e2 m2 (tkTok e1 m1 bt bk t) (tkTick e1 m1 bt bk t) (some bm) t by rw [hW7]; exact limC_bucket HST6.out.lim)
                have HT7 := Lib.hid (show Two l bm W W7 by rw [hW7]; exact ⟨HST6.out.two.os, HST6.out.two.tape, HST6.out.two.output, by have := HST6.out.two.size; simpa using this, fun i h1 h2 h3 => ((HST6.out.two.store _).store _).block i h1 h2 h3⟩)
                obtain ⟨v0, st, W8, hrun, hg8, hs8, hfill⟩ := entry_laid HM7.out (by omega) HK.out
                obtain ⟨W9, hrun9, hm9, hg9⟩ := hfill W8 (tkTok e2 m2 g.1 g.2 t) (tkTick e2 m2 g.1 g.2 t) rfl
                have HT9 := Lib.hid ((HT7.out.trans (Two.of_grown hg8)).trans (Two.of_grown hg9))
                have HC9 := Lib.hid (show LimC W9 l e1 m1 e2 m2 (tkTok e1 m1 bt bk t) (tkTick e1 m1 bt bk t) (some bm) t from (hg9.block l (by rw [hs8]; exact lt_of_block HC7.out) (by simpa using hne)).trans ((hg8.block l (lt_of_block HC7.out) (by simpa using hne)).trans HC7.out))
                have HM9 := Lib.hid hm9
                have hKb : K ≠ bm := fun e => HST6.out.map.ne_cells (by rw [← e]; exact HST6.out.key)
                have h9b : P9 ≠ bm := fun e => HST6.out.map.ne_cells (by rw [← e]; exact HP96.out)
                have h11b : P11 ≠ bm := fun e => HST6.out.map.ne_cells (by rw [← e]; exact HP11.out)
                have hKl : K ≠ l := by have := HKK.out; omega
                have old : ∀ i, i < w6.heap.size → i ≠ l → i ≠ bm → W8.heap[i]? = w6.heap[i]? ∧ W9.heap[i]? = w6.heap[i]? := fun i h1 h2 h3 => by
                  have e7 : W7.heap[i]? = w6.heap[i]? := by rw [hW7]; exact (Below.heap_setCell _ _ _ _ (by simpa using h2)).trans (Below.heap_setCell _ _ _ _ (by simpa using h2))
                  have s7 : W7.heap.size = w6.heap.size := by rw [hW7]; simp
                  have e8 : W8.heap[i]? = w6.heap[i]? := (hg8.block i (by omega) (by simpa using h3)).trans e7
                  exact ⟨e8, (hg9.block i (by omega) (by simpa using h3)).trans e8⟩
                have hl9 : P9 ≠ l := fun e => by have h1 := HP96.out; have h2 := HST6.out.lim; unfold LimC at h2; rw [e, h2] at h1; simp at h1
                have hl11 : P11 ≠ l := fun e => by have h1 := HP11.out; have h2 := HST6.out.lim; unfold LimC at h2; rw [e, h2] at h1; simp at h1
                have kk08 : W8.cell? ⟨K, 0, none⟩ = some (.int .u8 x.a) := (World.cell?_of_block (w := w6) (a := ⟨K, 0, none⟩) (old K (lt_of_block HST6.out.key) hKl hKb).1).trans k0
                have kk18 : W8.cell? ⟨K, 1, none⟩ = some (.int .u8 x.b) := (World.cell?_of_block (w := w6) (a := ⟨K, 1, none⟩) (old K (lt_of_block HST6.out.key) hKl hKb).1).trans k1
                have kk28 : W8.cell? ⟨K, 2, none⟩ = some (.int .u8 x.c) := (World.cell?_of_block (w := w6) (a := ⟨K, 2, none⟩) (old K (lt_of_block HST6.out.key) hKl hKb).1).trans k2
                have kk38 : W8.cell? ⟨K, 3, none⟩ = some (.int .u8 x.d) := (World.cell?_of_block (w := w6) (a := ⟨K, 3, none⟩) (old K (lt_of_block HST6.out.key) hKl hKb).1).trans k3
                have kk48 : W8.cell? ⟨K, 4, none⟩ = some (.int .u8 x.e) := (World.cell?_of_block (w := w6) (a := ⟨K, 4, none⟩) (old K (lt_of_block HST6.out.key) hKl hKb).1).trans k4
                have kk58 : W8.cell? ⟨K, 5, none⟩ = some (.int .u8 x.f) := (World.cell?_of_block (w := w6) (a := ⟨K, 5, none⟩) (old K (lt_of_block HST6.out.key) hKl hKb).1).trans k5
                have pp08 := (World.cell?_of_block (w := w6) (a := ⟨P9, 0, none⟩) (old P9 (lt_of_block HP96.out) hl9 h9b).1).trans p0
                have pp18 := (World.cell?_of_block (w := w6) (a := ⟨P9, 1, none⟩) (old P9 (lt_of_block HP96.out) hl9 h9b).1).trans p1
                have rr08 := (World.cell?_of_block (w := w6) (a := ⟨P11, 0, none⟩) (old P11 (lt_of_block HP11.out) hl11 h11b).1).trans r0
                have rr18 := (World.cell?_of_block (w := w6) (a := ⟨P11, 1, none⟩) (old P11 (lt_of_block HP11.out) hl11 h11b).1).trans r1
                have kk09 : W9.cell? ⟨K, 0, none⟩ = some (.int .u8 x.a) := (World.cell?_of_block (w := w6) (a := ⟨K, 0, none⟩) (old K (lt_of_block HST6.out.key) hKl hKb).2).trans k0
                have kk19 : W9.cell? ⟨K, 1, none⟩ = some (.int .u8 x.b) := (World.cell?_of_block (w := w6) (a := ⟨K, 1, none⟩) (old K (lt_of_block HST6.out.key) hKl hKb).2).trans k1
                have kk29 : W9.cell? ⟨K, 2, none⟩ = some (.int .u8 x.c) := (World.cell?_of_block (w := w6) (a := ⟨K, 2, none⟩) (old K (lt_of_block HST6.out.key) hKl hKb).2).trans k2
                have kk39 : W9.cell? ⟨K, 3, none⟩ = some (.int .u8 x.d) := (World.cell?_of_block (w := w6) (a := ⟨K, 3, none⟩) (old K (lt_of_block HST6.out.key) hKl hKb).2).trans k3
                have kk49 : W9.cell? ⟨K, 4, none⟩ = some (.int .u8 x.e) := (World.cell?_of_block (w := w6) (a := ⟨K, 4, none⟩) (old K (lt_of_block HST6.out.key) hKl hKb).2).trans k4
                have kk59 : W9.cell? ⟨K, 5, none⟩ = some (.int .u8 x.f) := (World.cell?_of_block (w := w6) (a := ⟨K, 5, none⟩) (old K (lt_of_block HST6.out.key) hKl hKb).2).trans k5
                have pp09 := (World.cell?_of_block (w := w6) (a := ⟨P9, 0, none⟩) (old P9 (lt_of_block HP96.out) hl9 h9b).2).trans p0
                have pp19 := (World.cell?_of_block (w := w6) (a := ⟨P9, 1, none⟩) (old P9 (lt_of_block HP96.out) hl9 h9b).2).trans p1
                have rr09 := (World.cell?_of_block (w := w6) (a := ⟨P11, 0, none⟩) (old P11 (lt_of_block HP11.out) hl11 h11b).2).trans r0
                have rr19 := (World.cell?_of_block (w := w6) (a := ⟨P11, 1, none⟩) (old P11 (lt_of_block HP11.out) hl11 h11b).2).trans r1
                have c68 : W8.cell? ⟨l, 6, none⟩ = some (.map (some bm)) := (cell_of_row W8 l 6 _ _ (0, 0) ((hg8.block l (lt_of_block HC7.out) (by simpa using hne)).trans HC7.out)).trans rfl
                have c69 : W9.cell? ⟨l, 6, none⟩ = some (.map (some bm)) := (cell_of_row W9 l 6 _ _ (0, 0) HC9.out).trans rfl
                rw [hW7] at hrun
                clear hW7 hg8 hs8 hfill hg9 hm9 old HM7 HC7 HT7
                go_region_held3 (fun w' => w'.cell? ⟨l, 6, none⟩ = some (.map (some bm)) ∧ w'.cell? ⟨K, 0, none⟩ = some (.int .u8 x.a) ∧ w'.cell? ⟨K, 1, none⟩ = some (.int .u8 x.b) ∧ w'.cell? ⟨K, 2, none⟩ = some (.int .u8 x.c) ∧ w'.cell? ⟨K, 3, none⟩ = some (.int .u8 x.d) ∧ w'.cell? ⟨K, 4, none⟩ = some (.int .u8 x.e) ∧ w'.cell? ⟨K, 5, none⟩ = some (.int .u8 x.f) ∧ w'.cell? ⟨P9, 0, none⟩ = some (.int .i64 (tkTok e1 m1 bt bk t)) ∧ w'.cell? ⟨P9, 1, none⟩ = some (.int .i64 (tkTick e1 m1 bt bk t)) ∧ w'.cell? ⟨P11, 0, none⟩ = some (.int .i64 (tkTok e2 m2 g.1 g.2 t)) ∧ w'.cell? ⟨P11, 1, none⟩ = some (.int .i64 (tkTick e2 m2 g.1 g.2 t))) (first | (go_keep; done) | (go_simp; done) | (simp [go_sem]; done)) (fail)
                all_goals
                  go_wp2_with fail
                  go_ret
                  exact ⟨by rw [HB.out]; rfl, allow_yes HN.out HKT.out HMINE.out HB.out HC9.out HM9.out HT9.out⟩
end Go.Proofs.Ytlholmndckhhgaa
