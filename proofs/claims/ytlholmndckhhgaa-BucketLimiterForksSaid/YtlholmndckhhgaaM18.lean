/- Fork: a limiter's copy. -/
import Derived.Test.YtlholmndckhhgaaM16
namespace Go.Proofs.Ytlholmndckhhgaa
open Go.RowKit Go.Maps
set_option linter.unusedSimpArgs false
set_option linter.unusedVariables false
theorem Rep.perm {D : DataW Unit} {L L' : Ents} (h : Rep D L) (hp : L.Perm L') : Rep D L' := by
  obtain ⟨⟨es, rfl, he⟩, hd, hk⟩ := h
  refine ⟨⟨es, rfl, he.trans (hp.map _)⟩, ?_, fun p hm => hk p (hp.mem_iff.2 hm)⟩
  exact (hp.pairwise_iff (fun h e => h e.symm)).1 hd
theorem filter_same {L : Ents} {kl : Lit} {c : Int × Int} (hk : WideAt.IsKeyLit kl) (hd : L.Pairwise (fun p q => p.1 ≠ q.1)) (hm : (kl, c) ∈ L) : L.filter (fun p => p.1.sameKey kl) = [(kl, c)] := by
  induction L with
  | nil => cases hm
  | cons p L ih =>
    rw [List.pairwise_cons] at hd
    rcases List.mem_cons.1 hm with h | h
    · subst h
      rw [List.filter_cons_of_pos (by simpa using (sameKey_iff hk).2 rfl)]
      congr 1
      rw [List.filter_eq_nil_iff]
      intro q hq e
      exact hd.1 q hq ((sameKey_iff hk).1 e).symm
    · rw [List.filter_cons_of_neg]
      · exact ih hd.2 h
      · intro e
        exact hd.1 _ h ((sameKey_iff hk).1 e)
/-- One more entry is copied. -/
theorem fork_turn {L : Ents} {D D2 : DataW Unit} {left : Lit → Bool} {kl : Lit} {c : Int × Int} (hrep : Rep D L) (hk : WideAt.IsKeyLit kl) (hl : left kl = true) (hhas : Maps.has D kl = true) (hat : ∀ zd, D.atKey kl zd = bkt c) (h2 : Rep D2 (L.filter fun p => !left p.1)) :
    Rep (D2.put kl (bkt c)) (L.filter fun p => !(left p.1 && !p.1.sameKey kl)) := by
  have hm : (kl, c) ∈ L := by
    rw [hrep.has] at hhas
    unfold hasL at hhas
    rw [List.any_eq_true] at hhas
    obtain ⟨p, hp, hs⟩ := hhas
    have e := (sameKey_iff hk).1 hs
    have h := hrep.mem_at hp .nil
    rw [e, hat] at h
    have : p = (kl, c) := Prod.ext e (bkt_inj h).symm
    rwa [← this]
  have hg := h2.put hk c
  refine hg.perm ?_
  have e1 : dropL (L.filter fun p => !left p.1) kl = (L.filter fun p => !(left p.1 && !p.1.sameKey kl)).filter fun p => !p.1.sameKey kl := by
    unfold dropL
    rw [List.filter_filter, List.filter_filter]
    apply List.filter_congr
    intro p hp
    cases p.1.sameKey kl <;> simp
  have e2 : [(kl, c)] = (L.filter fun p => !(left p.1 && !p.1.sameKey kl)).filter fun p => p.1.sameKey kl := by
    rw [List.filter_filter, ← filter_same hk hrep.2.1 hm]
    apply List.filter_congr
    intro p hp
    cases p.1.sameKey kl <;> simp
  rw [e1, e2]
  refine List.perm_append_comm.trans ?_
  exact List.filter_append_perm (fun (p : Lit × (Int × Int)) => p.1.sameKey kl) _
def ForkP (e1 m1 e2 m2 : Int) (s : LimS) (W : World) (x : Ending) (W' : World) : Prop :=
  ∃ F NB, x = .returned (.pointer (some ⟨F, 0, none⟩)) ∧ Below W.heap.size W W' ∧ W.heap.size ≤ F ∧ W.heap.size ≤ NB ∧ LimC W' F e1 m1 e2 m2 s.bt s.bk (some NB) s.tick ∧ MapAt W' NB s.L
theorem ownsMap_heap {W W' : World} {bm n : Nat} {D : DataW Unit} (h : W.ownsMap Try.prog 45 Rb bm n D) (hb : W'.heap[bm]? = W.heap[bm]?) : W'.ownsMap Try.prog 45 Rb bm n D := by
  obtain ⟨es, clock, h1, h2, h3, h4⟩ := h
  exact ⟨es, clock, hb.trans h1, h2, h3, h4⟩
theorem below_of_grown {B : Nat} {W W1 wr : World} {r : Nat} (h : Below B W W1) (hB : B ≤ W.heap.size) (hg : W1.grownBy wr (some r)) (hr : B ≤ r) : Below B W wr :=
  h.grown hg (Nat.le_trans hB h.size) (fun k hk => by cases hk; exact hr)
set_option maxRecDepth 100000 in
set_option maxHeartbeats 2000000 in
theorem fork_any (l bm : Nat) (e1 m1 e2 m2 : Int) (s : LimS) (W : World) (hc : LimC W l e1 m1 e2 m2 s.bt s.bk (some bm) s.tick) (hm : MapAt W bm s.L) (hlen : s.L.length ≤ 100000) :
    Calls Try.prog 27 #[.pointer (some ⟨l, 0, none⟩)] W (ForkP e1 m1 e2 m2 s W) := by
  obtain ⟨bt, bk, tick, L⟩ := s
  simp only at hc hm hlen
  obtain ⟨D, hrep, hown⟩ := hm
  have hne := hc.ne hown
  have HC := Lib.hid hc
  have HREP := Lib.hid hrep
  have c0 : W.cell? ⟨l, 0, none⟩ = some (.int .i64 e1) := (cell_of_row W l 0 _ _ (0, 0) hc).trans rfl
  have c1 : W.cell? ⟨l, 1, none⟩ = some (.int .i64 m1) := (cell_of_row W l 1 _ _ (0, 0) hc).trans rfl
  have c2 : W.cell? ⟨l, 2, none⟩ = some (.int .i64 e2) := (cell_of_row W l 2 _ _ (0, 0) hc).trans rfl
  have c3 : W.cell? ⟨l, 3, none⟩ = some (.int .i64 m2) := (cell_of_row W l 3 _ _ (0, 0) hc).trans rfl
  have c4 : W.cell? ⟨l, 4, none⟩ = some (.int .i64 bt) := (cell_of_row W l 4 _ _ (0, 0) hc).trans rfl
  have c5 : W.cell? ⟨l, 5, none⟩ = some (.int .i64 bk) := (cell_of_row W l 5 _ _ (0, 0) hc).trans rfl
  have c6 : W.cell? ⟨l, 6, none⟩ = some (.map (some bm)) := (cell_of_row W l 6 _ _ (0, 0) hc).trans rfl
  have c7 : W.cell? ⟨l, 7, none⟩ = some (.int .i64 tick) := (cell_of_row W l 7 _ _ (0, 0) hc).trans rfl
  have hz : l < W.heap.size := lt_of_block hc
  have hzb : bm < W.heap.size := hown.lt
  have HOWN := Lib.hid hown
  have hmm := @run_makeMap Try.prog
  clear hc hrep hown
  go_enter Try.func27, Try.ntmps27
  go_upto_region 5 with (go_at_call 30; refine (none_no l bm _ c6).mono ?_; rintro e w1 ⟨rfl, rfl⟩)
  refine wp_world (fun W1 => Below W.heap.size W W1 ∧ LimC W1 W.heap.size e1 m1 e2 m2 bt bk (some (W.heap.size + 1)) tick ∧ W1.heap[W.heap.size + 1]? = some (.map #[] 0)) ⟨by (repeat (first | exact Below.refl _ _ | exact Nat.le_refl _ | (refine below_ext ?_ (by first | (simp [size_ext, grow]; done) | (simp [size_ext, grow]; omega) | omega) _ _) | (refine Below.setCell ?_ (by first | (simp [size_ext, grow]; done) | (simp [size_ext, grow]; omega) | omega) _) | (refine Below.alloc ?_ (by first | (simp [size_ext, grow]; done) | (simp [size_ext, grow]; omega) | omega) _) | refine Below.drew ?_ | refine below_drewN ?_ _ | (refine Below.trans ?_ (Below.mono (by assumption) (by first | (simp [size_ext, grow]; done) | (simp [size_ext, grow]; omega) | omega))))), by unfold LimC; (repeat (first | ((refine heap_alloc_at _ _ _ ?_); (simp [go_sem]; done)) | ((refine (heap_ext _ _ _ _ ?_).trans ?_); (focus (simp [go_sem]; done))) | ((refine (heap_alloc_past _ _ _ ?_).trans ?_); (focus (simp [go_sem]; done))))), by (repeat (first | ((refine heap_alloc_at _ _ _ ?_); (simp [go_sem]; done)) | ((refine (heap_ext _ _ _ _ ?_).trans ?_); (focus (simp [go_sem]; done))) | ((refine (heap_alloc_past _ _ _ ?_).trans ?_); (focus (simp [go_sem]; done)))))⟩ ?_
  clear hmm c0 c1 c2 c3 c4 c5 c7
  intro W1 ⟨hb1, hc1, hn1⟩
  have d6 : W1.cell? ⟨l, 6, none⟩ = some (.map (some bm)) := (hb1.cell (p := ⟨l, 6, none⟩) hz).trans c6
  have hz1 : l < W1.heap.size := by have := hb1.size; omega
  have hzN : W.heap.size + 1 < W1.heap.size := lt_of_block hn1
  have HB1 := Lib.hid hb1
  have HC1 := Lib.hid hc1
  have HN1 := Lib.hid hn1
  have HOW1 := Lib.hid (ownsMap_heap HOWN.out (hb1.block bm hzb))
  clear hb1 hc1 hn1 c6 HOWN
  go_wp2_with (at_range; go_loud (refine wpList_range_own _ rfl (.tmp 16) 61 rfl 45 25 law45 (by kernel_rfl) Rb bm _ D rfl HOW1.out ?_); intro w0 hrg0 hg0 hs0; have HR0 := Lib.hid (And.intro hrg0 (And.intro hg0 hs0)); clear hrg0 hg0 hs0)
  go_frame
  go_loopw [18] (fun _ wr => ∃ (left : Lit → Bool) (cnt : Nat), wr.ranges Try.prog 45 Rb bm W1.heap.size L.length D left cnt ∧ (∀ k, left k = true → Maps.has D k = true) ∧ MapAt wr (W.heap.size + 1) (L.filter fun p => !left p.1) ∧ W1.grownBy wr (some (W.heap.size + 1))) (fun _ wr => wr.rangeLeft bm W1.heap.size)
  case atStart =>
    refine ⟨_, _, HR0.out.1, fun k h => h, ?_, HR0.out.2.1.but _⟩
    rw [List.filter_eq_nil_iff.2 (fun p hp => by rw [HREP.out.has_mem hp]; simp)]
    exact map_of_heap ((HR0.out.2.1.block _ hzN (by simp)).trans HN1.out)
  case round =>
    obtain ⟨left, cnt, hrg, hlh, hmp, hgr⟩ := hrel
    have HRG := Lib.hid hrg
    have HLH := Lib.hid hlh
    have HMP := Lib.hid hmp
    have HGR := Lib.hid hgr
    have hzr := hgr.size
    clear hrg hlh hmp hgr
    go_wp2_with (at_next; refine wpList_next_ranges _ rfl (.tmp 17) rfl 45 law45 Rb (fun x : M6 => Value.agg #[.int .u8 x.a, .int .u8 x.b, .int .u8 x.c, .int .u8 x.d, .int .u8 x.e, .int .u8 x.f]) (fun c : Int × Int => .agg #[.int .i64 c.1, .int .i64 c.2]) (fun _ _ h => inv45 h) (fun _ _ h => by obtain ⟨c, h1, _⟩ := Rb_inv h; exact ⟨c, h1⟩) bm W1.heap.size L.length D left cnt rfl HRG.out ?_ ?_)
    · intro h0 hl0
      have HL0 := Lib.hid hl0
      clear h0 hl0
      go_wp2_with fail
      go_ret
      refine ⟨W.heap.size, W.heap.size + 1, rfl, below_of_grown HB1.out (Nat.le_refl _) HGR.out (by omega), Nat.le_refl _, by omega, ?_, ?_⟩
      · exact (HGR.out.block _ (by omega) (by simp)).trans HC1.out
      · have h := HMP.out
        rwa [List.filter_eq_self.2 (fun p _ => by rw [HL0.out p.1]; rfl)] at h
    · intro x tok tk kl yd yp w1 cnt1 hk hl hR hat hrg1 hlt hg1 hs1 hen
      have HK := Lib.hid (And.intro hk (And.intro hl (And.intro hR hat)))
      have HRG1 := Lib.hid (And.intro hrg1 (And.intro hlt (And.intro hg1 hs1)))
      clear hk hl hR hat hrg1 hlt hg1 hs1
      have HYD := Lib.hid (show yd = bkt (tok, tk) by have h := HK.out.2.2.1; rw [Rb_mk] at h; simp only [Option.some.injEq, Prod.mk.injEq] at h; exact h.1.symm)
      have hw1 : w1.heap.size = wr.heap.size := HRG1.out.2.2.2
      have HCF := Lib.hid (show LimC w1 W.heap.size e1 m1 e2 m2 bt bk (some (W.heap.size + 1)) tick from (HRG1.out.2.2.1.block _ (by omega) (by simp; omega)).trans ((HGR.out.block _ (by omega) (by simp)).trans HC1.out))
      have HMP1 := Lib.hid (HMP.out.kept (HRG1.out.2.2.1.block _ (by omega) (by simp; omega)))
      have f6 : w1.cell? ⟨W.heap.size, 6, none⟩ = some (.map (some (W.heap.size + 1))) := (cell_of_row w1 _ 6 _ _ (0, 0) HCF.out).trans rfl
      have hzF : W.heap.size < w1.heap.size := lt_of_block HCF.out
      have hzN1 : W.heap.size + 1 < w1.heap.size := by omega
      have HW1 := Lib.hid hw1
      clear hw1
      obtain ⟨D2, hrep2, hown2⟩ := HMP1.out
      have HD2 := Lib.hid (And.intro hrep2 hown2)
      clear hrep2 hown2
      have HBW := Lib.hid (show Below w1.heap.size w1 ((w1.alloc (.cells #[.int .u8 x.a, .int .u8 x.b, .int .u8 x.c, .int .u8 x.d, .int .u8 x.e, .int .u8 x.f] 45)).alloc (.cells #[.int .i64 tok, .int .i64 tk] 25)) by (repeat (first | exact Below.refl _ _ | exact Nat.le_refl _ | (refine below_ext ?_ (by first | (simp [size_ext, grow]; done) | (simp [size_ext, grow]; omega) | omega) _ _) | (refine Below.setCell ?_ (by first | (simp [size_ext, grow]; done) | (simp [size_ext, grow]; omega) | omega) _) | (refine Below.alloc ?_ (by first | (simp [size_ext, grow]; done) | (simp [size_ext, grow]; omega) | omega) _) | refine Below.drew ?_ | refine below_drewN ?_ _ | (refine Below.trans ?_ (Below.mono (by assumption) (by first | (simp [size_ext, grow]; done) | (simp [size_ext, grow]; omega) | omega))))))
      go_wp2_with (at_mapUpdate; go_loud (refine wpList_mapUpdate_own _ rfl (.tmp 24) (.tmp 25) (.tmp 26) 61 rfl 45 25 law45 (by kernel_rfl) Rb (W.heap.size + 1) _ D2 rfl (ownsMap_heap HD2.out.2 (HBW.out.block _ hzN1)) (by have := List.length_filter_le (fun p => !left p.1) L; unfold maxLen; omega) _ _ kl rfl rfl HK.out.1 (bkt (tok, tk)) [] (Rb_mk _ _) ?_); intro w6 hown6 hg6; have HO6 := Lib.hid (And.intro hown6 hg6); clear hown6 hg6)
      have hrg6 := ((HRG1.out.1).kept (below_grown HBW.out) (by simp) (by simp)).kept HO6.out.2 (by simp; omega) (by simp; omega)
      refine ⟨⟨_, _, _, _, _, _, _, _, _, _, _, ⟨_, _, hrg6, ?_, ?_, ?_⟩, rfl⟩, ?_⟩
      · intro k hk
        simp only [Bool.and_eq_true] at hk
        exact HLH.out k hk.1
      · exact MapAt.of HO6.out.1 (fork_turn HREP.out (law45.key HK.out.1) HK.out.2.1 (HLH.out kl HK.out.2.1) (fun zd => (HK.out.2.2.2 zd).trans HYD.out) HD2.out.1)
      · exact ((HGR.out.andThen HRG1.out.2.2.1 (fun j e => by cases e; exact .inl (Nat.le_refl _))).andThen (below_grown HBW.out) (fun j e => by cases e)).andThen HO6.out.2 (fun j e => .inr e)
      · rw [hrg6.left_eq, HRG.out.left_eq]; exact HRG1.out.2.1
end Go.Proofs.Ytlholmndckhhgaa
