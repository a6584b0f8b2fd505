/- BucketLimiterForks: its walk. -/
import Derived.Test.YtlholmndckhhgaaM17
import Derived.Test.YtlholmndckhhgaaM18
import Derived.Deep.RegionWith
namespace Go.Proofs.Ytlholmndckhhgaa
open Go.ChangeShapes Go.WideShapes Go.ChangeAt Go.RowKit Go.Joins Go.Deep Go.Maps
set_option linter.unusedSimpArgs false
set_option linter.unusedVariables false
/-- A limiter that nobody made. -/
def Nobody (w : World) (v : Value) : Prop := v = .pointer none ∨ ∃ g, v = .pointer (some ⟨g, 0, none⟩) ∧ w.cell? ⟨g, 6, none⟩ = some (.map none)
theorem Nobody.keep {w w' : World} {v : Value} (h : Nobody w v) (hb : Below w.heap.size w w') : Nobody w' v := by
  rcases h with h | ⟨g, rfl, hc⟩
  · exact .inl h
  · have := World.block_lt_of_cell? w _ hc
    exact .inr ⟨g, rfl, (hb.cell (p := ⟨g, 6, none⟩) this).trans hc⟩
theorem none_true {w : World} {v : Value} (h : Nobody w v) : Calls Try.prog 30 #[v] w fun e w' => e = .returned (.bool true) ∧ w = w' := by
  rcases h with rfl | ⟨g, rfl, hc⟩
  · exact none_nil w
  · exact none_empty g w hc
theorem allow_none (x : M6) (t : Int) {v : Value} {W : World} (h : Nobody W v) :
    Calls Try.prog 21 #[v, .agg #[.int .u8 x.a, .int .u8 x.b, .int .u8 x.c, .int .u8 x.d, .int .u8 x.e, .int .u8 x.f], .int .i64 t] W fun e W' => e = .returned (.bool false) ∧ Below W.heap.size W W' := by
  have H := Lib.hid h
  clear h
  go_enter Try.func21, Try.ntmps21
  go_wp2_with (go_at_call 30; refine (none_true (H.out.keep (by (repeat (first | exact Below.refl _ _ | exact Nat.le_refl _ | (refine below_ext ?_ (by first | (simp [size_ext, grow]; done) | (simp [size_ext, grow]; omega) | omega) _ _) | (refine Below.setCell ?_ (by first | (simp [size_ext, grow]; done) | (simp [size_ext, grow]; omega) | omega) _) | (refine Below.alloc ?_ (by first | (simp [size_ext, grow]; done) | (simp [size_ext, grow]; omega) | omega) _) | refine Below.drew ?_ | refine below_drewN ?_ _ | (refine Below.trans ?_ (Below.mono (by assumption) (by first | (simp [size_ext, grow]; done) | (simp [size_ext, grow]; omega) | omega)))))))).mono ?_; rintro e w1 ⟨rfl, rfl⟩)
  go_ret
  exact ⟨rfl, by (repeat (first | exact Below.refl _ _ | exact Nat.le_refl _ | (refine below_ext ?_ (by first | (simp [size_ext, grow]; done) | (simp [size_ext, grow]; omega) | omega) _ _) | (refine Below.setCell ?_ (by first | (simp [size_ext, grow]; done) | (simp [size_ext, grow]; omega) | omega) _) | (refine Below.alloc ?_ (by first | (simp [size_ext, grow]; done) | (simp [size_ext, grow]; omega) | omega) _) | refine Below.drew ?_ | refine below_drewN ?_ _ | (refine Below.trans ?_ (Below.mono (by assumption) (by first | (simp [size_ext, grow]; done) | (simp [size_ext, grow]; omega) | omega)))))⟩
theorem len_none {v : Value} {W : World} (h : Nobody W v) : Calls Try.prog 23 #[v] W fun e W' => e = .returned (.int .i64 0) ∧ W = W' := by
  have H := Lib.hid h
  clear h
  go_enter Try.func23, Try.ntmps23
  go_wp2_with (go_at_call 30; refine (none_true H.out).mono ?_; rintro e w1 ⟨rfl, rfl⟩)
  go_ret
  exact ⟨rfl, rfl⟩
theorem tick_none {v : Value} {W : World} (h : Nobody W v) : Calls Try.prog 26 #[v] W fun e W' => e = .returned (.int .i64 0) ∧ W = W' := by
  have H := Lib.hid h
  clear h
  go_enter Try.func26, Try.ntmps26
  go_wp2_with (go_at_call 30; refine (none_true H.out).mono ?_; rintro e w1 ⟨rfl, rfl⟩)
  go_ret
  exact ⟨rfl, rfl⟩
theorem fork_none {v : Value} {W : World} (h : Nobody W v) : Calls Try.prog 27 #[v] W fun e W' => e = .returned (.pointer none) ∧ W = W' := by
  have H := Lib.hid h
  clear h
  go_enter Try.func27, Try.ntmps27
  go_wp2_with (go_at_call 30; refine (none_true H.out).mono ?_; rintro e w1 ⟨rfl, rfl⟩)
  go_ret
  exact ⟨rfl, rfl⟩
theorem tick_allow (e1 m1 e2 m2 : Int) (s : LimS) (k : Lit) (t : Int) : (allowS e1 m1 e2 m2 s k t).tick = nowT s.tick t := by
  unfold allowS
  by_cases h : allowB e1 m1 e2 m2 s k t = true
  · rw [if_pos h]
  · rw [if_neg h]
theorem tick_in {e1 m1 e2 m2 : Int} {s : LimS} {k : Lit} {t : Int} (h0 : 0 ≤ s.tick) (h1 : s.tick ≤ 1099511627776) : 0 ≤ (allowS e1 m1 e2 m2 s k t).tick ∧ (allowS e1 m1 e2 m2 s k t).tick ≤ 1099511627776 := by
  rw [tick_allow]
  unfold nowT
  by_cases h : inB t s.tick 1099511627776 = true
  · rw [if_pos h]
    simp [inB] at h
    omega
  · rw [if_neg h]; exact ⟨h0, h1⟩
/-- Both limiters as they lie: the limiter at s', the reference's at s. -/
structure ForkW (w : World) (YB l bm : Nat) (e1 m1 e2 m2 : Int) (s s' : LimS) (r : RefS) (B : Nat) (wr : World) : Prop where
  lim : LimC wr l e1 m1 e2 m2 s'.bt s'.bk (some bm) s'.tick
  map : MapAt wr bm s'.L
  below : Below w.heap.size w wr
  y : wr.heap[YB]? = some (.cells (rowY e1 m1 e2 m2 s r) 55 (0, 0))
  ref : RefAt wr B s r
  hB : B ≤ wr.heap.size
  far : ∀ a, r.A = some a → a.block < B → a.block ≠ l ∧ a.block ≠ bm ∧ a.block ≠ YB
  apart : s.L.Pairwise (fun p q => p.1 ≠ q.1)
  t0 : 0 ≤ s.tick
  t1 : s.tick ≤ 1099511627776
  lY : l ≠ YB
  bY : bm ≠ YB
  hl : w.heap.size ≤ l
  hb : w.heap.size ≤ bm
  hY : w.heap.size ≤ YB
theorem ForkW.grow {w wr w' : World} {YB l bm B : Nat} {e1 m1 e2 m2 : Int} {s s' : LimS} {r : RefS} (h : ForkW w YB l bm e1 m1 e2 m2 s s' r B wr) (hb : Below wr.heap.size wr w') : ForkW w YB l bm e1 m1 e2 m2 s s' r B w' :=
  { h with lim := (hb.block l (lt_of_block h.lim)).trans h.lim, map := h.map.kept (hb.block bm h.map.lt), below := h.below.trans (hb.mono h.below.size), y := (hb.block YB (lt_of_block h.y)).trans h.y, ref := h.ref.keep (hb.mono h.hB), hB := Nat.le_trans h.hB hb.size }
theorem RefAt.turned {W W' : World} {B : Nat} {s : LimS} {r : RefS} (h : RefAt W B s r) (hk : ∀ a, r.A = some a → a.block < B → W'.heap[a.block]? = W.heap[a.block]?) : RefAt W' B s r :=
  ⟨h.at_.other' hk, h.n, h.c, h.L, h.ok⟩
theorem ForkW.turn {w wr w' : World} {YB l bm B : Nat} {e1 m1 e2 m2 : Int} {s s' s2 : LimS} {r : RefS} (h : ForkW w YB l bm e1 m1 e2 m2 s s' r B wr)
    (hc : LimC w' l e1 m1 e2 m2 s2.bt s2.bk (some bm) s2.tick) (hm : MapAt w' bm s2.L) (ht : Two l bm wr w') : ForkW w YB l bm e1 m1 e2 m2 s s2 r B w' :=
  { h with lim := hc, map := hm, below := h.below.trans (ht.below h.below.size h.hl h.hb), y := (ht.block YB (lt_of_block h.y) (fun e => h.lY e.symm) (fun e => h.bY e.symm)).trans h.y, ref := h.ref.turned (fun a ha hlt => ht.block _ (Nat.lt_of_lt_of_le hlt h.hB) (h.far a ha hlt).1 (h.far a ha hlt).2.1), hB := Nat.le_trans h.hB ht.size }
/-- The fork beside the old one. -/
theorem ForkW.fork {w wr w' : World} {YB l bm F NB B : Nat} {e1 m1 e2 m2 : Int} {s : LimS} {r : RefS} (h : ForkW w YB l bm e1 m1 e2 m2 s s r B wr) (hb : Below wr.heap.size wr w') (hF : wr.heap.size ≤ F) (hN : wr.heap.size ≤ NB)
    (hc : LimC w' F e1 m1 e2 m2 s.bt s.bk (some NB) s.tick) (hm : MapAt w' NB s.L) : ForkW w YB F NB e1 m1 e2 m2 s s r B w' ∧ l ≠ F ∧ l ≠ NB ∧ bm ≠ F ∧ bm ≠ NB := by
  have h1 := lt_of_block h.lim
  have h2 := h.map.lt
  have h3 := lt_of_block h.y
  have h4 := h.below.size
  have h5 := h.hB
  exact ⟨{ h.grow hb with lim := hc, map := hm, far := (fun a ha hlt => ⟨by omega, by omega, (h.far a ha hlt).2.2⟩), lY := by omega, bY := by omega, hl := by omega, hb := by omega }, by omega, by omega, by omega, by omega⟩
/-- The old one turns, the fork stays. -/
theorem ForkW.other {w wr w' : World} {YB l bm F NB B : Nat} {e1 m1 e2 m2 : Int} {s : LimS} {r : RefS} (h : ForkW w YB F NB e1 m1 e2 m2 s s r B wr) (ho : ForkW w YB l bm e1 m1 e2 m2 s s r B wr) (hne : l ≠ F ∧ l ≠ NB ∧ bm ≠ F ∧ bm ≠ NB) (ht : Two l bm wr w') : ForkW w YB F NB e1 m1 e2 m2 s s r B w' :=
  { h with lim := (ht.block F (lt_of_block h.lim) (fun e => hne.1 e.symm) (fun e => hne.2.2.1 e.symm)).trans h.lim, map := h.map.kept (ht.block NB h.map.lt (fun e => hne.2.1 e.symm) (fun e => hne.2.2.2 e.symm)), below := h.below.trans (ht.below h.below.size ho.hl ho.hb), y := (ht.block YB (lt_of_block h.y) (fun e => ho.lY e.symm) (fun e => ho.bY e.symm)).trans h.y, ref := h.ref.turned (fun a ha hlt => ht.block _ (Nat.lt_of_lt_of_le hlt h.hB) (ho.far a ha hlt).1 (ho.far a ha hlt).2.1), hB := Nat.le_trans h.hB ht.size }
theorem ForkW.put {w wr : World} {YB l bm B : Nat} {e1 m1 e2 m2 : Int} {s s' : LimS} {r r' : RefS} (h : ForkW w YB l bm e1 m1 e2 m2 s s' r B wr) (hr : RefAt wr wr.heap.size s' r') (hh : ∀ a, r'.A = some a → a.block ≠ l ∧ a.block ≠ bm ∧ a.block ≠ YB) (ha : s'.L.Pairwise (fun p q => p.1 ≠ q.1)) (h0 : 0 ≤ s'.tick) (h1 : s'.tick ≤ 1099511627776) :
    ForkW w YB l bm e1 m1 e2 m2 s' s' r' wr.heap.size ((((((((wr.setCell ⟨YB, 0, none⟩ (.int .i64 e1)).setCell ⟨YB, 1, none⟩ (.int .i64 m1)).setCell ⟨YB, 2, none⟩ (.int .i64 e2)).setCell ⟨YB, 3, none⟩ (.int .i64 m2)).setCell ⟨YB, 4, none⟩ (.int .i64 s'.bt)).setCell ⟨YB, 5, none⟩ (.int .i64 s'.bk)).setCell ⟨YB, 6, none⟩ (.slice r'.A r'.n r'.c)).setCell ⟨YB, 7, none⟩ (.int .i64 s'.tick)) := by
  have htwo := two8 (Two.refl YB YB wr) (.int .i64 e1) (.int .i64 m1) (.int .i64 e2) (.int .i64 m2) (.int .i64 s'.bt) (.int .i64 s'.bk) (.slice r'.A r'.n r'.c) (.int .i64 s'.tick)
  have hy := row8 h.y (.int .i64 e1) (.int .i64 m1) (.int .i64 e2) (.int .i64 m2) (.int .i64 s'.bt) (.int .i64 s'.bk) (.slice r'.A r'.n r'.c) (.int .i64 s'.tick)
  revert htwo hy
  generalize ((((((((wr.setCell ⟨YB, 0, none⟩ (.int .i64 e1)).setCell ⟨YB, 1, none⟩ (.int .i64 m1)).setCell ⟨YB, 2, none⟩ (.int .i64 e2)).setCell ⟨YB, 3, none⟩ (.int .i64 m2)).setCell ⟨YB, 4, none⟩ (.int .i64 s'.bt)).setCell ⟨YB, 5, none⟩ (.int .i64 s'.bk)).setCell ⟨YB, 6, none⟩ (.slice r'.A r'.n r'.c)).setCell ⟨YB, 7, none⟩ (.int .i64 s'.tick)) = w2
  intro ht hy
  exact { h with lim := (ht.block l (lt_of_block h.lim) h.lY h.lY).trans h.lim, map := h.map.kept (ht.block bm h.map.lt h.bY h.bY), below := h.below.trans (ht.below h.below.size h.hY h.hY), y := hy, ref := hr.turned (fun a ha hlt => ht.block _ hlt (hh a ha).2.2 (hh a ha).2.2), hB := ht.size, far := (fun a ha _ => hh a ha), apart := ha, t0 := h0, t1 := h1 }
set_option maxRecDepth 100000 in
set_option maxHeartbeats 4000000 in
theorem forks_any (e1 m1 e2 m2 : Int) (A : Option Addr) (n c : Nat) (L : List Ask) (w : World) (hA : AsksAt w w.heap.size A L) (hn : n = L.length) (hn2 : (n : Int) ≤ 9223372036854775807) :
    Calls Try.prog 10 #[.agg #[.int .i64 e1, .int .i64 m1], .agg #[.int .i64 e2, .int .i64 m2], .slice A n c] w fun e w' => e = .returned (.bool true) ∧ Below w.heap.size w w' := by
  have HA := Lib.hid hA
  have HN := Lib.hid hn
  clear hA hn
  go_enter Try.func10, Try.ntmps10
  go_wp2_with fail
  refine wp_world (fun W0 => Below w.heap.size w W0 ∧ W0.heap[w.heap.size]? = some (.cells #[.int .i64 e1, .int .i64 m1] 23 (0, 0)) ∧ W0.heap[w.heap.size + 1]? = some (.cells #[.int .i64 e2, .int .i64 m2] 23 (0, 0)) ∧
    W0.heap[w.heap.size + 1 + 1]? = some (.cells #[.int .i64 0, .int .i64 0, .int .i64 0, .int .i64 0, .int .i64 0, .int .i64 0, .map none, .int .i64 0] 63 (0, 0)) ∧ W0.heap[w.heap.size + 1 + 1 + 1]? = some (.cells #[.pointer none, .pointer (some ⟨w.heap.size + 1 + 1, 0, none⟩)] 37 (0, 0))) ⟨by (repeat (first | exact Below.refl _ _ | exact Nat.le_refl _ | (refine below_ext ?_ (by first | (simp [size_ext, grow]; done) | (simp [size_ext, grow]; omega) | omega) _ _) | (refine Below.setCell ?_ (by first | (simp [size_ext, grow]; done) | (simp [size_ext, grow]; omega) | omega) _) | (refine Below.alloc ?_ (by first | (simp [size_ext, grow]; done) | (simp [size_ext, grow]; omega) | omega) _) | refine Below.drew ?_ | refine below_drewN ?_ _ | (refine Below.trans ?_ (Below.mono (by assumption) (by first | (simp [size_ext, grow]; done) | (simp [size_ext, grow]; omega) | omega))))), by (repeat (first | ((refine heap_alloc_at _ _ _ ?_); (simp [go_sem]; done)) | ((refine (heap_ext _ _ _ _ ?_).trans ?_); (focus (simp [go_sem]; done))) | ((refine (heap_alloc_past _ _ _ ?_).trans ?_); (focus (simp [go_sem]; done))))), by (repeat (first | ((refine heap_alloc_at _ _ _ ?_); (simp [go_sem]; done)) | ((refine (heap_ext _ _ _ _ ?_).trans ?_); (focus (simp [go_sem]; done))) | ((refine (heap_alloc_past _ _ _ ?_).trans ?_); (focus (simp [go_sem]; done))))), by (repeat (first | ((refine heap_alloc_at _ _ _ ?_); (simp [go_sem]; done)) | ((refine (heap_ext _ _ _ _ ?_).trans ?_); (focus (simp [go_sem]; done))) | ((refine (heap_alloc_past _ _ _ ?_).trans ?_); (focus (simp [go_sem]; done))))), by (repeat (first | ((refine heap_alloc_at _ _ _ ?_); (simp [go_sem]; done)) | ((refine (heap_ext _ _ _ _ ?_).trans ?_); (focus (simp [go_sem]; done))) | ((refine (heap_alloc_past _ _ _ ?_).trans ?_); (focus (simp [go_sem]; done)))))⟩ ?_
  intro W0 ⟨hb0, hr0, hr1, hE, hO⟩
  have HB0 := Lib.hid hb0
  have HR0 := Lib.hid hr0
  have HR1 := Lib.hid hr1
  have HE := Lib.hid hE
  have HO := Lib.hid hO
  have hzO : w.heap.size + 1 + 1 + 1 < W0.heap.size := lt_of_block hO
  clear hb0 hr0 hr1 hE hO
  go_loopw [9] (fun i wr => ∃ j : Nat, j ≤ 2 ∧ i = .int .i64 j ∧ Below W0.heap.size W0 wr) (fun i _ => 2 - (intOf i).toNat)
  case atStart => exact ⟨0, by omega, rfl, Below.refl _ _⟩
  case round =>
    obtain ⟨j, hj, rfl, hbl⟩ := hrel
    have HBL := Lib.hid hbl
    have hszr := hbl.size
    clear hbl
    by_cases hlt : j < 2
    · obtain ⟨v, hv, hnb⟩ : ∃ v, wr.cell? ⟨w.heap.size + 1 + 1 + 1, j, none⟩ = some v ∧ Nobody wr v := by
        have h := (HBL.out.block _ hzO).trans HO.out
        by_cases h0 : j = 0
        · subst h0
          exact ⟨_, (cell_of_row wr _ 0 _ _ (0, 0) h).trans rfl, .inl rfl⟩
        · obtain rfl : j = 1 := by omega
          refine ⟨_, (cell_of_row wr _ 1 _ _ (0, 0) h).trans rfl, .inr ⟨_, rfl, ?_⟩⟩
          exact (cell_of_row wr _ 6 _ _ (0, 0) ((HBL.out.block _ (by omega)).trans HE.out)).trans rfl
      have HNB := Lib.hid hnb
      have hzr : w.heap.size + 1 + 1 + 1 < wr.heap.size := by omega
      have jj0 : (0 : Int) ≤ (j : Int) := by omega
      have jj1 : (j : Int) < 2 := by omega
      clear hnb
      go_upto_region 6 with (fail)
      go_cut [58] (fun s58 wx => s58 = .bool false ∧ Below wr.heap.size wr wx)
      case first =>
        go_region_held3 (fun w' => w'.cell? ⟨w.heap.size + 1 + 1 + 1, j, none⟩ = some v) (first | (go_keep; done) | (go_simp; done) | (simp [go_sem]; done)) ((first | (go_at_call 22; refine (mac_any 1 _).mono ?_; rintro e w5 ⟨rfl, hb⟩; obtain ⟨xs5, dr5, rfl⟩ := ext_of hb; clear hb) | (go_at_call 21; refine (allow_none ⟨2, 0, 0, 0, 0, 1⟩ 0 (HNB.out.keep (by (repeat (first | exact Below.refl _ _ | exact Nat.le_refl _ | (refine below_ext ?_ (by first | (simp [size_ext, grow]; done) | (simp [size_ext, grow]; omega) | omega) _ _) | (refine Below.setCell ?_ (by first | (simp [size_ext, grow]; done) | (simp [size_ext, grow]; omega) | omega) _) | (refine Below.alloc ?_ (by first | (simp [size_ext, grow]; done) | (simp [size_ext, grow]; omega) | omega) _) | refine Below.drew ?_ | refine below_drewN ?_ _ | (refine Below.trans ?_ (Below.mono (by assumption) (by first | (simp [size_ext, grow]; done) | (simp [size_ext, grow]; omega) | omega)))))))).mono ?_; rintro e w6 ⟨rfl, hb⟩; obtain ⟨xs6, dr6, rfl⟩ := ext_of hb; clear hb) | (go_at_call 23; refine (len_none (HNB.out.keep (by (repeat (first | exact Below.refl _ _ | exact Nat.le_refl _ | (refine below_ext ?_ (by first | (simp [size_ext, grow]; done) | (simp [size_ext, grow]; omega) | omega) _ _) | (refine Below.setCell ?_ (by first | (simp [size_ext, grow]; done) | (simp [size_ext, grow]; omega) | omega) _) | (refine Below.alloc ?_ (by first | (simp [size_ext, grow]; done) | (simp [size_ext, grow]; omega) | omega) _) | refine Below.drew ?_ | refine below_drewN ?_ _ | (refine Below.trans ?_ (Below.mono (by assumption) (by first | (simp [size_ext, grow]; done) | (simp [size_ext, grow]; omega) | omega)))))))).mono ?_; rintro e w7 ⟨rfl, rfl⟩) | (go_at_call 26; refine (tick_none (HNB.out.keep (by (repeat (first | exact Below.refl _ _ | exact Nat.le_refl _ | (refine below_ext ?_ (by first | (simp [size_ext, grow]; done) | (simp [size_ext, grow]; omega) | omega) _ _) | (refine Below.setCell ?_ (by first | (simp [size_ext, grow]; done) | (simp [size_ext, grow]; omega) | omega) _) | (refine Below.alloc ?_ (by first | (simp [size_ext, grow]; done) | (simp [size_ext, grow]; omega) | omega) _) | refine Below.drew ?_ | refine below_drewN ?_ _ | (refine Below.trans ?_ (Below.mono (by assumption) (by first | (simp [size_ext, grow]; done) | (simp [size_ext, grow]; omega) | omega)))))))).mono ?_; rintro e w7 ⟨rfl, rfl⟩) | (go_at_call 27; refine (fork_none (HNB.out.keep (by (repeat (first | exact Below.refl _ _ | exact Nat.le_refl _ | (refine below_ext ?_ (by first | (simp [size_ext, grow]; done) | (simp [size_ext, grow]; omega) | omega) _ _) | (refine Below.setCell ?_ (by first | (simp [size_ext, grow]; done) | (simp [size_ext, grow]; omega) | omega) _) | (refine Below.alloc ?_ (by first | (simp [size_ext, grow]; done) | (simp [size_ext, grow]; omega) | omega) _) | refine Below.drew ?_ | refine below_drewN ?_ _ | (refine Below.trans ?_ (Below.mono (by assumption) (by first | (simp [size_ext, grow]; done) | (simp [size_ext, grow]; omega) | omega)))))))).mono ?_; rintro e w7 ⟨rfl, rfl⟩)))
        all_goals
          go_wp2_with fail
          go_meet
          exact ⟨rfl, by (repeat (first | exact Below.refl _ _ | exact Nat.le_refl _ | (refine below_ext ?_ (by first | (simp [size_ext, grow]; done) | (simp [size_ext, grow]; omega) | omega) _ _) | (refine Below.setCell ?_ (by first | (simp [size_ext, grow]; done) | (simp [size_ext, grow]; omega) | omega) _) | (refine Below.alloc ?_ (by first | (simp [size_ext, grow]; done) | (simp [size_ext, grow]; omega) | omega) _) | refine Below.drew ?_ | refine below_drewN ?_ _ | (refine Below.trans ?_ (Below.mono (by assumption) (by first | (simp [size_ext, grow]; done) | (simp [size_ext, grow]; omega) | omega)))))⟩
      case rest =>
        obtain ⟨rfl, hbc⟩ := hcut
        have HBC := Lib.hid hbc
        clear hbc hv
        go_wp2_with fail
        go_roundw
        case rel => exact ⟨j + 1, by omega, by go_num, HBL.out.trans (HBC.out.mono hszr)⟩
        case measure => simp [intOf]; omega
    · obtain rfl : j = 2 := by omega
      have HB1 := Lib.hid (HB0.out.trans (HBL.out.mono HB0.out.size))
      have p0 : wr.cell? ⟨w.heap.size, 0, none⟩ = some (.int .i64 e1) := (cell_of_row wr _ 0 _ _ (0, 0) ((HBL.out.block _ (by omega)).trans HR0.out)).trans rfl
      have p1 : wr.cell? ⟨w.heap.size, 1, none⟩ = some (.int .i64 m1) := (cell_of_row wr _ 1 _ _ (0, 0) ((HBL.out.block _ (by omega)).trans HR0.out)).trans rfl
      have p2 : wr.cell? ⟨w.heap.size + 1, 0, none⟩ = some (.int .i64 e2) := (cell_of_row wr _ 0 _ _ (0, 0) ((HBL.out.block _ (by omega)).trans HR1.out)).trans rfl
      have p3 : wr.cell? ⟨w.heap.size + 1, 1, none⟩ = some (.int .i64 m2) := (cell_of_row wr _ 1 _ _ (0, 0) ((HBL.out.block _ (by omega)).trans HR1.out)).trans rfl
      have pz : w.heap.size + 1 < wr.heap.size := by omega
      have pz0 : w.heap.size < wr.heap.size := by omega
      obtain ⟨WA, hWA⟩ : ∃ WA, WA = wr := ⟨_, rfl⟩
      rw [← hWA] at HB1 p0 p1 p2 p3 pz pz0 ⊢
      clear hWA HBL HE HO HR0 HR1 HB0 hszr hzO
      go_wp2_with fail
      refine (new_any e1 m1 e2 m2 _).mono ?_
      rintro e w1 ⟨hb, ⟨hno, rfl⟩ | ⟨hok, l, bm, rfl, hl1, hb1, hc, hm⟩⟩
      · have HNO := Lib.hid hno
        obtain ⟨xs, d, rfl⟩ := ext_of hb
        clear hb hno
        go_wp2_with fail
        refine (rnew_any e1 m1 e2 m2 _).mono ?_
        rintro e w1 ⟨hb, ⟨_, _, rfl⟩ | ⟨hok, rfl⟩⟩
        · obtain ⟨xs2, d2, rfl⟩ := ext_of hb
          clear hb
          go_wp2_with fail
          refine (awake_any _).mono ?_
          rintro e w2 ⟨rfl, hb⟩
          obtain ⟨xs3, d3, rfl⟩ := ext_of hb
          clear hb
          go_wp2_with fail
          go_ret
          exact ⟨rfl, HB1.out.trans (Below.mono (by (repeat (first | exact Below.refl _ _ | exact Nat.le_refl _ | (refine below_ext ?_ (by first | (simp [size_ext, grow]; done) | (simp [size_ext, grow]; omega) | omega) _ _) | (refine Below.setCell ?_ (by first | (simp [size_ext, grow]; done) | (simp [size_ext, grow]; omega) | omega) _) | (refine Below.alloc ?_ (by first | (simp [size_ext, grow]; done) | (simp [size_ext, grow]; omega) | omega) _) | refine Below.drew ?_ | refine below_drewN ?_ _ | (refine Below.trans ?_ (Below.mono (by assumption) (by first | (simp [size_ext, grow]; done) | (simp [size_ext, grow]; omega) | omega)))))) HB1.out.size)⟩
        · rw [HNO.out] at hok; cases hok
      · have HB := Lib.hid (HB1.out.trans (hb.mono HB1.out.size))
        have p0' : w1.cell? ⟨w.heap.size, 0, none⟩ = some (.int .i64 e1) := (hb.cell (p := ⟨w.heap.size, 0, none⟩) (by simp; omega)).trans p0
        have p1' : w1.cell? ⟨w.heap.size, 1, none⟩ = some (.int .i64 m1) := (hb.cell (p := ⟨w.heap.size, 1, none⟩) (by simp; omega)).trans p1
        have p2' : w1.cell? ⟨w.heap.size + 1, 0, none⟩ = some (.int .i64 e2) := (hb.cell (p := ⟨w.heap.size + 1, 0, none⟩) pz).trans p2
        have p3' : w1.cell? ⟨w.heap.size + 1, 1, none⟩ = some (.int .i64 m2) := (hb.cell (p := ⟨w.heap.size + 1, 1, none⟩) pz).trans p3
        have pz' : w.heap.size + 1 < w1.heap.size := by have := hb.size; omega
        have hAz := HB1.out.size
        have hlw : w.heap.size ≤ l := by omega
        have hbw2 : w.heap.size ≤ bm := by omega
        have HC := Lib.hid hc
        have HM := Lib.hid hm
        have HOK := Lib.hid hok
        clear hb hl1 hb1 hc hm hok p0 p1 p2 p3 pz
        go_wp2_with fail
        refine (rnew_any e1 m1 e2 m2 _).mono ?_
        rintro e w2 ⟨hb, ⟨hno, _⟩ | ⟨_, rfl⟩⟩
        · rw [HOK.out] at hno; cases hno
        · have HC2 := Lib.hid (show LimC w2 l e1 m1 e2 m2 m1 0 (some bm) 0 from (hb.block l (lt_of_block HC.out)).trans HC.out)
          have HM2 := Lib.hid (HM.out.kept (hb.block bm HM.out.lt))
          have HB2 := Lib.hid (HB.out.trans (hb.mono HB.out.size))
          clear hb HC HM HB p0' p1' p2' p3' pz'
          unfold refV
          go_wp2_with fail
          refine (awake_any _).mono ?_
          rintro e w3 ⟨rfl, hb⟩
          obtain ⟨YB, hYB⟩ : ∃ YB, w2.heap.size = YB := ⟨_, rfl⟩
          have HRW := Lib.hid (show ForkW w YB l bm e1 m1 e2 m2 ⟨m1, 0, 0, []⟩ ⟨m1, 0, 0, []⟩ ⟨none, 0, 0, []⟩ 0 w3 by
            refine ForkW.grow (wr := w2.alloc (.cells (rowY e1 m1 e2 m2 ⟨m1, 0, 0, []⟩ ⟨none, 0, 0, []⟩) 55)) ?_ hb
            have hlz := lt_of_block HC2.out
            have hbz := HM2.out.lt
            have hsz := HB2.out.size
            exact ⟨(Below.heap_alloc w2 _ l hlz).trans HC2.out, HM2.out.kept (Below.heap_alloc w2 _ bm hbz), HB2.out.alloc HB2.out.size _, by rw [← hYB]; exact heap_alloc_new w2 _, ⟨.inl rfl, rfl, Nat.le_refl _, rfl, fun p hp => by cases hp⟩, Nat.zero_le _, (fun a ha => by cases ha), List.Pairwise.nil, Int.le_refl _, by simp only; omega, by omega, by omega, hlw, hbw2, by omega⟩)
          have hwY : w.heap.size ≤ YB := by have := HB2.out.size; omega
          have hr2 : rated e2 m2 = true := by have := HOK.out; unfold newOk at this; simp at this; exact this.2
          have HR2 := Lib.hid hr2
          rw [hYB]
          clear hb HC2 HM2 HB2 hYB hr2
          go_wp2_with fail
          go_loopw [14, 10] (fun i x wr => ∃ (j l bm B : Nat) (s : LimS) (r : RefS), j ≤ n ∧ j ≤ 20 ∧ i = .int .i64 j ∧ x = .pointer (some ⟨l, 0, none⟩) ∧ s.L.length ≤ j ∧ ForkW w YB l bm e1 m1 e2 m2 s s r B wr) (fun i _ _ => n - (intOf i).toNat)
          case atStart => exact ⟨0, l, bm, 0, _, _, Nat.zero_le _, by omega, rfl, rfl, Nat.le_refl _, HRW.out⟩
          case round =>
            clear HRW
            obtain ⟨j, l, bm, B, s, r, hj, hj2, rfl, rfl, hsl, hw4⟩ := hrel
            have HW := Lib.hid hw4
            have hsz := hw4.below.size
            have ht0 := hw4.t0
            have ht1 := hw4.t1
            clear hw4
            by_cases hlt2 : j < n
            · by_cases h20 : j < 20
              · obtain ⟨b, o, rfl, hbB, hx0, hx1, hx2, hx3, hx4, hx5⟩ := HA.out.get (k := j) (by rw [← HN.out]; exact hlt2)
                obtain ⟨⟨k, la, raw, tt⟩, hx⟩ : ∃ x, L[j]'(by rw [← HN.out]; exact hlt2) = x := ⟨_, rfl⟩
                rw [hx] at hx0 hx1 hx4 hx5
                simp only at hx0 hx1 hx4 hx5
                have HX0 := Lib.hid hx0
                have HX1 := Lib.hid hx1
                clear hx hx0 hx1 hx2 hx3
                have hlen : s.L.length ≤ 100000 := by omega
                have jj0 : (0 : Int) ≤ (j : Int) := by omega
                have jj1 : (j : Int) < (n : Int) := by omega
                go_wp2_with fail
                refine (fork_any l bm e1 m1 e2 m2 s _ HW.out.lim HW.out.map hlen).mono ?_
                rintro e w3 ⟨F, NB, rfl, hb, hF, hN, hcF, hmN⟩
                have HF := Lib.hid (HW.out.fork hb hF hN hcF hmN)
                have HO3 := Lib.hid (HW.out.grow hb)
                clear hb hF hN hcF hmN HW hsz
                have g7 : w3.cell? ⟨YB, 7, none⟩ = some (.int .i64 s.tick) := (cell_of_row w3 _ 7 _ _ (0, 0) HO3.out.y).trans rfl
                have yz : YB < w3.heap.size := lt_of_block HO3.out.y
                go_upto_region 20 with (fail)
                go_cut [] (fun wx => ∃ w4 : World, w4 = wx ∧ ForkW w YB F NB e1 m1 e2 m2 s s r B w4)
                case first =>
                  go_region_held3 (fun w' => w'.cell? ⟨YB, 7, none⟩ = some (.int .i64 s.tick)) (first | (go_keep; done) | (go_simp; done) | (simp [go_sem]; done)) ((first | (go_at_call 22; refine (mac_any 9 _).mono ?_; rintro e w5 ⟨rfl, hb⟩; obtain ⟨xs5, dr5, rfl⟩ := ext_of hb; clear hb) | (go_at_call 21; go_must (refine (allow_any l bm e1 m1 e2 m2 s (mac4 9) (keyL (mac4 9)) s.tick _ (key6 (mac4_ok (by omega))) (by exact (HO3.out.grow (by (repeat (first | exact Below.refl _ _ | exact Nat.le_refl _ | (refine below_ext ?_ (by first | (simp [size_ext, grow]; done) | (simp [size_ext, grow]; omega) | omega) _ _) | (refine Below.setCell ?_ (by first | (simp [size_ext, grow]; done) | (simp [size_ext, grow]; omega) | omega) _) | (refine Below.alloc ?_ (by first | (simp [size_ext, grow]; done) | (simp [size_ext, grow]; omega) | omega) _) | refine Below.drew ?_ | refine below_drewN ?_ _ | (refine Below.trans ?_ (Below.mono (by assumption) (by first | (simp [size_ext, grow]; done) | (simp [size_ext, grow]; omega) | omega))))))).lim) (by exact (HO3.out.grow (by (repeat (first | exact Below.refl _ _ | exact Nat.le_refl _ | (refine below_ext ?_ (by first | (simp [size_ext, grow]; done) | (simp [size_ext, grow]; omega) | omega) _ _) | (refine Below.setCell ?_ (by first | (simp [size_ext, grow]; done) | (simp [size_ext, grow]; omega) | omega) _) | (refine Below.alloc ?_ (by first | (simp [size_ext, grow]; done) | (simp [size_ext, grow]; omega) | omega) _) | refine Below.drew ?_ | refine below_drewN ?_ _ | (refine Below.trans ?_ (Below.mono (by assumption) (by first | (simp [size_ext, grow]; done) | (simp [size_ext, grow]; omega) | omega))))))).map) hlen).mono ?_); rintro y w4 ⟨rfl, hc, hm, ht⟩; have HF4 := Lib.hid (ForkW.other (HF.out.1.grow (by (repeat (first | exact Below.refl _ _ | exact Nat.le_refl _ | (refine below_ext ?_ (by first | (simp [size_ext, grow]; done) | (simp [size_ext, grow]; omega) | omega) _ _) | (refine Below.setCell ?_ (by first | (simp [size_ext, grow]; done) | (simp [size_ext, grow]; omega) | omega) _) | (refine Below.alloc ?_ (by first | (simp [size_ext, grow]; done) | (simp [size_ext, grow]; omega) | omega) _) | refine Below.drew ?_ | refine below_drewN ?_ _ | (refine Below.trans ?_ (Below.mono (by assumption) (by first | (simp [size_ext, grow]; done) | (simp [size_ext, grow]; omega) | omega))))))) (HO3.out.grow (by (repeat (first | exact Below.refl _ _ | exact Nat.le_refl _ | (refine below_ext ?_ (by first | (simp [size_ext, grow]; done) | (simp [size_ext, grow]; omega) | omega) _ _) | (refine Below.setCell ?_ (by first | (simp [size_ext, grow]; done) | (simp [size_ext, grow]; omega) | omega) _) | (refine Below.alloc ?_ (by first | (simp [size_ext, grow]; done) | (simp [size_ext, grow]; omega) | omega) _) | refine Below.drew ?_ | refine below_drewN ?_ _ | (refine Below.trans ?_ (Below.mono (by assumption) (by first | (simp [size_ext, grow]; done) | (simp [size_ext, grow]; omega) | omega))))))) HF.out.2 ht); have g74 : w4.cell? ⟨YB, 7, none⟩ = some (.int .i64 s.tick) := (cell_of_row w4 _ 7 _ _ (0, 0) HF4.out.y).trans rfl; clear hc hm ht)))
                  all_goals
                    go_wp2_with fail
                    go_meet
                    exact ⟨_, rfl, HF4.out.grow (by (repeat (first | exact Below.refl _ _ | exact Nat.le_refl _ | (refine below_ext ?_ (by first | (simp [size_ext, grow]; done) | (simp [size_ext, grow]; omega) | omega) _ _) | (refine Below.setCell ?_ (by first | (simp [size_ext, grow]; done) | (simp [size_ext, grow]; omega) | omega) _) | (refine Below.alloc ?_ (by first | (simp [size_ext, grow]; done) | (simp [size_ext, grow]; omega) | omega) _) | refine Below.drew ?_ | refine below_drewN ?_ _ | (refine Below.trans ?_ (Below.mono (by assumption) (by first | (simp [size_ext, grow]; done) | (simp [size_ext, grow]; omega) | omega))))))⟩
                case rest =>
                  obtain ⟨w4, hw4, hfw⟩ := hcut
                  rw [← hw4]
                  have HF4 := Lib.hid hfw
                  clear hw4 hfw HF HO3 g7 yz
                  have g7 : w4.cell? ⟨YB, 7, none⟩ = some (.int .i64 s.tick) := (cell_of_row w4 _ 7 _ _ (0, 0) HF4.out.y).trans rfl
                  have yz : YB < w4.heap.size := lt_of_block HF4.out.y
                  have hsz4 := HF4.out.below.size
                  have gm := (HF4.out.below.cell (p := ⟨b, o + j * 4, none⟩) hbB).trans HX0.out
                  have gl := (HF4.out.below.cell (p := ⟨b, o + j * 4 + 1, none⟩) hbB).trans HX1.out
                  have hbw4 : b < w4.heap.size := by omega
                  have hwr : IntKind.i64.wrap (s.tick + (la : Int)) = s.tick + (la : Int) := IntWalk.i64_in _ (by omega)
                  have hwl : IntKind.i64.wrap (la : Int) = (la : Int) := IntWalk.i64_in _ (by omega)
                  obtain ⟨s2, hs2⟩ : ∃ s2, allowS e1 m1 e2 m2 s (keyL (mac4 k)) (s.tick + (la : Int)) = s2 := ⟨_, rfl⟩
                  obtain ⟨b2, hb2⟩ : ∃ b2, allowB e1 m1 e2 m2 s (keyL (mac4 k)) (s.tick + (la : Int)) = b2 := ⟨_, rfl⟩
                  have HAP := Lib.hid (show s2.L.Pairwise (fun p q => p.1 ≠ q.1) by rw [← hs2]; exact apart_allow (keyL_key (mac4_ok (by omega))) HF4.out.apart)
                  have HLE := Lib.hid (show s2.L.length ≤ j + 1 by have := len_allow e1 m1 e2 m2 s (keyL (mac4 k)) (s.tick + (la : Int)); rw [hs2] at this; omega)
                  have HTI := Lib.hid (show 0 ≤ s2.tick ∧ s2.tick ≤ 1099511627776 by rw [← hs2]; exact tick_in ht0 ht1)
                  have HSB := Lib.hid (And.intro hs2 hb2)
                  clear hs2 hb2
                  go_upto_region 22 with (fail)
                  go_cut [16] (fun s16 wx => ∃ w5 : World, w5 = wx ∧ s16 = .bool b2 ∧ ForkW w YB F NB e1 m1 e2 m2 s s2 r B w5)
                  case first =>
                    go_region_held3 (fun w' => w'.cell? ⟨YB, 7, none⟩ = some (.int .i64 s.tick) ∧ w'.cell? ⟨b, o + j * 4, none⟩ = some (.int .u8 (k : Int)) ∧ w'.cell? ⟨b, o + j * 4 + 1, none⟩ = some (.int .u8 (la : Int))) (first | (go_keep; done) | (go_simp; done) | (simp [go_sem]; done)) ((first | (go_at_call 22; refine (mac_any (k : Int) _).mono ?_; rintro e w5 ⟨rfl, hb⟩; obtain ⟨xs5, dr5, rfl⟩ := ext_of hb; clear hb) | (go_at_call 21; go_must (refine (allow_any F NB e1 m1 e2 m2 s (mac4 k) (keyL (mac4 k)) (s.tick + (la : Int)) _ (key6 (mac4_ok (by omega))) (by exact (HF4.out.grow (by (repeat (first | exact Below.refl _ _ | exact Nat.le_refl _ | (refine below_ext ?_ (by first | (simp [size_ext, grow]; done) | (simp [size_ext, grow]; omega) | omega) _ _) | (refine Below.setCell ?_ (by first | (simp [size_ext, grow]; done) | (simp [size_ext, grow]; omega) | omega) _) | (refine Below.alloc ?_ (by first | (simp [size_ext, grow]; done) | (simp [size_ext, grow]; omega) | omega) _) | refine Below.drew ?_ | refine below_drewN ?_ _ | (refine Below.trans ?_ (Below.mono (by assumption) (by first | (simp [size_ext, grow]; done) | (simp [size_ext, grow]; omega) | omega))))))).lim) (by exact (HF4.out.grow (by (repeat (first | exact Below.refl _ _ | exact Nat.le_refl _ | (refine below_ext ?_ (by first | (simp [size_ext, grow]; done) | (simp [size_ext, grow]; omega) | omega) _ _) | (refine Below.setCell ?_ (by first | (simp [size_ext, grow]; done) | (simp [size_ext, grow]; omega) | omega) _) | (refine Below.alloc ?_ (by first | (simp [size_ext, grow]; done) | (simp [size_ext, grow]; omega) | omega) _) | refine Below.drew ?_ | refine below_drewN ?_ _ | (refine Below.trans ?_ (Below.mono (by assumption) (by first | (simp [size_ext, grow]; done) | (simp [size_ext, grow]; omega) | omega))))))).map) hlen).mono ?_); rw [HSB.out.1, HSB.out.2]; rintro y w5 ⟨rfl, hc, hm, ht⟩; have HF5 := Lib.hid (ForkW.turn (HF4.out.grow (by (repeat (first | exact Below.refl _ _ | exact Nat.le_refl _ | (refine below_ext ?_ (by first | (simp [size_ext, grow]; done) | (simp [size_ext, grow]; omega) | omega) _ _) | (refine Below.setCell ?_ (by first | (simp [size_ext, grow]; done) | (simp [size_ext, grow]; omega) | omega) _) | (refine Below.alloc ?_ (by first | (simp [size_ext, grow]; done) | (simp [size_ext, grow]; omega) | omega) _) | refine Below.drew ?_ | refine below_drewN ?_ _ | (refine Below.trans ?_ (Below.mono (by assumption) (by first | (simp [size_ext, grow]; done) | (simp [size_ext, grow]; omega) | omega))))))) hc hm ht); have g75 : w5.cell? ⟨YB, 7, none⟩ = some (.int .i64 s.tick) := (cell_of_row w5 _ 7 _ _ (0, 0) HF5.out.y).trans rfl; have gm5 := (HF5.out.below.cell (p := ⟨b, o + j * 4, none⟩) hbB).trans HX0.out; have gl5 := (HF5.out.below.cell (p := ⟨b, o + j * 4 + 1, none⟩) hbB).trans HX1.out; clear hc hm ht)))
                    all_goals
                      go_wp2_with fail
                      go_meet
                      exact ⟨_, rfl, rfl, HF5.out.grow (by (repeat (first | exact Below.refl _ _ | exact Nat.le_refl _ | (refine below_ext ?_ (by first | (simp [size_ext, grow]; done) | (simp [size_ext, grow]; omega) | omega) _ _) | (refine Below.setCell ?_ (by first | (simp [size_ext, grow]; done) | (simp [size_ext, grow]; omega) | omega) _) | (refine Below.alloc ?_ (by first | (simp [size_ext, grow]; done) | (simp [size_ext, grow]; omega) | omega) _) | refine Below.drew ?_ | refine below_drewN ?_ _ | (refine Below.trans ?_ (Below.mono (by assumption) (by first | (simp [size_ext, grow]; done) | (simp [size_ext, grow]; omega) | omega))))))⟩
                  case rest =>
                    obtain ⟨w5, hw5, rfl, hfw⟩ := hcut
                    rw [← hw5]
                    have HF5 := Lib.hid hfw
                    clear hw5 hfw HF4 g7 yz gm gl hbw4 hsz4
                    have hsz5 := HF5.out.below.size
                    have gm := (HF5.out.below.cell (p := ⟨b, o + j * 4, none⟩) hbB).trans HX0.out
                    have gl := (HF5.out.below.cell (p := ⟨b, o + j * 4 + 1, none⟩) hbB).trans HX1.out
                    have hbw5 : b < w5.heap.size := by omega
                    have y0 : w5.cell? ⟨YB, 0, none⟩ = some (.int .i64 e1) := (cell_of_row w5 _ 0 _ _ (0, 0) HF5.out.y).trans rfl
                    have y1 : w5.cell? ⟨YB, 1, none⟩ = some (.int .i64 m1) := (cell_of_row w5 _ 1 _ _ (0, 0) HF5.out.y).trans rfl
                    have y2 : w5.cell? ⟨YB, 2, none⟩ = some (.int .i64 e2) := (cell_of_row w5 _ 2 _ _ (0, 0) HF5.out.y).trans rfl
                    have y3 : w5.cell? ⟨YB, 3, none⟩ = some (.int .i64 m2) := (cell_of_row w5 _ 3 _ _ (0, 0) HF5.out.y).trans rfl
                    have y4 : w5.cell? ⟨YB, 4, none⟩ = some (.int .i64 s.bt) := (cell_of_row w5 _ 4 _ _ (0, 0) HF5.out.y).trans rfl
                    have y5 : w5.cell? ⟨YB, 5, none⟩ = some (.int .i64 s.bk) := (cell_of_row w5 _ 5 _ _ (0, 0) HF5.out.y).trans rfl
                    have y6 : w5.cell? ⟨YB, 6, none⟩ = some (.slice r.A r.n r.c) := (cell_of_row w5 _ 6 _ _ (0, 0) HF5.out.y).trans rfl
                    have y7 : w5.cell? ⟨YB, 7, none⟩ = some (.int .i64 s.tick) := (cell_of_row w5 _ 7 _ _ (0, 0) HF5.out.y).trans rfl
                    have yz : YB < w5.heap.size := lt_of_block HF5.out.y
                    go_upto_region 23 with (fail)
                    go_cut [17, 18] (fun s17 s18 wx => ∃ (P : Nat) (r' : RefS) (w8 : World), w8 = wx ∧ s17 = .pointer (some ⟨P, 0, none⟩) ∧ s18 = .bool b2 ∧ ForkW w YB F NB e1 m1 e2 m2 s s2 r B w8 ∧ RefAt w8 w8.heap.size s2 r' ∧ (∀ a, r'.A = some a → a.block ≠ F ∧ a.block ≠ NB ∧ a.block ≠ YB) ∧ w8.heap[P]? = some (.cells (rowY e1 m1 e2 m2 s2 r') 55 (0, 0)))
                    case first =>
                      go_region_held3 (fun w' => w'.cell? ⟨YB, 0, none⟩ = some (.int .i64 e1) ∧ w'.cell? ⟨YB, 1, none⟩ = some (.int .i64 m1) ∧ w'.cell? ⟨YB, 2, none⟩ = some (.int .i64 e2) ∧ w'.cell? ⟨YB, 3, none⟩ = some (.int .i64 m2) ∧ w'.cell? ⟨YB, 4, none⟩ = some (.int .i64 s.bt) ∧ w'.cell? ⟨YB, 5, none⟩ = some (.int .i64 s.bk) ∧ w'.cell? ⟨YB, 6, none⟩ = some (.slice r.A r.n r.c) ∧ w'.cell? ⟨YB, 7, none⟩ = some (.int .i64 s.tick) ∧ w'.cell? ⟨b, o + j * 4, none⟩ = some (.int .u8 (k : Int)) ∧ w'.cell? ⟨b, o + j * 4 + 1, none⟩ = some (.int .u8 (la : Int))) (first | (go_keep; done) | (go_simp; done) | (simp [go_sem]; done)) ((first | (go_at_call 22; refine (mac_any (k : Int) _).mono ?_; rintro e w6 ⟨rfl, hb⟩; obtain ⟨xs5, dr5, rfl⟩ := ext_of hb; clear hb) | (go_at_call 25; go_must (refine (rallow_any e1 m1 e2 m2 s r (mac4 k) (s.tick + (la : Int)) _ B (by have := HF5.out.hB; first | (simp [size_ext, grow]; omega) | omega) (by exact HF5.out.ref.keep (Below.mono (by (repeat (first | exact Below.refl _ _ | exact Nat.le_refl _ | (refine below_ext ?_ (by first | (simp [size_ext, grow]; done) | (simp [size_ext, grow]; omega) | omega) _ _) | (refine Below.setCell ?_ (by first | (simp [size_ext, grow]; done) | (simp [size_ext, grow]; omega) | omega) _) | (refine Below.alloc ?_ (by first | (simp [size_ext, grow]; done) | (simp [size_ext, grow]; omega) | omega) _) | refine Below.drew ?_ | refine below_drewN ?_ _ | (refine Below.trans ?_ (Below.mono (by assumption) (by first | (simp [size_ext, grow]; done) | (simp [size_ext, grow]; omega) | omega)))))) HF5.out.hB)) (mac4_ok (by omega)) HR2.out HF5.out.apart hlen).mono ?_); rw [HSB.out.1, HSB.out.2]; rintro e w7 ⟨r', rfl, hb, hra, hlo⟩; have HRA := Lib.hid hra; have HLO := Lib.hid hlo; clear hra hlo; obtain ⟨xs7, dr7, rfl⟩ := ext_of hb; clear hb; simp only [refV])))
                      all_goals
                        go_wp2_with fail
                        go_meet
                        have h1 := lt_of_block HF5.out.lim
                        have h2 := HF5.out.map.lt
                        refine ⟨_, _, _, rfl, rfl, rfl, HF5.out.grow (by (repeat (first | exact Below.refl _ _ | exact Nat.le_refl _ | (refine below_ext ?_ (by first | (simp [size_ext, grow]; done) | (simp [size_ext, grow]; omega) | omega) _ _) | (refine Below.setCell ?_ (by first | (simp [size_ext, grow]; done) | (simp [size_ext, grow]; omega) | omega) _) | (refine Below.alloc ?_ (by first | (simp [size_ext, grow]; done) | (simp [size_ext, grow]; omega) | omega) _) | refine Below.drew ?_ | refine below_drewN ?_ _ | (refine Below.trans ?_ (Below.mono (by assumption) (by first | (simp [size_ext, grow]; done) | (simp [size_ext, grow]; omega) | omega)))))), ?_, (fun a ha => by have := HLO.out a ha; simp [size_ext, grow] at this; exact ⟨by omega, by omega, by omega⟩), by unfold rowY; (repeat (first | ((refine heap_alloc_at _ _ _ ?_); (simp [go_sem]; done)) | ((refine (heap_ext _ _ _ _ ?_).trans ?_); (focus (simp [go_sem]; done))) | ((refine (heap_alloc_past _ _ _ ?_).trans ?_); (focus (simp [go_sem]; done)))))⟩
                        refine HRA.out.other ?_ ?_
                        · first | (simp [size_ext, grow]; done) | (simp [size_ext, grow]; omega)
                        · intro a ha hlt
                          first
                            | exact Below.heap_alloc _ _ _ hlt
                            | exact ext_high _ _ _ _ _ _ (by simp [size_ext, grow]) (HLO.out a ha)
                    case rest =>
                      obtain ⟨P, r', w8, hw8, rfl, rfl, hmd, hra, hlo, hP⟩ := hcut
                      rw [← hw8]
                      have HMD8 := Lib.hid hmd
                      have HRA8 := Lib.hid hra
                      have HLO8 := Lib.hid hlo
                      have v0 : w8.cell? ⟨P, 0, none⟩ = some (.int .i64 e1) := (cell_of_row w8 _ 0 _ _ (0, 0) hP).trans rfl
                      have v1 : w8.cell? ⟨P, 1, none⟩ = some (.int .i64 m1) := (cell_of_row w8 _ 1 _ _ (0, 0) hP).trans rfl
                      have v2 : w8.cell? ⟨P, 2, none⟩ = some (.int .i64 e2) := (cell_of_row w8 _ 2 _ _ (0, 0) hP).trans rfl
                      have v3 : w8.cell? ⟨P, 3, none⟩ = some (.int .i64 m2) := (cell_of_row w8 _ 3 _ _ (0, 0) hP).trans rfl
                      have v4 : w8.cell? ⟨P, 4, none⟩ = some (.int .i64 s2.bt) := (cell_of_row w8 _ 4 _ _ (0, 0) hP).trans rfl
                      have v5 : w8.cell? ⟨P, 5, none⟩ = some (.int .i64 s2.bk) := (cell_of_row w8 _ 5 _ _ (0, 0) hP).trans rfl
                      have v6 : w8.cell? ⟨P, 6, none⟩ = some (.slice r'.A r'.n r'.c) := (cell_of_row w8 _ 6 _ _ (0, 0) hP).trans rfl
                      have v7 : w8.cell? ⟨P, 7, none⟩ = some (.int .i64 s2.tick) := (cell_of_row w8 _ 7 _ _ (0, 0) hP).trans rfl
                      clear hmd hra hlo hP hw8 y0 y1 y2 y3 y4 y5 y6 y7 yz hbw5 gm gl HF5 hsz5
                      have y0 : w8.cell? ⟨YB, 0, none⟩ = some (.int .i64 e1) := (cell_of_row w8 _ 0 _ _ (0, 0) HMD8.out.y).trans rfl
                      have y1 : w8.cell? ⟨YB, 1, none⟩ = some (.int .i64 m1) := (cell_of_row w8 _ 1 _ _ (0, 0) HMD8.out.y).trans rfl
                      have y2 : w8.cell? ⟨YB, 2, none⟩ = some (.int .i64 e2) := (cell_of_row w8 _ 2 _ _ (0, 0) HMD8.out.y).trans rfl
                      have y3 : w8.cell? ⟨YB, 3, none⟩ = some (.int .i64 m2) := (cell_of_row w8 _ 3 _ _ (0, 0) HMD8.out.y).trans rfl
                      have y4 : w8.cell? ⟨YB, 4, none⟩ = some (.int .i64 s.bt) := (cell_of_row w8 _ 4 _ _ (0, 0) HMD8.out.y).trans rfl
                      have y5 : w8.cell? ⟨YB, 5, none⟩ = some (.int .i64 s.bk) := (cell_of_row w8 _ 5 _ _ (0, 0) HMD8.out.y).trans rfl
                      have y6 : w8.cell? ⟨YB, 6, none⟩ = some (.slice r.A r.n r.c) := (cell_of_row w8 _ 6 _ _ (0, 0) HMD8.out.y).trans rfl
                      have y7 : w8.cell? ⟨YB, 7, none⟩ = some (.int .i64 s.tick) := (cell_of_row w8 _ 7 _ _ (0, 0) HMD8.out.y).trans rfl
                      have yz : YB < w8.heap.size := lt_of_block HMD8.out.y
                      have fy0 : w8.frozen? ⟨YB, 0, none⟩ = false := frozen_of_row w8 _ 0 _ 55 HMD8.out.y
                      have fy1 : w8.frozen? ⟨YB, 1, none⟩ = false := frozen_of_row w8 _ 1 _ 55 HMD8.out.y
                      have fy2 : w8.frozen? ⟨YB, 2, none⟩ = false := frozen_of_row w8 _ 2 _ 55 HMD8.out.y
                      have fy3 : w8.frozen? ⟨YB, 3, none⟩ = false := frozen_of_row w8 _ 3 _ 55 HMD8.out.y
                      have fy4 : w8.frozen? ⟨YB, 4, none⟩ = false := frozen_of_row w8 _ 4 _ 55 HMD8.out.y
                      have fy5 : w8.frozen? ⟨YB, 5, none⟩ = false := frozen_of_row w8 _ 5 _ 55 HMD8.out.y
                      have fy6 : w8.frozen? ⟨YB, 6, none⟩ = false := frozen_of_row w8 _ 6 _ 55 HMD8.out.y
                      have fy7 : w8.frozen? ⟨YB, 7, none⟩ = false := frozen_of_row w8 _ 7 _ 55 HMD8.out.y
                      go_upto_region 25 with (fail)
                      refine wp_world (fun W9 => ForkW w YB F NB e1 m1 e2 m2 s2 s2 r' w8.heap.size W9) (HMD8.out.put HRA8.out HLO8.out HAP.out HTI.out.1 HTI.out.2) ?_
                      intro w9 hr9
                      have HW9 := Lib.hid hr9
                      have HNL := Lib.hid (show r'.n = s2.L.length by have h1 := hr9.ref.n; have h2 := hr9.ref.L; rw [h1, ← h2, List.length_map])
                      clear hr9 HRA8 HLO8 HMD8 v0 v1 v2 v3 v4 v5 v6 v7 y0 y1 y2 y3 y4 y5 y6 y7 yz fy0 fy1 fy2 fy3 fy4 fy5 fy6 fy7 hwr hwl
                      have y0 : w9.cell? ⟨YB, 0, none⟩ = some (.int .i64 e1) := (cell_of_row w9 _ 0 _ _ (0, 0) HW9.out.y).trans rfl
                      have y1 : w9.cell? ⟨YB, 1, none⟩ = some (.int .i64 m1) := (cell_of_row w9 _ 1 _ _ (0, 0) HW9.out.y).trans rfl
                      have y2 : w9.cell? ⟨YB, 2, none⟩ = some (.int .i64 e2) := (cell_of_row w9 _ 2 _ _ (0, 0) HW9.out.y).trans rfl
                      have y3 : w9.cell? ⟨YB, 3, none⟩ = some (.int .i64 m2) := (cell_of_row w9 _ 3 _ _ (0, 0) HW9.out.y).trans rfl
                      have y4 : w9.cell? ⟨YB, 4, none⟩ = some (.int .i64 s2.bt) := (cell_of_row w9 _ 4 _ _ (0, 0) HW9.out.y).trans rfl
                      have y5 : w9.cell? ⟨YB, 5, none⟩ = some (.int .i64 s2.bk) := (cell_of_row w9 _ 5 _ _ (0, 0) HW9.out.y).trans rfl
                      have y6 : w9.cell? ⟨YB, 6, none⟩ = some (.slice r'.A r'.n r'.c) := (cell_of_row w9 _ 6 _ _ (0, 0) HW9.out.y).trans rfl
                      have y7 : w9.cell? ⟨YB, 7, none⟩ = some (.int .i64 s2.tick) := (cell_of_row w9 _ 7 _ _ (0, 0) HW9.out.y).trans rfl
                      have yz : YB < w9.heap.size := lt_of_block HW9.out.y
                      rw [HNL.out] at y6
                      clear y0 y1 y2 y3 y4 y5
                      go_wp2_with fail
                      go_quiet ((go_at_call 23; exact len_q HW9.out.lim HW9.out.map _))
                      go_wp2_with fail
                      go_roundw
                      case rel => exact ⟨j + 1, F, NB, w8.heap.size, s2, r', by omega, by omega, by go_num, rfl, HLE.out, HW9.out.grow (below_drewN (Below.refl _ _) _)⟩
                      case measure => simp [intOf]; omega
              · obtain rfl : j = 20 := by omega
                have hx : decide ((20 : Int) < (n : Int)) = true := by simp; omega
                go_wp2_with fail
                go_ret
                exact ⟨rfl, HW.out.below⟩
            · obtain rfl : j = n := by omega
              go_wp2_with fail
              go_ret
              exact ⟨rfl, HW.out.below⟩
theorem bucketLimiterForks_calls {H : Type} (enc : TypeId × Value → H) (W : World) (base : Nat) (v0 v1 v2 : Value) (d0 d1 d2 : DataW H) (p0 p1 p2 : List MemPlace)
    (o0 : Value.okWide Try.prog W .any base 23 v0) (o1 : Value.okWide Try.prog W .any base 23 v1) (o2 : Value.okWide Try.prog W .any base 36 v2)
    (h0 : DataW.Trod enc Try.prog W 0 (fun _ => true) true 23 v0 d0 p0) (h1 : DataW.Trod enc Try.prog W 0 (fun _ => true) true 23 v1 d1 p1) (h2 : DataW.Trod enc Try.prog W 0 (fun _ => true) true 36 v2 d2 p2) :
    Calls Try.prog 10 #[v0, v1, v2] W fun e W' => e = .returned (.bool true) ∧ Below W.heap.size W W' := by
  obtain ⟨e1, m1, rfl, _, _⟩ := open_rate o0 h0
  obtain ⟨e2, m2, rfl, _, _⟩ := open_rate o1 h1
  obtain ⟨A, n, c, L, rfl, hA, hn, hc, hl⟩ := open_asks o2 h2
  exact forks_any e1 m1 e2 m2 A n c L W hA hn hl
end Go.Proofs.Ytlholmndckhhgaa
