/- BucketLimiterRuns: its walk. -/
import Derived.Test.YtlholmndckhhgaaM15
import Derived.Test.YtlholmndckhhgaaM16
import Derived.Test.YtlholmndckhhgaaM11
namespace Go.Proofs.Ytlholmndckhhgaa
open Go.ChangeShapes Go.WideShapes Go.ChangeAt Go.RowKit Go.Joins Go.Deep Go.Maps
set_option linter.unusedSimpArgs false
set_option linter.unusedVariables false
def rowY (e1 m1 e2 m2 : Int) (s : LimS) (r : RefS) : Array Value := #[.int .i64 e1, .int .i64 m1, .int .i64 e2, .int .i64 m2, .int .i64 s.bt, .int .i64 s.bk, .slice r.A r.n r.c, .int .i64 s.tick]
/-- Both limiters as they lie at each round's head. -/
structure RunW (w : World) (YB l bm : Nat) (e1 m1 e2 m2 : Int) (s : LimS) (r : RefS) (wr : World) : Prop where
  lim : LimC wr l e1 m1 e2 m2 s.bt s.bk (some bm) s.tick
  map : MapAt wr bm s.L
  below : Below w.heap.size w wr
  y : wr.heap[YB]? = some (.cells (rowY e1 m1 e2 m2 s r) 55 (0, 0))
  ref : RefAt wr wr.heap.size s r
  high : ∀ a, r.A = some a → YB < a.block
  apart : s.L.Pairwise (fun p q => p.1 ≠ q.1)
theorem RunW.grow {w wr w' : World} {YB l bm : Nat} {e1 m1 e2 m2 : Int} {s : LimS} {r : RefS} (h : RunW w YB l bm e1 m1 e2 m2 s r wr) (hb : Below wr.heap.size wr w') : RunW w YB l bm e1 m1 e2 m2 s r w' :=
  ⟨(hb.block l (lt_of_block h.lim)).trans h.lim, h.map.kept (hb.block bm h.map.lt), h.below.trans (hb.mono h.below.size), (hb.block YB (lt_of_block h.y)).trans h.y, (h.ref.keep hb).more hb.size, h.high, h.apart⟩
/-- The limiter has turned; the reference's is as it was. -/
structure MidW (w : World) (YB l bm : Nat) (e1 m1 e2 m2 : Int) (s s' : LimS) (r : RefS) (wr : World) : Prop where
  lim : LimC wr l e1 m1 e2 m2 s'.bt s'.bk (some bm) s'.tick
  map : MapAt wr bm s'.L
  below : Below w.heap.size w wr
  y : wr.heap[YB]? = some (.cells (rowY e1 m1 e2 m2 s r) 55 (0, 0))
  ref : RefAt wr wr.heap.size s r
  high : ∀ a, r.A = some a → YB < a.block
  apart : s.L.Pairwise (fun p q => p.1 ≠ q.1)
theorem At.other' {W W' : World} {B : Nat} {A : Option Addr} {l : List Value} (h : At W B A l) (hk : ∀ a, A = some a → a.block < B → W'.heap[a.block]? = W.heap[a.block]?) : At W' B A l := by
  rcases h with h | ⟨b, o, rfl, hb, hc⟩
  · exact .inl h
  · refine .inr ⟨b, o, rfl, hb, fun j u hu => ?_⟩
    rw [World.cell?_of_block (w := W) (a := ⟨b, o + j, none⟩) (hk ⟨b, o, none⟩ rfl hb)]
    exact hc j u hu
theorem RefAt.other {W W' : World} {s : LimS} {r : RefS} (h : RefAt W W.heap.size s r) (hs : W.heap.size ≤ W'.heap.size) (hk : ∀ a, r.A = some a → a.block < W.heap.size → W'.heap[a.block]? = W.heap[a.block]?) : RefAt W' W'.heap.size s r :=
  ⟨(h.at_.other' hk).more hs, h.n, h.c, h.L, h.ok⟩
theorem RunW.turn {w wr w' : World} {YB l bm : Nat} {e1 m1 e2 m2 : Int} {s s' : LimS} {r : RefS} (h : RunW w YB l bm e1 m1 e2 m2 s r wr) (hl : w.heap.size ≤ l) (hbm : w.heap.size ≤ bm) (hlY : l < YB) (hbY : bm < YB)
    (hc : LimC w' l e1 m1 e2 m2 s'.bt s'.bk (some bm) s'.tick) (hm : MapAt w' bm s'.L) (ht : Two l bm wr w') : MidW w YB l bm e1 m1 e2 m2 s s' r w' :=
  ⟨hc, hm, h.below.trans (ht.below h.below.size hl hbm), (ht.block YB (lt_of_block h.y) (by omega) (by omega)).trans h.y,
    ⟨(h.ref.at_.other' fun a ha hlt => ht.block _ hlt (by have := h.high a ha; omega) (by have := h.high a ha; omega)).more ht.size, h.ref.n, h.ref.c, h.ref.L, h.ref.ok⟩, h.high, h.apart⟩
theorem MidW.grow {w wr w' : World} {YB l bm : Nat} {e1 m1 e2 m2 : Int} {s s' : LimS} {r : RefS} (h : MidW w YB l bm e1 m1 e2 m2 s s' r wr) (hb : Below wr.heap.size wr w') : MidW w YB l bm e1 m1 e2 m2 s s' r w' :=
  ⟨(hb.block l (lt_of_block h.lim)).trans h.lim, h.map.kept (hb.block bm h.map.lt), h.below.trans (hb.mono h.below.size), (hb.block YB (lt_of_block h.y)).trans h.y, (h.ref.keep hb).more hb.size, h.high, h.apart⟩
theorem MidW.put {w wr : World} {YB l bm : Nat} {e1 m1 e2 m2 : Int} {s s' : LimS} {r r' : RefS} (h : MidW w YB l bm e1 m1 e2 m2 s s' r wr) (hlY : l < YB) (hbY : bm < YB) (hwY : w.heap.size ≤ YB) (hr : RefAt wr wr.heap.size s' r') (hh : ∀ a, r'.A = some a → YB < a.block) (ha : s'.L.Pairwise (fun p q => p.1 ≠ q.1)) :
    RunW w YB l bm e1 m1 e2 m2 s' r' ((((((((wr.setCell ⟨YB, 0, none⟩ (.int .i64 e1)).setCell ⟨YB, 1, none⟩ (.int .i64 m1)).setCell ⟨YB, 2, none⟩ (.int .i64 e2)).setCell ⟨YB, 3, none⟩ (.int .i64 m2)).setCell ⟨YB, 4, none⟩ (.int .i64 s'.bt)).setCell ⟨YB, 5, none⟩ (.int .i64 s'.bk)).setCell ⟨YB, 6, none⟩ (.slice r'.A r'.n r'.c)).setCell ⟨YB, 7, none⟩ (.int .i64 s'.tick)) := by
  have htwo := two8 (Two.refl YB YB wr) (.int .i64 e1) (.int .i64 m1) (.int .i64 e2) (.int .i64 m2) (.int .i64 s'.bt) (.int .i64 s'.bk) (.slice r'.A r'.n r'.c) (.int .i64 s'.tick)
  have hy := row8 h.y (.int .i64 e1) (.int .i64 m1) (.int .i64 e2) (.int .i64 m2) (.int .i64 s'.bt) (.int .i64 s'.bk) (.slice r'.A r'.n r'.c) (.int .i64 s'.tick)
  revert htwo hy
  generalize ((((((((wr.setCell ⟨YB, 0, none⟩ (.int .i64 e1)).setCell ⟨YB, 1, none⟩ (.int .i64 m1)).setCell ⟨YB, 2, none⟩ (.int .i64 e2)).setCell ⟨YB, 3, none⟩ (.int .i64 m2)).setCell ⟨YB, 4, none⟩ (.int .i64 s'.bt)).setCell ⟨YB, 5, none⟩ (.int .i64 s'.bk)).setCell ⟨YB, 6, none⟩ (.slice r'.A r'.n r'.c)).setCell ⟨YB, 7, none⟩ (.int .i64 s'.tick)) = w2
  intro ht hy
  exact ⟨(ht.block l (lt_of_block h.lim) (by omega) (by omega)).trans h.lim, h.map.kept (ht.block bm h.map.lt (by omega) (by omega)), h.below.trans (ht.below h.below.size hwY hwY), hy,
    ⟨(hr.at_.other' fun a ha hlt => ht.block _ hlt (by have := hh a ha; omega) (by have := hh a ha; omega)).more ht.size, hr.n, hr.c, hr.L, hr.ok⟩, hh, ha⟩
theorem len_q {w : World} {l bm : Nat} {e1 m1 e2 m2 bt bk tick : Int} {L : Ents} (hc : LimC w l e1 m1 e2 m2 bt bk (some bm) tick) (hm : MapAt w bm L) (n : Nat) :
    Calls Try.prog 23 #[.pointer (some ⟨l, 0, none⟩)] (w.drewN n) fun e w'' => e = .returned (.int .i64 (L.length : Int)) ∧ ∃ m, w'' = w.drewN m :=
  (len_any l bm e1 m1 e2 m2 bt bk tick L (w.drewN n) hc (hm.kept rfl)).mono fun _ _ ⟨he, hw⟩ => ⟨he, n, hw.symm⟩
theorem tick_q {w : World} {l bm : Nat} {e1 m1 e2 m2 bt bk tick : Int} (hc : LimC w l e1 m1 e2 m2 bt bk (some bm) tick) (n : Nat) :
    Calls Try.prog 26 #[.pointer (some ⟨l, 0, none⟩)] (w.drewN n) fun e w'' => e = .returned (.int .i64 tick) ∧ ∃ m, w'' = w.drewN m :=
  (tick_any l bm e1 m1 e2 m2 bt bk tick (w.drewN n) hc).mono fun _ _ ⟨he, hw⟩ => ⟨he, n, hw.symm⟩
set_option maxRecDepth 100000 in
set_option maxHeartbeats 4000000 in
theorem runs_any (e1 m1 e2 m2 : Int) (A : Option Addr) (n c : Nat) (L : List Ask) (w : World) (hA : AsksAt w w.heap.size A L) (hn : n = L.length) (hn2 : (n : Int) ≤ 9223372036854775807) :
    Calls Try.prog 9 #[.agg #[.int .i64 e1, .int .i64 m1], .agg #[.int .i64 e2, .int .i64 m2], .slice A n c] w fun e w' => e = .returned (.bool true) ∧ Below w.heap.size w w' := by
  have HA := Lib.hid hA
  have HN := Lib.hid hn
  clear hA hn
  go_enter Try.func9, Try.ntmps9
  go_wp2_with fail
  refine (new_any e1 m1 e2 m2 _).mono ?_
  rintro e w1 ⟨hb, ⟨hno, rfl⟩ | ⟨hok, l, bm, rfl, hl1, hb1, hc, hm⟩⟩
  · have HNO := Lib.hid hno
    obtain ⟨xs, d, rfl⟩ := ext_of hb
    clear hb hno
    go_wp2_with fail
    refine (rnew_any e1 m1 e2 m2 _).mono ?_
    rintro e w1 ⟨hb, ⟨_, _, rfl⟩ | ⟨hok, rfl⟩⟩
    · obtain ⟨xs2, d2, rfl⟩ := ext_of hb
      clear hb
      go_wp2_with fail
      refine (awake_any _).mono ?_
      rintro e w2 ⟨rfl, hb⟩
      obtain ⟨xs3, d3, rfl⟩ := ext_of hb
      clear hb
      go_wp2_with fail
      go_ret
      exact ⟨rfl, by (repeat (first | exact Below.refl _ _ | exact Nat.le_refl _ | (refine below_ext ?_ (by first | (simp [size_ext, grow]; done) | (simp [size_ext, grow]; omega) | omega) _ _) | (refine Below.setCell ?_ (by first | (simp [size_ext, grow]; done) | (simp [size_ext, grow]; omega) | omega) _) | (refine Below.alloc ?_ (by first | (simp [size_ext, grow]; done) | (simp [size_ext, grow]; omega) | omega) _) | refine Below.drew ?_ | refine below_drewN ?_ _ | (refine Below.trans ?_ (Below.mono (by assumption) (by first | (simp [size_ext, grow]; done) | (simp [size_ext, grow]; omega) | omega)))))⟩
    · rw [HNO.out] at hok; cases hok
  · have HB := Lib.hid (show Below w.heap.size w w1 from (((Below.refl _ w).alloc (Nat.le_refl _) _).alloc (by simp) _).trans (hb.mono (by simp; omega)))
    have hR0 : w1.heap[w.heap.size]? = some (.cells #[.int .i64 e1, .int .i64 m1] 23 (0, 0)) := (hb.block _ (by simp <;> omega)).trans (by (repeat (first | ((refine heap_alloc_at _ _ _ ?_); (simp [go_sem]; done)) | ((refine (heap_ext _ _ _ _ ?_).trans ?_); (focus (simp [go_sem]; done))) | ((refine (heap_alloc_past _ _ _ ?_).trans ?_); (focus (simp [go_sem]; done))))))
    have hR1 : w1.heap[w.heap.size + 1]? = some (.cells #[.int .i64 e2, .int .i64 m2] 23 (0, 0)) := (hb.block _ (by simp <;> omega)).trans (by (repeat (first | ((refine heap_alloc_at _ _ _ ?_); (simp [go_sem]; done)) | ((refine (heap_ext _ _ _ _ ?_).trans ?_); (focus (simp [go_sem]; done))) | ((refine (heap_alloc_past _ _ _ ?_).trans ?_); (focus (simp [go_sem]; done))))))
    have p0 : w1.cell? ⟨w.heap.size, 0, none⟩ = some (.int .i64 e1) := (cell_of_row w1 _ 0 _ _ (0, 0) hR0).trans rfl
    have p1 : w1.cell? ⟨w.heap.size, 1, none⟩ = some (.int .i64 m1) := (cell_of_row w1 _ 1 _ _ (0, 0) hR0).trans rfl
    have p2 : w1.cell? ⟨w.heap.size + 1, 0, none⟩ = some (.int .i64 e2) := (cell_of_row w1 _ 0 _ _ (0, 0) hR1).trans rfl
    have p3 : w1.cell? ⟨w.heap.size + 1, 1, none⟩ = some (.int .i64 m2) := (cell_of_row w1 _ 1 _ _ (0, 0) hR1).trans rfl
    have pz : w.heap.size + 1 < w1.heap.size := lt_of_block hR1
    have hlw : w.heap.size + 2 ≤ l := by simpa using hl1
    have hbw2 : w.heap.size + 2 ≤ bm := by simpa using hb1
    have HC := Lib.hid hc
    have HM := Lib.hid hm
    have HOK := Lib.hid hok
    clear hb hl1 hb1 hc hm hok hR0 hR1
    go_wp2_with fail
    refine (rnew_any e1 m1 e2 m2 _).mono ?_
    rintro e w2 ⟨hb, ⟨hno, _⟩ | ⟨_, rfl⟩⟩
    · rw [HOK.out] at hno; cases hno
    · have HC2 := Lib.hid (show LimC w2 l e1 m1 e2 m2 m1 0 (some bm) 0 from (hb.block l (lt_of_block HC.out)).trans HC.out)
      have HM2 := Lib.hid (HM.out.kept (hb.block bm HM.out.lt))
      have HB2 := Lib.hid (HB.out.trans (hb.mono HB.out.size))
      clear hb HC HM HB p0 p1 p2 p3 pz
      unfold refV
      go_wp2_with fail
      refine (awake_any _).mono ?_
      rintro e w3 ⟨rfl, hb⟩
      obtain ⟨YB, hYB⟩ : ∃ YB, w2.heap.size = YB := ⟨_, rfl⟩
      have HRW := Lib.hid (show RunW w YB l bm e1 m1 e2 m2 ⟨m1, 0, 0, []⟩ ⟨none, 0, 0, []⟩ w3 by
        refine RunW.grow (wr := w2.alloc (.cells (rowY e1 m1 e2 m2 ⟨m1, 0, 0, []⟩ ⟨none, 0, 0, []⟩) 55)) ?_ hb
        exact ⟨(Below.heap_alloc w2 _ l (lt_of_block HC2.out)).trans HC2.out, HM2.out.kept (Below.heap_alloc w2 _ bm HM2.out.lt), HB2.out.alloc HB2.out.size _, by rw [← hYB]; exact heap_alloc_new w2 _, ⟨.inl rfl, rfl, Nat.le_refl _, rfl, fun p hp => by cases hp⟩, (fun a ha => by cases ha), List.Pairwise.nil⟩)
      have hlY : l < YB := by rw [← hYB]; exact lt_of_block HC2.out
      have hbY : bm < YB := by rw [← hYB]; exact HM2.out.lt
      have hwY : w.heap.size + 2 ≤ YB := by omega
      have hr2 : rated e2 m2 = true := by have := HOK.out; unfold newOk at this; simp at this; exact this.2
      have HR2 := Lib.hid hr2
      rw [hYB]
      clear hb HC2 HM2 HB2 hYB hr2
      go_wp2_with fail
      go_loopw [11, 12] (fun t i wr => ∃ (j : Nat) (T : Int) (s : LimS) (r : RefS), j ≤ n ∧ j ≤ 60 ∧ 0 ≤ T ∧ T ≤ 255 * (j : Int) ∧ t = .int .i64 T ∧ i = .int .i64 j ∧ s.L.length ≤ j ∧ RunW w YB l bm e1 m1 e2 m2 s r wr) (fun _ i _ => n - (intOf i).toNat)
      case atStart => exact ⟨0, 0, _, _, Nat.zero_le _, by omega, by omega, by omega, rfl, rfl, Nat.le_refl _, HRW.out⟩
      case round =>
        obtain ⟨j, T, s, r, hj, hj2, hT0, hT1, rfl, rfl, hsl, hw4⟩ := hrel
        have HW := Lib.hid hw4
        have hsz := hw4.below.size
        clear hw4 HRW
        by_cases hlt : j < n
        · by_cases h60 : j < 60
          · obtain ⟨b, o, rfl, hbB, hx0, hx1, hx2, hx3, hx4, hx5⟩ := HA.out.get (k := j) (by rw [← HN.out]; exact hlt)
            obtain ⟨⟨k, la, raw, tt⟩, hx⟩ : ∃ x, L[j]'(by rw [← HN.out]; exact hlt) = x := ⟨_, rfl⟩
            rw [hx] at hx0 hx1 hx2 hx3 hx4 hx5
            simp only at hx0 hx1 hx2 hx3 hx4 hx5
            clear hx
            have HX0 := Lib.hid hx0
            have g0 := (HW.out.below.cell (p := ⟨b, o + j * 4, none⟩) hbB).trans hx0
            have g1 := (HW.out.below.cell (p := ⟨b, o + j * 4 + 1, none⟩) hbB).trans hx1
            have g2 := (HW.out.below.cell (p := ⟨b, o + j * 4 + 2, none⟩) hbB).trans hx2
            have g3 := (HW.out.below.cell (p := ⟨b, o + j * 4 + 3, none⟩) hbB).trans hx3
            clear hx0 hx1 hx2 hx3
            have hbw : b < wr.heap.size := by omega
            go_upto_if 68 with (fail)
            go_cut [13] (fun s13 wx => (∃ t, s13 = .int .i64 t) ∧ wx = wr)
            case first =>
              cases raw
              · go_wp2_with fail
                go_meet
                exact ⟨⟨_, rfl⟩, rfl⟩
              · go_wp2_with fail
                go_meet
                exact ⟨⟨_, rfl⟩, rfl⟩
            case rest =>
              obtain ⟨⟨t, rfl⟩, hwc⟩ := hcut
              have hwc' := hwc.symm
              subst hwc'
              clear hwc
              obtain ⟨T2, hT2⟩ : ∃ T2, T + (la : Int) = T2 := ⟨_, rfl⟩
              rw [hT2]
              have HT2 := Lib.hid (show 0 ≤ T2 ∧ T2 ≤ 255 * ((j + 1 : Nat) : Int) by omega)
              clear hT2
              go_wp2_with fail
              refine (mac_any (k : Int) _).mono ?_
              rintro e w3 ⟨rfl, hb⟩
              have HW3 := Lib.hid (HW.out.grow hb)
              clear hb g0 g1 g2 g3
              have hlen : s.L.length ≤ 100000 := by omega
              obtain ⟨s2, hs2⟩ : ∃ s2, allowS e1 m1 e2 m2 s (keyL (mac4 k)) t = s2 := ⟨_, rfl⟩
              obtain ⟨b2, hb2⟩ : ∃ b2, allowB e1 m1 e2 m2 s (keyL (mac4 k)) t = b2 := ⟨_, rfl⟩
              have HAP := Lib.hid (show s2.L.Pairwise (fun p q => p.1 ≠ q.1) by rw [← hs2]; exact apart_allow (keyL_key (mac4_ok (by omega))) HW3.out.apart)
              have HLE := Lib.hid (show s2.L.length ≤ j + 1 by have := len_allow e1 m1 e2 m2 s (keyL (mac4 k)) t; rw [hs2] at this; omega)
              have HSB := Lib.hid (And.intro hs2 hb2)
              clear hs2 hb2
              go_wp2_with fail
              refine (allow_any l bm e1 m1 e2 m2 s (mac4 k) (keyL (mac4 k)) t w3 (key6 (mac4_ok (by omega))) HW3.out.lim HW3.out.map hlen).mono ?_
              rw [HSB.out.1, HSB.out.2]
              rintro y w4 ⟨rfl, hc, hm, ht⟩
              have HMD := Lib.hid (HW3.out.turn (by omega) (by omega) hlY hbY hc hm ht)
              clear hc hm ht HW HW3
              have hsz4 := HMD.out.below.size
              have g0 := (HMD.out.below.cell (p := ⟨b, o + j * 4, none⟩) hbB).trans HX0.out
              have hbw4 : b < w4.heap.size := by omega
              have y0 : w4.cell? ⟨YB, 0, none⟩ = some (.int .i64 e1) := (cell_of_row w4 _ 0 _ _ (0, 0) HMD.out.y).trans rfl
              have y1 : w4.cell? ⟨YB, 1, none⟩ = some (.int .i64 m1) := (cell_of_row w4 _ 1 _ _ (0, 0) HMD.out.y).trans rfl
              have y2 : w4.cell? ⟨YB, 2, none⟩ = some (.int .i64 e2) := (cell_of_row w4 _ 2 _ _ (0, 0) HMD.out.y).trans rfl
              have y3 : w4.cell? ⟨YB, 3, none⟩ = some (.int .i64 m2) := (cell_of_row w4 _ 3 _ _ (0, 0) HMD.out.y).trans rfl
              have y4 : w4.cell? ⟨YB, 4, none⟩ = some (.int .i64 s.bt) := (cell_of_row w4 _ 4 _ _ (0, 0) HMD.out.y).trans rfl
              have y5 : w4.cell? ⟨YB, 5, none⟩ = some (.int .i64 s.bk) := (cell_of_row w4 _ 5 _ _ (0, 0) HMD.out.y).trans rfl
              have y6 : w4.cell? ⟨YB, 6, none⟩ = some (.slice r.A r.n r.c) := (cell_of_row w4 _ 6 _ _ (0, 0) HMD.out.y).trans rfl
              have y7 : w4.cell? ⟨YB, 7, none⟩ = some (.int .i64 s.tick) := (cell_of_row w4 _ 7 _ _ (0, 0) HMD.out.y).trans rfl
              have yz : YB < w4.heap.size := lt_of_block HMD.out.y
              go_upto_region 16 with (fail)
              go_cut [15, 16] (fun s15 s16 wx => ∃ (P : Nat) (r' : RefS) (w8 : World), w8 = wx ∧ s15 = .pointer (some ⟨P, 0, none⟩) ∧ s16 = .bool b2 ∧ MidW w YB l bm e1 m1 e2 m2 s s2 r w8 ∧ RefAt w8 w8.heap.size s2 r' ∧ (∀ a, r'.A = some a → YB < a.block) ∧ w8.heap[P]? = some (.cells (rowY e1 m1 e2 m2 s2 r') 55 (0, 0)))
              case first =>
                go_region_held3 (fun w' => w'.cell? ⟨YB, 0, none⟩ = some (.int .i64 e1) ∧ w'.cell? ⟨YB, 1, none⟩ = some (.int .i64 m1) ∧ w'.cell? ⟨YB, 2, none⟩ = some (.int .i64 e2) ∧ w'.cell? ⟨YB, 3, none⟩ = some (.int .i64 m2) ∧ w'.cell? ⟨YB, 4, none⟩ = some (.int .i64 s.bt) ∧ w'.cell? ⟨YB, 5, none⟩ = some (.int .i64 s.bk) ∧ w'.cell? ⟨YB, 6, none⟩ = some (.slice r.A r.n r.c) ∧ w'.cell? ⟨YB, 7, none⟩ = some (.int .i64 s.tick) ∧ w'.cell? ⟨b, o + j * 4, none⟩ = some (.int .u8 (k : Int))) (first | (go_keep; done) | (go_simp; done) | (simp [go_sem]; done)) ((first | (go_at_call 22; refine (mac_any (k : Int) _).mono ?_; rintro e w5 ⟨rfl, hb⟩; obtain ⟨xs5, dr5, rfl⟩ := ext_of hb; clear hb) | (go_at_call 25; go_must (refine (rallow_any e1 m1 e2 m2 s r (mac4 k) t _ w4.heap.size (by first | (simp [size_ext, grow]; done) | (simp [size_ext, grow]; omega)) (by exact HMD.out.ref.keep (by (repeat (first | exact Below.refl _ _ | exact Nat.le_refl _ | (refine below_ext ?_ (by first | (simp [size_ext, grow]; done) | (simp [size_ext, grow]; omega) | omega) _ _) | (refine Below.setCell ?_ (by first | (simp [size_ext, grow]; done) | (simp [size_ext, grow]; omega) | omega) _) | (refine Below.alloc ?_ (by first | (simp [size_ext, grow]; done) | (simp [size_ext, grow]; omega) | omega) _) | refine Below.drew ?_ | refine below_drewN ?_ _ | (refine Below.trans ?_ (Below.mono (by assumption) (by first | (simp [size_ext, grow]; done) | (simp [size_ext, grow]; omega) | omega))))))) (mac4_ok (by omega)) HR2.out HMD.out.apart hlen).mono ?_); rw [HSB.out.1, HSB.out.2]; rintro e w7 ⟨r', rfl, hb, hra, hlo⟩; have HRA := Lib.hid hra; have HLO := Lib.hid hlo; clear hra hlo; obtain ⟨xs7, dr7, rfl⟩ := ext_of hb; clear hb; simp only [refV])))
                all_goals
                  go_wp2_with fail
                  go_meet
                  refine ⟨_, _, _, rfl, rfl, rfl, HMD.out.grow (by (repeat (first | exact Below.refl _ _ | exact Nat.le_refl _ | (refine below_ext ?_ (by first | (simp [size_ext, grow]; done) | (simp [size_ext, grow]; omega) | omega) _ _) | (refine Below.setCell ?_ (by first | (simp [size_ext, grow]; done) | (simp [size_ext, grow]; omega) | omega) _) | (refine Below.alloc ?_ (by first | (simp [size_ext, grow]; done) | (simp [size_ext, grow]; omega) | omega) _) | refine Below.drew ?_ | refine below_drewN ?_ _ | (refine Below.trans ?_ (Below.mono (by assumption) (by first | (simp [size_ext, grow]; done) | (simp [size_ext, grow]; omega) | omega)))))), ?_, (fun a ha => by have := HLO.out a ha; simp [size_ext, grow] at this; omega), by unfold rowY; (repeat (first | ((refine heap_alloc_at _ _ _ ?_); (simp [go_sem]; done)) | ((refine (heap_ext _ _ _ _ ?_).trans ?_); (focus (simp [go_sem]; done))) | ((refine (heap_alloc_past _ _ _ ?_).trans ?_); (focus (simp [go_sem]; done)))))⟩
                  refine HRA.out.other ?_ ?_
                  · first | (simp [size_ext, grow]; done) | (simp [size_ext, grow]; omega)
                  · intro a ha hlt
                    first
                      | exact Below.heap_alloc _ _ _ hlt
                      | exact ext_high _ _ _ _ _ _ (by simp [size_ext, grow]) (HLO.out a ha)
              case rest =>
                obtain ⟨P, r', w8, hw8, rfl, rfl, hmd, hra, hlo, hP⟩ := hcut
                rw [← hw8]
                have HMD8 := Lib.hid hmd
                have HRA8 := Lib.hid hra
                have HLO8 := Lib.hid hlo
                have v0 : w8.cell? ⟨P, 0, none⟩ = some (.int .i64 e1) := (cell_of_row w8 _ 0 _ _ (0, 0) hP).trans rfl
                have v1 : w8.cell? ⟨P, 1, none⟩ = some (.int .i64 m1) := (cell_of_row w8 _ 1 _ _ (0, 0) hP).trans rfl
                have v2 : w8.cell? ⟨P, 2, none⟩ = some (.int .i64 e2) := (cell_of_row w8 _ 2 _ _ (0, 0) hP).trans rfl
                have v3 : w8.cell? ⟨P, 3, none⟩ = some (.int .i64 m2) := (cell_of_row w8 _ 3 _ _ (0, 0) hP).trans rfl
                have v4 : w8.cell? ⟨P, 4, none⟩ = some (.int .i64 s2.bt) := (cell_of_row w8 _ 4 _ _ (0, 0) hP).trans rfl
                have v5 : w8.cell? ⟨P, 5, none⟩ = some (.int .i64 s2.bk) := (cell_of_row w8 _ 5 _ _ (0, 0) hP).trans rfl
                have v6 : w8.cell? ⟨P, 6, none⟩ = some (.slice r'.A r'.n r'.c) := (cell_of_row w8 _ 6 _ _ (0, 0) hP).trans rfl
                have v7 : w8.cell? ⟨P, 7, none⟩ = some (.int .i64 s2.tick) := (cell_of_row w8 _ 7 _ _ (0, 0) hP).trans rfl
                clear hmd hra hlo hP hw8 y0 y1 y2 y3 y4 y5 y6 y7 yz hbw4 g0 HMD hsz4
                have y0 : w8.cell? ⟨YB, 0, none⟩ = some (.int .i64 e1) := (cell_of_row w8 _ 0 _ _ (0, 0) HMD8.out.y).trans rfl
                have y1 : w8.cell? ⟨YB, 1, none⟩ = some (.int .i64 m1) := (cell_of_row w8 _ 1 _ _ (0, 0) HMD8.out.y).trans rfl
                have y2 : w8.cell? ⟨YB, 2, none⟩ = some (.int .i64 e2) := (cell_of_row w8 _ 2 _ _ (0, 0) HMD8.out.y).trans rfl
                have y3 : w8.cell? ⟨YB, 3, none⟩ = some (.int .i64 m2) := (cell_of_row w8 _ 3 _ _ (0, 0) HMD8.out.y).trans rfl
                have y4 : w8.cell? ⟨YB, 4, none⟩ = some (.int .i64 s.bt) := (cell_of_row w8 _ 4 _ _ (0, 0) HMD8.out.y).trans rfl
                have y5 : w8.cell? ⟨YB, 5, none⟩ = some (.int .i64 s.bk) := (cell_of_row w8 _ 5 _ _ (0, 0) HMD8.out.y).trans rfl
                have y6 : w8.cell? ⟨YB, 6, none⟩ = some (.slice r.A r.n r.c) := (cell_of_row w8 _ 6 _ _ (0, 0) HMD8.out.y).trans rfl
                have y7 : w8.cell? ⟨YB, 7, none⟩ = some (.int .i64 s.tick) := (cell_of_row w8 _ 7 _ _ (0, 0) HMD8.out.y).trans rfl
                have yz : YB < w8.heap.size := lt_of_block HMD8.out.y
                have fy0 : w8.frozen? ⟨YB, 0, none⟩ = false := frozen_of_row w8 _ 0 _ 55 HMD8.out.y
                have fy1 : w8.frozen? ⟨YB, 1, none⟩ = false := frozen_of_row w8 _ 1 _ 55 HMD8.out.y
                have fy2 : w8.frozen? ⟨YB, 2, none⟩ = false := frozen_of_row w8 _ 2 _ 55 HMD8.out.y
                have fy3 : w8.frozen? ⟨YB, 3, none⟩ = false := frozen_of_row w8 _ 3 _ 55 HMD8.out.y
                have fy4 : w8.frozen? ⟨YB, 4, none⟩ = false := frozen_of_row w8 _ 4 _ 55 HMD8.out.y
                have fy5 : w8.frozen? ⟨YB, 5, none⟩ = false := frozen_of_row w8 _ 5 _ 55 HMD8.out.y
                have fy6 : w8.frozen? ⟨YB, 6, none⟩ = false := frozen_of_row w8 _ 6 _ 55 HMD8.out.y
                have fy7 : w8.frozen? ⟨YB, 7, none⟩ = false := frozen_of_row w8 _ 7 _ 55 HMD8.out.y
                go_upto_region 18 with (fail)
                refine wp_world (fun W9 => RunW w YB l bm e1 m1 e2 m2 s2 r' W9) (HMD8.out.put hlY hbY (by omega) HRA8.out HLO8.out HAP.out) ?_
                intro w9 hr9
                have HW9 := Lib.hid hr9
                have HNL := Lib.hid (show r'.n = s2.L.length by have h1 := hr9.ref.n; have h2 := hr9.ref.L; rw [h1, ← h2, List.length_map])
                clear hr9 HRA8 HLO8 HMD8 v0 v1 v2 v3 v4 v5 v6 v7 y0 y1 y2 y3 y4 y5 y6 y7 yz fy0 fy1 fy2 fy3 fy4 fy5 fy6 fy7
                have y0 : w9.cell? ⟨YB, 0, none⟩ = some (.int .i64 e1) := (cell_of_row w9 _ 0 _ _ (0, 0) HW9.out.y).trans rfl
                have y1 : w9.cell? ⟨YB, 1, none⟩ = some (.int .i64 m1) := (cell_of_row w9 _ 1 _ _ (0, 0) HW9.out.y).trans rfl
                have y2 : w9.cell? ⟨YB, 2, none⟩ = some (.int .i64 e2) := (cell_of_row w9 _ 2 _ _ (0, 0) HW9.out.y).trans rfl
                have y3 : w9.cell? ⟨YB, 3, none⟩ = some (.int .i64 m2) := (cell_of_row w9 _ 3 _ _ (0, 0) HW9.out.y).trans rfl
                have y4 : w9.cell? ⟨YB, 4, none⟩ = some (.int .i64 s2.bt) := (cell_of_row w9 _ 4 _ _ (0, 0) HW9.out.y).trans rfl
                have y5 : w9.cell? ⟨YB, 5, none⟩ = some (.int .i64 s2.bk) := (cell_of_row w9 _ 5 _ _ (0, 0) HW9.out.y).trans rfl
                have y6 : w9.cell? ⟨YB, 6, none⟩ = some (.slice r'.A r'.n r'.c) := (cell_of_row w9 _ 6 _ _ (0, 0) HW9.out.y).trans rfl
                have y7 : w9.cell? ⟨YB, 7, none⟩ = some (.int .i64 s2.tick) := (cell_of_row w9 _ 7 _ _ (0, 0) HW9.out.y).trans rfl
                have yz : YB < w9.heap.size := lt_of_block HW9.out.y
                rw [HNL.out] at y6
                clear y0 y1 y2 y3 y4 y5
                go_wp2_with fail
                go_quiet ((first | (go_at_call 23; exact len_q HW9.out.lim HW9.out.map _) | (go_at_call 26; exact tick_q HW9.out.lim _)))
                go_wp2_with fail
                go_roundw
                case rel => exact ⟨j + 1, T2, s2, r', by omega, by omega, HT2.out.1, HT2.out.2, rfl, by go_num, HLE.out, HW9.out.grow (below_drewN (Below.refl _ _) _)⟩
                case measure => simp [intOf]; omega
          · obtain rfl : j = 60 := by omega
            have hx : decide ((60 : Int) < (n : Int)) = true := by simp; omega
            go_wp2_with fail
            go_ret
            exact ⟨rfl, HW.out.below⟩
        · obtain rfl : j = n := by omega
          go_wp2_with fail
          go_ret
          exact ⟨rfl, HW.out.below⟩
theorem bucketLimiterRuns_calls {H : Type} (enc : TypeId × Value → H) (W : World) (base : Nat) (v0 v1 v2 : Value) (d0 d1 d2 : DataW H) (p0 p1 p2 : List MemPlace)
    (o0 : Value.okWide Try.prog W .any base 23 v0) (o1 : Value.okWide Try.prog W .any base 23 v1) (o2 : Value.okWide Try.prog W .any base 36 v2)
    (h0 : DataW.Trod enc Try.prog W 0 (fun _ => true) true 23 v0 d0 p0) (h1 : DataW.Trod enc Try.prog W 0 (fun _ => true) true 23 v1 d1 p1) (h2 : DataW.Trod enc Try.prog W 0 (fun _ => true) true 36 v2 d2 p2) :
    Calls Try.prog 9 #[v0, v1, v2] W fun e W' => e = .returned (.bool true) ∧ Below W.heap.size W W' := by
  obtain ⟨e1, m1, rfl, _, _⟩ := open_rate o0 h0
  obtain ⟨e2, m2, rfl, _, _⟩ := open_rate o1 h1
  obtain ⟨A, n, c, L, rfl, hA, hn, hc, hl⟩ := open_asks o2 h2
  exact runs_any e1 m1 e2 m2 A n c L W hA hn hl
end Go.Proofs.Ytlholmndckhhgaa
