/- BucketLimiterWindows: its walk. -/
import Derived.Test.YtlholmndckhhgaaM10
namespace Go.Proofs.Ytlholmndckhhgaa
open Go.ChangeShapes Go.WideShapes Go.ChangeAt Go.RowKit Go.Joins Go.Deep Go.Maps
set_option linter.unusedSimpArgs false
set_option linter.unusedVariables false
structure WinW (w : World) (EB l bm : Nat) (e1 m1 e2 m2 : Int) (f wd : Nat) (i : Nat) (T many : Int) (c : Nat → Int) (s : LimS) (wr : World) : Prop where
  st : WinS e1 m1 e2 m2 f wd i T many c s
  lim : LimC wr l e1 m1 e2 m2 s.bt s.bk (some bm) s.tick
  map : MapAt wr bm s.L
  below : Below w.heap.size w wr
  r0 : wr.heap[w.heap.size]? = some (.cells #[.int .i64 e1, .int .i64 m1] 23 (0, 0))
  r1 : wr.heap[w.heap.size + 1]? = some (.cells #[.int .i64 e2, .int .i64 m2] 23 (0, 0))
  eb : wr.heap[EB]? = some (.cells (cells4 c) 40 (0, 0))
theorem winW_start {w w2 : World} {l bm f wd : Nat} {e1 m1 e2 m2 : Int} (hr1 : rated e1 m1 = true) (hr2 : rated e2 m2 = true) (hb : Below w.heap.size w w2) (h0 : w2.heap[w.heap.size]? = some (.cells #[.int .i64 e1, .int .i64 m1] 23 (0, 0)))
    (h1 : w2.heap[w.heap.size + 1]? = some (.cells #[.int .i64 e2, .int .i64 m2] 23 (0, 0))) (hc : LimC w2 l e1 m1 e2 m2 m1 0 (some bm) 0) (hm : MapAt w2 bm []) :
    WinW w w2.heap.size l bm e1 m1 e2 m2 f wd 0 0 0 (fun _ => 0) ⟨m1, 0, 0, []⟩ (w2.alloc (.cells #[.int .i64 0, .int .i64 0, .int .i64 0, .int .i64 0] 40)) := by
  have b1 := (rated_iff e1 m1).1 hr1
  have b2 := (rated_iff e2 m2).1 hr2
  have hz := hb.size
  refine ⟨⟨⟨hr1, hr2, ⟨by simp only; omega, Int.le_refl _, Int.le_refl _, Int.le_refl _⟩, Int.le_refl _, by simp only; omega, (fun p hp => by cases hp), List.Pairwise.nil⟩, rfl, Int.le_refl _, by omega, Nat.le_refl _, by omega, fun _ _ => Int.le_refl _, win_start hr1 ?_, fun k hk => win_start hr2 (Int.le_refl _)⟩,
    (Below.heap_alloc w2 _ l (lt_of_block hc)).trans hc, hm.kept (Below.heap_alloc w2 _ bm hm.lt), hb.alloc (by omega) _, (Below.heap_alloc w2 _ _ (lt_of_block h0)).trans h0, (Below.heap_alloc w2 _ _ (lt_of_block h1)).trans h1, heap_alloc_new w2 _⟩
  rw [capT_now]; omega
theorem WinW.grow {w wr w' : World} {EB l bm f wd i : Nat} {e1 m1 e2 m2 T many : Int} {c : Nat → Int} {s : LimS} (h : WinW w EB l bm e1 m1 e2 m2 f wd i T many c s wr) (hb : Below wr.heap.size wr w') : WinW w EB l bm e1 m1 e2 m2 f wd i T many c s w' :=
  ⟨h.st, (hb.block l (lt_of_block h.lim)).trans h.lim, h.map.kept (hb.block bm h.map.lt), h.below.trans (hb.mono h.below.size), (hb.block _ (lt_of_block h.r0)).trans h.r0, (hb.block _ (lt_of_block h.r1)).trans h.r1, (hb.block _ (lt_of_block h.eb)).trans h.eb⟩
/-- What stays where the limiter turns. -/
structure WinT (w : World) (EB : Nat) (e1 m1 e2 m2 : Int) (c : Nat → Int) (wr : World) : Prop where
  below : Below w.heap.size w wr
  r0 : wr.heap[w.heap.size]? = some (.cells #[.int .i64 e1, .int .i64 m1] 23 (0, 0))
  r1 : wr.heap[w.heap.size + 1]? = some (.cells #[.int .i64 e2, .int .i64 m2] 23 (0, 0))
  eb : wr.heap[EB]? = some (.cells (cells4 c) 40 (0, 0))
theorem WinW.turn {w wr w' : World} {EB l bm f wd i : Nat} {e1 m1 e2 m2 T many : Int} {c : Nat → Int} {s : LimS} (h : WinW w EB l bm e1 m1 e2 m2 f wd i T many c s wr) (_h : True) (hl : w.heap.size + 2 ≤ l) (hb : w.heap.size + 2 ≤ bm) (hlE : l < EB) (hbE : bm < EB) (ht : Two l bm wr w') : WinT w EB e1 m1 e2 m2 c w' :=
  ⟨h.below.trans (ht.below h.below.size (by omega) (by omega)), (ht.block _ (lt_of_block h.r0) (by omega) (by omega)).trans h.r0, (ht.block _ (lt_of_block h.r1) (by omega) (by omega)).trans h.r1, (ht.block _ (lt_of_block h.eb) (by omega) (by omega)).trans h.eb⟩
theorem WinT.rest {w wr : World} {EB l bm f wd i : Nat} {e1 m1 e2 m2 T many : Int} {c : Nat → Int} {s : LimS} (h : WinT w EB e1 m1 e2 m2 c wr) (hs : WinS e1 m1 e2 m2 f wd i T many c s) (hc : LimC wr l e1 m1 e2 m2 s.bt s.bk (some bm) s.tick) (hm : MapAt wr bm s.L) : WinW w EB l bm e1 m1 e2 m2 f wd i T many c s wr :=
  ⟨hs, hc, hm, h.below, h.r0, h.r1, h.eb⟩
theorem WinT.put {w wr : World} {EB l bm f wd i k : Nat} {e1 m1 e2 m2 T many v : Int} {c : Nat → Int} {s : LimS} (h : WinT w EB e1 m1 e2 m2 c wr) (hs : WinS e1 m1 e2 m2 f wd i T many (put4 c k v) s) (hc : LimC wr l e1 m1 e2 m2 s.bt s.bk (some bm) s.tick) (hm : MapAt wr bm s.L) (hlE : l < EB) (hbE : bm < EB) (hwE : w.heap.size + 2 ≤ EB) (hk : k < 4) :
    WinW w EB l bm e1 m1 e2 m2 f wd i T many (put4 c k v) s (wr.setCell ⟨EB, k, none⟩ (.int .i64 v)) :=
  ⟨hs, (Below.heap_setCell wr ⟨EB, k, none⟩ _ l (by simp; omega)).trans hc, hm.kept (Below.heap_setCell wr ⟨EB, k, none⟩ _ bm (by simp; omega)), h.below.setCell (p := ⟨EB, k, none⟩) (by simp; omega) _,
    (Below.heap_setCell wr ⟨EB, k, none⟩ _ _ (by simp; omega)).trans h.r0, (Below.heap_setCell wr ⟨EB, k, none⟩ _ _ (by simp; omega)).trans h.r1, by rw [← cells4_set c hk]; exact heap_setCell_same wr EB k _ 40 _ h.eb⟩
set_option maxRecDepth 100000 in
set_option maxHeartbeats 2000000 in
theorem windows_any (e1 m1 e2 m2 : Int) (A : Option Addr) (n c : Nat) (L : List Ask) (f wd : Nat) (w : World) (hA : AsksAt w w.heap.size A L) (hn : n = L.length) (hn2 : (n : Int) ≤ 9223372036854775807) (hf : f ≤ 255) (hw : wd ≤ 255) :
    Calls Try.prog 6 #[.agg #[.int .i64 e1, .int .i64 m1], .agg #[.int .i64 e2, .int .i64 m2], .slice A n c, .int .u8 (f : Int), .int .u8 (wd : Int)] w fun e w' => e = .returned (.bool true) ∧ Below w.heap.size w w' := by
  have HA := Lib.hid hA
  have HN := Lib.hid hn
  clear hA hn
  go_enter Try.func6, Try.ntmps6
  go_wp2_with fail
  refine (new_any e1 m1 e2 m2 _).mono ?_
  rintro e w1 ⟨hb, ⟨hno, rfl⟩ | ⟨hok, l, bm, rfl, hl1, hb1, hc, hm⟩⟩
  · have HB := Lib.hid (show Below w.heap.size w w1 from (((Below.refl _ w).alloc (Nat.le_refl _) _).alloc (by simp) _).trans (hb.mono (by simp; omega)))
    clear hb hno
    go_wp2_with fail
    refine (awake_any _).mono ?_
    rintro e w2 ⟨rfl, hb⟩
    obtain ⟨xs, d, rfl⟩ := ext_of hb
    clear hb
    go_wp2_with fail
    go_ret
    exact ⟨rfl, by have h1 := HB.out; have h2 := h1.size; (repeat (first | exact Below.refl _ _ | exact Nat.le_refl _ | (refine below_ext ?_ (by first | (simp [size_ext, grow]; done) | (simp [size_ext, grow]; omega) | omega) _ _) | (refine Below.setCell ?_ (by first | (simp [size_ext, grow]; done) | (simp [size_ext, grow]; omega) | omega) _) | (refine Below.alloc ?_ (by first | (simp [size_ext, grow]; done) | (simp [size_ext, grow]; omega) | omega) _) | refine Below.drew ?_ | refine below_drewN ?_ _ | (refine Below.trans ?_ (Below.mono (by assumption) (by first | (simp [size_ext, grow]; done) | (simp [size_ext, grow]; omega) | omega)))))⟩
  · obtain ⟨b0, hb0⟩ : ∃ b0, b0 = w.heap.size := ⟨_, rfl⟩
    have HB := Lib.hid (show Below w.heap.size w w1 from (((Below.refl _ w).alloc (Nat.le_refl _) _).alloc (by simp) _).trans (hb.mono (by simp; omega)))
    have HR0 := Lib.hid (show w1.heap[w.heap.size]? = some (.cells #[.int .i64 e1, .int .i64 m1] 23 (0, 0)) from (hb.block _ (by simp <;> omega)).trans (by (repeat (first | ((refine heap_alloc_at _ _ _ ?_); (simp [go_sem]; done)) | ((refine (heap_ext _ _ _ _ ?_).trans ?_); (focus (simp [go_sem]; done))) | ((refine (heap_alloc_past _ _ _ ?_).trans ?_); (focus (simp [go_sem]; done)))))))
    have HR1 := Lib.hid (show w1.heap[w.heap.size + 1]? = some (.cells #[.int .i64 e2, .int .i64 m2] 23 (0, 0)) from (hb.block _ (by simp <;> omega)).trans (by (repeat (first | ((refine heap_alloc_at _ _ _ ?_); (simp [go_sem]; done)) | ((refine (heap_ext _ _ _ _ ?_).trans ?_); (focus (simp [go_sem]; done))) | ((refine (heap_alloc_past _ _ _ ?_).trans ?_); (focus (simp [go_sem]; done)))))))
    have hlw : w.heap.size + 2 ≤ l := by simpa using hl1
    have hbw2 : w.heap.size + 2 ≤ bm := by simpa using hb1
    have HC := Lib.hid hc
    have HM := Lib.hid hm
    have HOK := Lib.hid hok
    clear hb hl1 hb1 hc hm hok hb0
    go_wp2_with fail
    refine (awake_any _).mono ?_
    rintro e w2 ⟨rfl, hb⟩
    have hz1 := HB.out.size
    have hz2 := hb.size
    have HB2 := Lib.hid (HB.out.trans (hb.mono hz1))
    have HR02 := Lib.hid ((hb.block _ (lt_of_block HR0.out)).trans HR0.out)
    have HR12 := Lib.hid ((hb.block _ (lt_of_block HR1.out)).trans HR1.out)
    have HC2 := Lib.hid (show LimC w2 l e1 m1 e2 m2 m1 0 (some bm) 0 from (hb.block l (lt_of_block HC.out)).trans HC.out)
    have HM2 := Lib.hid (HM.out.kept (hb.block bm HM.out.lt))
    clear hb HR0 HR1 HC HM HB
    go_wp2_with fail
    obtain ⟨EB, hEB⟩ : ∃ EB, w2.heap.size = EB := ⟨_, rfl⟩
    have hlE : l < EB := by rw [← hEB]; exact lt_of_block HC2.out
    have hbE : bm < EB := by rw [← hEB]; exact HM2.out.lt
    have hwE : w.heap.size + 2 ≤ EB := by omega
    have hr1 : rated e1 m1 = true := by have := HOK.out; unfold newOk at this; simp at this; exact this.1
    have hr2 : rated e2 m2 = true := by have := HOK.out; unfold newOk at this; simp at this; exact this.2
    have HRT := Lib.hid (And.intro hr1 hr2)
    have bd1 := (rated_iff e1 m1).1 hr1
    have bd2 := (rated_iff e2 m2).1 hr2
    obtain ⟨⟨a1, a2⟩, a3, a4⟩ := bd1
    obtain ⟨⟨a5, a6⟩, a7, a8⟩ := bd2
    have HST := Lib.hid (winW_start (f := f) (wd := wd) hr1 hr2 HB2.out HR02.out HR12.out HC2.out HM2.out)
    clear HB2 HR02 HR12 HC2 HM2 hr1 hr2
    rw [hEB] at HST ⊢
    clear hEB hz1 hz2
    go_loopw [13, 14, 16] (fun t y i wr => ∃ (j : Nat) (T many : Int) (c4 : Nat → Int) (s : LimS), j ≤ n ∧ j ≤ 120 ∧ t = .int .i64 T ∧ y = .int .i64 many ∧ i = .int .i64 j ∧ WinW w EB l bm e1 m1 e2 m2 f wd j T many c4 s wr) (fun _ _ i _ => n - (intOf i).toNat)
    case atStart => exact ⟨0, 0, 0, fun _ => 0, ⟨m1, 0, 0, []⟩, Nat.zero_le _, by omega, rfl, rfl, rfl, HST.out⟩
    case round =>
      obtain ⟨j, T, many, c4, s, hj, hj2, rfl, rfl, rfl, hw4⟩ := hrel
      have HW := Lib.hid hw4
      have t0 := hw4.st.t0
      have t1 := hw4.st.t1
      have mm0 := hw4.st.all.lo
      have mm1 := hw4.st.m0
      have hsz := hw4.below.size
      clear hw4
      by_cases hlt : j < n
      · by_cases h120 : j < 120
        · obtain ⟨b, o, rfl, hbB, hx0, hx1, hx2, hx3, hx4, hx5⟩ := (HA.out.keep HW.out.below).get (k := j) (by rw [← HN.out]; exact hlt)
          obtain ⟨x, hx⟩ : ∃ x, L[j]'(by rw [← HN.out]; exact hlt) = x := ⟨_, rfl⟩
          rw [hx] at hx0 hx1 hx4 hx5
          clear hx2 hx3 hx
          have hbw : b < wr.heap.size := by omega
          obtain ⟨k, hk⟩ : ∃ k : Nat, (x.m : Int) % 4 = (k : Int) := ⟨x.m % 4, by omega⟩
          have k4 : k < 4 := by omega
          obtain ⟨la, hla⟩ : ∃ la, x.later = la := ⟨_, rfl⟩
          rw [hla] at hx1 hx5
          clear hla
          go_wp2_with fail
          rw [hk]
          refine (mac_any (k : Int) _).mono ?_
          rintro e w3 ⟨rfl, hb⟩
          have HW3 := Lib.hid (HW.out.grow hb)
          clear hb
          have hlen : s.L.length ≤ 100000 := by have := HW3.out.st.len; omega
          have EX := Lib.hid (show (T + (la : Int)) ≤ 255 * ((j : Int) + 1) by omega)
          go_wp2_with fail
          refine (allow_any l bm e1 m1 e2 m2 s (mac4 k) (macL k) (T + (la : Int)) w3 (key6 (mac4_ok (by omega))) HW3.out.lim HW3.out.map hlen).mono ?_
          rintro y w4 ⟨rfl, hc, hm, ht⟩
          have HT := Lib.hid (HW3.out.turn trivial hlw hbw2 hlE hbE ht)
          have HLM := Lib.hid (And.intro hc hm)
          clear hc hm ht hlen
          cases hB : allowB e1 m1 e2 m2 s (macL k) (T + (la : Int))
          · go_wp2_with fail
            go_roundw
            case rel => exact ⟨j + 1, _, _, c4, _, by omega, by omega, rfl, rfl, by go_num, HT.out.rest (winS_no HW3.out.st h120 (by omega) k4) HLM.out.1 HLM.out.2⟩
            case measure => simp [intOf]; omega
          · by_cases h5 : (f : Int) ≤ T + (la : Int)
            · have d5 : decide ((f : Int) ≤ T + (la : Int)) = true := by simpa using h5
              by_cases h6 : T + (la : Int) < (f : Int) + (wd : Int)
              · have d6 : decide (T + (la : Int) < (f : Int) + (wd : Int)) = true := by simpa using h6
                have g1 : w4.cell? ⟨EB, k, none⟩ = some (.int .i64 (c4 k)) := (cell_of_row w4 EB k _ _ (0, 0) HT.out.eb).trans (cells4_get c4 k4)
                have gf : w4.frozen? ⟨EB, k, none⟩ = false := frozen_of_row w4 EB k _ 40 HT.out.eb
                have gz : EB < w4.heap.size := lt_of_block HT.out.eb
                have cb := HW3.out.st.c0 k k4
                have cb0 := (HW3.out.st.own k k4).lo
                have HB := Lib.hid hB
                clear hB
                go_wp2_with fail
                go_roundw
                case rel => exact ⟨j + 1, _, _, put4 c4 k (c4 k + 1), _, by omega, by omega, rfl, rfl, by go_num, HT.out.put (winS_yes HW3.out.st h120 (by omega) k4 HB.out h5 h6) HLM.out.1 HLM.out.2 hlE hbE hwE k4⟩
                case measure => simp [intOf]; omega
              · have d6 : decide (T + (la : Int) < (f : Int) + (wd : Int)) = false := by simpa using h6
                go_wp2_with fail
                go_roundw
                case rel => exact ⟨j + 1, _, _, c4, _, by omega, by omega, rfl, rfl, by go_num, HT.out.rest (winS_no HW3.out.st h120 (by omega) k4) HLM.out.1 HLM.out.2⟩
                case measure => simp [intOf]; omega
            · have d5 : decide ((f : Int) ≤ T + (la : Int)) = false := by simpa using h5
              go_wp2_with fail
              go_roundw
              case rel => exact ⟨j + 1, _, _, c4, _, by omega, by omega, rfl, rfl, by go_num, HT.out.rest (winS_no HW3.out.st h120 (by omega) k4) HLM.out.1 HLM.out.2⟩
              case measure => simp [intOf]; omega
        · obtain rfl : j = 120 := by omega
          have hx : decide ((120 : Int) < (n : Int)) = true := by simp; omega
          have HW0 := HW
          have p0 : wr.cell? ⟨w.heap.size, 0, none⟩ = some (.int .i64 e1) := (cell_of_row wr _ 0 _ _ (0, 0) HW.out.r0).trans rfl
          have p1 : wr.cell? ⟨w.heap.size, 1, none⟩ = some (.int .i64 m1) := (cell_of_row wr _ 1 _ _ (0, 0) HW.out.r0).trans rfl
          have pz : w.heap.size < wr.heap.size := lt_of_block HW.out.r0
          have n1 : 0 ≤ e1 * (wd : Int) := mul_nn a1 (by omega)
          have n2 : e1 * (wd : Int) ≤ 267386880 := by
            have := Int.mul_le_mul (a := e1) (c := 1048576) (b := (wd : Int)) (d := 255) (by omega) (by omega) (by omega) (by omega)
            omega
          have h9 : decide (m1 + e1 * (wd : Int) < many) = false := by have := HW.out.st.all.hi; simp; omega
          obtain ⟨W6, hW6⟩ : ∃ W6, W6 = wr := ⟨_, rfl⟩
          rw [← hW6] at HW p0 p1 pz hsz ⊢
          clear hW6
          go_wp2_with fail
          clear p0 p1 pz n1 n2 h9
          have n1 : 0 ≤ e2 * (wd : Int) := mul_nn a5 (by omega)
          have n2 : e2 * (wd : Int) ≤ 267386880 := by
            have := Int.mul_le_mul (a := e2) (c := 1048576) (b := (wd : Int)) (d := 255) (by omega) (by omega) (by omega) (by omega)
            omega
          go_loopw [18] (fun i wr => ∃ k : Nat, k ≤ 4 ∧ i = .int .i64 k ∧ WinW w EB l bm e1 m1 e2 m2 f wd (120) T many c4 s wr) (fun i _ => 4 - (intOf i).toNat)
          case atStart => exact ⟨0, by omega, rfl, HW.out⟩
          case round =>
            obtain ⟨k, hk, rfl, hw4⟩ := hrel
            have HW := Lib.hid hw4
            clear hw4
            by_cases hlt : k < 4
            · have p0 : wr.cell? ⟨w.heap.size + 1, 0, none⟩ = some (.int .i64 e2) := (cell_of_row wr _ 0 _ _ (0, 0) HW.out.r1).trans rfl
              have p1 : wr.cell? ⟨w.heap.size + 1, 1, none⟩ = some (.int .i64 m2) := (cell_of_row wr _ 1 _ _ (0, 0) HW.out.r1).trans rfl
              have pz : w.heap.size + 1 < wr.heap.size := lt_of_block HW.out.r1
              have g1 : wr.cell? ⟨EB, k, none⟩ = some (.int .i64 (c4 k)) := (cell_of_row wr EB k _ _ (0, 0) HW.out.eb).trans (cells4_get c4 hlt)
              have gz : EB < wr.heap.size := lt_of_block HW.out.eb
              have h9 : decide (m2 + e2 * (wd : Int) < c4 k) = false := by have := (HW.out.st.own k hlt).hi; simp; omega
              have kk0 : (0 : Int) ≤ (k : Int) := by omega
              have kk4 : (k : Int) < 4 := by omega
              go_wp2_with fail
              go_quiet (fail)
              go_wp2_with fail
              go_roundw
              case rel => exact ⟨k + 1, by omega, by go_num, HW.out.grow (below_drewN (Below.refl _ _) _)⟩
              case measure => simp [intOf]; omega
            · obtain rfl : k = 4 := by omega
              go_wp2_with fail
              go_ret
              exact ⟨rfl, HW.out.below⟩
      · obtain rfl : j = n := by omega
        have HW0 := HW
        have p0 : wr.cell? ⟨w.heap.size, 0, none⟩ = some (.int .i64 e1) := (cell_of_row wr _ 0 _ _ (0, 0) HW.out.r0).trans rfl
        have p1 : wr.cell? ⟨w.heap.size, 1, none⟩ = some (.int .i64 m1) := (cell_of_row wr _ 1 _ _ (0, 0) HW.out.r0).trans rfl
        have pz : w.heap.size < wr.heap.size := lt_of_block HW.out.r0
        have n1 : 0 ≤ e1 * (wd : Int) := mul_nn a1 (by omega)
        have n2 : e1 * (wd : Int) ≤ 267386880 := by
          have := Int.mul_le_mul (a := e1) (c := 1048576) (b := (wd : Int)) (d := 255) (by omega) (by omega) (by omega) (by omega)
          omega
        have h9 : decide (m1 + e1 * (wd : Int) < many) = false := by have := HW.out.st.all.hi; simp; omega
        obtain ⟨W6, hW6⟩ : ∃ W6, W6 = wr := ⟨_, rfl⟩
        rw [← hW6] at HW p0 p1 pz hsz ⊢
        clear hW6
        go_wp2_with fail
        clear p0 p1 pz n1 n2 h9
        have n1 : 0 ≤ e2 * (wd : Int) := mul_nn a5 (by omega)
        have n2 : e2 * (wd : Int) ≤ 267386880 := by
          have := Int.mul_le_mul (a := e2) (c := 1048576) (b := (wd : Int)) (d := 255) (by omega) (by omega) (by omega) (by omega)
          omega
        go_loopw [18] (fun i wr => ∃ k : Nat, k ≤ 4 ∧ i = .int .i64 k ∧ WinW w EB l bm e1 m1 e2 m2 f wd (j) T many c4 s wr) (fun i _ => 4 - (intOf i).toNat)
        case atStart => exact ⟨0, by omega, rfl, HW.out⟩
        case round =>
          obtain ⟨k, hk, rfl, hw4⟩ := hrel
          have HW := Lib.hid hw4
          clear hw4
          by_cases hlt : k < 4
          · have p0 : wr.cell? ⟨w.heap.size + 1, 0, none⟩ = some (.int .i64 e2) := (cell_of_row wr _ 0 _ _ (0, 0) HW.out.r1).trans rfl
            have p1 : wr.cell? ⟨w.heap.size + 1, 1, none⟩ = some (.int .i64 m2) := (cell_of_row wr _ 1 _ _ (0, 0) HW.out.r1).trans rfl
            have pz : w.heap.size + 1 < wr.heap.size := lt_of_block HW.out.r1
            have g1 : wr.cell? ⟨EB, k, none⟩ = some (.int .i64 (c4 k)) := (cell_of_row wr EB k _ _ (0, 0) HW.out.eb).trans (cells4_get c4 hlt)
            have gz : EB < wr.heap.size := lt_of_block HW.out.eb
            have h9 : decide (m2 + e2 * (wd : Int) < c4 k) = false := by have := (HW.out.st.own k hlt).hi; simp; omega
            have kk0 : (0 : Int) ≤ (k : Int) := by omega
            have kk4 : (k : Int) < 4 := by omega
            go_wp2_with fail
            go_quiet (fail)
            go_wp2_with fail
            go_roundw
            case rel => exact ⟨k + 1, by omega, by go_num, HW.out.grow (below_drewN (Below.refl _ _) _)⟩
            case measure => simp [intOf]; omega
          · obtain rfl : k = 4 := by omega
            go_wp2_with fail
            go_ret
            exact ⟨rfl, HW.out.below⟩
theorem bucketLimiterWindows_calls {H : Type} (enc : TypeId × Value → H) (W : World) (base : Nat) (v0 v1 v2 v3 v4 : Value) (d0 d1 d2 d3 d4 : DataW H) (p0 p1 p2 p3 p4 : List MemPlace)
    (o0 : Value.okWide Try.prog W .any base 23 v0) (o1 : Value.okWide Try.prog W .any base 23 v1) (o2 : Value.okWide Try.prog W .any base 36 v2) (o3 : Value.okWide Try.prog W .any base 5 v3) (o4 : Value.okWide Try.prog W .any base 5 v4)
    (h0 : DataW.Trod enc Try.prog W 0 (fun _ => true) true 23 v0 d0 p0) (h1 : DataW.Trod enc Try.prog W 0 (fun _ => true) true 23 v1 d1 p1) (h2 : DataW.Trod enc Try.prog W 0 (fun _ => true) true 36 v2 d2 p2) (h3 : DataW.Trod enc Try.prog W 0 (fun _ => true) true 5 v3 d3 p3) (h4 : DataW.Trod enc Try.prog W 0 (fun _ => true) true 5 v4 d4 p4) :
    Calls Try.prog 6 #[v0, v1, v2, v3, v4] W fun e W' => e = .returned (.bool true) ∧ Below W.heap.size W W' := by
  obtain ⟨e1, m1, rfl, _, _⟩ := open_rate o0 h0
  obtain ⟨e2, m2, rfl, _, _⟩ := open_rate o1 h1
  obtain ⟨A, n, c, L, rfl, hA, hn, hc, hl⟩ := open_asks o2 h2
  obtain ⟨i0, rfl, rfl, rfl, w0⟩ := open_int Try.underlying5 o3 h3
  obtain ⟨i1, rfl, rfl, rfl, w1⟩ := open_int Try.underlying5 o4 h4
  have b0 : 0 ≤ i0 ∧ i0 ≤ 255 := by simpa [Lit.wf, IntKind.min, IntKind.max, IntKind.signed, IntKind.bits] using w0
  have b1 : 0 ≤ i1 ∧ i1 ≤ 255 := by simpa [Lit.wf, IntKind.min, IntKind.max, IntKind.signed, IntKind.bits] using w1
  obtain ⟨j0, rfl⟩ := Int.eq_ofNat_of_zero_le b0.1
  obtain ⟨j1, rfl⟩ := Int.eq_ofNat_of_zero_le b1.1
  exact windows_any e1 m1 e2 m2 A n c L j0 j1 W hA hn hl (by omega) (by omega)
end Go.Proofs.Ytlholmndckhhgaa
