/- BucketLimiterFair: its walk. -/
import Derived.Test.YtlholmndckhhgaaM12
import Derived.Test.YtlholmndckhhgaaM11
namespace Go.Proofs.Ytlholmndckhhgaa
open Go.ChangeShapes Go.WideShapes Go.ChangeAt Go.RowKit Go.Joins Go.Deep Go.Maps
set_option linter.unusedSimpArgs false
set_option linter.unusedVariables false
structure FairW (w : World) (EB l bm : Nat) (e2 m2 : Int) (b : Nat → Int × Int) (s : LimS) (wr : World) : Prop where
  lim : LimC wr l 0 1000 e2 m2 s.bt s.bk (some bm) s.tick
  map : MapAt wr bm s.L
  below : Below w.heap.size w wr
  r0 : wr.heap[w.heap.size]? = some (.cells #[.int .i64 e2, .int .i64 m2] 23 (0, 0))
  eb : wr.heap[EB]? = some (.cells (cells8 b) 48 (0, 0))
theorem FairW.grow {w wr w' : World} {EB l bm : Nat} {e2 m2 : Int} {b : Nat → Int × Int} {s : LimS} (h : FairW w EB l bm e2 m2 b s wr) (hb : Below wr.heap.size wr w') : FairW w EB l bm e2 m2 b s w' :=
  ⟨(hb.block l (lt_of_block h.lim)).trans h.lim, h.map.kept (hb.block bm h.map.lt), h.below.trans (hb.mono h.below.size), (hb.block _ (lt_of_block h.r0)).trans h.r0, (hb.block _ (lt_of_block h.eb)).trans h.eb⟩
theorem FairW.put {w wr : World} {EB l bm k : Nat} {e2 m2 u v : Int} {b : Nat → Int × Int} {s : LimS} (h : FairW w EB l bm e2 m2 b s wr) (hl : l ≠ EB) (hb : bm ≠ EB) (hw : w.heap.size < EB) (hk : k < 4) :
    FairW w EB l bm e2 m2 (put2 b k (u, v)) s ((wr.setCell ⟨EB, k * 2, none⟩ (.int .i64 u)).setCell ⟨EB, k * 2 + 1, none⟩ (.int .i64 v)) :=
  ⟨((Below.heap_setCell _ ⟨EB, k * 2 + 1, none⟩ _ l (by simpa using hl)).trans (Below.heap_setCell wr ⟨EB, k * 2, none⟩ _ l (by simpa using hl))).trans h.lim,
    (h.map.kept (Below.heap_setCell wr ⟨EB, k * 2, none⟩ _ bm (by simpa using hb))).kept (Below.heap_setCell _ ⟨EB, k * 2 + 1, none⟩ _ bm (by simpa using hb)),
    (h.below.setCell (p := ⟨EB, k * 2, none⟩) (by simp; omega) _).setCell (p := ⟨EB, k * 2 + 1, none⟩) (by simp; omega) _,
    ((Below.heap_setCell _ ⟨EB, k * 2 + 1, none⟩ _ _ (by simp; omega)).trans (Below.heap_setCell wr ⟨EB, k * 2, none⟩ _ _ (by simp; omega))).trans h.r0,
    by rw [← cells8_set b hk]; exact heap_setCell_same _ EB _ _ 48 _ (heap_setCell_same wr EB _ _ 48 _ h.eb)⟩
theorem FairW.turn {w wr w' : World} {EB l bm : Nat} {e2 m2 : Int} {b : Nat → Int × Int} {s s' : LimS} (h : FairW w EB l bm e2 m2 b s wr) (hl : w.heap.size < l) (hb : w.heap.size < bm) (hlE : l ≠ EB) (hbE : bm ≠ EB) (ht : Two l bm wr w') (hc : LimC w' l 0 1000 e2 m2 s'.bt s'.bk (some bm) s'.tick) (hm : MapAt w' bm s'.L) : FairW w EB l bm e2 m2 b s' w' :=
  ⟨hc, hm, h.below.trans (ht.below h.below.size (by omega) (by omega)), (ht.block _ (lt_of_block h.r0) (by omega) (by omega)).trans h.r0, (ht.block _ (lt_of_block h.eb) (Ne.symm hlE) (Ne.symm hbE)).trans h.eb⟩
set_option maxRecDepth 100000 in
set_option maxHeartbeats 2000000 in
theorem fair_any (e2 m2 : Int) (A : Option Addr) (n c : Nat) (L : List Ask) (w : World) (hA : AsksAt w w.heap.size A L) (hn : n = L.length) (hn2 : (n : Int) ≤ 9223372036854775807) :
    Calls Try.prog 7 #[.agg #[.int .i64 e2, .int .i64 m2], .slice A n c] w fun e w' => e = .returned (.bool true) ∧ Below w.heap.size w w' := by
  have HA := Lib.hid hA
  have HN := Lib.hid hn
  clear hA hn
  cases hr : rated e2 m2
  · have H := Lib.hid (show rateErr e2 m2 = 100 by simp [rateErr, hr])
    clear hr
    go_enter Try.func7, Try.ntmps7
    go_wp2_with fail
    refine (check_ref _ _ _).mono ?_
    rw [H.out]
    rintro e w1 ⟨rfl, hb⟩
    obtain ⟨xs, d, rfl⟩ := ext_of hb
    clear hb
    go_wp2_with fail
    refine (awake_any _).mono ?_
    rintro e w1 ⟨rfl, hb⟩
    obtain ⟨xs2, d2, rfl⟩ := ext_of hb
    clear hb
    go_wp2_with fail
    go_ret
    exact ⟨rfl, by (repeat (first | exact Below.refl _ _ | exact Nat.le_refl _ | (refine below_ext ?_ (by first | (simp [size_ext, grow]; done) | (simp [size_ext, grow]; omega) | omega) _ _) | (refine Below.setCell ?_ (by first | (simp [size_ext, grow]; done) | (simp [size_ext, grow]; omega) | omega) _) | (refine Below.alloc ?_ (by first | (simp [size_ext, grow]; done) | (simp [size_ext, grow]; omega) | omega) _) | refine Below.drew ?_ | refine below_drewN ?_ _ | (refine Below.trans ?_ (Below.mono (by assumption) (by first | (simp [size_ext, grow]; done) | (simp [size_ext, grow]; omega) | omega)))))⟩
  · have H := Lib.hid (show rateErr e2 m2 = 0 by simp [rateErr, hr])
    have HR := Lib.hid hr
    have bd2 := (rated_iff e2 m2).1 hr
    obtain ⟨⟨a5, a6⟩, a7, a8⟩ := bd2
    clear hr
    go_enter Try.func7, Try.ntmps7
    go_wp2_with fail
    refine (check_ref _ _ _).mono ?_
    rw [H.out]
    rintro e w1 ⟨rfl, hb⟩
    obtain ⟨xs, d, rfl⟩ := ext_of hb
    clear hb
    go_wp2_with fail
    refine (new_any 0 1000 e2 m2 _).mono ?_
    rintro e w2 ⟨hb, ⟨hno, rfl⟩ | ⟨hok, l, bm, rfl, hl1, hb1, hc, hm⟩⟩
    · exfalso
      unfold newOk at hno
      rw [HR.out] at hno
      revert hno; decide
    · have HB := Lib.hid (show Below w.heap.size w w2 from Below.trans (show Below w.heap.size w (ext (w.alloc (.cells #[.int .i64 e2, .int .i64 m2] 23)) xs d) by (repeat (first | exact Below.refl _ _ | exact Nat.le_refl _ | (refine below_ext ?_ (by first | (simp [size_ext, grow]; done) | (simp [size_ext, grow]; omega) | omega) _ _) | (refine Below.setCell ?_ (by first | (simp [size_ext, grow]; done) | (simp [size_ext, grow]; omega) | omega) _) | (refine Below.alloc ?_ (by first | (simp [size_ext, grow]; done) | (simp [size_ext, grow]; omega) | omega) _) | refine Below.drew ?_ | refine below_drewN ?_ _ | (refine Below.trans ?_ (Below.mono (by assumption) (by first | (simp [size_ext, grow]; done) | (simp [size_ext, grow]; omega) | omega)))))) (hb.mono (by simp [size_ext, grow]; omega)))
      have HR0 := Lib.hid (show w2.heap[w.heap.size]? = some (.cells #[.int .i64 e2, .int .i64 m2] 23 (0, 0)) from (hb.block _ (by simp [size_ext, grow]; omega)).trans (by (repeat (first | ((refine heap_alloc_at _ _ _ ?_); (simp [go_sem]; done)) | ((refine (heap_ext _ _ _ _ ?_).trans ?_); (focus (simp [go_sem]; done))) | ((refine (heap_alloc_past _ _ _ ?_).trans ?_); (focus (simp [go_sem]; done)))))))
      have hlw : w.heap.size < l := by simp [size_ext, grow] at hl1; omega
      have hbw2 : w.heap.size < bm := by simp [size_ext, grow] at hb1; omega
      have HC := Lib.hid hc
      have HM := Lib.hid hm
      clear hb hl1 hb1 hc hm hok
      go_wp2_with fail
      refine (awake_any _).mono ?_
      rintro e w3 ⟨rfl, hb⟩
      have hz1 := HB.out.size
      have hz2 := hb.size
      have HB2 := Lib.hid (HB.out.trans (hb.mono hz1))
      have HR02 := Lib.hid ((hb.block _ (lt_of_block HR0.out)).trans HR0.out)
      have HC2 := Lib.hid (show LimC w3 l 0 1000 e2 m2 1000 0 (some bm) 0 from (hb.block l (lt_of_block HC.out)).trans HC.out)
      have HM2 := Lib.hid (HM.out.kept (hb.block bm HM.out.lt))
      clear hb HR0 HC HM HB
      go_wp2_with fail
      obtain ⟨EB, hEB⟩ : ∃ EB, w3.heap.size = EB := ⟨_, rfl⟩
      have hlE : l ≠ EB := by have := lt_of_block HC2.out; omega
      have hbE : bm ≠ EB := by have := HM2.out.lt; omega
      have hwE : w.heap.size < EB := by have := lt_of_block HC2.out; omega
      obtain ⟨W4, hW4⟩ : ∃ W4, W4 = w3.alloc (.cells #[.int .i64 0, .int .i64 0, .int .i64 0, .int .i64 0, .int .i64 0, .int .i64 0, .int .i64 0, .int .i64 0] 48) := ⟨_, rfl⟩
      have HF := Lib.hid (show FairW w EB l bm e2 m2 (firstB m2 0) ⟨1000, 0, 0, []⟩ W4 by
        rw [hW4]
        exact ⟨(Below.heap_alloc w3 _ l (lt_of_block HC2.out)).trans HC2.out, HM2.out.kept (Below.heap_alloc w3 _ bm HM2.out.lt), HB2.out.alloc (by omega) _, (Below.heap_alloc w3 _ _ (lt_of_block HR02.out)).trans HR02.out, by rw [← hEB]; exact heap_alloc_new w3 _⟩)
      rw [hEB, ← hW4]
      clear hW4 hEB HB2 HR02 HC2 HM2 hz1 hz2
      go_loopw [8] (fun i wr => ∃ k : Nat, k ≤ 4 ∧ i = .int .i64 k ∧ FairW w EB l bm e2 m2 (firstB m2 k) ⟨1000, 0, 0, []⟩ wr) (fun i _ => 4 - (intOf i).toNat)
      case atStart => exact ⟨0, by omega, rfl, HF.out⟩
      case round =>
        obtain ⟨k, hk, rfl, hw4⟩ := hrel
        have HW := Lib.hid hw4
        clear hw4
        by_cases hlt : k < 4
        · have p0 : wr.cell? ⟨w.heap.size, 0, none⟩ = some (.int .i64 e2) := (cell_of_row wr _ 0 _ _ (0, 0) HW.out.r0).trans rfl
          have p1 : wr.cell? ⟨w.heap.size, 1, none⟩ = some (.int .i64 m2) := (cell_of_row wr _ 1 _ _ (0, 0) HW.out.r0).trans rfl
          have pz : w.heap.size < wr.heap.size := lt_of_block HW.out.r0
          have HFU := Lib.hid (show full e2 m2 = m2 by simp [full, HR.out])
          go_wp2_with fail
          refine (full_ref _ _ _).mono ?_
          rw [HFU.out]
          rintro e w5 ⟨rfl, hb⟩
          have HW5 := Lib.hid (HW.out.grow hb)
          clear hb p0 p1 pz
          have g0 : w5.cell? ⟨EB, k * 2, none⟩ = some (.int .i64 (firstB m2 k k).1) := (cell_of_row w5 EB _ _ _ (0, 0) HW5.out.eb).trans (cells8_get _ hlt).1
          have g1 : w5.cell? ⟨EB, k * 2 + 1, none⟩ = some (.int .i64 (firstB m2 k k).2) := (cell_of_row w5 EB _ _ _ (0, 0) HW5.out.eb).trans (cells8_get _ hlt).2
          have f0 : w5.frozen? ⟨EB, k * 2, none⟩ = false := frozen_of_row w5 EB _ _ 48 HW5.out.eb
          have f1 : w5.frozen? ⟨EB, k * 2 + 1, none⟩ = false := frozen_of_row w5 EB _ _ 48 HW5.out.eb
          have gz : EB < w5.heap.size := lt_of_block HW5.out.eb
          have kk4 : (k : Int) < 4 := by omega
          go_wp2_with fail
          go_roundw
          case rel => exact ⟨k + 1, by omega, by go_num, by rw [← firstB_succ]; exact HW5.out.put hlE hbE hwE hlt⟩
          case measure => simp [intOf]; omega
        · obtain rfl : k = 4 := by omega
          have HW4 := Lib.hid (show FairW w EB l bm e2 m2 (fun _ => (m2, 0)) ⟨1000, 0, 0, []⟩ wr from ⟨HW.out.lim, HW.out.map, HW.out.below, HW.out.r0, by rw [← firstB_4]; exact HW.out.eb⟩)
          have HFS := Lib.hid (fair_start HR.out)
          obtain ⟨W6, hW6⟩ : ∃ W6, W6 = wr := ⟨_, rfl⟩
          rw [← hW6] at HW4 ⊢
          clear hW6
          rw [show ((4 : Nat) : Int) = 4 from rfl]
          go_wp2_with fail
          go_loopw [9, 10] (fun t i wr => ∃ (j : Nat) (T : Int) (b : Nat → Int × Int) (s : LimS), j ≤ n ∧ j ≤ 100 ∧ t = .int .i64 T ∧ i = .int .i64 j ∧ FairS e2 m2 j T b s ∧ FairW w EB l bm e2 m2 b s wr) (fun _ i _ => n - (intOf i).toNat)
          case atStart => exact ⟨0, 0, _, _, Nat.zero_le _, by omega, rfl, rfl, HFS.out, HW4.out⟩
          case round =>
            obtain ⟨j, T, bb, s, hj, hj2, rfl, rfl, hst, hw4⟩ := hrel
            have HW := Lib.hid hw4
            have HS := Lib.hid hst
            have t0 := hst.t0
            have t1 := hst.t1
            have hsz := hw4.below.size
            clear hw4 hst
            by_cases hlt : j < n
            · by_cases h100 : j < 100
              · obtain ⟨b, o, rfl, hbB, hx0, hx1, hx2, hx3, hx4, hx5⟩ := (HA.out.keep HW.out.below).get (k := j) (by rw [← HN.out]; exact hlt)
                obtain ⟨x, hx⟩ : ∃ x, L[j]'(by rw [← HN.out]; exact hlt) = x := ⟨_, rfl⟩
                rw [hx] at hx0 hx1 hx4 hx5
                clear hx2 hx3 hx
                have hbw : b < wr.heap.size := by omega
                obtain ⟨k, hk⟩ : ∃ k : Nat, (x.m : Int) % 4 = (k : Int) := ⟨x.m % 4, by omega⟩
                have k4 : k < 4 := by omega
                obtain ⟨la, hla⟩ : ∃ la, x.later = la := ⟨_, rfl⟩
                rw [hla] at hx1 hx5
                clear hla
                have p0 : wr.cell? ⟨w.heap.size, 0, none⟩ = some (.int .i64 e2) := (cell_of_row wr _ 0 _ _ (0, 0) HW.out.r0).trans rfl
                have p1 : wr.cell? ⟨w.heap.size, 1, none⟩ = some (.int .i64 m2) := (cell_of_row wr _ 1 _ _ (0, 0) HW.out.r0).trans rfl
                have pz : w.heap.size < wr.heap.size := lt_of_block HW.out.r0
                obtain ⟨⟨q1, q2⟩, hq⟩ : ∃ q, bb k = q := ⟨_, rfl⟩
                have HQ := Lib.hid hq
                have g0 : wr.cell? ⟨EB, k * 2, none⟩ = some (.int .i64 q1) := by have := (cell_of_row wr EB _ _ _ (0, 0) HW.out.eb).trans (cells8_get bb k4).1; rwa [hq] at this
                have g1 : wr.cell? ⟨EB, k * 2 + 1, none⟩ = some (.int .i64 q2) := by have := (cell_of_row wr EB _ _ _ (0, 0) HW.out.eb).trans (cells8_get bb k4).2; rwa [hq] at this
                have gz : EB < wr.heap.size := lt_of_block HW.out.eb
                clear hq
                have kk4 : (k : Int) < 4 := by omega
                have kk0 : (0 : Int) ≤ (k : Int) := by omega
                go_wp2_with fail
                rw [hk]
                go_cut [12, 13] (fun s12 s13 wx => ∃ (w6 : World) (P : Nat), w6 = wx ∧ s12 = .pointer (some ⟨P, 0, none⟩) ∧ s13 = .bool (tkOk e2 m2 q1 q2 (T + (la : Int))) ∧ FairW w EB l bm e2 m2 bb s w6 ∧ P ≠ EB ∧ w6.heap[P]? = some (.cells #[.int .i64 (tkTok e2 m2 q1 q2 (T + (la : Int))), .int .i64 (tkTick e2 m2 q1 q2 (T + (la : Int)))] 25 (0, 0)))
                case first =>
                  go_region_held3 (fun w' => w'.cell? ⟨w.heap.size, 0, none⟩ = some (.int .i64 e2) ∧ w'.cell? ⟨w.heap.size, 1, none⟩ = some (.int .i64 m2) ∧ w'.cell? ⟨EB, k * 2, none⟩ = some (.int .i64 q1) ∧ w'.cell? ⟨EB, k * 2 + 1, none⟩ = some (.int .i64 q2)) (first | (go_keep; done) | (go_simp; done) | (simp [go_sem]; done)) ((go_at_call 19; refine (take_ref _ _ _ _ _ _).mono ?_; rintro e w5 ⟨rfl, hb⟩; obtain ⟨xs5, dr5, rfl⟩ := ext_of hb; clear hb))
                  all_goals
                    go_wp2_with fail
                    go_meet
                    exact ⟨_, _, rfl, rfl, rfl, HW.out.grow (by (repeat (first | exact Below.refl _ _ | exact Nat.le_refl _ | (refine below_ext ?_ (by first | (simp [size_ext, grow]; done) | (simp [size_ext, grow]; omega) | omega) _ _) | (refine Below.setCell ?_ (by first | (simp [size_ext, grow]; done) | (simp [size_ext, grow]; omega) | omega) _) | (refine Below.alloc ?_ (by first | (simp [size_ext, grow]; done) | (simp [size_ext, grow]; omega) | omega) _) | refine Below.drew ?_ | refine below_drewN ?_ _ | (refine Below.trans ?_ (Below.mono (by assumption) (by first | (simp [size_ext, grow]; done) | (simp [size_ext, grow]; omega) | omega)))))), by simp [grow]; omega, by (repeat (first | ((refine heap_alloc_at _ _ _ ?_); (simp [go_sem]; done)) | ((refine (heap_ext _ _ _ _ ?_).trans ?_); (focus (simp [go_sem]; done))) | ((refine (heap_alloc_past _ _ _ ?_).trans ?_); (focus (simp [go_sem]; done)))))⟩
                case rest =>
                  obtain ⟨w6, P, rfl, rfl, rfl, hfw, hPE, hP⟩ := hcut
                  have HW6 := Lib.hid hfw
                  have r0 : w6.cell? ⟨P, 0, none⟩ = some (.int .i64 (tkTok e2 m2 q1 q2 (T + (la : Int)))) := (cell_of_row w6 P 0 _ _ (0, 0) hP).trans rfl
                  have r1 : w6.cell? ⟨P, 1, none⟩ = some (.int .i64 (tkTick e2 m2 q1 q2 (T + (la : Int)))) := (cell_of_row w6 P 1 _ _ (0, 0) hP).trans rfl
                  have rz : P < w6.heap.size := lt_of_block hP
                  clear hfw hP p0 p1 g0 g1
                  obtain ⟨u0, hu0⟩ : ∃ u, w6.cell? ⟨EB, k * 2, none⟩ = some (.int .i64 u) := ⟨_, (cell_of_row w6 EB _ _ _ (0, 0) HW6.out.eb).trans (cells8_get bb k4).1⟩
                  obtain ⟨u1, hu1⟩ : ∃ u, w6.cell? ⟨EB, k * 2 + 1, none⟩ = some (.int .i64 u) := ⟨_, (cell_of_row w6 EB _ _ _ (0, 0) HW6.out.eb).trans (cells8_get bb k4).2⟩
                  have f0 : w6.frozen? ⟨EB, k * 2, none⟩ = false := frozen_of_row w6 EB _ _ 48 HW6.out.eb
                  have f1 : w6.frozen? ⟨EB, k * 2 + 1, none⟩ = false := frozen_of_row w6 EB _ _ 48 HW6.out.eb
                  have gz6 : EB < w6.heap.size := lt_of_block HW6.out.eb
                  have HST := Lib.hid (fair_step (later := la) (k := k) HS.out h100 (by omega) k4)
                  rw [HQ.out] at HST
                  simp only at HST
                  go_wp2_with fail
                  refine (mac_any (k : Int) _).mono ?_
                  rintro e w7 ⟨rfl, hb⟩
                  have HW7 := Lib.hid (FairW.grow (HW6.out.put (k := k) (u := tkTok e2 m2 q1 q2 (T + (la : Int))) (v := tkTick e2 m2 q1 q2 (T + (la : Int))) hlE hbE hwE k4) hb)
                  clear hb r0 r1 rz hu0 hu1 f0 f1 gz6
                  have hlen : s.L.length ≤ 100000 := by have := HS.out.len; omega
                  go_wp2_with fail
                  refine (allow_any l bm 0 1000 e2 m2 s (mac4 k) (macL k) (T + (la : Int)) w7 (key6 (mac4_ok (by omega))) HW7.out.lim HW7.out.map hlen).mono ?_
                  rintro y w8 ⟨rfl, hc, hm, ht⟩
                  have HW8 := Lib.hid (HW7.out.turn hlw hbw2 hlE hbE ht hc hm)
                  rw [HST.out.1]
                  clear hc hm ht hlen
                  go_wp2_with fail
                  go_roundw
                  case rel => exact ⟨j + 1, _, _, _, by omega, by omega, rfl, by go_num, HST.out.2, HW8.out⟩
                  case measure => simp [intOf]; omega
              · obtain rfl : j = 100 := by omega
                have hx : decide ((100 : Int) < (n : Int)) = true := by simp; omega
                go_wp2_with fail
                go_ret
                exact ⟨rfl, HW.out.below⟩
            · obtain rfl : j = n := by omega
              go_wp2_with fail
              go_ret
              exact ⟨rfl, HW.out.below⟩
theorem bucketLimiterFair_calls {H : Type} (enc : TypeId × Value → H) (W : World) (base : Nat) (v0 v1 : Value) (d0 d1 : DataW H) (p0 p1 : List MemPlace)
    (o0 : Value.okWide Try.prog W .any base 23 v0) (o1 : Value.okWide Try.prog W .any base 36 v1)
    (h0 : DataW.Trod enc Try.prog W 0 (fun _ => true) true 23 v0 d0 p0) (h1 : DataW.Trod enc Try.prog W 0 (fun _ => true) true 36 v1 d1 p1) :
    Calls Try.prog 7 #[v0, v1] W fun e W' => e = .returned (.bool true) ∧ Below W.heap.size W W' := by
  obtain ⟨e2, m2, rfl, _, _⟩ := open_rate o0 h0
  obtain ⟨A, n, c, L, rfl, hA, hn, hc, hl⟩ := open_asks o1 h1
  exact fair_any e2 m2 A n c L W hA hn hl
end Go.Proofs.Ytlholmndckhhgaa
