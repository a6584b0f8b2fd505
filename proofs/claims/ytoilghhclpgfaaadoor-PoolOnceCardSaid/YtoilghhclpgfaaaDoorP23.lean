/- PoolParts: its walk. -/
import Derived.Test.YtoilghhclpgfaaaDoorP22
namespace Go.Proofs.YtoilghhclpgfaaaDoor
open Go.ChangeShapes Go.WideShapes Go.ChangeAt Go.RowKit Go.Joins Go.Deep
set_option linter.unusedSimpArgs false
set_option linter.unusedVariables false
set_option maxRecDepth 100000 in
set_option maxHeartbeats 8000000 in
theorem parts_any (b s0 : Int) (A : Option Addr) (n c : Nat) (R0 : List Int) (C : Option Addr) (nn cc : Nat) (OL : List Op1) (w : World) (hT : TabAt w) (hA : At w w.heap.size A (ints R0)) (hn : n = R0.length) (hc : n ≤ c) (hn2 : (n : Int) ≤ 9223372036854775807) (hO : OpsAt w w.heap.size C OL) (hon : nn = OL.length) (hon2 : (nn : Int) ≤ 9223372036854775807) :
    Calls Tryd.prog 4 #[rangeV b s0 A n c, .slice C nn cc] w fun e w' => e = .returned (.bool true) ∧ Below w.heap.size w w' := by
  have HA0 := Lib.hid (smR_at hA)
  have HN0 := Lib.hid (smN_len hn)
  have hn70 : smN n ≤ 70 := by unfold smN; split <;> omega
  have HO := Lib.hid hO
  have HON := Lib.hid hon
  have HT0 := Lib.hid hT
  obtain ⟨R, hR⟩ : ∃ R, smR R0 = R := ⟨_, rfl⟩
  obtain ⟨n', hn'⟩ : ∃ n', smN n = n' := ⟨_, rfl⟩
  obtain ⟨s1, hs1⟩ : ∃ s1, smS s0 = s1 := ⟨_, rfl⟩
  rw [hR, hn'] at HN0
  rw [hR] at HA0
  rw [hn'] at hn70
  have HEQ := Lib.hid (And.intro hn' hs1)
  have HS60 := Lib.hid (show rangeOk b s1 R = true → s1 ≤ 60 by
    intro h
    unfold rangeOk headOk at h
    simp only [Bool.and_eq_true, decide_eq_true_eq] at h
    rw [← hs1] at h ⊢
    unfold smS at h ⊢
    split <;> (try split at h) <;> omega)
  clear hA hn hO hon hR hn' hs1 hT
  unfold rangeV
  go_enter Tryd.func4, Tryd.ntmps4
  go_wp2_with fail
  refine (small_any b s0 A n c _ hc hn2).mono ?_
  rw [HEQ.out.1, HEQ.out.2]
  rintro e w1 ⟨rfl, hb⟩
  obtain ⟨xs, dr, rfl⟩ := ext_of hb
  clear hb
  unfold rangeV
  go_upto_region 2 with (fail)
  refine wp_world (fun W1 => Below w.heap.size w W1 ∧ W1.heap[w.heap.size]? = some (.cells #[.int .i64 b, .int .i64 s1, .slice A n' c] 24 (0, 0))) ⟨by (repeat (first | exact Below.refl _ _ | exact Nat.le_refl _ | (refine below_ext ?_ (by first | (simp [size_ext, grow]; done) | (simp [size_ext, grow]; omega) | omega) _ _) | (refine Below.setCell ?_ (by first | (simp [size_ext, grow]; done) | (simp [size_ext, grow]; omega) | omega) _) | (refine Below.alloc ?_ (by first | (simp [size_ext, grow]; done) | (simp [size_ext, grow]; omega) | omega) _) | refine Below.drew ?_ | refine below_drewN ?_ _ | (refine Below.trans ?_ (Below.mono (by assumption) (by first | (simp [size_ext, grow]; done) | (simp [size_ext, grow]; omega) | omega))))), by (repeat (first | ((refine heap_alloc_at _ _ _ ?_); (simp [go_sem]; done)) | ((refine (heap_ext _ _ _ _ ?_).trans ?_); (focus (simp [go_sem]; done))) | ((refine (heap_alloc_past _ _ _ ?_).trans ?_); (focus (simp [go_sem]; done)))))⟩ ?_
  intro W1 ⟨hb1, hbx⟩
  have HBX := Lib.hid hbx
  have HB1 := Lib.hid hb1
  have HT1 := Lib.hid (HT0.out.keep hb1)
  have HAR := Lib.hid (HA0.out.keep hb1)
  have HAW := Lib.hid (show w.heap.size ≤ W1.heap.size from hb1.size)
  have e0 : W1.cell? ⟨w.heap.size, 0, none⟩ = some (.int .i64 b) := (cell_of_row W1 _ 0 _ _ (0, 0) hbx).trans rfl
  have e1 : W1.cell? ⟨w.heap.size, 1, none⟩ = some (.int .i64 s1) := (cell_of_row W1 _ 1 _ _ (0, 0) hbx).trans rfl
  have e2 : W1.cell? ⟨w.heap.size, 2, none⟩ = some (.slice A n' c) := (cell_of_row W1 _ 2 _ _ (0, 0) hbx).trans rfl
  have ez : w.heap.size < W1.heap.size := lt_of_block hbx
  have hn9 : (n' : Int) ≤ 9223372036854775807 := by omega
  clear hb1 hbx
  cases hok : rangeOk b s1 R
  · have HOK := Lib.hid hok
    clear hok
    go_wp2_with fail
    refine (new_any b s1 A n' c R _ (HAR.out.more HAW.out) HN0.out hn9).mono ?_
    rintro e w2 ⟨hb, ⟨_, rfl⟩ | ⟨hok, _⟩⟩
    · obtain ⟨xs2, dr2, rfl⟩ := ext_of hb
      clear hb
      go_wp2_with fail
      refine (awake_any _ (HT1.out.keep (by (repeat (first | exact Below.refl _ _ | exact Nat.le_refl _ | (refine below_ext ?_ (by first | (simp [size_ext, grow]; done) | (simp [size_ext, grow]; omega) | omega) _ _) | (refine Below.setCell ?_ (by first | (simp [size_ext, grow]; done) | (simp [size_ext, grow]; omega) | omega) _) | (refine Below.alloc ?_ (by first | (simp [size_ext, grow]; done) | (simp [size_ext, grow]; omega) | omega) _) | refine Below.drew ?_ | refine below_drewN ?_ _ | (refine Below.trans ?_ (Below.mono (by assumption) (by first | (simp [size_ext, grow]; done) | (simp [size_ext, grow]; omega) | omega)))))))).mono ?_
      rintro e w5 ⟨rfl, hb⟩
      obtain ⟨xs5, dr5, rfl⟩ := ext_of hb
      clear hb
      go_wp2_with fail
      go_ret
      exact ⟨rfl, HB1.out.trans (Below.mono (by (repeat (first | exact Below.refl _ _ | exact Nat.le_refl _ | (refine below_ext ?_ (by first | (simp [size_ext, grow]; done) | (simp [size_ext, grow]; omega) | omega) _ _) | (refine Below.setCell ?_ (by first | (simp [size_ext, grow]; done) | (simp [size_ext, grow]; omega) | omega) _) | (refine Below.alloc ?_ (by first | (simp [size_ext, grow]; done) | (simp [size_ext, grow]; omega) | omega) _) | refine Below.drew ?_ | refine below_drewN ?_ _ | (refine Below.trans ?_ (Below.mono (by assumption) (by first | (simp [size_ext, grow]; done) | (simp [size_ext, grow]; omega) | omega)))))) HAW.out)⟩
    · rw [HOK.out] at hok; cases hok
  · have HOK := Lib.hid hok
    obtain ⟨s, rfl, hbd, hs60, hro⟩ := Bd.of hok (HS60.out hok)
    have HBD := Lib.hid hbd
    have HRO := Lib.hid hro
    have HNR := Lib.hid HN0.out
    clear hok hbd hro
    go_wp2_with fail
    refine (new_any b (s : Int) A n' c R _ (HAR.out.more HAW.out) HN0.out hn9).mono ?_
    rintro e w2 ⟨hb, ⟨hno, _⟩ | ⟨_, p, S, rfl, hp, haf, hao, hpa, hfr, hlt1, hlt2⟩⟩
    · rw [HOK.out] at hno; cases hno
    · rw [Int.toNat_natCast] at hfr
      have HPI2 := Lib.hid (show PI W1 p S b s R w2 from ⟨hpa, Inv.fresh hfr HRO.out, hb, hp, haf⟩)
      clear hb hpa hfr hp haf hao hlt1 hlt2 e0 e1 e2 ez
      go_wp2_with fail
      refine (awake_any _ (HT1.out.keep HPI2.out.below)).mono ?_
      rintro e w5 ⟨rfl, hb⟩
      have HPI0 := Lib.hid (HPI2.out.grow hb)
      clear hb HPI2
      go_wp2_with fail
      go_loopw [7] (fun i wr => ∃ (j : Nat) (S : PoolS), j ≤ nn ∧ j ≤ 60 ∧ i = .int .i64 j ∧ PI W1 p S b s R wr) (fun i _ => nn - (intOf i).toNat)
      case atStart => exact ⟨0, S, Nat.zero_le _, by omega, rfl, HPI0.out⟩
      case round =>
        clear HPI0 S
        obtain ⟨j, S, hj, hj2, rfl, hpi⟩ := hrel
        have HPI := Lib.hid hpi
        clear hpi
        by_cases hlt : j < nn
        · by_cases h60 : j < 60
          · obtain ⟨ob, oo, rfl, hob, hop⟩ := HO.out.get (k := j) (by rw [← HON.out]; exact hlt)
            obtain ⟨x, hx⟩ : ∃ x, OL[j]'(by rw [← HON.out]; exact hlt) = x := ⟨_, rfl⟩
            rw [hx] at hop
            have hobW : ob < W1.heap.size := by have := HAW.out; omega
            have hob0 : ∀ q, wr.cell? ⟨ob, q, none⟩ = w.cell? ⟨ob, q, none⟩ := fun q => (HPI.out.below.cell (p := ⟨ob, q, none⟩) hobW).trans (HB1.out.cell (p := ⟨ob, q, none⟩) hob)
            have g0 := (hob0 _).trans hop.d
            have g1 := (hob0 _).trans hop.a
            have g2 := (hob0 _).trans hop.i
            have hob9 : ob < wr.heap.size := by have := HPI.out.below.size; omega
            have HOB := Lib.hid (And.intro hobW (And.intro hop hob))
            have jj0 : (0 : Int) ≤ (j : Int) := by omega
            have jj1 : (j : Int) < (nn : Int) := by omega
            have e0 := (HPI.out.below.cell (p := ⟨w.heap.size, 0, none⟩) (lt_of_block HBX.out)).trans ((cell_of_row W1 _ 0 _ _ (0, 0) HBX.out).trans rfl)
            have e1 := (HPI.out.below.cell (p := ⟨w.heap.size, 1, none⟩) (lt_of_block HBX.out)).trans ((cell_of_row W1 _ 1 _ _ (0, 0) HBX.out).trans rfl)
            have e2 := (HPI.out.below.cell (p := ⟨w.heap.size, 2, none⟩) (lt_of_block HBX.out)).trans ((cell_of_row W1 _ 2 _ _ (0, 0) HBX.out).trans rfl)
            have ez : w.heap.size < wr.heap.size := Nat.lt_of_lt_of_le (lt_of_block HBX.out) HPI.out.below.size
            clear hop hob0 hx hob hobW
            have hq4 : (x.d : Int) % 3 = 0 ∨ (x.d : Int) % 3 = 1 ∨ (x.d : Int) % 3 = 2 := by omega
            rcases hq4 with hq | hq | hq
            · go_wp2_with fail
              refine (takeU HPI.out.pool HPI.out.inv HBD.out (HT1.out.keep HPI.out.below)).mono ?_
              rintro e w4 ⟨S2, rfl, hp, hi, ht, haf, hao, hl⟩
              have HPI4 := Lib.hid (HPI.out.turn ht hp hi haf)
              clear hp hi ht haf hao hl
              go_wp2_with fail
              go_roundw
              case rel => exact ⟨j + 1, S2, by omega, by omega, by go_num, HPI4.out⟩
              case measure => simp [intOf]; omega
            · go_upto_region 15 with (fail)
              go_region_held3 (fun w' => w'.cell? ⟨w.heap.size, 0, none⟩ = some (.int .i64 b) ∧ w'.cell? ⟨w.heap.size, 1, none⟩ = some (.int .i64 (s : Int)) ∧ w'.cell? ⟨w.heap.size, 2, none⟩ = some (.slice A n' c) ∧ w'.cell? ⟨ob, oo + j * 3, none⟩ = some (.int .u8 (x.d : Int)) ∧ w'.cell? ⟨ob, oo + j * 3 + 1, none⟩ = some (.int .i64 x.a) ∧ w'.cell? ⟨ob, oo + j * 3 + 2, none⟩ = some (.bool x.i)) (first | (go_keep; done) | (go_simp; done) | (simp [go_sem]; done)) ((first | (go_at_call 16; refine (at_any b (s : Int) A n' c x _ HBD.out.b1 HBD.out.b2).mono ?_; rintro e w6 ⟨rfl, hb⟩; obtain ⟨xsa, dra, rfl⟩ := ext_of hb; clear hb) | (go_at_call 15; go_must (refine (giveU (atOf b x) (by exact (HPI.out.grow (by (repeat (first | exact Below.refl _ _ | exact Nat.le_refl _ | (refine below_ext ?_ (by first | (simp [size_ext, grow]; done) | (simp [size_ext, grow]; omega) | omega) _ _) | (refine Below.setCell ?_ (by first | (simp [size_ext, grow]; done) | (simp [size_ext, grow]; omega) | omega) _) | (refine Below.alloc ?_ (by first | (simp [size_ext, grow]; done) | (simp [size_ext, grow]; omega) | omega) _) | refine Below.drew ?_ | refine below_drewN ?_ _ | (refine Below.trans ?_ (Below.mono (by assumption) (by first | (simp [size_ext, grow]; done) | (simp [size_ext, grow]; omega) | omega))))))).pool) HPI.out.inv HBD.out).mono ?_); rintro e w4 ⟨S2, rfl, hp, hi, ht, haf, hao, hl⟩; have HPI4 := Lib.hid ((HPI.out.grow (by (repeat (first | exact Below.refl _ _ | exact Nat.le_refl _ | (refine below_ext ?_ (by first | (simp [size_ext, grow]; done) | (simp [size_ext, grow]; omega) | omega) _ _) | (refine Below.setCell ?_ (by first | (simp [size_ext, grow]; done) | (simp [size_ext, grow]; omega) | omega) _) | (refine Below.alloc ?_ (by first | (simp [size_ext, grow]; done) | (simp [size_ext, grow]; omega) | omega) _) | refine Below.drew ?_ | refine below_drewN ?_ _ | (refine Below.trans ?_ (Below.mono (by assumption) (by first | (simp [size_ext, grow]; done) | (simp [size_ext, grow]; omega) | omega))))))).turn ht hp hi haf); have k0 := (HPI4.out.below.cell (p := ⟨w.heap.size, 0, none⟩) (lt_of_block HBX.out)).trans ((cell_of_row W1 _ 0 _ _ (0, 0) HBX.out).trans rfl); have k1 := (HPI4.out.below.cell (p := ⟨w.heap.size, 1, none⟩) (lt_of_block HBX.out)).trans ((cell_of_row W1 _ 1 _ _ (0, 0) HBX.out).trans rfl); have k2 := (HPI4.out.below.cell (p := ⟨w.heap.size, 2, none⟩) (lt_of_block HBX.out)).trans ((cell_of_row W1 _ 2 _ _ (0, 0) HBX.out).trans rfl); have k3 := ((HPI4.out.below.cell (p := ⟨ob, oo + j * 3, none⟩) HOB.out.1).trans (HB1.out.cell (p := ⟨ob, oo + j * 3, none⟩) HOB.out.2.2)).trans HOB.out.2.1.d; have k4 := ((HPI4.out.below.cell (p := ⟨ob, oo + j * 3 + 1, none⟩) HOB.out.1).trans (HB1.out.cell (p := ⟨ob, oo + j * 3 + 1, none⟩) HOB.out.2.2)).trans HOB.out.2.1.a; have k5 := ((HPI4.out.below.cell (p := ⟨ob, oo + j * 3 + 2, none⟩) HOB.out.1).trans (HB1.out.cell (p := ⟨ob, oo + j * 3 + 2, none⟩) HOB.out.2.2)).trans HOB.out.2.1.i; clear hp hi ht haf hao hl)))
              all_goals
                go_wp2_with fail
                go_roundw
                case rel => exact ⟨j + 1, S2, by omega, by omega, by go_num, HPI4.out⟩
                case measure => simp [intOf]; omega
            · go_upto_region 11 with (fail)
              go_region_held3 (fun w' => w'.cell? ⟨w.heap.size, 0, none⟩ = some (.int .i64 b) ∧ w'.cell? ⟨w.heap.size, 1, none⟩ = some (.int .i64 (s : Int)) ∧ w'.cell? ⟨w.heap.size, 2, none⟩ = some (.slice A n' c) ∧ w'.cell? ⟨ob, oo + j * 3, none⟩ = some (.int .u8 (x.d : Int)) ∧ w'.cell? ⟨ob, oo + j * 3 + 1, none⟩ = some (.int .i64 x.a) ∧ w'.cell? ⟨ob, oo + j * 3 + 2, none⟩ = some (.bool x.i)) (first | (go_keep; done) | (go_simp; done) | (simp [go_sem]; done)) ((first | (go_at_call 16; refine (at_any b (s : Int) A n' c x _ HBD.out.b1 HBD.out.b2).mono ?_; rintro e w6 ⟨rfl, hb⟩; obtain ⟨xsa, dra, rfl⟩ := ext_of hb; clear hb) | (go_at_call 17; go_must (refine (wantU (atOf b x) (by exact (HPI.out.grow (by (repeat (first | exact Below.refl _ _ | exact Nat.le_refl _ | (refine below_ext ?_ (by first | (simp [size_ext, grow]; done) | (simp [size_ext, grow]; omega) | omega) _ _) | (refine Below.setCell ?_ (by first | (simp [size_ext, grow]; done) | (simp [size_ext, grow]; omega) | omega) _) | (refine Below.alloc ?_ (by first | (simp [size_ext, grow]; done) | (simp [size_ext, grow]; omega) | omega) _) | refine Below.drew ?_ | refine below_drewN ?_ _ | (refine Below.trans ?_ (Below.mono (by assumption) (by first | (simp [size_ext, grow]; done) | (simp [size_ext, grow]; omega) | omega))))))).pool) HPI.out.inv HBD.out).mono ?_); rintro e w4 ⟨S2, rfl, hp, hi, ht, haf, hao, hl⟩; have HPI4 := Lib.hid ((HPI.out.grow (by (repeat (first | exact Below.refl _ _ | exact Nat.le_refl _ | (refine below_ext ?_ (by first | (simp [size_ext, grow]; done) | (simp [size_ext, grow]; omega) | omega) _ _) | (refine Below.setCell ?_ (by first | (simp [size_ext, grow]; done) | (simp [size_ext, grow]; omega) | omega) _) | (refine Below.alloc ?_ (by first | (simp [size_ext, grow]; done) | (simp [size_ext, grow]; omega) | omega) _) | refine Below.drew ?_ | refine below_drewN ?_ _ | (refine Below.trans ?_ (Below.mono (by assumption) (by first | (simp [size_ext, grow]; done) | (simp [size_ext, grow]; omega) | omega))))))).turn ht hp hi haf); have k0 := (HPI4.out.below.cell (p := ⟨w.heap.size, 0, none⟩) (lt_of_block HBX.out)).trans ((cell_of_row W1 _ 0 _ _ (0, 0) HBX.out).trans rfl); have k1 := (HPI4.out.below.cell (p := ⟨w.heap.size, 1, none⟩) (lt_of_block HBX.out)).trans ((cell_of_row W1 _ 1 _ _ (0, 0) HBX.out).trans rfl); have k2 := (HPI4.out.below.cell (p := ⟨w.heap.size, 2, none⟩) (lt_of_block HBX.out)).trans ((cell_of_row W1 _ 2 _ _ (0, 0) HBX.out).trans rfl); have k3 := ((HPI4.out.below.cell (p := ⟨ob, oo + j * 3, none⟩) HOB.out.1).trans (HB1.out.cell (p := ⟨ob, oo + j * 3, none⟩) HOB.out.2.2)).trans HOB.out.2.1.d; have k4 := ((HPI4.out.below.cell (p := ⟨ob, oo + j * 3 + 1, none⟩) HOB.out.1).trans (HB1.out.cell (p := ⟨ob, oo + j * 3 + 1, none⟩) HOB.out.2.2)).trans HOB.out.2.1.a; have k5 := ((HPI4.out.below.cell (p := ⟨ob, oo + j * 3 + 2, none⟩) HOB.out.1).trans (HB1.out.cell (p := ⟨ob, oo + j * 3 + 2, none⟩) HOB.out.2.2)).trans HOB.out.2.1.i; clear hp hi ht haf hao hl)))
              all_goals
                go_wp2_with fail
                go_roundw
                case rel => exact ⟨j + 1, S2, by omega, by omega, by go_num, HPI4.out⟩
                case measure => simp [intOf]; omega
          · obtain rfl : j = 60 := by omega
            have hx : decide ((60 : Int) < (nn : Int)) = true := by simp; omega
            go_wp2_with fail
            refine (Leased_any p S _ HPI.out.pool (HBD.out.sound HPI.out.inv)).mono ?_
            rw [HPI.out.inv.hs]
            rintro e wl ⟨LA, lc, rfl, hb, hat, -, -⟩
            have HPL := Lib.hid (HPI.out.grow hb)
            have HWL := Lib.hid hb
            have HLA := Lib.hid hat
            have HLL := Lib.hid (lsd_len S s)
            have HFR := Lib.hid (HPI.out.inv.free HRO.out)
            obtain ⟨L, hL⟩ : ∃ L, lsd S s = L := ⟨_, rfl⟩
            rw [hL] at HLA HLL HFR ⊢
            have HL := Lib.hid hL
            obtain ⟨ln, hln⟩ : ∃ ln, L.length = ln := ⟨_, rfl⟩
            rw [hln] at HLL HFR ⊢
            have HLN := Lib.hid hln
            have hln60 : ln ≤ 60 := by have := HLL.out; omega
            have b1 := HBD.out.b1
            have b2 := HBD.out.b2
            clear hb hat hL hln
            go_wp2_with fail
            go_loopw [10, 9] (fun kv nv wz => ∃ k : Nat, k ≤ s ∧ kv = .int .i64 k ∧ nv = .int .i64 ((cnt (bitW S.fw) k : Nat) : Int) ∧ Below wl.heap.size wl wz) (fun kv _ _ => s - (intOf kv).toNat)
            case atStart => exact ⟨0, Nat.zero_le _, rfl, rfl, Below.refl _ _⟩
            case round =>
              obtain ⟨k, hk, rfl, rfl, hb⟩ := hrel
              obtain ⟨wo, rfl⟩ : ∃ wo, wo = wr := ⟨_, rfl⟩
              have HPR := Lib.hid (HPL.out.grow hb)
              have HBR := Lib.hid hb
              have hcn := cnt_le (bitW S.fw) k
              obtain ⟨N, hN⟩ : ∃ N, cnt (bitW S.fw) k = N := ⟨_, rfl⟩
              rw [hN] at hcn ⊢
              have HN := Lib.hid hN
              clear hb hN
              have e0 := (HPR.out.below.cell (p := ⟨w.heap.size, 0, none⟩) (lt_of_block HBX.out)).trans ((cell_of_row W1 _ 0 _ _ (0, 0) HBX.out).trans rfl)
              have e1 := (HPR.out.below.cell (p := ⟨w.heap.size, 1, none⟩) (lt_of_block HBX.out)).trans ((cell_of_row W1 _ 1 _ _ (0, 0) HBX.out).trans rfl)
              have e2 := (HPR.out.below.cell (p := ⟨w.heap.size, 2, none⟩) (lt_of_block HBX.out)).trans ((cell_of_row W1 _ 2 _ _ (0, 0) HBX.out).trans rfl)
              have ez : w.heap.size < wo.heap.size := Nat.lt_of_lt_of_le (lt_of_block HBX.out) HPR.out.below.size
              have hN60 : N ≤ 60 := by omega
              have kk0 : (0 : Int) ≤ (k : Int) := by omega
              by_cases hks : k < s
              · have hbk : IntKind.i64.wrap (b + (k : Int)) = b + (k : Int) := IntWalk.i64_in _ (by omega)
                have kk1 : (k : Int) < (s : Int) := by omega
                go_wp2_with fail
                go_loopw [14, 12] (fun iv xv w3 => ∃ i : Nat, i ≤ ln ∧ iv = .int .i64 i ∧ xv = .int .i64 (((L.take i).count (b + (k : Int)) : Nat) : Int) ∧ w3 = wo) (fun iv _ _ => ln - (intOf iv).toNat)
                case atStart => exact ⟨0, Nat.zero_le _, rfl, rfl, rfl⟩
                case round =>
                  obtain ⟨i, hi, rfl, rfl, rfl⟩ := hrel
                  have hcl := List.count_le_length (a := b + (k : Int)) (l := L.take i)
                  rw [List.length_take, HLN.out] at hcl
                  by_cases hlt : i < ln
                  · have HK := Lib.hid (show i < L.length by rw [HLN.out]; exact hlt)
                    have HCT := Lib.hid (count_take (x := b + (k : Int)) HK.out)
                    obtain ⟨lb, lo, rfl, hbB, hcells⟩ := At.int HLA.out HK.out
                    have g0 := (HBR.out.cell (p := ⟨lb, lo + i, none⟩) hbB).trans (hcells i HK.out)
                    obtain ⟨y, hy⟩ : ∃ y, L.getD i 0 = y := ⟨_, rfl⟩
                    rw [hy] at g0 HCT
                    have hbz : lb < wr.heap.size := by have := HBR.out.size; omega
                    obtain ⟨cx, hcx⟩ : ∃ cx, (L.take i).count (b + (k : Int)) = cx := ⟨_, rfl⟩
                    rw [hcx] at hcl HCT ⊢
                    have hcx60 : cx ≤ 60 := by omega
                    have ii0 : (0 : Int) ≤ (i : Int) := by omega
                    have ii1 : (i : Int) < (ln : Int) := by omega
                    clear hy hcells hcl hcx
                    by_cases hxy : y = b + (k : Int)
                    · rw [if_pos hxy] at HCT
                      have e3 : (y == b + (k : Int)) = true := by simpa using hxy
                      clear hxy
                      go_wp2_with fail
                      go_roundw
                      case rel => exact ⟨i + 1, by omega, by go_num, by rw [HCT.out]; go_num, by trivial⟩
                      case measure => simp [intOf]; omega
                    · rw [if_neg hxy] at HCT
                      have e3 : (y == b + (k : Int)) = false := by simpa using hxy
                      clear hxy
                      go_wp2_with fail
                      go_roundw
                      case rel => exact ⟨i + 1, by omega, by go_num, by rw [HCT.out]; go_num, by trivial⟩
                      case measure => simp [intOf]; omega
                  · obtain rfl : i = ln := by omega
                    obtain ⟨cx, hcx⟩ : ∃ cx, (L.take i).count (b + (k : Int)) = cx := ⟨_, rfl⟩
                    rw [hcx] at hcl ⊢
                    have HCX := Lib.hid (show (lsd S s).count (b + (k : Int)) = cx by rw [← hcx, ← HLN.out, List.take_length, HL.out])
                    clear hcx
                    go_wp2_with fail
                    go_loopw [15, 13] (fun iv xv w3 => ∃ i : Nat, i ≤ n' ∧ iv = .int .i64 i ∧ xv = .int .i64 (((R.take i).count (k : Int) : Nat) : Int) ∧ w3 = wr) (fun iv _ _ => n' - (intOf iv).toNat)
                    case atStart => exact ⟨0, Nat.zero_le _, rfl, rfl, rfl⟩
                    case round =>
                      obtain ⟨i2, hi2, rfl, rfl, rfl⟩ := hrel
                      have hcl2 := List.count_le_length (a := (k : Int)) (l := R.take i2)
                      rw [List.length_take, ← HNR.out] at hcl2
                      by_cases hlt2 : i2 < n'
                      · have HK := Lib.hid (show i2 < R.length by rw [← HNR.out]; exact hlt2)
                        have HCT := Lib.hid (count_take (x := (k : Int)) HK.out)
                        obtain ⟨lb, lo, rfl, hbB, hcells⟩ := At.int HAR.out HK.out
                        have hbW : lb < W1.heap.size := by have := HAW.out; omega
                        have g0 := (HPR.out.below.cell (p := ⟨lb, lo + i2, none⟩) hbW).trans (hcells i2 HK.out)
                        obtain ⟨y, hy⟩ : ∃ y, R.getD i2 0 = y := ⟨_, rfl⟩
                        rw [hy] at g0 HCT
                        have hbz : lb < wr.heap.size := by have := HPR.out.below.size; omega
                        obtain ⟨cy, hcy⟩ : ∃ cy, (R.take i2).count (k : Int) = cy := ⟨_, rfl⟩
                        rw [hcy] at hcl2 HCT ⊢
                        have hcy60 : cy ≤ 70 := by omega
                        have ii0 : (0 : Int) ≤ (i2 : Int) := by omega
                        have ii1 : (i2 : Int) < (n' : Int) := by omega
                        clear hy hcells hcl2 hcy
                        by_cases hxy : y = (k : Int)
                        · rw [if_pos hxy] at HCT
                          have e3 : (y == (k : Int)) = true := by simpa using hxy
                          clear hxy
                          go_wp2_with fail
                          go_roundw
                          case rel => exact ⟨i2 + 1, by omega, by go_num, by rw [HCT.out]; go_num, by trivial⟩
                          case measure => simp [intOf]; omega
                        · rw [if_neg hxy] at HCT
                          have e3 : (y == (k : Int)) = false := by simpa using hxy
                          clear hxy
                          go_wp2_with fail
                          go_roundw
                          case rel => exact ⟨i2 + 1, by omega, by go_num, by rw [HCT.out]; go_num, by trivial⟩
                          case measure => simp [intOf]; omega
                      · obtain rfl : i2 = n' := by omega
                        obtain ⟨cy, hcy⟩ : ∃ cy, (R.take i2).count (k : Int) = cy := ⟨_, rfl⟩
                        rw [hcy] at hcl2 ⊢
                        have HCY := Lib.hid (show R.count (k : Int) = cy by rw [← hcy, HNR.out, List.take_length])
                        obtain ⟨p1, p2, p3, hhas, hbit⟩ := HPI.out.inv.parts HRO.out hks HCX.out HCY.out
                        have HHAS := Lib.hid hhas
                        have HBIT := Lib.hid hbit
                        clear hcy hhas hbit hcl hcl2
                        have hcases : (cx = 0 ∧ cy = 0) ∨ (cx = 1 ∧ cy = 0) ∨ (cx = 0 ∧ cy = 1) := by omega
                        rcases hcases with ⟨rfl, rfl⟩ | ⟨rfl, rfl⟩ | ⟨rfl, rfl⟩
                        · have HS := Lib.hid (show cnt (bitW S.fw) (k + 1) = N + 1 by unfold cnt; rw [HN.out, ← HBIT.out]; rfl)
                          go_wp2_with (go_at_call 19; refine (Has_any p S (b + (k : Int)) _ HPR.out.pool (HBD.out.sound HPR.out.inv)).mono ?_; rw [HHAS.out]; rintro e w6 ⟨rfl, q, rfl⟩)
                          go_roundw
                          case rel => exact ⟨k + 1, by omega, by go_num, by rw [HS.out]; go_num, (HBR.out.trans (Below.mono (by (repeat (first | exact Below.refl _ _ | exact Nat.le_refl _ | (refine below_ext ?_ (by first | (simp [size_ext, grow]; done) | (simp [size_ext, grow]; omega) | omega) _ _) | (refine Below.setCell ?_ (by first | (simp [size_ext, grow]; done) | (simp [size_ext, grow]; omega) | omega) _) | (refine Below.alloc ?_ (by first | (simp [size_ext, grow]; done) | (simp [size_ext, grow]; omega) | omega) _) | refine Below.drew ?_ | refine below_drewN ?_ _ | (refine Below.trans ?_ (Below.mono (by assumption) (by first | (simp [size_ext, grow]; done) | (simp [size_ext, grow]; omega) | omega)))))) HBR.out.size))⟩
                          case measure => simp [intOf]; omega
                        · have HS := Lib.hid (show cnt (bitW S.fw) (k + 1) = N + 0 by unfold cnt; rw [HN.out, ← HBIT.out]; rfl)
                          go_wp2_with (go_at_call 19; refine (Has_any p S (b + (k : Int)) _ HPR.out.pool (HBD.out.sound HPR.out.inv)).mono ?_; rw [HHAS.out]; rintro e w6 ⟨rfl, q, rfl⟩)
                          go_roundw
                          case rel => exact ⟨k + 1, by omega, by go_num, by rw [HS.out]; go_num, (HBR.out.trans (Below.mono (by (repeat (first | exact Below.refl _ _ | exact Nat.le_refl _ | (refine below_ext ?_ (by first | (simp [size_ext, grow]; done) | (simp [size_ext, grow]; omega) | omega) _ _) | (refine Below.setCell ?_ (by first | (simp [size_ext, grow]; done) | (simp [size_ext, grow]; omega) | omega) _) | (refine Below.alloc ?_ (by first | (simp [size_ext, grow]; done) | (simp [size_ext, grow]; omega) | omega) _) | refine Below.drew ?_ | refine below_drewN ?_ _ | (refine Below.trans ?_ (Below.mono (by assumption) (by first | (simp [size_ext, grow]; done) | (simp [size_ext, grow]; omega) | omega)))))) HBR.out.size))⟩
                          case measure => simp [intOf]; omega
                        · have HS := Lib.hid (show cnt (bitW S.fw) (k + 1) = N + 0 by unfold cnt; rw [HN.out, ← HBIT.out]; rfl)
                          go_wp2_with (go_at_call 19; refine (Has_any p S (b + (k : Int)) _ HPR.out.pool (HBD.out.sound HPR.out.inv)).mono ?_; rw [HHAS.out]; rintro e w6 ⟨rfl, q, rfl⟩)
                          go_roundw
                          case rel => exact ⟨k + 1, by omega, by go_num, by rw [HS.out]; go_num, (HBR.out.trans (Below.mono (by (repeat (first | exact Below.refl _ _ | exact Nat.le_refl _ | (refine below_ext ?_ (by first | (simp [size_ext, grow]; done) | (simp [size_ext, grow]; omega) | omega) _ _) | (refine Below.setCell ?_ (by first | (simp [size_ext, grow]; done) | (simp [size_ext, grow]; omega) | omega) _) | (refine Below.alloc ?_ (by first | (simp [size_ext, grow]; done) | (simp [size_ext, grow]; omega) | omega) _) | refine Below.drew ?_ | refine below_drewN ?_ _ | (refine Below.trans ?_ (Below.mono (by assumption) (by first | (simp [size_ext, grow]; done) | (simp [size_ext, grow]; omega) | omega)))))) HBR.out.size))⟩
                          case measure => simp [intOf]; omega
              · obtain rfl : k = s := by omega
                have HLEFT := Lib.hid (show S.left = (N : Int) by rw [HPI.out.inv.left, HN.out])
                have hsum : (N : Int) + (ln : Int) + (n' : Int) = (k : Int) := by
                  have h1 := HFR.out
                  have h2 := HLEFT.out
                  have h3 := HNR.out
                  rw [h2, ← h3] at h1
                  omega
                have e9 : ((N : Int) + (ln : Int) + (n' : Int) == (k : Int)) = true := by simpa using hsum
                go_wp2_with (go_at_call 20; refine (Free_any p S _ HPR.out.pool).mono ?_; rw [HLEFT.out]; rintro e w6 ⟨rfl, rfl⟩)
                go_ret
                exact ⟨by first | rfl | (simp; done) | simp [hsum], HB1.out.trans (HPR.out.below.mono HAW.out)⟩
        · obtain rfl : j = nn := by omega
          go_wp2_with fail
          refine (Leased_any p S _ HPI.out.pool (HBD.out.sound HPI.out.inv)).mono ?_
          rw [HPI.out.inv.hs]
          rintro e wl ⟨LA, lc, rfl, hb, hat, -, -⟩
          have HPL := Lib.hid (HPI.out.grow hb)
          have HWL := Lib.hid hb
          have HLA := Lib.hid hat
          have HLL := Lib.hid (lsd_len S s)
          have HFR := Lib.hid (HPI.out.inv.free HRO.out)
          obtain ⟨L, hL⟩ : ∃ L, lsd S s = L := ⟨_, rfl⟩
          rw [hL] at HLA HLL HFR ⊢
          have HL := Lib.hid hL
          obtain ⟨ln, hln⟩ : ∃ ln, L.length = ln := ⟨_, rfl⟩
          rw [hln] at HLL HFR ⊢
          have HLN := Lib.hid hln
          have hln60 : ln ≤ 60 := by have := HLL.out; omega
          have b1 := HBD.out.b1
          have b2 := HBD.out.b2
          clear hb hat hL hln
          go_wp2_with fail
          go_loopw [10, 9] (fun kv nv wz => ∃ k : Nat, k ≤ s ∧ kv = .int .i64 k ∧ nv = .int .i64 ((cnt (bitW S.fw) k : Nat) : Int) ∧ Below wl.heap.size wl wz) (fun kv _ _ => s - (intOf kv).toNat)
          case atStart => exact ⟨0, Nat.zero_le _, rfl, rfl, Below.refl _ _⟩
          case round =>
            obtain ⟨k, hk, rfl, rfl, hb⟩ := hrel
            obtain ⟨wo, rfl⟩ : ∃ wo, wo = wr := ⟨_, rfl⟩
            have HPR := Lib.hid (HPL.out.grow hb)
            have HBR := Lib.hid hb
            have hcn := cnt_le (bitW S.fw) k
            obtain ⟨N, hN⟩ : ∃ N, cnt (bitW S.fw) k = N := ⟨_, rfl⟩
            rw [hN] at hcn ⊢
            have HN := Lib.hid hN
            clear hb hN
            have e0 := (HPR.out.below.cell (p := ⟨w.heap.size, 0, none⟩) (lt_of_block HBX.out)).trans ((cell_of_row W1 _ 0 _ _ (0, 0) HBX.out).trans rfl)
            have e1 := (HPR.out.below.cell (p := ⟨w.heap.size, 1, none⟩) (lt_of_block HBX.out)).trans ((cell_of_row W1 _ 1 _ _ (0, 0) HBX.out).trans rfl)
            have e2 := (HPR.out.below.cell (p := ⟨w.heap.size, 2, none⟩) (lt_of_block HBX.out)).trans ((cell_of_row W1 _ 2 _ _ (0, 0) HBX.out).trans rfl)
            have ez : w.heap.size < wo.heap.size := Nat.lt_of_lt_of_le (lt_of_block HBX.out) HPR.out.below.size
            have hN60 : N ≤ 60 := by omega
            have kk0 : (0 : Int) ≤ (k : Int) := by omega
            by_cases hks : k < s
            · have hbk : IntKind.i64.wrap (b + (k : Int)) = b + (k : Int) := IntWalk.i64_in _ (by omega)
              have kk1 : (k : Int) < (s : Int) := by omega
              go_wp2_with fail
              go_loopw [14, 12] (fun iv xv w3 => ∃ i : Nat, i ≤ ln ∧ iv = .int .i64 i ∧ xv = .int .i64 (((L.take i).count (b + (k : Int)) : Nat) : Int) ∧ w3 = wo) (fun iv _ _ => ln - (intOf iv).toNat)
              case atStart => exact ⟨0, Nat.zero_le _, rfl, rfl, rfl⟩
              case round =>
                obtain ⟨i, hi, rfl, rfl, rfl⟩ := hrel
                have hcl := List.count_le_length (a := b + (k : Int)) (l := L.take i)
                rw [List.length_take, HLN.out] at hcl
                by_cases hlt : i < ln
                · have HK := Lib.hid (show i < L.length by rw [HLN.out]; exact hlt)
                  have HCT := Lib.hid (count_take (x := b + (k : Int)) HK.out)
                  obtain ⟨lb, lo, rfl, hbB, hcells⟩ := At.int HLA.out HK.out
                  have g0 := (HBR.out.cell (p := ⟨lb, lo + i, none⟩) hbB).trans (hcells i HK.out)
                  obtain ⟨y, hy⟩ : ∃ y, L.getD i 0 = y := ⟨_, rfl⟩
                  rw [hy] at g0 HCT
                  have hbz : lb < wr.heap.size := by have := HBR.out.size; omega
                  obtain ⟨cx, hcx⟩ : ∃ cx, (L.take i).count (b + (k : Int)) = cx := ⟨_, rfl⟩
                  rw [hcx] at hcl HCT ⊢
                  have hcx60 : cx ≤ 60 := by omega
                  have ii0 : (0 : Int) ≤ (i : Int) := by omega
                  have ii1 : (i : Int) < (ln : Int) := by omega
                  clear hy hcells hcl hcx
                  by_cases hxy : y = b + (k : Int)
                  · rw [if_pos hxy] at HCT
                    have e3 : (y == b + (k : Int)) = true := by simpa using hxy
                    clear hxy
                    go_wp2_with fail
                    go_roundw
                    case rel => exact ⟨i + 1, by omega, by go_num, by rw [HCT.out]; go_num, by trivial⟩
                    case measure => simp [intOf]; omega
                  · rw [if_neg hxy] at HCT
                    have e3 : (y == b + (k : Int)) = false := by simpa using hxy
                    clear hxy
                    go_wp2_with fail
                    go_roundw
                    case rel => exact ⟨i + 1, by omega, by go_num, by rw [HCT.out]; go_num, by trivial⟩
                    case measure => simp [intOf]; omega
                · obtain rfl : i = ln := by omega
                  obtain ⟨cx, hcx⟩ : ∃ cx, (L.take i).count (b + (k : Int)) = cx := ⟨_, rfl⟩
                  rw [hcx] at hcl ⊢
                  have HCX := Lib.hid (show (lsd S s).count (b + (k : Int)) = cx by rw [← hcx, ← HLN.out, List.take_length, HL.out])
                  clear hcx
                  go_wp2_with fail
                  go_loopw [15, 13] (fun iv xv w3 => ∃ i : Nat, i ≤ n' ∧ iv = .int .i64 i ∧ xv = .int .i64 (((R.take i).count (k : Int) : Nat) : Int) ∧ w3 = wr) (fun iv _ _ => n' - (intOf iv).toNat)
                  case atStart => exact ⟨0, Nat.zero_le _, rfl, rfl, rfl⟩
                  case round =>
                    obtain ⟨i2, hi2, rfl, rfl, rfl⟩ := hrel
                    have hcl2 := List.count_le_length (a := (k : Int)) (l := R.take i2)
                    rw [List.length_take, ← HNR.out] at hcl2
                    by_cases hlt2 : i2 < n'
                    · have HK := Lib.hid (show i2 < R.length by rw [← HNR.out]; exact hlt2)
                      have HCT := Lib.hid (count_take (x := (k : Int)) HK.out)
                      obtain ⟨lb, lo, rfl, hbB, hcells⟩ := At.int HAR.out HK.out
                      have hbW : lb < W1.heap.size := by have := HAW.out; omega
                      have g0 := (HPR.out.below.cell (p := ⟨lb, lo + i2, none⟩) hbW).trans (hcells i2 HK.out)
                      obtain ⟨y, hy⟩ : ∃ y, R.getD i2 0 = y := ⟨_, rfl⟩
                      rw [hy] at g0 HCT
                      have hbz : lb < wr.heap.size := by have := HPR.out.below.size; omega
                      obtain ⟨cy, hcy⟩ : ∃ cy, (R.take i2).count (k : Int) = cy := ⟨_, rfl⟩
                      rw [hcy] at hcl2 HCT ⊢
                      have hcy60 : cy ≤ 70 := by omega
                      have ii0 : (0 : Int) ≤ (i2 : Int) := by omega
                      have ii1 : (i2 : Int) < (n' : Int) := by omega
                      clear hy hcells hcl2 hcy
                      by_cases hxy : y = (k : Int)
                      · rw [if_pos hxy] at HCT
                        have e3 : (y == (k : Int)) = true := by simpa using hxy
                        clear hxy
                        go_wp2_with fail
                        go_roundw
                        case rel => exact ⟨i2 + 1, by omega, by go_num, by rw [HCT.out]; go_num, by trivial⟩
                        case measure => simp [intOf]; omega
                      · rw [if_neg hxy] at HCT
                        have e3 : (y == (k : Int)) = false := by simpa using hxy
                        clear hxy
                        go_wp2_with fail
                        go_roundw
                        case rel => exact ⟨i2 + 1, by omega, by go_num, by rw [HCT.out]; go_num, by trivial⟩
                        case measure => simp [intOf]; omega
                    · obtain rfl : i2 = n' := by omega
                      obtain ⟨cy, hcy⟩ : ∃ cy, (R.take i2).count (k : Int) = cy := ⟨_, rfl⟩
                      rw [hcy] at hcl2 ⊢
                      have HCY := Lib.hid (show R.count (k : Int) = cy by rw [← hcy, HNR.out, List.take_length])
                      obtain ⟨p1, p2, p3, hhas, hbit⟩ := HPI.out.inv.parts HRO.out hks HCX.out HCY.out
                      have HHAS := Lib.hid hhas
                      have HBIT := Lib.hid hbit
                      clear hcy hhas hbit hcl hcl2
                      have hcases : (cx = 0 ∧ cy = 0) ∨ (cx = 1 ∧ cy = 0) ∨ (cx = 0 ∧ cy = 1) := by omega
                      rcases hcases with ⟨rfl, rfl⟩ | ⟨rfl, rfl⟩ | ⟨rfl, rfl⟩
                      · have HS := Lib.hid (show cnt (bitW S.fw) (k + 1) = N + 1 by unfold cnt; rw [HN.out, ← HBIT.out]; rfl)
                        go_wp2_with (go_at_call 19; refine (Has_any p S (b + (k : Int)) _ HPR.out.pool (HBD.out.sound HPR.out.inv)).mono ?_; rw [HHAS.out]; rintro e w6 ⟨rfl, q, rfl⟩)
                        go_roundw
                        case rel => exact ⟨k + 1, by omega, by go_num, by rw [HS.out]; go_num, (HBR.out.trans (Below.mono (by (repeat (first | exact Below.refl _ _ | exact Nat.le_refl _ | (refine below_ext ?_ (by first | (simp [size_ext, grow]; done) | (simp [size_ext, grow]; omega) | omega) _ _) | (refine Below.setCell ?_ (by first | (simp [size_ext, grow]; done) | (simp [size_ext, grow]; omega) | omega) _) | (refine Below.alloc ?_ (by first | (simp [size_ext, grow]; done) | (simp [size_ext, grow]; omega) | omega) _) | refine Below.drew ?_ | refine below_drewN ?_ _ | (refine Below.trans ?_ (Below.mono (by assumption) (by first | (simp [size_ext, grow]; done) | (simp [size_ext, grow]; omega) | omega)))))) HBR.out.size))⟩
                        case measure => simp [intOf]; omega
                      · have HS := Lib.hid (show cnt (bitW S.fw) (k + 1) = N + 0 by unfold cnt; rw [HN.out, ← HBIT.out]; rfl)
                        go_wp2_with (go_at_call 19; refine (Has_any p S (b + (k : Int)) _ HPR.out.pool (HBD.out.sound HPR.out.inv)).mono ?_; rw [HHAS.out]; rintro e w6 ⟨rfl, q, rfl⟩)
                        go_roundw
                        case rel => exact ⟨k + 1, by omega, by go_num, by rw [HS.out]; go_num, (HBR.out.trans (Below.mono (by (repeat (first | exact Below.refl _ _ | exact Nat.le_refl _ | (refine below_ext ?_ (by first | (simp [size_ext, grow]; done) | (simp [size_ext, grow]; omega) | omega) _ _) | (refine Below.setCell ?_ (by first | (simp [size_ext, grow]; done) | (simp [size_ext, grow]; omega) | omega) _) | (refine Below.alloc ?_ (by first | (simp [size_ext, grow]; done) | (simp [size_ext, grow]; omega) | omega) _) | refine Below.drew ?_ | refine below_drewN ?_ _ | (refine Below.trans ?_ (Below.mono (by assumption) (by first | (simp [size_ext, grow]; done) | (simp [size_ext, grow]; omega) | omega)))))) HBR.out.size))⟩
                        case measure => simp [intOf]; omega
                      · have HS := Lib.hid (show cnt (bitW S.fw) (k + 1) = N + 0 by unfold cnt; rw [HN.out, ← HBIT.out]; rfl)
                        go_wp2_with (go_at_call 19; refine (Has_any p S (b + (k : Int)) _ HPR.out.pool (HBD.out.sound HPR.out.inv)).mono ?_; rw [HHAS.out]; rintro e w6 ⟨rfl, q, rfl⟩)
                        go_roundw
                        case rel => exact ⟨k + 1, by omega, by go_num, by rw [HS.out]; go_num, (HBR.out.trans (Below.mono (by (repeat (first | exact Below.refl _ _ | exact Nat.le_refl _ | (refine below_ext ?_ (by first | (simp [size_ext, grow]; done) | (simp [size_ext, grow]; omega) | omega) _ _) | (refine Below.setCell ?_ (by first | (simp [size_ext, grow]; done) | (simp [size_ext, grow]; omega) | omega) _) | (refine Below.alloc ?_ (by first | (simp [size_ext, grow]; done) | (simp [size_ext, grow]; omega) | omega) _) | refine Below.drew ?_ | refine below_drewN ?_ _ | (refine Below.trans ?_ (Below.mono (by assumption) (by first | (simp [size_ext, grow]; done) | (simp [size_ext, grow]; omega) | omega)))))) HBR.out.size))⟩
                        case measure => simp [intOf]; omega
            · obtain rfl : k = s := by omega
              have HLEFT := Lib.hid (show S.left = (N : Int) by rw [HPI.out.inv.left, HN.out])
              have hsum : (N : Int) + (ln : Int) + (n' : Int) = (k : Int) := by
                have h1 := HFR.out
                have h2 := HLEFT.out
                have h3 := HNR.out
                rw [h2, ← h3] at h1
                omega
              have e9 : ((N : Int) + (ln : Int) + (n' : Int) == (k : Int)) = true := by simpa using hsum
              go_wp2_with (go_at_call 20; refine (Free_any p S _ HPR.out.pool).mono ?_; rw [HLEFT.out]; rintro e w6 ⟨rfl, rfl⟩)
              go_ret
              exact ⟨by first | rfl | (simp; done) | simp [hsum], HB1.out.trans (HPR.out.below.mono HAW.out)⟩
end Go.Proofs.YtoilghhclpgfaaaDoor
