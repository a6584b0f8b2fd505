/- PoolOrder: its walk. -/
import Derived.Test.YtoilghhclpgfaaaDoorP26
namespace Go.Proofs.YtoilghhclpgfaaaDoor
open Go.ChangeShapes Go.WideShapes Go.ChangeAt Go.RowKit Go.Joins Go.Deep
set_option linter.unusedSimpArgs false
set_option linter.unusedVariables false
def fV (b : Int) (V : List Nat) (i : Nat) : Int := b + ((V.getD i 0 : Nat) : Int)
set_option maxRecDepth 100000 in
set_option maxHeartbeats 8000000 in
theorem order_any (b s0 : Int) (A : Option Addr) (n c : Nat) (R0 : List Int) (C : Option Addr) (nn cc : Nat) (V0 : List Nat) (tt : Nat) (w : World) (hT : TabAt w) (hA : At w w.heap.size A (ints R0)) (hn : n = R0.length) (hc : n ≤ c) (hn2 : (n : Int) ≤ 9223372036854775807) (hV : At w w.heap.size C (octs V0)) (hv6 : ∀ x ∈ V0, x < 256) (hnv : nn = V0.length) (hcc : nn ≤ cc) (hnn : (nn : Int) ≤ 9223372036854775807) (htt : tt < 256) :
    Calls Tryd.prog 6 #[rangeV b s0 A n c, .slice C nn cc, .int .u8 (tt : Int)] w fun e w' => e = .returned (.bool true) ∧ Below w.heap.size w w' := by
  have HA0 := Lib.hid (smR_at hA)
  have HN0 := Lib.hid (smN_len hn)
  have hn70 : smN n ≤ 70 := by unfold smN; split <;> omega
  have HT0 := Lib.hid hT
  have HV0 := Lib.hid hV
  have HV60 := Lib.hid hv6
  have HNV0 := Lib.hid hnv
  obtain ⟨R, hR⟩ : ∃ R, smR R0 = R := ⟨_, rfl⟩
  obtain ⟨n', hn'⟩ : ∃ n', smN n = n' := ⟨_, rfl⟩
  obtain ⟨s1, hs1⟩ : ∃ s1, smS s0 = s1 := ⟨_, rfl⟩
  rw [hR, hn'] at HN0
  rw [hR] at HA0
  rw [hn'] at hn70
  have HEQ := Lib.hid (And.intro hn' hs1)
  have HS60 := Lib.hid (show rangeOk b s1 R = true → s1 ≤ 60 by
    intro h
    unfold rangeOk headOk at h
    simp only [Bool.and_eq_true, decide_eq_true_eq] at h
    rw [← hs1] at h ⊢
    unfold smS at h ⊢
    split <;> (try split at h) <;> omega)
  clear hA hn hV hv6 hnv hR hn' hs1 hT
  unfold rangeV
  go_enter Tryd.func6, Tryd.ntmps6
  go_wp2_with fail
  refine (small_any b s0 A n c _ hc hn2).mono ?_
  rw [HEQ.out.1, HEQ.out.2]
  rintro e w1 ⟨rfl, hb⟩
  obtain ⟨xs, dr, rfl⟩ := ext_of hb
  clear hb
  unfold rangeV
  go_upto_region 2 with (fail)
  refine wp_world (fun W1 => Below w.heap.size w W1 ∧ W1.heap[w.heap.size]? = some (.cells #[.int .i64 b, .int .i64 s1, .slice A n' c] 24 (0, 0))) ⟨by (repeat (first | exact Below.refl _ _ | exact Nat.le_refl _ | (refine below_ext ?_ (by first | (simp [size_ext, grow]; done) | (simp [size_ext, grow]; omega) | omega) _ _) | (refine Below.setCell ?_ (by first | (simp [size_ext, grow]; done) | (simp [size_ext, grow]; omega) | omega) _) | (refine Below.alloc ?_ (by first | (simp [size_ext, grow]; done) | (simp [size_ext, grow]; omega) | omega) _) | refine Below.drew ?_ | refine below_drewN ?_ _ | (refine Below.trans ?_ (Below.mono (by assumption) (by first | (simp [size_ext, grow]; done) | (simp [size_ext, grow]; omega) | omega))))), by (repeat (first | ((refine heap_alloc_at _ _ _ ?_); (simp [go_sem]; done)) | ((refine (heap_ext _ _ _ _ ?_).trans ?_); (focus (simp [go_sem]; done))) | ((refine (heap_alloc_past _ _ _ ?_).trans ?_); (focus (simp [go_sem]; done)))))⟩ ?_
  intro W1 ⟨hb1, hbx⟩
  have HBX := Lib.hid hbx
  have HB1 := Lib.hid hb1
  have HT1 := Lib.hid (HT0.out.keep hb1)
  have HAR := Lib.hid (HA0.out.keep hb1)
  have HAW := Lib.hid (show w.heap.size ≤ W1.heap.size from hb1.size)
  have e0 : W1.cell? ⟨w.heap.size, 0, none⟩ = some (.int .i64 b) := (cell_of_row W1 _ 0 _ _ (0, 0) hbx).trans rfl
  have e1 : W1.cell? ⟨w.heap.size, 1, none⟩ = some (.int .i64 s1) := (cell_of_row W1 _ 1 _ _ (0, 0) hbx).trans rfl
  have e2 : W1.cell? ⟨w.heap.size, 2, none⟩ = some (.slice A n' c) := (cell_of_row W1 _ 2 _ _ (0, 0) hbx).trans rfl
  have ez : w.heap.size < W1.heap.size := lt_of_block hbx
  have hn9 : (n' : Int) ≤ 9223372036854775807 := by omega
  clear hb1 hbx
  cases hok : rangeOk b s1 R
  · have HOK := Lib.hid hok
    clear hok
    go_wp2_with fail
    refine (new_any b s1 A n' c R _ (HAR.out.more HAW.out) HN0.out hn9).mono ?_
    rintro e w2 ⟨hb, ⟨_, rfl⟩ | ⟨hok, _⟩⟩
    · obtain ⟨xs2, dr2, rfl⟩ := ext_of hb
      clear hb
      go_wp2_with fail
      refine (new_any b s1 A n' c R _ (HAR.out.move (Below.mono (by (repeat (first | exact Below.refl _ _ | exact Nat.le_refl _ | (refine below_ext ?_ (by first | (simp [size_ext, grow]; done) | (simp [size_ext, grow]; omega) | omega) _ _) | (refine Below.setCell ?_ (by first | (simp [size_ext, grow]; done) | (simp [size_ext, grow]; omega) | omega) _) | (refine Below.alloc ?_ (by first | (simp [size_ext, grow]; done) | (simp [size_ext, grow]; omega) | omega) _) | refine Below.drew ?_ | refine below_drewN ?_ _ | (refine Below.trans ?_ (Below.mono (by assumption) (by first | (simp [size_ext, grow]; done) | (simp [size_ext, grow]; omega) | omega)))))) HAW.out) (by have := HAW.out; simp [size_ext, grow]; omega)) HN0.out hn9).mono ?_
      rintro e w3 ⟨hb, ⟨_, rfl⟩ | ⟨hok, _⟩⟩
      · obtain ⟨xs3, dr3, rfl⟩ := ext_of hb
        clear hb
        go_wp2_with fail
        refine (awake_any _ (HT1.out.keep (by (repeat (first | exact Below.refl _ _ | exact Nat.le_refl _ | (refine below_ext ?_ (by first | (simp [size_ext, grow]; done) | (simp [size_ext, grow]; omega) | omega) _ _) | (refine Below.setCell ?_ (by first | (simp [size_ext, grow]; done) | (simp [size_ext, grow]; omega) | omega) _) | (refine Below.alloc ?_ (by first | (simp [size_ext, grow]; done) | (simp [size_ext, grow]; omega) | omega) _) | refine Below.drew ?_ | refine below_drewN ?_ _ | (refine Below.trans ?_ (Below.mono (by assumption) (by first | (simp [size_ext, grow]; done) | (simp [size_ext, grow]; omega) | omega)))))))).mono ?_
        rintro e w5 ⟨rfl, hb⟩
        obtain ⟨xs5, dr5, rfl⟩ := ext_of hb
        clear hb
        go_wp2_with fail
        go_ret
        exact ⟨rfl, HB1.out.trans (Below.mono (by (repeat (first | exact Below.refl _ _ | exact Nat.le_refl _ | (refine below_ext ?_ (by first | (simp [size_ext, grow]; done) | (simp [size_ext, grow]; omega) | omega) _ _) | (refine Below.setCell ?_ (by first | (simp [size_ext, grow]; done) | (simp [size_ext, grow]; omega) | omega) _) | (refine Below.alloc ?_ (by first | (simp [size_ext, grow]; done) | (simp [size_ext, grow]; omega) | omega) _) | refine Below.drew ?_ | refine below_drewN ?_ _ | (refine Below.trans ?_ (Below.mono (by assumption) (by first | (simp [size_ext, grow]; done) | (simp [size_ext, grow]; omega) | omega)))))) HAW.out)⟩
      · rw [HOK.out] at hok; cases hok
    · rw [HOK.out] at hok; cases hok
  · have HOK := Lib.hid hok
    obtain ⟨s, rfl, hbd, hs60, hro⟩ := Bd.of hok (HS60.out hok)
    have HBD := Lib.hid hbd
    have HRO := Lib.hid hro
    have HNR := Lib.hid HN0.out
    have b1 := hbd.b1
    have b2 := hbd.b2
    clear hok hbd hro
    go_wp2_with fail
    refine (new_any b (s : Int) A n' c R _ (HAR.out.more HAW.out) HN0.out hn9).mono ?_
    rintro e w2 ⟨hb, ⟨hno, _⟩ | ⟨_, p1, S1, rfl, hp, haf, hao, hpa, hfr, hlt1, hlt2⟩⟩
    · rw [HOK.out] at hno; cases hno
    · rw [Int.toNat_natCast] at hfr
      have HPI2 := Lib.hid (show PI W1 p1 S1 b s R w2 from ⟨hpa, Inv.fresh hfr HRO.out, hb, hp, haf⟩)
      have HZ := Lib.hid (show p1 < w2.heap.size ∧ S1.af < w2.heap.size ∧ S1.ao < w2.heap.size by have := lt_of_block hpa.st; omega)
      have HH1 := Lib.hid (show ∀ f, Held b s R S1 f 0 from fun f => Held.fresh hfr f)
      clear hb hpa hfr hp haf hao hlt1 hlt2 e0 e1 e2 ez
      have e0 := (HPI2.out.below.cell (p := ⟨w.heap.size, 0, none⟩) (lt_of_block HBX.out)).trans ((cell_of_row W1 _ 0 _ _ (0, 0) HBX.out).trans rfl)
      have e1 := (HPI2.out.below.cell (p := ⟨w.heap.size, 1, none⟩) (lt_of_block HBX.out)).trans ((cell_of_row W1 _ 1 _ _ (0, 0) HBX.out).trans rfl)
      have e2 := (HPI2.out.below.cell (p := ⟨w.heap.size, 2, none⟩) (lt_of_block HBX.out)).trans ((cell_of_row W1 _ 2 _ _ (0, 0) HBX.out).trans rfl)
      have ez : w.heap.size < w2.heap.size := Nat.lt_of_lt_of_le (lt_of_block HBX.out) HPI2.out.below.size
      go_wp2_with fail
      refine (new_any b (s : Int) A n' c R _ (HAR.out.move (HPI2.out.below.mono HAW.out) (by have := HAW.out; have := HPI2.out.below.size; omega)) HN0.out hn9).mono ?_
      rintro e w3 ⟨hb, ⟨hno, _⟩ | ⟨_, p2, S2, rfl, hp, haf, hao, hpa, hfr, hlt1, hlt2⟩⟩
      · rw [HOK.out] at hno; cases hno
      · rw [Int.toNat_natCast] at hfr
        have HH2 := Lib.hid (show ∀ f, Held b s R S2 f 0 from fun f => Held.fresh hfr f)
        have HPO3 := Lib.hid (show PO W1 p1 S1 p2 S2 b s R w2.heap.size w3 from ⟨HPI2.out.grow hb, ⟨hpa, Inv.fresh hfr HRO.out, HPI2.out.below.trans (hb.mono HPI2.out.below.size), by have := HPI2.out.below.size; omega, by have := HPI2.out.below.size; omega⟩, HZ.out.1, HZ.out.2.1, HZ.out.2.2, hp, haf, hao⟩)
        obtain ⟨Z, hZ⟩ : ∃ Z, w2.heap.size = Z := ⟨_, rfl⟩
        rw [hZ] at HPO3
        clear hb hpa hfr hp haf hao hlt1 hlt2 e0 e1 e2 ez hZ HZ
        go_wp2_with fail
        refine (awake_any _ (HT1.out.keep HPO3.out.a.below)).mono ?_
        rintro e w5 ⟨rfl, hb⟩
        have HPO0 := Lib.hid (HPO3.out.grow hb)
        clear hb HPI2 HPO3
        by_cases h40 : 40 < nn
        · have HV := Lib.hid (show At w w.heap.size C (octs (V0.take 40)) by rw [octs_take]; exact HV0.out.take 40)
          have HNV := Lib.hid (show 40 = (V0.take 40).length by rw [List.length_take, ← HNV0.out]; omega)
          have HV6 := Lib.hid (show ∀ i, (V0.take 40).getD i 0 < 256 by
            intro i
            rw [List.getD_eq_getElem?_getD]
            cases h : (V0.take 40)[i]? with
            | none => simp
            | some x => exact HV60.out x (List.mem_of_mem_take (List.mem_of_getElem? h)))
          have hmc : 40 ≤ cc := by omega
          have d40 : decide ((40 : Int) < (nn : Int)) = true := by simp; omega
          have hcn : ((40 : Nat) : Int) = 40 := rfl
          have ha : Option.map (fun x : Addr => x.add 0) C = C := by cases C <;> simp [Addr.add]
          obtain ⟨V, hVV⟩ : ∃ V, V0.take 40 = V := ⟨_, rfl⟩
          rw [hVV] at HV HNV HV6
          clear hVV HV0 HV60 HNV0
          go_upto_region 9 with (fail)
          go_cut [1] (fun s1 wx => ∃ (m : Nat) (wz : World), wz = wx ∧ m = 40 ∧ s1 = .slice C m cc ∧ PO W1 p1 S1 p2 S2 b s R Z wz)
          case first =>
            go_wp2_with fail
            go_meet
            exact ⟨40, _, rfl, rfl, rfl, HPO0.out⟩
          case rest =>
            obtain ⟨m, wz, hwz, hm, rfl, hpz⟩ := hcut
            rw [← hwz]
            rw [← hm] at HNV
            clear HPO0
            have HPO0 := Lib.hid hpz
            have hm40 : m ≤ 40 := by omega
            have hmc2 : m ≤ cc := by omega
            clear hpz hwz hm d40 hmc ha hcn
            have HTT := Lib.hid htt
            go_wp2_with fail
            go_loopw [11] (fun i wr => ∃ (j : Nat) (S1 S2 : PoolS), j ≤ m ∧ i = .int .i64 j ∧ PO W1 p1 S1 p2 S2 b s R Z wr ∧ Held b s R S1 (fV b V) j ∧ Held b s R S2 (fun i => fV b V (turnAt m tt i)) j) (fun i _ => m - (intOf i).toNat)
            case atStart => exact ⟨0, S1, S2, Nat.zero_le _, rfl, HPO0.out, HH1.out _, HH2.out _⟩
            case round =>
              clear HPO0 HH1 HH2 S1 S2
              obtain ⟨j, S1, S2, hj, rfl, hpo, hd1, hd2⟩ := hrel
              have HPO := Lib.hid hpo
              have HD1 := Lib.hid hd1
              have HD2 := Lib.hid hd2
              clear hpo hd1 hd2
              have e0 := (HPO.out.a.below.cell (p := ⟨w.heap.size, 0, none⟩) (lt_of_block HBX.out)).trans ((cell_of_row W1 _ 0 _ _ (0, 0) HBX.out).trans rfl)
              have e1 := (HPO.out.a.below.cell (p := ⟨w.heap.size, 1, none⟩) (lt_of_block HBX.out)).trans ((cell_of_row W1 _ 1 _ _ (0, 0) HBX.out).trans rfl)
              have e2 := (HPO.out.a.below.cell (p := ⟨w.heap.size, 2, none⟩) (lt_of_block HBX.out)).trans ((cell_of_row W1 _ 2 _ _ (0, 0) HBX.out).trans rfl)
              have ez : w.heap.size < wr.heap.size := Nat.lt_of_lt_of_le (lt_of_block HBX.out) HPO.out.a.below.size
              have jj0 : (0 : Int) ≤ (j : Int) := by omega
              by_cases hlt : j < m
              · have HK := Lib.hid (show j < V.length by rw [← HNV.out]; exact hlt)
                obtain ⟨g, hg⟩ : ∃ g, turnAt m tt j = g := ⟨_, rfl⟩
                have hgn : g < m := by rw [← hg]; exact turn_lt (by omega)
                have HG := Lib.hid hg
                obtain ⟨ob, oo, rfl, hob, hcells⟩ := At.oct HV.out HK.out
                have hobW : ob < W1.heap.size := by have := HAW.out; omega
                have g0 := ((HPO.out.a.below.cell (p := ⟨ob, oo + j, none⟩) hobW).trans (HB1.out.cell (p := ⟨ob, oo + j, none⟩) hob)).trans (hcells j HK.out)
                have g1 := ((HPO.out.a.below.cell (p := ⟨ob, oo + g, none⟩) hobW).trans (HB1.out.cell (p := ⟨ob, oo + g, none⟩) hob)).trans (hcells g (by rw [← HNV.out]; exact hgn))
                have HX1 := Lib.hid (show fV b V j = b + ((V.getD j 0 : Nat) : Int) from rfl)
                have HX2 := Lib.hid (show fV b V (turnAt m tt j) = b + ((V.getD g 0 : Nat) : Int) by rw [HG.out]; rfl)
                have hx1 : V.getD j 0 < 256 := HV6.out j
                have hx2 : V.getD g 0 < 256 := HV6.out g
                obtain ⟨x1, h1⟩ : ∃ x, V.getD j 0 = x := ⟨_, rfl⟩
                obtain ⟨x2, h2⟩ : ∃ x, V.getD g 0 = x := ⟨_, rfl⟩
                rw [h1] at g0 HX1 hx1
                rw [h2] at g1 HX2 hx2
                have hob9 : ob < wr.heap.size := by have := HPO.out.a.below.size; omega
                have jj1 : (j : Int) < (m : Int) := by omega
                have hw1 : IntKind.i64.wrap (x1 : Int) = (x1 : Int) := IntWalk.i64_in _ (by omega)
                have hs1 : IntKind.i64.wrap (b + (x1 : Int)) = b + (x1 : Int) := IntWalk.i64_in _ (by omega)
                have HS2 := Lib.hid (show IntKind.i64.wrap (b + (x2 : Int)) = b + (x2 : Int) from IntWalk.i64_in _ (by omega))
                have HOB := Lib.hid (And.intro hobW hob)
                have HG0 := Lib.hid (show w.cell? ⟨ob, oo + j, none⟩ = some (.int .u8 (x1 : Int)) by have := hcells j HK.out; rw [h1] at this; exact this)
                have HG1 := Lib.hid (show w.cell? ⟨ob, oo + g, none⟩ = some (.int .u8 (x2 : Int)) by have := hcells g (by rw [← HNV.out]; exact hgn); rw [h2] at this; exact this)
                have HHM := Lib.hid (show ((m : Int) - 1 - (j : Int) + (tt : Int)) % (m : Int) = (g : Int) by
                  have h3 := HG.out
                  unfold turnAt at h3
                  rw [← h3]
                  have h4 : (m : Int) - 1 - (j : Int) + (tt : Int) = ((m - 1 - j + tt : Nat) : Int) := by omega
                  rw [h4]
                  exact (Int.natCast_emod _ _).symm)
                clear hg hcells h1 h2 hobW hob g1
                go_upto_region 13 with (fail)
                go_cut [] (fun wx => ∃ (w4 : World) (S3 : PoolS), w4 = wx ∧ PO W1 p1 S3 p2 S2 b s R Z w4 ∧ lsd S3 s = rwL b (s : Int) R (lsd S1 s) (b + (x1 : Int)))
                case first =>
                  go_region_held3 (fun w' => w'.cell? ⟨w.heap.size, 0, none⟩ = some (.int .i64 b) ∧ w'.cell? ⟨ob, oo + j, none⟩ = some (.int .u8 (x1 : Int))) (first | (go_keep; done) | (go_simp; done) | (simp [go_sem]; done)) ((go_at_call 17; go_must (refine (wantU (b + (x1 : Int)) (by exact (HPO.out.a.grow (by (repeat (first | exact Below.refl _ _ | exact Nat.le_refl _ | (refine below_ext ?_ (by first | (simp [size_ext, grow]; done) | (simp [size_ext, grow]; omega) | omega) _ _) | (refine Below.setCell ?_ (by first | (simp [size_ext, grow]; done) | (simp [size_ext, grow]; omega) | omega) _) | (refine Below.alloc ?_ (by first | (simp [size_ext, grow]; done) | (simp [size_ext, grow]; omega) | omega) _) | refine Below.drew ?_ | refine below_drewN ?_ _ | (refine Below.trans ?_ (Below.mono (by assumption) (by first | (simp [size_ext, grow]; done) | (simp [size_ext, grow]; omega) | omega))))))).pool) HPO.out.a.inv HBD.out).mono ?_); rintro e w4 ⟨S3, rfl, hp, hi, ht, haf, hao, hl⟩; have HPO4 := Lib.hid ((HPO.out.grow (by (repeat (first | exact Below.refl _ _ | exact Nat.le_refl _ | (refine below_ext ?_ (by first | (simp [size_ext, grow]; done) | (simp [size_ext, grow]; omega) | omega) _ _) | (refine Below.setCell ?_ (by first | (simp [size_ext, grow]; done) | (simp [size_ext, grow]; omega) | omega) _) | (refine Below.alloc ?_ (by first | (simp [size_ext, grow]; done) | (simp [size_ext, grow]; omega) | omega) _) | refine Below.drew ?_ | refine below_drewN ?_ _ | (refine Below.trans ?_ (Below.mono (by assumption) (by first | (simp [size_ext, grow]; done) | (simp [size_ext, grow]; omega) | omega))))))).turn1 ht hp hi haf hao); have HL := Lib.hid hl; have k0 := (HPO4.out.a.below.cell (p := ⟨w.heap.size, 0, none⟩) (lt_of_block HBX.out)).trans ((cell_of_row W1 _ 0 _ _ (0, 0) HBX.out).trans rfl); have k1 := ((HPO4.out.a.below.cell (p := ⟨ob, oo + j, none⟩) HOB.out.1).trans (HB1.out.cell (p := ⟨ob, oo + j, none⟩) HOB.out.2)).trans HG0.out; clear hp hi ht haf hao hl))
                  all_goals
                    go_wp2_with fail
                    go_meet
                    exact ⟨_, _, rfl, HPO4.out, HL.out⟩
                case rest =>
                  obtain ⟨w4, S3, hw4, hpo4, hl3⟩ := hcut
                  rw [← hw4]
                  have HPO4 := Lib.hid hpo4
                  have HD3 := Lib.hid (show Held b s R S3 (fV b V) (j + 1) from HD1.out.next (by rw [HX1.out]; exact hl3))
                  have G1 := ((hpo4.a.below.cell (p := ⟨ob, oo + g, none⟩) HOB.out.1).trans (HB1.out.cell (p := ⟨ob, oo + g, none⟩) HOB.out.2)).trans HG1.out
                  have hob4 : ob < w4.heap.size := by have := hpo4.a.below.size; have := HOB.out.1; omega
                  clear e0 e1 e2 ez hpo4 hl3 hw4 g0 hob9 hs1 HPO HD1
                  have e0 := (HPO4.out.a.below.cell (p := ⟨w.heap.size, 0, none⟩) (lt_of_block HBX.out)).trans ((cell_of_row W1 _ 0 _ _ (0, 0) HBX.out).trans rfl)
                  have e1 := (HPO4.out.a.below.cell (p := ⟨w.heap.size, 1, none⟩) (lt_of_block HBX.out)).trans ((cell_of_row W1 _ 1 _ _ (0, 0) HBX.out).trans rfl)
                  have e2 := (HPO4.out.a.below.cell (p := ⟨w.heap.size, 2, none⟩) (lt_of_block HBX.out)).trans ((cell_of_row W1 _ 2 _ _ (0, 0) HBX.out).trans rfl)
                  have ez : w.heap.size < w4.heap.size := Nat.lt_of_lt_of_le (lt_of_block HBX.out) HPO4.out.a.below.size
                  have hs2 := HS2.out
                  have hw2 : IntKind.i64.wrap (x2 : Int) = (x2 : Int) := IntWalk.i64_in _ (by omega)
                  have hw3 : IntKind.i64.wrap (tt : Int) = (tt : Int) := IntWalk.i64_in _ (by have := HTT.out; omega)
                  have hw4 : IntKind.i64.wrap ((m : Int) - 1) = (m : Int) - 1 := IntWalk.i64_in _ (by omega)
                  have hw5 : IntKind.i64.wrap (((m : Int) - 1) - (j : Int)) = ((m : Int) - 1) - (j : Int) := IntWalk.i64_in _ (by omega)
                  have hw6 : IntKind.i64.wrap (((m : Int) - 1) - (j : Int) + (tt : Int)) = ((m : Int) - 1) - (j : Int) + (tt : Int) := IntWalk.i64_in _ (by have := HTT.out; omega)
                  have hD : (((m : Int) - 1) - (j : Int) + (tt : Int)).tmod (m : Int) = (g : Int) := by
                    have hm := HHM.out
                    have e : ((m : Int) - 1 - (j : Int) + (tt : Int)) = (((m : Int) - 1) - (j : Int) + (tt : Int)) := by omega
                    rw [e] at hm
                    rw [Int.tmod_eq_emod_of_nonneg (by omega), hm]
                  have hE : (((m : Int) - 1) - (j : Int) + (tt : Int)) % (m : Int) = (g : Int) := by
                    rw [← hD, Int.tmod_eq_emod_of_nonneg (by omega)]
                  have hne0 : ¬ (m = 0) := by omega
                  skip
                  have gg0 : (0 : Int) ≤ (g : Int) := by omega
                  have gg1 : (g : Int) < (m : Int) := by omega
                  go_upto_region 14 with (fail)
                  go_region_held3 (fun w' => w'.cell? ⟨w.heap.size, 0, none⟩ = some (.int .i64 b) ∧ w'.cell? ⟨ob, oo + g, none⟩ = some (.int .u8 (x2 : Int))) (first | (go_keep; done) | (go_simp; done) | (simp [go_sem]; done)) ((go_at_call 17; go_must (refine (wantU (b + (x2 : Int)) (by exact (HPO4.out.c.grow (by (repeat (first | exact Below.refl _ _ | exact Nat.le_refl _ | (refine below_ext ?_ (by first | (simp [size_ext, grow]; done) | (simp [size_ext, grow]; omega) | omega) _ _) | (refine Below.setCell ?_ (by first | (simp [size_ext, grow]; done) | (simp [size_ext, grow]; omega) | omega) _) | (refine Below.alloc ?_ (by first | (simp [size_ext, grow]; done) | (simp [size_ext, grow]; omega) | omega) _) | refine Below.drew ?_ | refine below_drewN ?_ _ | (refine Below.trans ?_ (Below.mono (by assumption) (by first | (simp [size_ext, grow]; done) | (simp [size_ext, grow]; omega) | omega))))))).pool) HPO4.out.c.inv HBD.out).mono ?_); rintro e w5 ⟨S4, rfl, hp, hi, ht, haf, hao, hl⟩; have HPO5 := Lib.hid ((HPO4.out.grow (by (repeat (first | exact Below.refl _ _ | exact Nat.le_refl _ | (refine below_ext ?_ (by first | (simp [size_ext, grow]; done) | (simp [size_ext, grow]; omega) | omega) _ _) | (refine Below.setCell ?_ (by first | (simp [size_ext, grow]; done) | (simp [size_ext, grow]; omega) | omega) _) | (refine Below.alloc ?_ (by first | (simp [size_ext, grow]; done) | (simp [size_ext, grow]; omega) | omega) _) | refine Below.drew ?_ | refine below_drewN ?_ _ | (refine Below.trans ?_ (Below.mono (by assumption) (by first | (simp [size_ext, grow]; done) | (simp [size_ext, grow]; omega) | omega))))))).turn2 ht hp hi haf hao); have HD4 := Lib.hid (show Held b s R S4 (fun i => fV b V (turnAt m tt i)) (j + 1) from HD2.out.next (by rw [HX2.out]; exact hl)); have k0 := (HPO5.out.a.below.cell (p := ⟨w.heap.size, 0, none⟩) (lt_of_block HBX.out)).trans ((cell_of_row W1 _ 0 _ _ (0, 0) HBX.out).trans rfl); have k1 := ((HPO5.out.a.below.cell (p := ⟨ob, oo + g, none⟩) HOB.out.1).trans (HB1.out.cell (p := ⟨ob, oo + g, none⟩) HOB.out.2)).trans HG1.out; clear hp hi ht haf hao hl))
                  all_goals
                    go_wp2_with fail
                    go_roundw
                    case rel => exact ⟨j + 1, S3, S4, by omega, by go_num, HPO5.out, HD3.out, HD4.out⟩
                    case measure => simp [intOf]; omega
              · obtain rfl : j = m := by omega
                have HSAME := Lib.hid (held_same (HPO.out.a.inv.hb.trans HPO.out.c.inv.hb.symm) HD1.out HD2.out)
                go_wp2_with fail
                refine (takeU HPO.out.a.pool HPO.out.a.inv HBD.out (HT1.out.keep HPO.out.a.below)).mono ?_
                rintro e w4 ⟨S3, rfl, hp, hi, ht, haf, hao, hl⟩
                have HPO4 := Lib.hid (HPO.out.turn1 ht hp hi haf hao)
                have HL3 := Lib.hid hl
                clear hp hi ht haf hao hl e0 e1 e2 ez
                go_wp2_with fail
                refine (takeU HPO4.out.c.pool HPO4.out.c.inv HBD.out (HT1.out.keep HPO4.out.c.below)).mono ?_
                have HFW := Lib.hid (show lowO S2.fw = lowO S1.fw by rw [← HPO.out.a.inv.take HPO.out.a.pool.free.wide, ← HPO.out.c.inv.take HPO.out.c.pool.free.wide, HSAME.out])
                rintro e w5 ⟨S4, rfl, hp, hi, ht, haf, hao, hl⟩
                have HPO5 := Lib.hid (HPO4.out.turn2 ht hp hi haf hao)
                rw [HFW.out] at hl ⊢
                have HL4 := Lib.hid (show lsd S4 s = lsd S3 s by rw [hl, HL3.out, HSAME.out])
                have HLF := Lib.hid (show S4.left = S3.left by rw [HPO5.out.a.inv.free HRO.out, HPO5.out.c.inv.free HRO.out, HL4.out])
                obtain ⟨ra, hra⟩ : ∃ ra, rtA b (lowO S1.fw) = ra := ⟨_, rfl⟩
                obtain ⟨re, hre⟩ : ∃ re, rtE (lowO S1.fw) = re := ⟨_, rfl⟩
                rw [hra, hre]
                clear hp hi ht haf hao hl hra hre
                go_wp2_with fail
                refine (Leased_any p1 S3 _ HPO5.out.a.pool (HBD.out.sound HPO5.out.a.inv)).mono ?_
                rw [HPO5.out.a.inv.hs]
                rintro e w6 ⟨LA, lc, rfl, hb, hat, -, -⟩
                have HPO6 := Lib.hid (HPO5.out.grow hb)
                have HLA := Lib.hid hat
                clear hb hat
                go_wp2_with fail
                refine (Leased_any p2 S4 _ HPO6.out.c.pool (HBD.out.sound HPO6.out.c.inv)).mono ?_
                rw [HPO6.out.c.inv.hs, HL4.out]
                rintro e w7 ⟨LB, ld, rfl, hb, hat, -, -⟩
                have HPO7 := Lib.hid (HPO6.out.grow hb)
                have HLA7 := Lib.hid (HLA.out.keep hb)
                have HLB := Lib.hid hat
                have HSZ := Lib.hid hb.size
                have HLL := Lib.hid (lsd_len S3 s)
                clear hb hat
                go_wp2_with fail
                refine (Same_yes LA (lsd S3 s).length lc LB (lsd S3 s).length ld (lsd S3 s) _ w6.heap.size w7.heap.size HSZ.out (Nat.le_refl _) HLA7.out HLB.out rfl rfl (by have := HLL.out; omega)).mono ?_
                rintro e w8 ⟨rfl, q, rfl⟩
                go_wp2_with fail
                refine (Free_any p1 S3 _ (HPO7.out.a.pool.keep (by (repeat (first | exact Below.refl _ _ | exact Nat.le_refl _ | (refine below_ext ?_ (by first | (simp [size_ext, grow]; done) | (simp [size_ext, grow]; omega) | omega) _ _) | (refine Below.setCell ?_ (by first | (simp [size_ext, grow]; done) | (simp [size_ext, grow]; omega) | omega) _) | (refine Below.alloc ?_ (by first | (simp [size_ext, grow]; done) | (simp [size_ext, grow]; omega) | omega) _) | refine Below.drew ?_ | refine below_drewN ?_ _ | (refine Below.trans ?_ (Below.mono (by assumption) (by first | (simp [size_ext, grow]; done) | (simp [size_ext, grow]; omega) | omega)))))))).mono ?_
                rintro e w9 ⟨rfl, rfl⟩
                go_wp2_with fail
                refine (Free_any p2 S4 _ (HPO7.out.c.pool.keep (by (repeat (first | exact Below.refl _ _ | exact Nat.le_refl _ | (refine below_ext ?_ (by first | (simp [size_ext, grow]; done) | (simp [size_ext, grow]; omega) | omega) _ _) | (refine Below.setCell ?_ (by first | (simp [size_ext, grow]; done) | (simp [size_ext, grow]; omega) | omega) _) | (refine Below.alloc ?_ (by first | (simp [size_ext, grow]; done) | (simp [size_ext, grow]; omega) | omega) _) | refine Below.drew ?_ | refine below_drewN ?_ _ | (refine Below.trans ?_ (Below.mono (by assumption) (by first | (simp [size_ext, grow]; done) | (simp [size_ext, grow]; omega) | omega)))))))).mono ?_
                rw [HLF.out]
                rintro e w9 ⟨rfl, rfl⟩
                go_wp2_with fail
                go_ret
                exact ⟨by first | rfl | (simp; done), HB1.out.trans ((HPO7.out.a.below.trans (Below.mono (by (repeat (first | exact Below.refl _ _ | exact Nat.le_refl _ | (refine below_ext ?_ (by first | (simp [size_ext, grow]; done) | (simp [size_ext, grow]; omega) | omega) _ _) | (refine Below.setCell ?_ (by first | (simp [size_ext, grow]; done) | (simp [size_ext, grow]; omega) | omega) _) | (refine Below.alloc ?_ (by first | (simp [size_ext, grow]; done) | (simp [size_ext, grow]; omega) | omega) _) | refine Below.drew ?_ | refine below_drewN ?_ _ | (refine Below.trans ?_ (Below.mono (by assumption) (by first | (simp [size_ext, grow]; done) | (simp [size_ext, grow]; omega) | omega)))))) HPO7.out.a.below.size)).mono HAW.out)⟩
        · have HV := HV0
          have HNV := HNV0
          have HV6 := Lib.hid (show ∀ i, V0.getD i 0 < 256 by
            intro i
            rw [List.getD_eq_getElem?_getD]
            cases h : V0[i]? with
            | none => simp
            | some x => exact HV60.out x (List.mem_of_getElem? h))
          obtain ⟨V, hVV⟩ : ∃ V, V0 = V := ⟨_, rfl⟩
          rw [hVV] at HV HNV HV6
          have h40' : nn ≤ 40 := by omega
          have d40 : decide ((40 : Int) < (nn : Int)) = false := by simp; omega
          clear hVV HV0 HV60 HNV0
          have HTT := Lib.hid htt
          go_wp2_with fail
          go_loopw [11] (fun i wr => ∃ (j : Nat) (S1 S2 : PoolS), j ≤ nn ∧ i = .int .i64 j ∧ PO W1 p1 S1 p2 S2 b s R Z wr ∧ Held b s R S1 (fV b V) j ∧ Held b s R S2 (fun i => fV b V (turnAt nn tt i)) j) (fun i _ => nn - (intOf i).toNat)
          case atStart => exact ⟨0, S1, S2, Nat.zero_le _, rfl, HPO0.out, HH1.out _, HH2.out _⟩
          case round =>
            clear HPO0 HH1 HH2 S1 S2
            obtain ⟨j, S1, S2, hj, rfl, hpo, hd1, hd2⟩ := hrel
            have HPO := Lib.hid hpo
            have HD1 := Lib.hid hd1
            have HD2 := Lib.hid hd2
            clear hpo hd1 hd2
            have e0 := (HPO.out.a.below.cell (p := ⟨w.heap.size, 0, none⟩) (lt_of_block HBX.out)).trans ((cell_of_row W1 _ 0 _ _ (0, 0) HBX.out).trans rfl)
            have e1 := (HPO.out.a.below.cell (p := ⟨w.heap.size, 1, none⟩) (lt_of_block HBX.out)).trans ((cell_of_row W1 _ 1 _ _ (0, 0) HBX.out).trans rfl)
            have e2 := (HPO.out.a.below.cell (p := ⟨w.heap.size, 2, none⟩) (lt_of_block HBX.out)).trans ((cell_of_row W1 _ 2 _ _ (0, 0) HBX.out).trans rfl)
            have ez : w.heap.size < wr.heap.size := Nat.lt_of_lt_of_le (lt_of_block HBX.out) HPO.out.a.below.size
            have jj0 : (0 : Int) ≤ (j : Int) := by omega
            by_cases hlt : j < nn
            · have HK := Lib.hid (show j < V.length by rw [← HNV.out]; exact hlt)
              obtain ⟨g, hg⟩ : ∃ g, turnAt nn tt j = g := ⟨_, rfl⟩
              have hgn : g < nn := by rw [← hg]; exact turn_lt (by omega)
              have HG := Lib.hid hg
              obtain ⟨ob, oo, rfl, hob, hcells⟩ := At.oct HV.out HK.out
              have hobW : ob < W1.heap.size := by have := HAW.out; omega
              have g0 := ((HPO.out.a.below.cell (p := ⟨ob, oo + j, none⟩) hobW).trans (HB1.out.cell (p := ⟨ob, oo + j, none⟩) hob)).trans (hcells j HK.out)
              have g1 := ((HPO.out.a.below.cell (p := ⟨ob, oo + g, none⟩) hobW).trans (HB1.out.cell (p := ⟨ob, oo + g, none⟩) hob)).trans (hcells g (by rw [← HNV.out]; exact hgn))
              have HX1 := Lib.hid (show fV b V j = b + ((V.getD j 0 : Nat) : Int) from rfl)
              have HX2 := Lib.hid (show fV b V (turnAt nn tt j) = b + ((V.getD g 0 : Nat) : Int) by rw [HG.out]; rfl)
              have hx1 : V.getD j 0 < 256 := HV6.out j
              have hx2 : V.getD g 0 < 256 := HV6.out g
              obtain ⟨x1, h1⟩ : ∃ x, V.getD j 0 = x := ⟨_, rfl⟩
              obtain ⟨x2, h2⟩ : ∃ x, V.getD g 0 = x := ⟨_, rfl⟩
              rw [h1] at g0 HX1 hx1
              rw [h2] at g1 HX2 hx2
              have hob9 : ob < wr.heap.size := by have := HPO.out.a.below.size; omega
              have jj1 : (j : Int) < (nn : Int) := by omega
              have hw1 : IntKind.i64.wrap (x1 : Int) = (x1 : Int) := IntWalk.i64_in _ (by omega)
              have hs1 : IntKind.i64.wrap (b + (x1 : Int)) = b + (x1 : Int) := IntWalk.i64_in _ (by omega)
              have HS2 := Lib.hid (show IntKind.i64.wrap (b + (x2 : Int)) = b + (x2 : Int) from IntWalk.i64_in _ (by omega))
              have HOB := Lib.hid (And.intro hobW hob)
              have HG0 := Lib.hid (show w.cell? ⟨ob, oo + j, none⟩ = some (.int .u8 (x1 : Int)) by have := hcells j HK.out; rw [h1] at this; exact this)
              have HG1 := Lib.hid (show w.cell? ⟨ob, oo + g, none⟩ = some (.int .u8 (x2 : Int)) by have := hcells g (by rw [← HNV.out]; exact hgn); rw [h2] at this; exact this)
              have HHM := Lib.hid (show ((nn : Int) - 1 - (j : Int) + (tt : Int)) % (nn : Int) = (g : Int) by
                have h3 := HG.out
                unfold turnAt at h3
                rw [← h3]
                have h4 : (nn : Int) - 1 - (j : Int) + (tt : Int) = ((nn - 1 - j + tt : Nat) : Int) := by omega
                rw [h4]
                exact (Int.natCast_emod _ _).symm)
              clear hg hcells h1 h2 hobW hob g1
              go_upto_region 13 with (fail)
              go_cut [] (fun wx => ∃ (w4 : World) (S3 : PoolS), w4 = wx ∧ PO W1 p1 S3 p2 S2 b s R Z w4 ∧ lsd S3 s = rwL b (s : Int) R (lsd S1 s) (b + (x1 : Int)))
              case first =>
                go_region_held3 (fun w' => w'.cell? ⟨w.heap.size, 0, none⟩ = some (.int .i64 b) ∧ w'.cell? ⟨ob, oo + j, none⟩ = some (.int .u8 (x1 : Int))) (first | (go_keep; done) | (go_simp; done) | (simp [go_sem]; done)) ((go_at_call 17; go_must (refine (wantU (b + (x1 : Int)) (by exact (HPO.out.a.grow (by (repeat (first | exact Below.refl _ _ | exact Nat.le_refl _ | (refine below_ext ?_ (by first | (simp [size_ext, grow]; done) | (simp [size_ext, grow]; omega) | omega) _ _) | (refine Below.setCell ?_ (by first | (simp [size_ext, grow]; done) | (simp [size_ext, grow]; omega) | omega) _) | (refine Below.alloc ?_ (by first | (simp [size_ext, grow]; done) | (simp [size_ext, grow]; omega) | omega) _) | refine Below.drew ?_ | refine below_drewN ?_ _ | (refine Below.trans ?_ (Below.mono (by assumption) (by first | (simp [size_ext, grow]; done) | (simp [size_ext, grow]; omega) | omega))))))).pool) HPO.out.a.inv HBD.out).mono ?_); rintro e w4 ⟨S3, rfl, hp, hi, ht, haf, hao, hl⟩; have HPO4 := Lib.hid ((HPO.out.grow (by (repeat (first | exact Below.refl _ _ | exact Nat.le_refl _ | (refine below_ext ?_ (by first | (simp [size_ext, grow]; done) | (simp [size_ext, grow]; omega) | omega) _ _) | (refine Below.setCell ?_ (by first | (simp [size_ext, grow]; done) | (simp [size_ext, grow]; omega) | omega) _) | (refine Below.alloc ?_ (by first | (simp [size_ext, grow]; done) | (simp [size_ext, grow]; omega) | omega) _) | refine Below.drew ?_ | refine below_drewN ?_ _ | (refine Below.trans ?_ (Below.mono (by assumption) (by first | (simp [size_ext, grow]; done) | (simp [size_ext, grow]; omega) | omega))))))).turn1 ht hp hi haf hao); have HL := Lib.hid hl; have k0 := (HPO4.out.a.below.cell (p := ⟨w.heap.size, 0, none⟩) (lt_of_block HBX.out)).trans ((cell_of_row W1 _ 0 _ _ (0, 0) HBX.out).trans rfl); have k1 := ((HPO4.out.a.below.cell (p := ⟨ob, oo + j, none⟩) HOB.out.1).trans (HB1.out.cell (p := ⟨ob, oo + j, none⟩) HOB.out.2)).trans HG0.out; clear hp hi ht haf hao hl))
                all_goals
                  go_wp2_with fail
                  go_meet
                  exact ⟨_, _, rfl, HPO4.out, HL.out⟩
              case rest =>
                obtain ⟨w4, S3, hw4, hpo4, hl3⟩ := hcut
                rw [← hw4]
                have HPO4 := Lib.hid hpo4
                have HD3 := Lib.hid (show Held b s R S3 (fV b V) (j + 1) from HD1.out.next (by rw [HX1.out]; exact hl3))
                have G1 := ((hpo4.a.below.cell (p := ⟨ob, oo + g, none⟩) HOB.out.1).trans (HB1.out.cell (p := ⟨ob, oo + g, none⟩) HOB.out.2)).trans HG1.out
                have hob4 : ob < w4.heap.size := by have := hpo4.a.below.size; have := HOB.out.1; omega
                clear e0 e1 e2 ez hpo4 hl3 hw4 g0 hob9 hs1 HPO HD1
                have e0 := (HPO4.out.a.below.cell (p := ⟨w.heap.size, 0, none⟩) (lt_of_block HBX.out)).trans ((cell_of_row W1 _ 0 _ _ (0, 0) HBX.out).trans rfl)
                have e1 := (HPO4.out.a.below.cell (p := ⟨w.heap.size, 1, none⟩) (lt_of_block HBX.out)).trans ((cell_of_row W1 _ 1 _ _ (0, 0) HBX.out).trans rfl)
                have e2 := (HPO4.out.a.below.cell (p := ⟨w.heap.size, 2, none⟩) (lt_of_block HBX.out)).trans ((cell_of_row W1 _ 2 _ _ (0, 0) HBX.out).trans rfl)
                have ez : w.heap.size < w4.heap.size := Nat.lt_of_lt_of_le (lt_of_block HBX.out) HPO4.out.a.below.size
                have hs2 := HS2.out
                have hw2 : IntKind.i64.wrap (x2 : Int) = (x2 : Int) := IntWalk.i64_in _ (by omega)
                have hw3 : IntKind.i64.wrap (tt : Int) = (tt : Int) := IntWalk.i64_in _ (by have := HTT.out; omega)
                have hw4 : IntKind.i64.wrap ((nn : Int) - 1) = (nn : Int) - 1 := IntWalk.i64_in _ (by omega)
                have hw5 : IntKind.i64.wrap (((nn : Int) - 1) - (j : Int)) = ((nn : Int) - 1) - (j : Int) := IntWalk.i64_in _ (by omega)
                have hw6 : IntKind.i64.wrap (((nn : Int) - 1) - (j : Int) + (tt : Int)) = ((nn : Int) - 1) - (j : Int) + (tt : Int) := IntWalk.i64_in _ (by have := HTT.out; omega)
                have hD : (((nn : Int) - 1) - (j : Int) + (tt : Int)).tmod (nn : Int) = (g : Int) := by
                  have hm := HHM.out
                  have e : ((nn : Int) - 1 - (j : Int) + (tt : Int)) = (((nn : Int) - 1) - (j : Int) + (tt : Int)) := by omega
                  rw [e] at hm
                  rw [Int.tmod_eq_emod_of_nonneg (by omega), hm]
                have hE : (((nn : Int) - 1) - (j : Int) + (tt : Int)) % (nn : Int) = (g : Int) := by
                  rw [← hD, Int.tmod_eq_emod_of_nonneg (by omega)]
                have hne0 : ¬ (nn = 0) := by omega
                skip
                have gg0 : (0 : Int) ≤ (g : Int) := by omega
                have gg1 : (g : Int) < (nn : Int) := by omega
                go_upto_region 14 with (fail)
                go_region_held3 (fun w' => w'.cell? ⟨w.heap.size, 0, none⟩ = some (.int .i64 b) ∧ w'.cell? ⟨ob, oo + g, none⟩ = some (.int .u8 (x2 : Int))) (first | (go_keep; done) | (go_simp; done) | (simp [go_sem]; done)) ((go_at_call 17; go_must (refine (wantU (b + (x2 : Int)) (by exact (HPO4.out.c.grow (by (repeat (first | exact Below.refl _ _ | exact Nat.le_refl _ | (refine below_ext ?_ (by first | (simp [size_ext, grow]; done) | (simp [size_ext, grow]; omega) | omega) _ _) | (refine Below.setCell ?_ (by first | (simp [size_ext, grow]; done) | (simp [size_ext, grow]; omega) | omega) _) | (refine Below.alloc ?_ (by first | (simp [size_ext, grow]; done) | (simp [size_ext, grow]; omega) | omega) _) | refine Below.drew ?_ | refine below_drewN ?_ _ | (refine Below.trans ?_ (Below.mono (by assumption) (by first | (simp [size_ext, grow]; done) | (simp [size_ext, grow]; omega) | omega))))))).pool) HPO4.out.c.inv HBD.out).mono ?_); rintro e w5 ⟨S4, rfl, hp, hi, ht, haf, hao, hl⟩; have HPO5 := Lib.hid ((HPO4.out.grow (by (repeat (first | exact Below.refl _ _ | exact Nat.le_refl _ | (refine below_ext ?_ (by first | (simp [size_ext, grow]; done) | (simp [size_ext, grow]; omega) | omega) _ _) | (refine Below.setCell ?_ (by first | (simp [size_ext, grow]; done) | (simp [size_ext, grow]; omega) | omega) _) | (refine Below.alloc ?_ (by first | (simp [size_ext, grow]; done) | (simp [size_ext, grow]; omega) | omega) _) | refine Below.drew ?_ | refine below_drewN ?_ _ | (refine Below.trans ?_ (Below.mono (by assumption) (by first | (simp [size_ext, grow]; done) | (simp [size_ext, grow]; omega) | omega))))))).turn2 ht hp hi haf hao); have HD4 := Lib.hid (show Held b s R S4 (fun i => fV b V (turnAt nn tt i)) (j + 1) from HD2.out.next (by rw [HX2.out]; exact hl)); have k0 := (HPO5.out.a.below.cell (p := ⟨w.heap.size, 0, none⟩) (lt_of_block HBX.out)).trans ((cell_of_row W1 _ 0 _ _ (0, 0) HBX.out).trans rfl); have k1 := ((HPO5.out.a.below.cell (p := ⟨ob, oo + g, none⟩) HOB.out.1).trans (HB1.out.cell (p := ⟨ob, oo + g, none⟩) HOB.out.2)).trans HG1.out; clear hp hi ht haf hao hl))
                all_goals
                  go_wp2_with fail
                  go_roundw
                  case rel => exact ⟨j + 1, S3, S4, by omega, by go_num, HPO5.out, HD3.out, HD4.out⟩
                  case measure => simp [intOf]; omega
            · obtain rfl : j = nn := by omega
              have HSAME := Lib.hid (held_same (HPO.out.a.inv.hb.trans HPO.out.c.inv.hb.symm) HD1.out HD2.out)
              go_wp2_with fail
              refine (takeU HPO.out.a.pool HPO.out.a.inv HBD.out (HT1.out.keep HPO.out.a.below)).mono ?_
              rintro e w4 ⟨S3, rfl, hp, hi, ht, haf, hao, hl⟩
              have HPO4 := Lib.hid (HPO.out.turn1 ht hp hi haf hao)
              have HL3 := Lib.hid hl
              clear hp hi ht haf hao hl e0 e1 e2 ez
              go_wp2_with fail
              refine (takeU HPO4.out.c.pool HPO4.out.c.inv HBD.out (HT1.out.keep HPO4.out.c.below)).mono ?_
              have HFW := Lib.hid (show lowO S2.fw = lowO S1.fw by rw [← HPO.out.a.inv.take HPO.out.a.pool.free.wide, ← HPO.out.c.inv.take HPO.out.c.pool.free.wide, HSAME.out])
              rintro e w5 ⟨S4, rfl, hp, hi, ht, haf, hao, hl⟩
              have HPO5 := Lib.hid (HPO4.out.turn2 ht hp hi haf hao)
              rw [HFW.out] at hl ⊢
              have HL4 := Lib.hid (show lsd S4 s = lsd S3 s by rw [hl, HL3.out, HSAME.out])
              have HLF := Lib.hid (show S4.left = S3.left by rw [HPO5.out.a.inv.free HRO.out, HPO5.out.c.inv.free HRO.out, HL4.out])
              obtain ⟨ra, hra⟩ : ∃ ra, rtA b (lowO S1.fw) = ra := ⟨_, rfl⟩
              obtain ⟨re, hre⟩ : ∃ re, rtE (lowO S1.fw) = re := ⟨_, rfl⟩
              rw [hra, hre]
              clear hp hi ht haf hao hl hra hre
              go_wp2_with fail
              refine (Leased_any p1 S3 _ HPO5.out.a.pool (HBD.out.sound HPO5.out.a.inv)).mono ?_
              rw [HPO5.out.a.inv.hs]
              rintro e w6 ⟨LA, lc, rfl, hb, hat, -, -⟩
              have HPO6 := Lib.hid (HPO5.out.grow hb)
              have HLA := Lib.hid hat
              clear hb hat
              go_wp2_with fail
              refine (Leased_any p2 S4 _ HPO6.out.c.pool (HBD.out.sound HPO6.out.c.inv)).mono ?_
              rw [HPO6.out.c.inv.hs, HL4.out]
              rintro e w7 ⟨LB, ld, rfl, hb, hat, -, -⟩
              have HPO7 := Lib.hid (HPO6.out.grow hb)
              have HLA7 := Lib.hid (HLA.out.keep hb)
              have HLB := Lib.hid hat
              have HSZ := Lib.hid hb.size
              have HLL := Lib.hid (lsd_len S3 s)
              clear hb hat
              go_wp2_with fail
              refine (Same_yes LA (lsd S3 s).length lc LB (lsd S3 s).length ld (lsd S3 s) _ w6.heap.size w7.heap.size HSZ.out (Nat.le_refl _) HLA7.out HLB.out rfl rfl (by have := HLL.out; omega)).mono ?_
              rintro e w8 ⟨rfl, q, rfl⟩
              go_wp2_with fail
              refine (Free_any p1 S3 _ (HPO7.out.a.pool.keep (by (repeat (first | exact Below.refl _ _ | exact Nat.le_refl _ | (refine below_ext ?_ (by first | (simp [size_ext, grow]; done) | (simp [size_ext, grow]; omega) | omega) _ _) | (refine Below.setCell ?_ (by first | (simp [size_ext, grow]; done) | (simp [size_ext, grow]; omega) | omega) _) | (refine Below.alloc ?_ (by first | (simp [size_ext, grow]; done) | (simp [size_ext, grow]; omega) | omega) _) | refine Below.drew ?_ | refine below_drewN ?_ _ | (refine Below.trans ?_ (Below.mono (by assumption) (by first | (simp [size_ext, grow]; done) | (simp [size_ext, grow]; omega) | omega)))))))).mono ?_
              rintro e w9 ⟨rfl, rfl⟩
              go_wp2_with fail
              refine (Free_any p2 S4 _ (HPO7.out.c.pool.keep (by (repeat (first | exact Below.refl _ _ | exact Nat.le_refl _ | (refine below_ext ?_ (by first | (simp [size_ext, grow]; done) | (simp [size_ext, grow]; omega) | omega) _ _) | (refine Below.setCell ?_ (by first | (simp [size_ext, grow]; done) | (simp [size_ext, grow]; omega) | omega) _) | (refine Below.alloc ?_ (by first | (simp [size_ext, grow]; done) | (simp [size_ext, grow]; omega) | omega) _) | refine Below.drew ?_ | refine below_drewN ?_ _ | (refine Below.trans ?_ (Below.mono (by assumption) (by first | (simp [size_ext, grow]; done) | (simp [size_ext, grow]; omega) | omega)))))))).mono ?_
              rw [HLF.out]
              rintro e w9 ⟨rfl, rfl⟩
              go_wp2_with fail
              go_ret
              exact ⟨by first | rfl | (simp; done), HB1.out.trans ((HPO7.out.a.below.trans (Below.mono (by (repeat (first | exact Below.refl _ _ | exact Nat.le_refl _ | (refine below_ext ?_ (by first | (simp [size_ext, grow]; done) | (simp [size_ext, grow]; omega) | omega) _ _) | (refine Below.setCell ?_ (by first | (simp [size_ext, grow]; done) | (simp [size_ext, grow]; omega) | omega) _) | (refine Below.alloc ?_ (by first | (simp [size_ext, grow]; done) | (simp [size_ext, grow]; omega) | omega) _) | refine Below.drew ?_ | refine below_drewN ?_ _ | (refine Below.trans ?_ (Below.mono (by assumption) (by first | (simp [size_ext, grow]; done) | (simp [size_ext, grow]; omega) | omega)))))) HPO7.out.a.below.size)).mono HAW.out)⟩
end Go.Proofs.YtoilghhclpgfaaaDoor
