/- PoolRuns: its walk. -/
import Derived.Test.YtoilghhclpgfaaaDoorP19
namespace Go.Proofs.YtoilghhclpgfaaaDoor
open Go.ChangeShapes Go.WideShapes Go.ChangeAt Go.RowKit Go.Joins Go.Deep
set_option linter.unusedSimpArgs false
set_option linter.unusedVariables false
set_option maxRecDepth 100000 in
set_option maxHeartbeats 8000000 in
theorem runs_any (b s0 : Int) (A : Option Addr) (n c : Nat) (R0 : List Int) (C : Option Addr) (nn cc : Nat) (OL : List Op1) (w : World) (hT : TabAt w) (hA : At w w.heap.size A (ints R0)) (hn : n = R0.length) (hc : n ≤ c) (hn2 : (n : Int) ≤ 9223372036854775807) (hO : OpsAt w w.heap.size C OL) (hon : nn = OL.length) (hon2 : (nn : Int) ≤ 9223372036854775807) :
    Calls Tryd.prog 7 #[rangeV b s0 A n c, .slice C nn cc] w fun e w' => e = .returned (.bool true) ∧ Below w.heap.size w w' := by
  have HA0 := Lib.hid (smR_at hA)
  have HN0 := Lib.hid (smN_len hn)
  have hn70 : smN n ≤ 70 := by unfold smN; split <;> omega
  have HO := Lib.hid hO
  have HON := Lib.hid hon
  have HT0 := Lib.hid hT
  obtain ⟨R, hR⟩ : ∃ R, smR R0 = R := ⟨_, rfl⟩
  obtain ⟨n', hn'⟩ : ∃ n', smN n = n' := ⟨_, rfl⟩
  obtain ⟨s1, hs1⟩ : ∃ s1, smS s0 = s1 := ⟨_, rfl⟩
  rw [hR, hn'] at HN0
  rw [hR] at HA0
  rw [hn'] at hn70
  have HEQ := Lib.hid (And.intro hn' hs1)
  have HS60 := Lib.hid (show rangeOk b s1 R = true → s1 ≤ 60 by
    intro h
    unfold rangeOk headOk at h
    simp only [Bool.and_eq_true, decide_eq_true_eq] at h
    rw [← hs1] at h ⊢
    unfold smS at h ⊢
    split <;> (try split at h) <;> omega)
  clear hA hn hO hon hR hn' hs1 hT
  unfold rangeV
  go_enter Tryd.func7, Tryd.ntmps7
  go_wp2_with fail
  refine (small_any b s0 A n c _ hc hn2).mono ?_
  rw [HEQ.out.1, HEQ.out.2]
  rintro e w1 ⟨rfl, hb⟩
  obtain ⟨xs, dr, rfl⟩ := ext_of hb
  clear hb
  unfold rangeV
  go_upto_region 2 with (fail)
  refine wp_world (fun W1 => Below w.heap.size w W1 ∧ W1.heap[w.heap.size]? = some (.cells #[.int .i64 b, .int .i64 s1, .slice A n' c] 24 (0, 0))) ⟨by (repeat (first | exact Below.refl _ _ | exact Nat.le_refl _ | (refine below_ext ?_ (by first | (simp [size_ext, grow]; done) | (simp [size_ext, grow]; omega) | omega) _ _) | (refine Below.setCell ?_ (by first | (simp [size_ext, grow]; done) | (simp [size_ext, grow]; omega) | omega) _) | (refine Below.alloc ?_ (by first | (simp [size_ext, grow]; done) | (simp [size_ext, grow]; omega) | omega) _) | refine Below.drew ?_ | refine below_drewN ?_ _ | (refine Below.trans ?_ (Below.mono (by assumption) (by first | (simp [size_ext, grow]; done) | (simp [size_ext, grow]; omega) | omega))))), by (repeat (first | ((refine heap_alloc_at _ _ _ ?_); (simp [go_sem]; done)) | ((refine (heap_ext _ _ _ _ ?_).trans ?_); (focus (simp [go_sem]; done))) | ((refine (heap_alloc_past _ _ _ ?_).trans ?_); (focus (simp [go_sem]; done)))))⟩ ?_
  intro W1 ⟨hb1, hbx⟩
  have HBX := Lib.hid hbx
  have HB1 := Lib.hid hb1
  have HT1 := Lib.hid (HT0.out.keep hb1)
  have HAR := Lib.hid (HA0.out.keep hb1)
  have HAW := Lib.hid (show w.heap.size ≤ W1.heap.size from hb1.size)
  have e0 : W1.cell? ⟨w.heap.size, 0, none⟩ = some (.int .i64 b) := (cell_of_row W1 _ 0 _ _ (0, 0) hbx).trans rfl
  have e1 : W1.cell? ⟨w.heap.size, 1, none⟩ = some (.int .i64 s1) := (cell_of_row W1 _ 1 _ _ (0, 0) hbx).trans rfl
  have e2 : W1.cell? ⟨w.heap.size, 2, none⟩ = some (.slice A n' c) := (cell_of_row W1 _ 2 _ _ (0, 0) hbx).trans rfl
  have ez : w.heap.size < W1.heap.size := lt_of_block hbx
  have hn9 : (n' : Int) ≤ 9223372036854775807 := by omega
  clear hb1 hbx
  cases hok : rangeOk b s1 R
  · have HOK := Lib.hid hok
    have HER := Lib.hid (show rangeErr b s1 R = 120 by unfold rangeErr; rw [hok]; rfl)
    clear hok
    go_wp2_with fail
    refine (new_any b s1 A n' c R _ (HAR.out.more HAW.out) HN0.out hn9).mono ?_
    rintro e w2 ⟨hb, ⟨_, rfl⟩ | ⟨hok, _⟩⟩
    · obtain ⟨xs2, dr2, rfl⟩ := ext_of hb
      clear hb
      go_wp2_with fail
      refine (is_any b s1 A n' c R _ (HAR.out.move (Below.mono (by (repeat (first | exact Below.refl _ _ | exact Nat.le_refl _ | (refine below_ext ?_ (by first | (simp [size_ext, grow]; done) | (simp [size_ext, grow]; omega) | omega) _ _) | (refine Below.setCell ?_ (by first | (simp [size_ext, grow]; done) | (simp [size_ext, grow]; omega) | omega) _) | (refine Below.alloc ?_ (by first | (simp [size_ext, grow]; done) | (simp [size_ext, grow]; omega) | omega) _) | refine Below.drew ?_ | refine below_drewN ?_ _ | (refine Below.trans ?_ (Below.mono (by assumption) (by first | (simp [size_ext, grow]; done) | (simp [size_ext, grow]; omega) | omega)))))) HAW.out) (by have := HAW.out; simp [size_ext, grow]; omega)) HN0.out hn9).mono ?_
      rw [HOK.out]
      rintro e w3 ⟨rfl, hb⟩
      obtain ⟨xs3, dr3, rfl⟩ := ext_of hb
      clear hb
      go_wp2_with fail
      refine (check_any b s1 A n' c R _ (HAR.out.move (Below.mono (by (repeat (first | exact Below.refl _ _ | exact Nat.le_refl _ | (refine below_ext ?_ (by first | (simp [size_ext, grow]; done) | (simp [size_ext, grow]; omega) | omega) _ _) | (refine Below.setCell ?_ (by first | (simp [size_ext, grow]; done) | (simp [size_ext, grow]; omega) | omega) _) | (refine Below.alloc ?_ (by first | (simp [size_ext, grow]; done) | (simp [size_ext, grow]; omega) | omega) _) | refine Below.drew ?_ | refine below_drewN ?_ _ | (refine Below.trans ?_ (Below.mono (by assumption) (by first | (simp [size_ext, grow]; done) | (simp [size_ext, grow]; omega) | omega)))))) HAW.out) (by have := HAW.out; simp [size_ext, grow]; omega)) HN0.out hn9).mono ?_
      rw [HER.out]
      rintro e w4 ⟨rfl, hb⟩
      obtain ⟨xs4, dr4, rfl⟩ := ext_of hb
      clear hb
      go_wp2_with fail
      refine (awake_any _ (HT1.out.keep (by (repeat (first | exact Below.refl _ _ | exact Nat.le_refl _ | (refine below_ext ?_ (by first | (simp [size_ext, grow]; done) | (simp [size_ext, grow]; omega) | omega) _ _) | (refine Below.setCell ?_ (by first | (simp [size_ext, grow]; done) | (simp [size_ext, grow]; omega) | omega) _) | (refine Below.alloc ?_ (by first | (simp [size_ext, grow]; done) | (simp [size_ext, grow]; omega) | omega) _) | refine Below.drew ?_ | refine below_drewN ?_ _ | (refine Below.trans ?_ (Below.mono (by assumption) (by first | (simp [size_ext, grow]; done) | (simp [size_ext, grow]; omega) | omega)))))))).mono ?_
      rintro e w5 ⟨rfl, hb⟩
      obtain ⟨xs5, dr5, rfl⟩ := ext_of hb
      clear hb
      go_wp2_with fail
      go_ret
      exact ⟨rfl, HB1.out.trans (Below.mono (by (repeat (first | exact Below.refl _ _ | exact Nat.le_refl _ | (refine below_ext ?_ (by first | (simp [size_ext, grow]; done) | (simp [size_ext, grow]; omega) | omega) _ _) | (refine Below.setCell ?_ (by first | (simp [size_ext, grow]; done) | (simp [size_ext, grow]; omega) | omega) _) | (refine Below.alloc ?_ (by first | (simp [size_ext, grow]; done) | (simp [size_ext, grow]; omega) | omega) _) | refine Below.drew ?_ | refine below_drewN ?_ _ | (refine Below.trans ?_ (Below.mono (by assumption) (by first | (simp [size_ext, grow]; done) | (simp [size_ext, grow]; omega) | omega)))))) HAW.out)⟩
    · rw [HOK.out] at hok; cases hok
  · have HOK := Lib.hid hok
    have HER := Lib.hid (show rangeErr b s1 R = 0 by unfold rangeErr; rw [hok]; rfl)
    obtain ⟨s, rfl, hbd, hs60, hro⟩ := Bd.of hok (HS60.out hok)
    have HBD := Lib.hid hbd
    have HRO := Lib.hid hro
    have HNR := Lib.hid HN0.out
    clear hok hbd hro
    go_wp2_with fail
    refine (new_any b (s : Int) A n' c R _ (HAR.out.more HAW.out) HN0.out hn9).mono ?_
    rintro e w2 ⟨hb, ⟨hno, _⟩ | ⟨_, p, S, rfl, hp, haf, hao, hpa, hfr, hlt1, hlt2⟩⟩
    · rw [HOK.out] at hno; cases hno
    · rw [Int.toNat_natCast] at hfr
      have HINV := Lib.hid (Inv.fresh hfr HRO.out)
      have HLF := Lib.hid (lsd_fresh hfr)
      have HPA := Lib.hid hpa
      have HPL := Lib.hid (And.intro hp (And.intro haf (And.intro hao (And.intro hlt1 hlt2))))
      have HB2 := Lib.hid hb
      have hszb := hb.size
      have e0' := (hb.cell (p := ⟨w.heap.size, 0, none⟩) ez).trans e0
      have e1' := (hb.cell (p := ⟨w.heap.size, 1, none⟩) ez).trans e1
      have e2' := (hb.cell (p := ⟨w.heap.size, 2, none⟩) ez).trans e2
      have ez' : w.heap.size < w2.heap.size := by omega
      clear hb hpa hfr hp haf hao hlt1 hlt2 e0 e1 e2 ez
      go_wp2_with fail
      refine (is_any b (s : Int) A n' c R _ (HAR.out.move (HB2.out.mono HAW.out) (by have := HAW.out; omega)) HN0.out hn9).mono ?_
      rw [HOK.out]
      rintro e w3 ⟨rfl, hb⟩
      obtain ⟨xs3, dr3, rfl⟩ := ext_of hb
      clear hb
      go_wp2_with fail
      refine (check_any b (s : Int) A n' c R _ (HAR.out.move ((HB2.out.trans (Below.mono (by (repeat (first | exact Below.refl _ _ | exact Nat.le_refl _ | (refine below_ext ?_ (by first | (simp [size_ext, grow]; done) | (simp [size_ext, grow]; omega) | omega) _ _) | (refine Below.setCell ?_ (by first | (simp [size_ext, grow]; done) | (simp [size_ext, grow]; omega) | omega) _) | (refine Below.alloc ?_ (by first | (simp [size_ext, grow]; done) | (simp [size_ext, grow]; omega) | omega) _) | refine Below.drew ?_ | refine below_drewN ?_ _ | (refine Below.trans ?_ (Below.mono (by assumption) (by first | (simp [size_ext, grow]; done) | (simp [size_ext, grow]; omega) | omega)))))) hszb)).mono HAW.out) (by have := HAW.out; simp [size_ext, grow]; omega)) HN0.out hn9).mono ?_
      rw [HER.out]
      rintro e w4 ⟨rfl, hb⟩
      obtain ⟨xs4, dr4, rfl⟩ := ext_of hb
      clear hb
      go_wp2_with fail
      refine (awake_any _ ((HT1.out.keep HB2.out).keep (by (repeat (first | exact Below.refl _ _ | exact Nat.le_refl _ | (refine below_ext ?_ (by first | (simp [size_ext, grow]; done) | (simp [size_ext, grow]; omega) | omega) _ _) | (refine Below.setCell ?_ (by first | (simp [size_ext, grow]; done) | (simp [size_ext, grow]; omega) | omega) _) | (refine Below.alloc ?_ (by first | (simp [size_ext, grow]; done) | (simp [size_ext, grow]; omega) | omega) _) | refine Below.drew ?_ | refine below_drewN ?_ _ | (refine Below.trans ?_ (Below.mono (by assumption) (by first | (simp [size_ext, grow]; done) | (simp [size_ext, grow]; omega) | omega)))))))).mono ?_
      rintro e w5 ⟨rfl, hb⟩
      obtain ⟨xs5, dr5, rfl⟩ := ext_of hb
      clear hb
      go_upto_region 9 with (fail)
      obtain ⟨YB, hYB⟩ : ∃ YB, grow (grow (grow w2.heap.size xs3) xs4) xs5 = YB := ⟨_, rfl⟩
      have hYB2 : w2.heap.size ≤ YB := by rw [← hYB]; simp only [grow]; omega
      rw [hYB]
      have HY := Lib.hid hYB
      refine wp_world (fun W5 => PW W1 YB p S b s R A n' c none 0 0 (lsd S s) 0 W5) ?_ ?_
      · rw [HLF.out]
        have hpz := lt_of_block HPA.out.st
        have h1 := HPL.out
        have hbe : Below w2.heap.size w2 ((ext (ext (ext w2 xs3 dr3) xs4 dr4) xs5 dr5).alloc (.cells #[.int .i64 b, .int .i64 (s : Int), .slice A n' c, .slice none 0 0] 49)) := by (repeat (first | exact Below.refl _ _ | exact Nat.le_refl _ | (refine below_ext ?_ (by first | (simp [size_ext, grow]; done) | (simp [size_ext, grow]; omega) | omega) _ _) | (refine Below.setCell ?_ (by first | (simp [size_ext, grow]; done) | (simp [size_ext, grow]; omega) | omega) _) | (refine Below.alloc ?_ (by first | (simp [size_ext, grow]; done) | (simp [size_ext, grow]; omega) | omega) _) | refine Below.drew ?_ | refine below_drewN ?_ _ | (refine Below.trans ?_ (Below.mono (by assumption) (by first | (simp [size_ext, grow]; done) | (simp [size_ext, grow]; omega) | omega)))))
        exact { pool := HPA.out.keep hbe, inv := HINV.out, below := HB2.out.trans (hbe.mono hszb), y := (by unfold rowP; rw [← HY.out]; (repeat (first | ((refine heap_alloc_at _ _ _ ?_); (simp [go_sem]; done)) | ((refine (heap_ext _ _ _ _ ?_).trans ?_); (focus (simp [go_sem]; done))) | ((refine (heap_alloc_past _ _ _ ?_).trans ?_); (focus (simp [go_sem]; done)))))), atL := .inl rfl, hm := rfl, hB1 := Nat.zero_le _, far := (fun a ha => by cases ha), pY := by omega, aY := by omega, oY := by omega, hp := by omega, ha := by omega, hY := by omega, oz := (by have := hbe.size; omega), az := (by have := hbe.size; omega), op := by omega }
      intro W5 hpw5
      have HPW0 := Lib.hid hpw5
      clear hpw5 e0' e1' e2' ez' hYB HY HPA HPL HINV HLF HB2 hszb hYB2
      go_wp2_with fail
      go_loopw [9, 5] (fun i pv wr => ∃ (j p m d B1 : Nat) (S : PoolS) (B : Option Addr), j ≤ nn ∧ j ≤ 60 ∧ i = .int .i64 j ∧ pv = .pointer (some ⟨p, 0, none⟩) ∧ PW W1 YB p S b s R A n' c B m d (lsd S s) B1 wr) (fun i _ _ => nn - (intOf i).toNat)
      case atStart => exact ⟨0, p, 0, 0, 0, S, none, Nat.zero_le _, by omega, rfl, rfl, HPW0.out⟩
      case round =>
        clear HPW0
        obtain ⟨j, p, m, d, B1, S, B, hj, hj2, rfl, rfl, hpw⟩ := hrel
        have HPW := Lib.hid hpw
        have hsz := hpw.below.size
        clear hpw
        by_cases hlt : j < nn
        · by_cases h60 : j < 60
          · obtain ⟨ob, oo, rfl, hob, hop⟩ := HO.out.get (k := j) (by rw [← HON.out]; exact hlt)
            obtain ⟨x, hx⟩ : ∃ x, OL[j]'(by rw [← HON.out]; exact hlt) = x := ⟨_, rfl⟩
            rw [hx] at hop
            have HOP := Lib.hid hop
            have hobW : ob < W1.heap.size := by have := HAW.out; omega
            have hob0 : ∀ q, W1.cell? ⟨ob, q, none⟩ = w.cell? ⟨ob, q, none⟩ := fun q => HB1.out.cell (p := ⟨ob, q, none⟩) hob
            have g0 := ((HPW.out.below.cell (p := ⟨ob, oo + j * 3, none⟩) hobW).trans (hob0 _)).trans hop.d
            have g1 := ((HPW.out.below.cell (p := ⟨ob, oo + j * 3 + 1, none⟩) hobW).trans (hob0 _)).trans hop.a
            have g2 := ((HPW.out.below.cell (p := ⟨ob, oo + j * 3 + 2, none⟩) hobW).trans (hob0 _)).trans hop.i
            have HX := Lib.hid (show ∀ wz, Below W1.heap.size W1 wz → wz.cell? ⟨ob, oo + j * 3, none⟩ = some (.int .u8 (x.d : Int)) from fun wz hz => ((hz.cell (p := ⟨ob, oo + j * 3, none⟩) hobW).trans (hob0 _)).trans hop.d)
            have hbz := hobW
            have hob9 : ob < wr.heap.size := by omega
            have hd9 := hop.d1
            have hat2 : atOf b x ≤ 9223372036854775807 := by have h1 := hop.a1; have h2 := HBD.out.b2; unfold atOf; split <;> omega
            have jj0 : (0 : Int) ≤ (j : Int) := by omega
            have jj1 : (j : Int) < (nn : Int) := by omega
            have e0 := (HPW.out.below.cell (p := ⟨w.heap.size, 0, none⟩) (lt_of_block HBX.out)).trans ((cell_of_row W1 _ 0 _ _ (0, 0) HBX.out).trans rfl)
            have e1 := (HPW.out.below.cell (p := ⟨w.heap.size, 1, none⟩) (lt_of_block HBX.out)).trans ((cell_of_row W1 _ 1 _ _ (0, 0) HBX.out).trans rfl)
            have e2 := (HPW.out.below.cell (p := ⟨w.heap.size, 2, none⟩) (lt_of_block HBX.out)).trans ((cell_of_row W1 _ 2 _ _ (0, 0) HBX.out).trans rfl)
            have ez : w.heap.size < wr.heap.size := by have := lt_of_block HBX.out; omega
            clear hop hob0 hx
            go_upto_region 12 with (fail)
            go_cut [10] (fun s10 wx => ∃ w3 : World, w3 = wx ∧ s10 = .int .i64 (atOf b x) ∧ PW W1 YB p S b s R A n' c B m d (lsd S s) B1 w3)
            case first =>
              go_region_held3 (fun w' => w'.cell? ⟨w.heap.size, 0, none⟩ = some (.int .i64 b) ∧ w'.cell? ⟨w.heap.size, 1, none⟩ = some (.int .i64 (s : Int)) ∧ w'.cell? ⟨w.heap.size, 2, none⟩ = some (.slice A n' c) ∧ w'.cell? ⟨ob, oo + j * 3, none⟩ = some (.int .u8 (x.d : Int)) ∧ w'.cell? ⟨ob, oo + j * 3 + 1, none⟩ = some (.int .i64 x.a) ∧ w'.cell? ⟨ob, oo + j * 3 + 2, none⟩ = some (.bool x.i)) (first | (go_keep; done) | (go_simp; done) | (simp [go_sem]; done)) ((go_at_call 16; refine (at_any b (s : Int) A n' c x _ HBD.out.b1 HBD.out.b2).mono ?_; rintro e w6 ⟨rfl, hb⟩; obtain ⟨xsa, dra, rfl⟩ := ext_of hb; clear hb))
              all_goals
                go_wp2_with fail
                go_meet
                exact ⟨_, rfl, rfl, HPW.out.grow (by (repeat (first | exact Below.refl _ _ | exact Nat.le_refl _ | (refine below_ext ?_ (by first | (simp [size_ext, grow]; done) | (simp [size_ext, grow]; omega) | omega) _ _) | (refine Below.setCell ?_ (by first | (simp [size_ext, grow]; done) | (simp [size_ext, grow]; omega) | omega) _) | (refine Below.alloc ?_ (by first | (simp [size_ext, grow]; done) | (simp [size_ext, grow]; omega) | omega) _) | refine Below.drew ?_ | refine below_drewN ?_ _ | (refine Below.trans ?_ (Below.mono (by assumption) (by first | (simp [size_ext, grow]; done) | (simp [size_ext, grow]; omega) | omega))))))⟩
            case rest =>
              obtain ⟨w3, hw3, rfl, hpw3⟩ := hcut
              rw [← hw3]
              have HPW3 := Lib.hid hpw3
              have G0 := HX.out w3 hpw3.below
              have hob3 : ob < w3.heap.size := by have := hpw3.below.size; omega
              obtain ⟨q, hq⟩ : ∃ q : Nat, (x.d : Int) % 4 = (q : Int) := ⟨x.d % 4, by omega⟩
              have q4 : q < 4 := by omega
              clear hpw3 hw3 HPW hsz g0 g1 g2 hob9 e0 e1 e2 ez
              have hq4 : (x.d : Int) % 4 = 0 ∨ (x.d : Int) % 4 = 1 ∨ (x.d : Int) % 4 = 2 ∨ (x.d : Int) % 4 = 3 := by omega
              clear hq q4 q
              rcases hq4 with hq | hq | hq | hq
              · go_upto_region 20 with (fail)
                go_wp2_with fail
                refine (takeU HPW3.out.pool HPW3.out.inv HBD.out (HT1.out.keep HPW3.out.below)).mono ?_
                rintro e w4 ⟨S2, rfl, hp, hi, ht, haf, hao, hl⟩
                have HPW4 := Lib.hid (HPW3.out.turn ht hp hi haf hao)
                have HTK := Lib.hid (HPW3.out.inv.take HPW3.out.pool.free.wide)
                have HLL := Lib.hid hl
                clear hp hi ht haf hao hl
                have y0 : w4.cell? ⟨YB, 0, none⟩ = some (.int .i64 b) := (cell_of_row w4 _ 0 _ _ (0, 0) HPW4.out.y).trans rfl
                have y1 : w4.cell? ⟨YB, 1, none⟩ = some (.int .i64 (s : Int)) := (cell_of_row w4 _ 1 _ _ (0, 0) HPW4.out.y).trans rfl
                have y2 : w4.cell? ⟨YB, 2, none⟩ = some (.slice A n' c) := (cell_of_row w4 _ 2 _ _ (0, 0) HPW4.out.y).trans rfl
                have y3 : w4.cell? ⟨YB, 3, none⟩ = some (.slice B m d) := (cell_of_row w4 _ 3 _ _ (0, 0) HPW4.out.y).trans rfl
                have yz : YB < w4.heap.size := lt_of_block HPW4.out.y
                go_wp2_with fail
                refine (Take_ref b s A n' c B m d R (lsd S s) _ w4.heap.size (Nat.le_refl _) ⟨(HAR.out.keep (HPW4.out.below.mono HAW.out)).more (by have := HPW4.out.below.size; have := HAW.out; omega), HNR.out, by omega, HPW4.out.atL.more HPW4.out.hB1, HPW4.out.hm, by (have h1 := HPW4.out.hm; have h2 := lsd_len S s; omega), HBD.out.b1, HBD.out.b2⟩ HBD.out.s).mono ?_
                rw [HTK.out]
                rintro e w5 hR
                unfold RTakeP at hR
                rw [← HLL.out] at hR
                obtain ⟨B', d', rfl, hb, hat, hlo⟩ := hR
                replace hlo : (B' = B ∧ lsd S2 s = lsd S s) ∨ ∀ a, B' = some a → w4.heap.size ≤ a.block := hlo.imp (fun h => ⟨h.1, by rw [HLL.out, h.2]; rfl⟩) id
                obtain ⟨xs5, dr5, rfl⟩ := ext_of hb
                clear hb
                unfold rpV
                go_upto_region 22 with (fail)
                refine wp_world (fun W8 => Below w4.heap.size w4 W8 ∧ W8.heap[grow w4.heap.size xs5]? = some (.cells (rowP b s A n' c B' (lsd S2 s).length d') 49 (0, 0)) ∧ At W8 (grow w4.heap.size xs5) B' (ints (lsd S2 s)) ∧ grow w4.heap.size xs5 < W8.heap.size) ⟨by (repeat (first | exact Below.refl _ _ | exact Nat.le_refl _ | (refine below_ext ?_ (by first | (simp [size_ext, grow]; done) | (simp [size_ext, grow]; omega) | omega) _ _) | (refine Below.setCell ?_ (by first | (simp [size_ext, grow]; done) | (simp [size_ext, grow]; omega) | omega) _) | (refine Below.alloc ?_ (by first | (simp [size_ext, grow]; done) | (simp [size_ext, grow]; omega) | omega) _) | refine Below.drew ?_ | refine below_drewN ?_ _ | (refine Below.trans ?_ (Below.mono (by assumption) (by first | (simp [size_ext, grow]; done) | (simp [size_ext, grow]; omega) | omega))))), (by unfold rowP; (repeat (first | ((refine heap_alloc_at _ _ _ ?_); (simp [go_sem]; done)) | ((refine (heap_ext _ _ _ _ ?_).trans ?_); (focus (simp [go_sem]; done))) | ((refine (heap_alloc_past _ _ _ ?_).trans ?_); (focus (simp [go_sem]; done)))))), ((hat.keep (by (repeat (first | exact Below.refl _ _ | exact Nat.le_refl _ | (refine below_ext ?_ (by first | (simp [size_ext, grow]; done) | (simp [size_ext, grow]; omega) | omega) _ _) | (refine Below.setCell ?_ (by first | (simp [size_ext, grow]; done) | (simp [size_ext, grow]; omega) | omega) _) | (refine Below.alloc ?_ (by first | (simp [size_ext, grow]; done) | (simp [size_ext, grow]; omega) | omega) _) | refine Below.drew ?_ | refine below_drewN ?_ _ | (refine Below.trans ?_ (Below.mono (by assumption) (by first | (simp [size_ext, grow]; done) | (simp [size_ext, grow]; omega) | omega))))))).more (by simp [size_ext])), (by simp [size_ext, grow]; done)⟩ ?_
                intro W8 ⟨hb8, hr8, hat8, hz8⟩
                obtain ⟨PB, hPBe⟩ : ∃ PB, grow w4.heap.size xs5 = PB := ⟨_, rfl⟩
                rw [hPBe] at hr8 hat8 hz8 ⊢
                have HPB := Lib.hid (show w4.heap.size ≤ PB by rw [← hPBe]; simp only [grow]; omega)
                have HPW8 := Lib.hid (HPW4.out.grow hb8)
                have HAT8 := Lib.hid hat8
                have HFAR := Lib.hid hlo
                have HB8 := Lib.hid hb8
                have x0 : W8.cell? ⟨PB, 0, none⟩ = some (.int .i64 b) := (cell_of_row W8 _ 0 _ _ (0, 0) hr8).trans rfl
                have x1 : W8.cell? ⟨PB, 1, none⟩ = some (.int .i64 (s : Int)) := (cell_of_row W8 _ 1 _ _ (0, 0) hr8).trans rfl
                have x2 : W8.cell? ⟨PB, 2, none⟩ = some (.slice A n' c) := (cell_of_row W8 _ 2 _ _ (0, 0) hr8).trans rfl
                have x3 : W8.cell? ⟨PB, 3, none⟩ = some (.slice B' (lsd S2 s).length d') := (cell_of_row W8 _ 3 _ _ (0, 0) hr8).trans rfl
                clear y0 y1 y2 y3 yz hat hlo hPBe hb8 hr8 hat8
                have y0 : W8.cell? ⟨YB, 0, none⟩ = some (.int .i64 b) := (cell_of_row W8 _ 0 _ _ (0, 0) HPW8.out.y).trans rfl
                have y1 : W8.cell? ⟨YB, 1, none⟩ = some (.int .i64 (s : Int)) := (cell_of_row W8 _ 1 _ _ (0, 0) HPW8.out.y).trans rfl
                have y2 : W8.cell? ⟨YB, 2, none⟩ = some (.slice A n' c) := (cell_of_row W8 _ 2 _ _ (0, 0) HPW8.out.y).trans rfl
                have y3 : W8.cell? ⟨YB, 3, none⟩ = some (.slice B m d) := (cell_of_row W8 _ 3 _ _ (0, 0) HPW8.out.y).trans rfl
                have yz : YB < W8.heap.size := lt_of_block HPW8.out.y
                have fy0 : W8.frozen? ⟨YB, 0, none⟩ = false := frozen_of_row W8 _ 0 _ 49 HPW8.out.y
                have fy1 : W8.frozen? ⟨YB, 1, none⟩ = false := frozen_of_row W8 _ 1 _ 49 HPW8.out.y
                have fy2 : W8.frozen? ⟨YB, 2, none⟩ = false := frozen_of_row W8 _ 2 _ 49 HPW8.out.y
                have fy3 : W8.frozen? ⟨YB, 3, none⟩ = false := frozen_of_row W8 _ 3 _ 49 HPW8.out.y
                go_upto_region 23 with (fail)
                refine wp_world (fun W9 => ∃ B2, PW W1 YB p S2 b s R A n' c B' (lsd S2 s).length d' (lsd S2 s) B2 W9) ?_ ?_
                · rcases HFAR.out with ⟨rfl, he⟩ | h
                  · exact ⟨B1, HPW8.out.put (by rw [he]; exact HPW8.out.atL) HPW8.out.hB1 HPW8.out.far⟩
                  · exact ⟨PB, HPW8.out.put HAT8.out (by omega) (fun a ha hl => by have h1 := h a ha; have h2 := HPW4.out.pz; have h3 := HPW4.out.az; have h4 := HPW4.out.yz; exact ⟨by omega, by omega, by omega⟩)⟩
                intro W9 ⟨B2, hpw9⟩
                have HPW := Lib.hid hpw9
                clear hpw9 y0 y1 y2 y3 yz fy0 fy1 fy2 fy3 x0 x1 x2 x3 HPW8 HAT8 HFAR HB8 hz8 HPB
                -- what is told of both is the same
                go_upto_region 37 with (fail)
                have HNL := Lib.hid (show (lsd S2 s).length = (lsd S2 s).length from HPW.out.hm)
                have HFR := Lib.hid (show S2.left = (s : Int) - (n' : Int) - ((lsd S2 s).length : Int) by rw [HPW.out.inv.free HRO.out, HNR.out, HPW.out.hm])
                have HHB := Lib.hid (HPW.out.inv.has (atOf b x))
                have hml : (lsd S2 s).length ≤ 60 := by have h1 := HNL.out; have h2 := lsd_len S2 s; omega
                have hnl : n' ≤ 70 := hn70
                have y0 : W9.cell? ⟨YB, 0, none⟩ = some (.int .i64 b) := (cell_of_row W9 _ 0 _ _ (0, 0) HPW.out.y).trans rfl
                have y1 : W9.cell? ⟨YB, 1, none⟩ = some (.int .i64 (s : Int)) := (cell_of_row W9 _ 1 _ _ (0, 0) HPW.out.y).trans rfl
                have y2 : W9.cell? ⟨YB, 2, none⟩ = some (.slice A n' c) := (cell_of_row W9 _ 2 _ _ (0, 0) HPW.out.y).trans rfl
                have y3 : W9.cell? ⟨YB, 3, none⟩ = some (.slice B' (lsd S2 s).length d') := (cell_of_row W9 _ 3 _ _ (0, 0) HPW.out.y).trans rfl
                have yz : YB < W9.heap.size := lt_of_block HPW.out.y
                obtain ⟨hb, hhb⟩ : ∃ hb, rhasB b (s : Int) R (atOf b x) = hb := ⟨_, rfl⟩
                have HHV := Lib.hid hhb
                clear hhb
                have HAR2 := Lib.hid (show Args W9 W9.heap.size b A n' B' (lsd S2 s).length R (lsd S2 s) from ⟨(HAR.out.keep (HPW.out.below.mono HAW.out)).more (by have := HPW.out.below.size; have := HAW.out; omega), HNR.out, by omega, HPW.out.atL.more HPW.out.hB1, HPW.out.hm, by omega, HBD.out.b1, HBD.out.b2⟩)
                go_region_held3 (fun w' => w'.cell? ⟨YB, 0, none⟩ = some (.int .i64 b) ∧ w'.cell? ⟨YB, 1, none⟩ = some (.int .i64 (s : Int)) ∧ w'.cell? ⟨YB, 2, none⟩ = some (.slice A n' c) ∧ w'.cell? ⟨YB, 3, none⟩ = some (.slice B' (lsd S2 s).length d')) (first | (go_keep; done) | (go_simp; done) | (simp [go_sem]; done)) ((first | (go_at_call 18; go_must (refine (Leased_any p S2 _ (by exact HPW.out.pool.keep (by (repeat (first | exact Below.refl _ _ | exact Nat.le_refl _ | (refine below_ext ?_ (by first | (simp [size_ext, grow]; done) | (simp [size_ext, grow]; omega) | omega) _ _) | (refine Below.setCell ?_ (by first | (simp [size_ext, grow]; done) | (simp [size_ext, grow]; omega) | omega) _) | (refine Below.alloc ?_ (by first | (simp [size_ext, grow]; done) | (simp [size_ext, grow]; omega) | omega) _) | refine Below.drew ?_ | refine below_drewN ?_ _ | (refine Below.trans ?_ (Below.mono (by assumption) (by first | (simp [size_ext, grow]; done) | (simp [size_ext, grow]; omega) | omega))))))) (HBD.out.sound HPW.out.inv)).mono ?_); rw [HPW.out.inv.hs]; rintro e wl ⟨LA, lc, rfl, hb, hat, -, -⟩; obtain ⟨BL, hBL⟩ : ∃ BL, wl.heap.size = BL := ⟨_, rfl⟩; rw [hBL] at hat; have HLA := Lib.hid hat; have HBL := Lib.hid hBL; clear hat hBL; obtain ⟨xsl, drl, rfl⟩ := ext_of hb; clear hb) | (go_at_call 21; go_must (refine (Same_yes LA _ lc B' (lsd S2 s).length d' (lsd S2 s) _ BL W9.heap.size ?_ ?_ (by exact HLA.out.keep (Below.mono (by (repeat (first | exact Below.refl _ _ | exact Nat.le_refl _ | (refine below_ext ?_ (by first | (simp [size_ext, grow]; done) | (simp [size_ext, grow]; omega) | omega) _ _) | (refine Below.setCell ?_ (by first | (simp [size_ext, grow]; done) | (simp [size_ext, grow]; omega) | omega) _) | (refine Below.alloc ?_ (by first | (simp [size_ext, grow]; done) | (simp [size_ext, grow]; omega) | omega) _) | refine Below.drew ?_ | refine below_drewN ?_ _ | (refine Below.trans ?_ (Below.mono (by assumption) (by first | (simp [size_ext, grow]; done) | (simp [size_ext, grow]; omega) | omega)))))) (Nat.le_of_eq HBL.out.symm))) (by exact HAR2.out.atL.keep (by (repeat (first | exact Below.refl _ _ | exact Nat.le_refl _ | (refine below_ext ?_ (by first | (simp [size_ext, grow]; done) | (simp [size_ext, grow]; omega) | omega) _ _) | (refine Below.setCell ?_ (by first | (simp [size_ext, grow]; done) | (simp [size_ext, grow]; omega) | omega) _) | (refine Below.alloc ?_ (by first | (simp [size_ext, grow]; done) | (simp [size_ext, grow]; omega) | omega) _) | refine Below.drew ?_ | refine below_drewN ?_ _ | (refine Below.trans ?_ (Below.mono (by assumption) (by first | (simp [size_ext, grow]; done) | (simp [size_ext, grow]; omega) | omega))))))) rfl (by first | rfl | exact HNL.out) (by have := lsd_len S2 s; omega)).mono ?_); (refine Nat.le_trans (Nat.le_of_eq HBL.out.symm) ?_; first | exact Nat.le_refl _ | (simp [size_ext, grow]; done)); exact Nat.le_trans (Nat.le_add_right _ _) (Nat.le_of_eq (size_ext _ _ _).symm); rintro e ws ⟨rfl, q, rfl⟩) | (go_at_call 20; go_must (refine (Free_any p S2 _ (by exact HPW.out.pool.keep (by (repeat (first | exact Below.refl _ _ | exact Nat.le_refl _ | (refine below_ext ?_ (by first | (simp [size_ext, grow]; done) | (simp [size_ext, grow]; omega) | omega) _ _) | (refine Below.setCell ?_ (by first | (simp [size_ext, grow]; done) | (simp [size_ext, grow]; omega) | omega) _) | (refine Below.alloc ?_ (by first | (simp [size_ext, grow]; done) | (simp [size_ext, grow]; omega) | omega) _) | refine Below.drew ?_ | refine below_drewN ?_ _ | (refine Below.trans ?_ (Below.mono (by assumption) (by first | (simp [size_ext, grow]; done) | (simp [size_ext, grow]; omega) | omega)))))))).mono ?_); rw [HFR.out]; rintro e ws ⟨rfl, rfl⟩) | (go_at_call 26; go_must (refine (Free_ref b (s : Int) A n' c B' (lsd S2 s).length d' _ (by omega) (by omega) (by omega) (by omega)).mono ?_); rintro e w6 ⟨rfl, hb⟩; obtain ⟨xsf, drf, rfl⟩ := ext_of hb; clear hb) | (go_at_call 19; go_must (refine (Has_any p S2 (atOf b x) _ (by exact HPW.out.pool.keep (by (repeat (first | exact Below.refl _ _ | exact Nat.le_refl _ | (refine below_ext ?_ (by first | (simp [size_ext, grow]; done) | (simp [size_ext, grow]; omega) | omega) _ _) | (refine Below.setCell ?_ (by first | (simp [size_ext, grow]; done) | (simp [size_ext, grow]; omega) | omega) _) | (refine Below.alloc ?_ (by first | (simp [size_ext, grow]; done) | (simp [size_ext, grow]; omega) | omega) _) | refine Below.drew ?_ | refine below_drewN ?_ _ | (refine Below.trans ?_ (Below.mono (by assumption) (by first | (simp [size_ext, grow]; done) | (simp [size_ext, grow]; omega) | omega))))))) (HBD.out.sound HPW.out.inv)).mono ?_); rw [HHB.out, HHV.out]; rintro e w6 ⟨rfl, q, rfl⟩) | (go_at_call 27; go_must (refine (Has_ref b (s : Int) A n' c B' (lsd S2 s).length d' R (lsd S2 s) (atOf b x) _ W9.heap.size ?_ (by exact HAR2.out.keep (by (repeat (first | exact Below.refl _ _ | exact Nat.le_refl _ | (refine below_ext ?_ (by first | (simp [size_ext, grow]; done) | (simp [size_ext, grow]; omega) | omega) _ _) | (refine Below.setCell ?_ (by first | (simp [size_ext, grow]; done) | (simp [size_ext, grow]; omega) | omega) _) | (refine Below.alloc ?_ (by first | (simp [size_ext, grow]; done) | (simp [size_ext, grow]; omega) | omega) _) | refine Below.drew ?_ | refine below_drewN ?_ _ | (refine Below.trans ?_ (Below.mono (by assumption) (by first | (simp [size_ext, grow]; done) | (simp [size_ext, grow]; omega) | omega))))))) hat2).mono ?_); (first | omega | (simp [size_ext, grow]; done) | (simp [size_ext, grow]; omega)); rw [HHV.out]; rintro e w6 ⟨rfl, hb⟩; obtain ⟨xsh, drh, rfl⟩ := ext_of hb; clear hb)))
                all_goals
                  go_wp2_with fail
                  go_roundw
                  case rel => exact ⟨j + 1, p, (lsd S2 s).length, d', B2, S2, B', by omega, by omega, by go_num, rfl, HPW.out.grow (by (repeat (first | exact Below.refl _ _ | exact Nat.le_refl _ | (refine below_ext ?_ (by first | (simp [size_ext, grow]; done) | (simp [size_ext, grow]; omega) | omega) _ _) | (refine Below.setCell ?_ (by first | (simp [size_ext, grow]; done) | (simp [size_ext, grow]; omega) | omega) _) | (refine Below.alloc ?_ (by first | (simp [size_ext, grow]; done) | (simp [size_ext, grow]; omega) | omega) _) | refine Below.drew ?_ | refine below_drewN ?_ _ | (refine Below.trans ?_ (Below.mono (by assumption) (by first | (simp [size_ext, grow]; done) | (simp [size_ext, grow]; omega) | omega))))))⟩
                  case measure => simp [intOf]; omega
              · go_upto_region 26 with (fail)
                go_wp2_with fail
                refine (giveU (atOf b x) HPW3.out.pool HPW3.out.inv HBD.out).mono ?_
                rintro e w4 ⟨S2, rfl, hp, hi, ht, haf, hao, hl⟩
                have HPW4 := Lib.hid (HPW3.out.turn ht hp hi haf hao)
                have HEE := Lib.hid (HPW3.out.inv.gives (atOf b x))
                have HLL := Lib.hid hl
                clear hp hi ht haf hao hl
                have y0 : w4.cell? ⟨YB, 0, none⟩ = some (.int .i64 b) := (cell_of_row w4 _ 0 _ _ (0, 0) HPW4.out.y).trans rfl
                have y1 : w4.cell? ⟨YB, 1, none⟩ = some (.int .i64 (s : Int)) := (cell_of_row w4 _ 1 _ _ (0, 0) HPW4.out.y).trans rfl
                have y2 : w4.cell? ⟨YB, 2, none⟩ = some (.slice A n' c) := (cell_of_row w4 _ 2 _ _ (0, 0) HPW4.out.y).trans rfl
                have y3 : w4.cell? ⟨YB, 3, none⟩ = some (.slice B m d) := (cell_of_row w4 _ 3 _ _ (0, 0) HPW4.out.y).trans rfl
                have yz : YB < w4.heap.size := lt_of_block HPW4.out.y
                go_wp2_with fail
                refine (Give_ref b s A n' c B m d R (lsd S s) (atOf b x) _ w4.heap.size (Nat.le_refl _) ⟨(HAR.out.keep (HPW4.out.below.mono HAW.out)).more (by have := HPW4.out.below.size; have := HAW.out; omega), HNR.out, by omega, HPW4.out.atL.more HPW4.out.hB1, HPW4.out.hm, by (have h1 := HPW4.out.hm; have h2 := lsd_len S s; omega), HBD.out.b1, HBD.out.b2⟩ hat2).mono ?_
                rintro e w5 hR
                unfold RTurnP at hR
                rw [← HLL.out, ← HEE.out] at hR
                obtain ⟨B', d', rfl, hb, hat, hlo⟩ := hR
                obtain ⟨xs5, dr5, rfl⟩ := ext_of hb
                clear hb
                unfold rpV
                go_upto_region 28 with (fail)
                refine wp_world (fun W8 => Below w4.heap.size w4 W8 ∧ W8.heap[grow w4.heap.size xs5]? = some (.cells (rowP b s A n' c B' (lsd S2 s).length d') 49 (0, 0)) ∧ At W8 (grow w4.heap.size xs5) B' (ints (lsd S2 s)) ∧ grow w4.heap.size xs5 < W8.heap.size) ⟨by (repeat (first | exact Below.refl _ _ | exact Nat.le_refl _ | (refine below_ext ?_ (by first | (simp [size_ext, grow]; done) | (simp [size_ext, grow]; omega) | omega) _ _) | (refine Below.setCell ?_ (by first | (simp [size_ext, grow]; done) | (simp [size_ext, grow]; omega) | omega) _) | (refine Below.alloc ?_ (by first | (simp [size_ext, grow]; done) | (simp [size_ext, grow]; omega) | omega) _) | refine Below.drew ?_ | refine below_drewN ?_ _ | (refine Below.trans ?_ (Below.mono (by assumption) (by first | (simp [size_ext, grow]; done) | (simp [size_ext, grow]; omega) | omega))))), (by unfold rowP; (repeat (first | ((refine heap_alloc_at _ _ _ ?_); (simp [go_sem]; done)) | ((refine (heap_ext _ _ _ _ ?_).trans ?_); (focus (simp [go_sem]; done))) | ((refine (heap_alloc_past _ _ _ ?_).trans ?_); (focus (simp [go_sem]; done)))))), ((hat.keep (by (repeat (first | exact Below.refl _ _ | exact Nat.le_refl _ | (refine below_ext ?_ (by first | (simp [size_ext, grow]; done) | (simp [size_ext, grow]; omega) | omega) _ _) | (refine Below.setCell ?_ (by first | (simp [size_ext, grow]; done) | (simp [size_ext, grow]; omega) | omega) _) | (refine Below.alloc ?_ (by first | (simp [size_ext, grow]; done) | (simp [size_ext, grow]; omega) | omega) _) | refine Below.drew ?_ | refine below_drewN ?_ _ | (refine Below.trans ?_ (Below.mono (by assumption) (by first | (simp [size_ext, grow]; done) | (simp [size_ext, grow]; omega) | omega))))))).more (by simp [size_ext])), (by simp [size_ext, grow]; done)⟩ ?_
                intro W8 ⟨hb8, hr8, hat8, hz8⟩
                obtain ⟨PB, hPBe⟩ : ∃ PB, grow w4.heap.size xs5 = PB := ⟨_, rfl⟩
                rw [hPBe] at hr8 hat8 hz8 ⊢
                have HPB := Lib.hid (show w4.heap.size ≤ PB by rw [← hPBe]; simp only [grow]; omega)
                have HPW8 := Lib.hid (HPW4.out.grow hb8)
                have HAT8 := Lib.hid hat8
                have HFAR := Lib.hid hlo
                have HB8 := Lib.hid hb8
                have x0 : W8.cell? ⟨PB, 0, none⟩ = some (.int .i64 b) := (cell_of_row W8 _ 0 _ _ (0, 0) hr8).trans rfl
                have x1 : W8.cell? ⟨PB, 1, none⟩ = some (.int .i64 (s : Int)) := (cell_of_row W8 _ 1 _ _ (0, 0) hr8).trans rfl
                have x2 : W8.cell? ⟨PB, 2, none⟩ = some (.slice A n' c) := (cell_of_row W8 _ 2 _ _ (0, 0) hr8).trans rfl
                have x3 : W8.cell? ⟨PB, 3, none⟩ = some (.slice B' (lsd S2 s).length d') := (cell_of_row W8 _ 3 _ _ (0, 0) hr8).trans rfl
                clear y0 y1 y2 y3 yz hat hlo hPBe hb8 hr8 hat8
                have y0 : W8.cell? ⟨YB, 0, none⟩ = some (.int .i64 b) := (cell_of_row W8 _ 0 _ _ (0, 0) HPW8.out.y).trans rfl
                have y1 : W8.cell? ⟨YB, 1, none⟩ = some (.int .i64 (s : Int)) := (cell_of_row W8 _ 1 _ _ (0, 0) HPW8.out.y).trans rfl
                have y2 : W8.cell? ⟨YB, 2, none⟩ = some (.slice A n' c) := (cell_of_row W8 _ 2 _ _ (0, 0) HPW8.out.y).trans rfl
                have y3 : W8.cell? ⟨YB, 3, none⟩ = some (.slice B m d) := (cell_of_row W8 _ 3 _ _ (0, 0) HPW8.out.y).trans rfl
                have yz : YB < W8.heap.size := lt_of_block HPW8.out.y
                have fy0 : W8.frozen? ⟨YB, 0, none⟩ = false := frozen_of_row W8 _ 0 _ 49 HPW8.out.y
                have fy1 : W8.frozen? ⟨YB, 1, none⟩ = false := frozen_of_row W8 _ 1 _ 49 HPW8.out.y
                have fy2 : W8.frozen? ⟨YB, 2, none⟩ = false := frozen_of_row W8 _ 2 _ 49 HPW8.out.y
                have fy3 : W8.frozen? ⟨YB, 3, none⟩ = false := frozen_of_row W8 _ 3 _ 49 HPW8.out.y
                go_upto_region 29 with (fail)
                refine wp_world (fun W9 => ∃ B2, PW W1 YB p S2 b s R A n' c B' (lsd S2 s).length d' (lsd S2 s) B2 W9) ?_ ?_
                · rcases HFAR.out with ⟨rfl, he⟩ | h
                  · exact ⟨B1, HPW8.out.put (by rw [he]; exact HPW8.out.atL) HPW8.out.hB1 HPW8.out.far⟩
                  · exact ⟨PB, HPW8.out.put HAT8.out (by omega) (fun a ha hl => by have h1 := h a ha; have h2 := HPW4.out.pz; have h3 := HPW4.out.az; have h4 := HPW4.out.yz; exact ⟨by omega, by omega, by omega⟩)⟩
                intro W9 ⟨B2, hpw9⟩
                have HPW := Lib.hid hpw9
                clear hpw9 y0 y1 y2 y3 yz fy0 fy1 fy2 fy3 x0 x1 x2 x3 HPW8 HAT8 HFAR HB8 hz8 HPB
                -- what is told of both is the same
                go_upto_region 37 with (fail)
                have HNL := Lib.hid (show (lsd S2 s).length = (lsd S2 s).length from HPW.out.hm)
                have HFR := Lib.hid (show S2.left = (s : Int) - (n' : Int) - ((lsd S2 s).length : Int) by rw [HPW.out.inv.free HRO.out, HNR.out, HPW.out.hm])
                have HHB := Lib.hid (HPW.out.inv.has (atOf b x))
                have hml : (lsd S2 s).length ≤ 60 := by have h1 := HNL.out; have h2 := lsd_len S2 s; omega
                have hnl : n' ≤ 70 := hn70
                have y0 : W9.cell? ⟨YB, 0, none⟩ = some (.int .i64 b) := (cell_of_row W9 _ 0 _ _ (0, 0) HPW.out.y).trans rfl
                have y1 : W9.cell? ⟨YB, 1, none⟩ = some (.int .i64 (s : Int)) := (cell_of_row W9 _ 1 _ _ (0, 0) HPW.out.y).trans rfl
                have y2 : W9.cell? ⟨YB, 2, none⟩ = some (.slice A n' c) := (cell_of_row W9 _ 2 _ _ (0, 0) HPW.out.y).trans rfl
                have y3 : W9.cell? ⟨YB, 3, none⟩ = some (.slice B' (lsd S2 s).length d') := (cell_of_row W9 _ 3 _ _ (0, 0) HPW.out.y).trans rfl
                have yz : YB < W9.heap.size := lt_of_block HPW.out.y
                obtain ⟨hb, hhb⟩ : ∃ hb, rhasB b (s : Int) R (atOf b x) = hb := ⟨_, rfl⟩
                have HHV := Lib.hid hhb
                clear hhb
                have HAR2 := Lib.hid (show Args W9 W9.heap.size b A n' B' (lsd S2 s).length R (lsd S2 s) from ⟨(HAR.out.keep (HPW.out.below.mono HAW.out)).more (by have := HPW.out.below.size; have := HAW.out; omega), HNR.out, by omega, HPW.out.atL.more HPW.out.hB1, HPW.out.hm, by omega, HBD.out.b1, HBD.out.b2⟩)
                go_region_held3 (fun w' => w'.cell? ⟨YB, 0, none⟩ = some (.int .i64 b) ∧ w'.cell? ⟨YB, 1, none⟩ = some (.int .i64 (s : Int)) ∧ w'.cell? ⟨YB, 2, none⟩ = some (.slice A n' c) ∧ w'.cell? ⟨YB, 3, none⟩ = some (.slice B' (lsd S2 s).length d')) (first | (go_keep; done) | (go_simp; done) | (simp [go_sem]; done)) ((first | (go_at_call 18; go_must (refine (Leased_any p S2 _ (by exact HPW.out.pool.keep (by (repeat (first | exact Below.refl _ _ | exact Nat.le_refl _ | (refine below_ext ?_ (by first | (simp [size_ext, grow]; done) | (simp [size_ext, grow]; omega) | omega) _ _) | (refine Below.setCell ?_ (by first | (simp [size_ext, grow]; done) | (simp [size_ext, grow]; omega) | omega) _) | (refine Below.alloc ?_ (by first | (simp [size_ext, grow]; done) | (simp [size_ext, grow]; omega) | omega) _) | refine Below.drew ?_ | refine below_drewN ?_ _ | (refine Below.trans ?_ (Below.mono (by assumption) (by first | (simp [size_ext, grow]; done) | (simp [size_ext, grow]; omega) | omega))))))) (HBD.out.sound HPW.out.inv)).mono ?_); rw [HPW.out.inv.hs]; rintro e wl ⟨LA, lc, rfl, hb, hat, -, -⟩; obtain ⟨BL, hBL⟩ : ∃ BL, wl.heap.size = BL := ⟨_, rfl⟩; rw [hBL] at hat; have HLA := Lib.hid hat; have HBL := Lib.hid hBL; clear hat hBL; obtain ⟨xsl, drl, rfl⟩ := ext_of hb; clear hb) | (go_at_call 21; go_must (refine (Same_yes LA _ lc B' (lsd S2 s).length d' (lsd S2 s) _ BL W9.heap.size ?_ ?_ (by exact HLA.out.keep (Below.mono (by (repeat (first | exact Below.refl _ _ | exact Nat.le_refl _ | (refine below_ext ?_ (by first | (simp [size_ext, grow]; done) | (simp [size_ext, grow]; omega) | omega) _ _) | (refine Below.setCell ?_ (by first | (simp [size_ext, grow]; done) | (simp [size_ext, grow]; omega) | omega) _) | (refine Below.alloc ?_ (by first | (simp [size_ext, grow]; done) | (simp [size_ext, grow]; omega) | omega) _) | refine Below.drew ?_ | refine below_drewN ?_ _ | (refine Below.trans ?_ (Below.mono (by assumption) (by first | (simp [size_ext, grow]; done) | (simp [size_ext, grow]; omega) | omega)))))) (Nat.le_of_eq HBL.out.symm))) (by exact HAR2.out.atL.keep (by (repeat (first | exact Below.refl _ _ | exact Nat.le_refl _ | (refine below_ext ?_ (by first | (simp [size_ext, grow]; done) | (simp [size_ext, grow]; omega) | omega) _ _) | (refine Below.setCell ?_ (by first | (simp [size_ext, grow]; done) | (simp [size_ext, grow]; omega) | omega) _) | (refine Below.alloc ?_ (by first | (simp [size_ext, grow]; done) | (simp [size_ext, grow]; omega) | omega) _) | refine Below.drew ?_ | refine below_drewN ?_ _ | (refine Below.trans ?_ (Below.mono (by assumption) (by first | (simp [size_ext, grow]; done) | (simp [size_ext, grow]; omega) | omega))))))) rfl (by first | rfl | exact HNL.out) (by have := lsd_len S2 s; omega)).mono ?_); (refine Nat.le_trans (Nat.le_of_eq HBL.out.symm) ?_; first | exact Nat.le_refl _ | (simp [size_ext, grow]; done)); exact Nat.le_trans (Nat.le_add_right _ _) (Nat.le_of_eq (size_ext _ _ _).symm); rintro e ws ⟨rfl, q, rfl⟩) | (go_at_call 20; go_must (refine (Free_any p S2 _ (by exact HPW.out.pool.keep (by (repeat (first | exact Below.refl _ _ | exact Nat.le_refl _ | (refine below_ext ?_ (by first | (simp [size_ext, grow]; done) | (simp [size_ext, grow]; omega) | omega) _ _) | (refine Below.setCell ?_ (by first | (simp [size_ext, grow]; done) | (simp [size_ext, grow]; omega) | omega) _) | (refine Below.alloc ?_ (by first | (simp [size_ext, grow]; done) | (simp [size_ext, grow]; omega) | omega) _) | refine Below.drew ?_ | refine below_drewN ?_ _ | (refine Below.trans ?_ (Below.mono (by assumption) (by first | (simp [size_ext, grow]; done) | (simp [size_ext, grow]; omega) | omega)))))))).mono ?_); rw [HFR.out]; rintro e ws ⟨rfl, rfl⟩) | (go_at_call 26; go_must (refine (Free_ref b (s : Int) A n' c B' (lsd S2 s).length d' _ (by omega) (by omega) (by omega) (by omega)).mono ?_); rintro e w6 ⟨rfl, hb⟩; obtain ⟨xsf, drf, rfl⟩ := ext_of hb; clear hb) | (go_at_call 19; go_must (refine (Has_any p S2 (atOf b x) _ (by exact HPW.out.pool.keep (by (repeat (first | exact Below.refl _ _ | exact Nat.le_refl _ | (refine below_ext ?_ (by first | (simp [size_ext, grow]; done) | (simp [size_ext, grow]; omega) | omega) _ _) | (refine Below.setCell ?_ (by first | (simp [size_ext, grow]; done) | (simp [size_ext, grow]; omega) | omega) _) | (refine Below.alloc ?_ (by first | (simp [size_ext, grow]; done) | (simp [size_ext, grow]; omega) | omega) _) | refine Below.drew ?_ | refine below_drewN ?_ _ | (refine Below.trans ?_ (Below.mono (by assumption) (by first | (simp [size_ext, grow]; done) | (simp [size_ext, grow]; omega) | omega))))))) (HBD.out.sound HPW.out.inv)).mono ?_); rw [HHB.out, HHV.out]; rintro e w6 ⟨rfl, q, rfl⟩) | (go_at_call 27; go_must (refine (Has_ref b (s : Int) A n' c B' (lsd S2 s).length d' R (lsd S2 s) (atOf b x) _ W9.heap.size ?_ (by exact HAR2.out.keep (by (repeat (first | exact Below.refl _ _ | exact Nat.le_refl _ | (refine below_ext ?_ (by first | (simp [size_ext, grow]; done) | (simp [size_ext, grow]; omega) | omega) _ _) | (refine Below.setCell ?_ (by first | (simp [size_ext, grow]; done) | (simp [size_ext, grow]; omega) | omega) _) | (refine Below.alloc ?_ (by first | (simp [size_ext, grow]; done) | (simp [size_ext, grow]; omega) | omega) _) | refine Below.drew ?_ | refine below_drewN ?_ _ | (refine Below.trans ?_ (Below.mono (by assumption) (by first | (simp [size_ext, grow]; done) | (simp [size_ext, grow]; omega) | omega))))))) hat2).mono ?_); (first | omega | (simp [size_ext, grow]; done) | (simp [size_ext, grow]; omega)); rw [HHV.out]; rintro e w6 ⟨rfl, hb⟩; obtain ⟨xsh, drh, rfl⟩ := ext_of hb; clear hb)))
                all_goals
                  go_wp2_with fail
                  go_roundw
                  case rel => exact ⟨j + 1, p, (lsd S2 s).length, d', B2, S2, B', by omega, by omega, by go_num, rfl, HPW.out.grow (by (repeat (first | exact Below.refl _ _ | exact Nat.le_refl _ | (refine below_ext ?_ (by first | (simp [size_ext, grow]; done) | (simp [size_ext, grow]; omega) | omega) _ _) | (refine Below.setCell ?_ (by first | (simp [size_ext, grow]; done) | (simp [size_ext, grow]; omega) | omega) _) | (refine Below.alloc ?_ (by first | (simp [size_ext, grow]; done) | (simp [size_ext, grow]; omega) | omega) _) | refine Below.drew ?_ | refine below_drewN ?_ _ | (refine Below.trans ?_ (Below.mono (by assumption) (by first | (simp [size_ext, grow]; done) | (simp [size_ext, grow]; omega) | omega))))))⟩
                  case measure => simp [intOf]; omega
              · go_upto_region 32 with (fail)
                go_wp2_with fail
                refine (wantU (atOf b x) HPW3.out.pool HPW3.out.inv HBD.out).mono ?_
                rintro e w4 ⟨S2, rfl, hp, hi, ht, haf, hao, hl⟩
                have HPW4 := Lib.hid (HPW3.out.turn ht hp hi haf hao)
                have HEE := Lib.hid (HPW3.out.inv.want (atOf b x))
                have HLL := Lib.hid hl
                clear hp hi ht haf hao hl
                have y0 : w4.cell? ⟨YB, 0, none⟩ = some (.int .i64 b) := (cell_of_row w4 _ 0 _ _ (0, 0) HPW4.out.y).trans rfl
                have y1 : w4.cell? ⟨YB, 1, none⟩ = some (.int .i64 (s : Int)) := (cell_of_row w4 _ 1 _ _ (0, 0) HPW4.out.y).trans rfl
                have y2 : w4.cell? ⟨YB, 2, none⟩ = some (.slice A n' c) := (cell_of_row w4 _ 2 _ _ (0, 0) HPW4.out.y).trans rfl
                have y3 : w4.cell? ⟨YB, 3, none⟩ = some (.slice B m d) := (cell_of_row w4 _ 3 _ _ (0, 0) HPW4.out.y).trans rfl
                have yz : YB < w4.heap.size := lt_of_block HPW4.out.y
                go_wp2_with fail
                refine (Want_ref b s A n' c B m d R (lsd S s) (atOf b x) _ w4.heap.size (Nat.le_refl _) ⟨(HAR.out.keep (HPW4.out.below.mono HAW.out)).more (by have := HPW4.out.below.size; have := HAW.out; omega), HNR.out, by omega, HPW4.out.atL.more HPW4.out.hB1, HPW4.out.hm, by (have h1 := HPW4.out.hm; have h2 := lsd_len S s; omega), HBD.out.b1, HBD.out.b2⟩ hat2).mono ?_
                rintro e w5 hR
                unfold RTurnP at hR
                rw [← HLL.out, ← HEE.out] at hR
                obtain ⟨B', d', rfl, hb, hat, hlo⟩ := hR
                obtain ⟨xs5, dr5, rfl⟩ := ext_of hb
                clear hb
                unfold rpV
                go_upto_region 34 with (fail)
                refine wp_world (fun W8 => Below w4.heap.size w4 W8 ∧ W8.heap[grow w4.heap.size xs5]? = some (.cells (rowP b s A n' c B' (lsd S2 s).length d') 49 (0, 0)) ∧ At W8 (grow w4.heap.size xs5) B' (ints (lsd S2 s)) ∧ grow w4.heap.size xs5 < W8.heap.size) ⟨by (repeat (first | exact Below.refl _ _ | exact Nat.le_refl _ | (refine below_ext ?_ (by first | (simp [size_ext, grow]; done) | (simp [size_ext, grow]; omega) | omega) _ _) | (refine Below.setCell ?_ (by first | (simp [size_ext, grow]; done) | (simp [size_ext, grow]; omega) | omega) _) | (refine Below.alloc ?_ (by first | (simp [size_ext, grow]; done) | (simp [size_ext, grow]; omega) | omega) _) | refine Below.drew ?_ | refine below_drewN ?_ _ | (refine Below.trans ?_ (Below.mono (by assumption) (by first | (simp [size_ext, grow]; done) | (simp [size_ext, grow]; omega) | omega))))), (by unfold rowP; (repeat (first | ((refine heap_alloc_at _ _ _ ?_); (simp [go_sem]; done)) | ((refine (heap_ext _ _ _ _ ?_).trans ?_); (focus (simp [go_sem]; done))) | ((refine (heap_alloc_past _ _ _ ?_).trans ?_); (focus (simp [go_sem]; done)))))), ((hat.keep (by (repeat (first | exact Below.refl _ _ | exact Nat.le_refl _ | (refine below_ext ?_ (by first | (simp [size_ext, grow]; done) | (simp [size_ext, grow]; omega) | omega) _ _) | (refine Below.setCell ?_ (by first | (simp [size_ext, grow]; done) | (simp [size_ext, grow]; omega) | omega) _) | (refine Below.alloc ?_ (by first | (simp [size_ext, grow]; done) | (simp [size_ext, grow]; omega) | omega) _) | refine Below.drew ?_ | refine below_drewN ?_ _ | (refine Below.trans ?_ (Below.mono (by assumption) (by first | (simp [size_ext, grow]; done) | (simp [size_ext, grow]; omega) | omega))))))).more (by simp [size_ext])), (by simp [size_ext, grow]; done)⟩ ?_
                intro W8 ⟨hb8, hr8, hat8, hz8⟩
                obtain ⟨PB, hPBe⟩ : ∃ PB, grow w4.heap.size xs5 = PB := ⟨_, rfl⟩
                rw [hPBe] at hr8 hat8 hz8 ⊢
                have HPB := Lib.hid (show w4.heap.size ≤ PB by rw [← hPBe]; simp only [grow]; omega)
                have HPW8 := Lib.hid (HPW4.out.grow hb8)
                have HAT8 := Lib.hid hat8
                have HFAR := Lib.hid hlo
                have HB8 := Lib.hid hb8
                have x0 : W8.cell? ⟨PB, 0, none⟩ = some (.int .i64 b) := (cell_of_row W8 _ 0 _ _ (0, 0) hr8).trans rfl
                have x1 : W8.cell? ⟨PB, 1, none⟩ = some (.int .i64 (s : Int)) := (cell_of_row W8 _ 1 _ _ (0, 0) hr8).trans rfl
                have x2 : W8.cell? ⟨PB, 2, none⟩ = some (.slice A n' c) := (cell_of_row W8 _ 2 _ _ (0, 0) hr8).trans rfl
                have x3 : W8.cell? ⟨PB, 3, none⟩ = some (.slice B' (lsd S2 s).length d') := (cell_of_row W8 _ 3 _ _ (0, 0) hr8).trans rfl
                clear y0 y1 y2 y3 yz hat hlo hPBe hb8 hr8 hat8
                have y0 : W8.cell? ⟨YB, 0, none⟩ = some (.int .i64 b) := (cell_of_row W8 _ 0 _ _ (0, 0) HPW8.out.y).trans rfl
                have y1 : W8.cell? ⟨YB, 1, none⟩ = some (.int .i64 (s : Int)) := (cell_of_row W8 _ 1 _ _ (0, 0) HPW8.out.y).trans rfl
                have y2 : W8.cell? ⟨YB, 2, none⟩ = some (.slice A n' c) := (cell_of_row W8 _ 2 _ _ (0, 0) HPW8.out.y).trans rfl
                have y3 : W8.cell? ⟨YB, 3, none⟩ = some (.slice B m d) := (cell_of_row W8 _ 3 _ _ (0, 0) HPW8.out.y).trans rfl
                have yz : YB < W8.heap.size := lt_of_block HPW8.out.y
                have fy0 : W8.frozen? ⟨YB, 0, none⟩ = false := frozen_of_row W8 _ 0 _ 49 HPW8.out.y
                have fy1 : W8.frozen? ⟨YB, 1, none⟩ = false := frozen_of_row W8 _ 1 _ 49 HPW8.out.y
                have fy2 : W8.frozen? ⟨YB, 2, none⟩ = false := frozen_of_row W8 _ 2 _ 49 HPW8.out.y
                have fy3 : W8.frozen? ⟨YB, 3, none⟩ = false := frozen_of_row W8 _ 3 _ 49 HPW8.out.y
                go_upto_region 35 with (fail)
                refine wp_world (fun W9 => ∃ B2, PW W1 YB p S2 b s R A n' c B' (lsd S2 s).length d' (lsd S2 s) B2 W9) ?_ ?_
                · rcases HFAR.out with ⟨rfl, he⟩ | h
                  · exact ⟨B1, HPW8.out.put (by rw [he]; exact HPW8.out.atL) HPW8.out.hB1 HPW8.out.far⟩
                  · exact ⟨PB, HPW8.out.put HAT8.out (by omega) (fun a ha hl => by have h1 := h a ha; have h2 := HPW4.out.pz; have h3 := HPW4.out.az; have h4 := HPW4.out.yz; exact ⟨by omega, by omega, by omega⟩)⟩
                intro W9 ⟨B2, hpw9⟩
                have HPW := Lib.hid hpw9
                clear hpw9 y0 y1 y2 y3 yz fy0 fy1 fy2 fy3 x0 x1 x2 x3 HPW8 HAT8 HFAR HB8 hz8 HPB
                -- what is told of both is the same
                go_upto_region 37 with (fail)
                have HNL := Lib.hid (show (lsd S2 s).length = (lsd S2 s).length from HPW.out.hm)
                have HFR := Lib.hid (show S2.left = (s : Int) - (n' : Int) - ((lsd S2 s).length : Int) by rw [HPW.out.inv.free HRO.out, HNR.out, HPW.out.hm])
                have HHB := Lib.hid (HPW.out.inv.has (atOf b x))
                have hml : (lsd S2 s).length ≤ 60 := by have h1 := HNL.out; have h2 := lsd_len S2 s; omega
                have hnl : n' ≤ 70 := hn70
                have y0 : W9.cell? ⟨YB, 0, none⟩ = some (.int .i64 b) := (cell_of_row W9 _ 0 _ _ (0, 0) HPW.out.y).trans rfl
                have y1 : W9.cell? ⟨YB, 1, none⟩ = some (.int .i64 (s : Int)) := (cell_of_row W9 _ 1 _ _ (0, 0) HPW.out.y).trans rfl
                have y2 : W9.cell? ⟨YB, 2, none⟩ = some (.slice A n' c) := (cell_of_row W9 _ 2 _ _ (0, 0) HPW.out.y).trans rfl
                have y3 : W9.cell? ⟨YB, 3, none⟩ = some (.slice B' (lsd S2 s).length d') := (cell_of_row W9 _ 3 _ _ (0, 0) HPW.out.y).trans rfl
                have yz : YB < W9.heap.size := lt_of_block HPW.out.y
                obtain ⟨hb, hhb⟩ : ∃ hb, rhasB b (s : Int) R (atOf b x) = hb := ⟨_, rfl⟩
                have HHV := Lib.hid hhb
                clear hhb
                have HAR2 := Lib.hid (show Args W9 W9.heap.size b A n' B' (lsd S2 s).length R (lsd S2 s) from ⟨(HAR.out.keep (HPW.out.below.mono HAW.out)).more (by have := HPW.out.below.size; have := HAW.out; omega), HNR.out, by omega, HPW.out.atL.more HPW.out.hB1, HPW.out.hm, by omega, HBD.out.b1, HBD.out.b2⟩)
                go_region_held3 (fun w' => w'.cell? ⟨YB, 0, none⟩ = some (.int .i64 b) ∧ w'.cell? ⟨YB, 1, none⟩ = some (.int .i64 (s : Int)) ∧ w'.cell? ⟨YB, 2, none⟩ = some (.slice A n' c) ∧ w'.cell? ⟨YB, 3, none⟩ = some (.slice B' (lsd S2 s).length d')) (first | (go_keep; done) | (go_simp; done) | (simp [go_sem]; done)) ((first | (go_at_call 18; go_must (refine (Leased_any p S2 _ (by exact HPW.out.pool.keep (by (repeat (first | exact Below.refl _ _ | exact Nat.le_refl _ | (refine below_ext ?_ (by first | (simp [size_ext, grow]; done) | (simp [size_ext, grow]; omega) | omega) _ _) | (refine Below.setCell ?_ (by first | (simp [size_ext, grow]; done) | (simp [size_ext, grow]; omega) | omega) _) | (refine Below.alloc ?_ (by first | (simp [size_ext, grow]; done) | (simp [size_ext, grow]; omega) | omega) _) | refine Below.drew ?_ | refine below_drewN ?_ _ | (refine Below.trans ?_ (Below.mono (by assumption) (by first | (simp [size_ext, grow]; done) | (simp [size_ext, grow]; omega) | omega))))))) (HBD.out.sound HPW.out.inv)).mono ?_); rw [HPW.out.inv.hs]; rintro e wl ⟨LA, lc, rfl, hb, hat, -, -⟩; obtain ⟨BL, hBL⟩ : ∃ BL, wl.heap.size = BL := ⟨_, rfl⟩; rw [hBL] at hat; have HLA := Lib.hid hat; have HBL := Lib.hid hBL; clear hat hBL; obtain ⟨xsl, drl, rfl⟩ := ext_of hb; clear hb) | (go_at_call 21; go_must (refine (Same_yes LA _ lc B' (lsd S2 s).length d' (lsd S2 s) _ BL W9.heap.size ?_ ?_ (by exact HLA.out.keep (Below.mono (by (repeat (first | exact Below.refl _ _ | exact Nat.le_refl _ | (refine below_ext ?_ (by first | (simp [size_ext, grow]; done) | (simp [size_ext, grow]; omega) | omega) _ _) | (refine Below.setCell ?_ (by first | (simp [size_ext, grow]; done) | (simp [size_ext, grow]; omega) | omega) _) | (refine Below.alloc ?_ (by first | (simp [size_ext, grow]; done) | (simp [size_ext, grow]; omega) | omega) _) | refine Below.drew ?_ | refine below_drewN ?_ _ | (refine Below.trans ?_ (Below.mono (by assumption) (by first | (simp [size_ext, grow]; done) | (simp [size_ext, grow]; omega) | omega)))))) (Nat.le_of_eq HBL.out.symm))) (by exact HAR2.out.atL.keep (by (repeat (first | exact Below.refl _ _ | exact Nat.le_refl _ | (refine below_ext ?_ (by first | (simp [size_ext, grow]; done) | (simp [size_ext, grow]; omega) | omega) _ _) | (refine Below.setCell ?_ (by first | (simp [size_ext, grow]; done) | (simp [size_ext, grow]; omega) | omega) _) | (refine Below.alloc ?_ (by first | (simp [size_ext, grow]; done) | (simp [size_ext, grow]; omega) | omega) _) | refine Below.drew ?_ | refine below_drewN ?_ _ | (refine Below.trans ?_ (Below.mono (by assumption) (by first | (simp [size_ext, grow]; done) | (simp [size_ext, grow]; omega) | omega))))))) rfl (by first | rfl | exact HNL.out) (by have := lsd_len S2 s; omega)).mono ?_); (refine Nat.le_trans (Nat.le_of_eq HBL.out.symm) ?_; first | exact Nat.le_refl _ | (simp [size_ext, grow]; done)); exact Nat.le_trans (Nat.le_add_right _ _) (Nat.le_of_eq (size_ext _ _ _).symm); rintro e ws ⟨rfl, q, rfl⟩) | (go_at_call 20; go_must (refine (Free_any p S2 _ (by exact HPW.out.pool.keep (by (repeat (first | exact Below.refl _ _ | exact Nat.le_refl _ | (refine below_ext ?_ (by first | (simp [size_ext, grow]; done) | (simp [size_ext, grow]; omega) | omega) _ _) | (refine Below.setCell ?_ (by first | (simp [size_ext, grow]; done) | (simp [size_ext, grow]; omega) | omega) _) | (refine Below.alloc ?_ (by first | (simp [size_ext, grow]; done) | (simp [size_ext, grow]; omega) | omega) _) | refine Below.drew ?_ | refine below_drewN ?_ _ | (refine Below.trans ?_ (Below.mono (by assumption) (by first | (simp [size_ext, grow]; done) | (simp [size_ext, grow]; omega) | omega)))))))).mono ?_); rw [HFR.out]; rintro e ws ⟨rfl, rfl⟩) | (go_at_call 26; go_must (refine (Free_ref b (s : Int) A n' c B' (lsd S2 s).length d' _ (by omega) (by omega) (by omega) (by omega)).mono ?_); rintro e w6 ⟨rfl, hb⟩; obtain ⟨xsf, drf, rfl⟩ := ext_of hb; clear hb) | (go_at_call 19; go_must (refine (Has_any p S2 (atOf b x) _ (by exact HPW.out.pool.keep (by (repeat (first | exact Below.refl _ _ | exact Nat.le_refl _ | (refine below_ext ?_ (by first | (simp [size_ext, grow]; done) | (simp [size_ext, grow]; omega) | omega) _ _) | (refine Below.setCell ?_ (by first | (simp [size_ext, grow]; done) | (simp [size_ext, grow]; omega) | omega) _) | (refine Below.alloc ?_ (by first | (simp [size_ext, grow]; done) | (simp [size_ext, grow]; omega) | omega) _) | refine Below.drew ?_ | refine below_drewN ?_ _ | (refine Below.trans ?_ (Below.mono (by assumption) (by first | (simp [size_ext, grow]; done) | (simp [size_ext, grow]; omega) | omega))))))) (HBD.out.sound HPW.out.inv)).mono ?_); rw [HHB.out, HHV.out]; rintro e w6 ⟨rfl, q, rfl⟩) | (go_at_call 27; go_must (refine (Has_ref b (s : Int) A n' c B' (lsd S2 s).length d' R (lsd S2 s) (atOf b x) _ W9.heap.size ?_ (by exact HAR2.out.keep (by (repeat (first | exact Below.refl _ _ | exact Nat.le_refl _ | (refine below_ext ?_ (by first | (simp [size_ext, grow]; done) | (simp [size_ext, grow]; omega) | omega) _ _) | (refine Below.setCell ?_ (by first | (simp [size_ext, grow]; done) | (simp [size_ext, grow]; omega) | omega) _) | (refine Below.alloc ?_ (by first | (simp [size_ext, grow]; done) | (simp [size_ext, grow]; omega) | omega) _) | refine Below.drew ?_ | refine below_drewN ?_ _ | (refine Below.trans ?_ (Below.mono (by assumption) (by first | (simp [size_ext, grow]; done) | (simp [size_ext, grow]; omega) | omega))))))) hat2).mono ?_); (first | omega | (simp [size_ext, grow]; done) | (simp [size_ext, grow]; omega)); rw [HHV.out]; rintro e w6 ⟨rfl, hb⟩; obtain ⟨xsh, drh, rfl⟩ := ext_of hb; clear hb)))
                all_goals
                  go_wp2_with fail
                  go_roundw
                  case rel => exact ⟨j + 1, p, (lsd S2 s).length, d', B2, S2, B', by omega, by omega, by go_num, rfl, HPW.out.grow (by (repeat (first | exact Below.refl _ _ | exact Nat.le_refl _ | (refine below_ext ?_ (by first | (simp [size_ext, grow]; done) | (simp [size_ext, grow]; omega) | omega) _ _) | (refine Below.setCell ?_ (by first | (simp [size_ext, grow]; done) | (simp [size_ext, grow]; omega) | omega) _) | (refine Below.alloc ?_ (by first | (simp [size_ext, grow]; done) | (simp [size_ext, grow]; omega) | omega) _) | refine Below.drew ?_ | refine below_drewN ?_ _ | (refine Below.trans ?_ (Below.mono (by assumption) (by first | (simp [size_ext, grow]; done) | (simp [size_ext, grow]; omega) | omega))))))⟩
                  case measure => simp [intOf]; omega
              · go_upto_region 14 with (fail)
                go_wp2_with fail
                refine (Fork_any p S _ HPW3.out.pool (HBD.out.sound HPW3.out.inv) HPW3.out.oz).mono ?_
                rintro e w4 ⟨F, af, cf, rfl, hb, hF, haf, haz, hpa⟩
                obtain ⟨hpf, hne⟩ := HPW3.out.fork hb hF haf hpa haz
                have hpo := HPW3.out.grow hb
                have hne2 : p ≠ F ∧ p ≠ ({ S with af := af, cf := cf } : PoolS).af ∧ S.af ≠ F ∧ S.af ≠ ({ S with af := af, cf := cf } : PoolS).af ∧ p ≠ ({ S with af := af, cf := cf } : PoolS).ao ∧ S.af ≠ ({ S with af := af, cf := cf } : PoolS).ao := ⟨hne.1, hne.2.1, hne.2.2.1, hne.2.2.2.1, hne.2.2.2.2, HPW3.out.pool.ne⟩
                have hl2 : lsd S s = lsd ({ S with af := af, cf := cf } : PoolS) s := rfl
                rw [hl2] at hpf hpo
                clear hne hb hF haf haz hpa hl2
                revert hpf hpo hne2
                generalize ({ S with af := af, cf := cf } : PoolS) = S2
                intro hpf hpo hne2
                have HPW4 := Lib.hid hpf
                have HPWO := Lib.hid hpo
                have HNE := Lib.hid hne2
                clear hpf hpo hne2
                go_upto_region 17 with (fail)
                go_wp2_with fail
                refine (takeU HPWO.out.pool HPWO.out.inv HBD.out (HT1.out.keep HPWO.out.below)).mono ?_
                rintro e w5 ⟨S3, rfl, hp, hi, ht, haf, hao, hl⟩
                have HPW := Lib.hid (HPW4.out.other HPWO.out HNE.out ht)
                clear hp hi ht haf hao hl HPW4 HPWO
                -- what is told of both is the same
                go_upto_region 37 with (fail)
                have HNL := Lib.hid (show m = (lsd S2 s).length from HPW.out.hm)
                have HFR := Lib.hid (show S2.left = (s : Int) - (n' : Int) - (m : Int) by rw [HPW.out.inv.free HRO.out, HNR.out, HPW.out.hm])
                have HHB := Lib.hid (HPW.out.inv.has (atOf b x))
                have hml : m ≤ 60 := by have h1 := HNL.out; have h2 := lsd_len S2 s; omega
                have hnl : n' ≤ 70 := hn70
                have y0 : w5.cell? ⟨YB, 0, none⟩ = some (.int .i64 b) := (cell_of_row w5 _ 0 _ _ (0, 0) HPW.out.y).trans rfl
                have y1 : w5.cell? ⟨YB, 1, none⟩ = some (.int .i64 (s : Int)) := (cell_of_row w5 _ 1 _ _ (0, 0) HPW.out.y).trans rfl
                have y2 : w5.cell? ⟨YB, 2, none⟩ = some (.slice A n' c) := (cell_of_row w5 _ 2 _ _ (0, 0) HPW.out.y).trans rfl
                have y3 : w5.cell? ⟨YB, 3, none⟩ = some (.slice B m d) := (cell_of_row w5 _ 3 _ _ (0, 0) HPW.out.y).trans rfl
                have yz : YB < w5.heap.size := lt_of_block HPW.out.y
                obtain ⟨hb, hhb⟩ : ∃ hb, rhasB b (s : Int) R (atOf b x) = hb := ⟨_, rfl⟩
                have HHV := Lib.hid hhb
                clear hhb
                have HAR2 := Lib.hid (show Args w5 w5.heap.size b A n' B m R (lsd S2 s) from ⟨(HAR.out.keep (HPW.out.below.mono HAW.out)).more (by have := HPW.out.below.size; have := HAW.out; omega), HNR.out, by omega, HPW.out.atL.more HPW.out.hB1, HPW.out.hm, by omega, HBD.out.b1, HBD.out.b2⟩)
                go_region_held3 (fun w' => w'.cell? ⟨YB, 0, none⟩ = some (.int .i64 b) ∧ w'.cell? ⟨YB, 1, none⟩ = some (.int .i64 (s : Int)) ∧ w'.cell? ⟨YB, 2, none⟩ = some (.slice A n' c) ∧ w'.cell? ⟨YB, 3, none⟩ = some (.slice B m d)) (first | (go_keep; done) | (go_simp; done) | (simp [go_sem]; done)) ((first | (go_at_call 18; go_must (refine (Leased_any F S2 _ (by exact HPW.out.pool.keep (by (repeat (first | exact Below.refl _ _ | exact Nat.le_refl _ | (refine below_ext ?_ (by first | (simp [size_ext, grow]; done) | (simp [size_ext, grow]; omega) | omega) _ _) | (refine Below.setCell ?_ (by first | (simp [size_ext, grow]; done) | (simp [size_ext, grow]; omega) | omega) _) | (refine Below.alloc ?_ (by first | (simp [size_ext, grow]; done) | (simp [size_ext, grow]; omega) | omega) _) | refine Below.drew ?_ | refine below_drewN ?_ _ | (refine Below.trans ?_ (Below.mono (by assumption) (by first | (simp [size_ext, grow]; done) | (simp [size_ext, grow]; omega) | omega))))))) (HBD.out.sound HPW.out.inv)).mono ?_); rw [HPW.out.inv.hs]; rintro e wl ⟨LA, lc, rfl, hb, hat, -, -⟩; obtain ⟨BL, hBL⟩ : ∃ BL, wl.heap.size = BL := ⟨_, rfl⟩; rw [hBL] at hat; have HLA := Lib.hid hat; have HBL := Lib.hid hBL; clear hat hBL; obtain ⟨xsl, drl, rfl⟩ := ext_of hb; clear hb) | (go_at_call 21; go_must (refine (Same_yes LA _ lc B m d (lsd S2 s) _ BL w5.heap.size ?_ ?_ (by exact HLA.out.keep (Below.mono (by (repeat (first | exact Below.refl _ _ | exact Nat.le_refl _ | (refine below_ext ?_ (by first | (simp [size_ext, grow]; done) | (simp [size_ext, grow]; omega) | omega) _ _) | (refine Below.setCell ?_ (by first | (simp [size_ext, grow]; done) | (simp [size_ext, grow]; omega) | omega) _) | (refine Below.alloc ?_ (by first | (simp [size_ext, grow]; done) | (simp [size_ext, grow]; omega) | omega) _) | refine Below.drew ?_ | refine below_drewN ?_ _ | (refine Below.trans ?_ (Below.mono (by assumption) (by first | (simp [size_ext, grow]; done) | (simp [size_ext, grow]; omega) | omega)))))) (Nat.le_of_eq HBL.out.symm))) (by exact HAR2.out.atL.keep (by (repeat (first | exact Below.refl _ _ | exact Nat.le_refl _ | (refine below_ext ?_ (by first | (simp [size_ext, grow]; done) | (simp [size_ext, grow]; omega) | omega) _ _) | (refine Below.setCell ?_ (by first | (simp [size_ext, grow]; done) | (simp [size_ext, grow]; omega) | omega) _) | (refine Below.alloc ?_ (by first | (simp [size_ext, grow]; done) | (simp [size_ext, grow]; omega) | omega) _) | refine Below.drew ?_ | refine below_drewN ?_ _ | (refine Below.trans ?_ (Below.mono (by assumption) (by first | (simp [size_ext, grow]; done) | (simp [size_ext, grow]; omega) | omega))))))) rfl (by first | rfl | exact HNL.out) (by have := lsd_len S2 s; omega)).mono ?_); (refine Nat.le_trans (Nat.le_of_eq HBL.out.symm) ?_; first | exact Nat.le_refl _ | (simp [size_ext, grow]; done)); exact Nat.le_trans (Nat.le_add_right _ _) (Nat.le_of_eq (size_ext _ _ _).symm); rintro e ws ⟨rfl, q, rfl⟩) | (go_at_call 20; go_must (refine (Free_any F S2 _ (by exact HPW.out.pool.keep (by (repeat (first | exact Below.refl _ _ | exact Nat.le_refl _ | (refine below_ext ?_ (by first | (simp [size_ext, grow]; done) | (simp [size_ext, grow]; omega) | omega) _ _) | (refine Below.setCell ?_ (by first | (simp [size_ext, grow]; done) | (simp [size_ext, grow]; omega) | omega) _) | (refine Below.alloc ?_ (by first | (simp [size_ext, grow]; done) | (simp [size_ext, grow]; omega) | omega) _) | refine Below.drew ?_ | refine below_drewN ?_ _ | (refine Below.trans ?_ (Below.mono (by assumption) (by first | (simp [size_ext, grow]; done) | (simp [size_ext, grow]; omega) | omega)))))))).mono ?_); rw [HFR.out]; rintro e ws ⟨rfl, rfl⟩) | (go_at_call 26; go_must (refine (Free_ref b (s : Int) A n' c B m d _ (by omega) (by omega) (by omega) (by omega)).mono ?_); rintro e w6 ⟨rfl, hb⟩; obtain ⟨xsf, drf, rfl⟩ := ext_of hb; clear hb) | (go_at_call 19; go_must (refine (Has_any F S2 (atOf b x) _ (by exact HPW.out.pool.keep (by (repeat (first | exact Below.refl _ _ | exact Nat.le_refl _ | (refine below_ext ?_ (by first | (simp [size_ext, grow]; done) | (simp [size_ext, grow]; omega) | omega) _ _) | (refine Below.setCell ?_ (by first | (simp [size_ext, grow]; done) | (simp [size_ext, grow]; omega) | omega) _) | (refine Below.alloc ?_ (by first | (simp [size_ext, grow]; done) | (simp [size_ext, grow]; omega) | omega) _) | refine Below.drew ?_ | refine below_drewN ?_ _ | (refine Below.trans ?_ (Below.mono (by assumption) (by first | (simp [size_ext, grow]; done) | (simp [size_ext, grow]; omega) | omega))))))) (HBD.out.sound HPW.out.inv)).mono ?_); rw [HHB.out, HHV.out]; rintro e w6 ⟨rfl, q, rfl⟩) | (go_at_call 27; go_must (refine (Has_ref b (s : Int) A n' c B m d R (lsd S2 s) (atOf b x) _ w5.heap.size ?_ (by exact HAR2.out.keep (by (repeat (first | exact Below.refl _ _ | exact Nat.le_refl _ | (refine below_ext ?_ (by first | (simp [size_ext, grow]; done) | (simp [size_ext, grow]; omega) | omega) _ _) | (refine Below.setCell ?_ (by first | (simp [size_ext, grow]; done) | (simp [size_ext, grow]; omega) | omega) _) | (refine Below.alloc ?_ (by first | (simp [size_ext, grow]; done) | (simp [size_ext, grow]; omega) | omega) _) | refine Below.drew ?_ | refine below_drewN ?_ _ | (refine Below.trans ?_ (Below.mono (by assumption) (by first | (simp [size_ext, grow]; done) | (simp [size_ext, grow]; omega) | omega))))))) hat2).mono ?_); (first | omega | (simp [size_ext, grow]; done) | (simp [size_ext, grow]; omega)); rw [HHV.out]; rintro e w6 ⟨rfl, hb⟩; obtain ⟨xsh, drh, rfl⟩ := ext_of hb; clear hb)))
                all_goals
                  go_wp2_with fail
                  go_roundw
                  case rel => exact ⟨j + 1, F, m, d, B1, S2, B, by omega, by omega, by go_num, rfl, HPW.out.grow (by (repeat (first | exact Below.refl _ _ | exact Nat.le_refl _ | (refine below_ext ?_ (by first | (simp [size_ext, grow]; done) | (simp [size_ext, grow]; omega) | omega) _ _) | (refine Below.setCell ?_ (by first | (simp [size_ext, grow]; done) | (simp [size_ext, grow]; omega) | omega) _) | (refine Below.alloc ?_ (by first | (simp [size_ext, grow]; done) | (simp [size_ext, grow]; omega) | omega) _) | refine Below.drew ?_ | refine below_drewN ?_ _ | (refine Below.trans ?_ (Below.mono (by assumption) (by first | (simp [size_ext, grow]; done) | (simp [size_ext, grow]; omega) | omega))))))⟩
                  case measure => simp [intOf]; omega
          · obtain rfl : j = 60 := by omega
            have hx : decide ((60 : Int) < (nn : Int)) = true := by simp; omega
            go_wp2_with fail
            go_ret
            exact ⟨rfl, HB1.out.trans (HPW.out.below.mono HAW.out)⟩
        · obtain rfl : j = nn := by omega
          go_wp2_with fail
          go_ret
          exact ⟨rfl, HB1.out.trans (HPW.out.below.mono HAW.out)⟩
end Go.Proofs.YtoilghhclpgfaaaDoor
