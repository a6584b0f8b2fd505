/- PoolOnce: its walk. -/
import Derived.Test.YtoilghhclpgfaaaDoorP29
namespace Go.Proofs.YtoilghhclpgfaaaDoor
open Go.ChangeShapes Go.WideShapes Go.ChangeAt Go.RowKit Go.Joins Go.Deep
set_option linter.unusedSimpArgs false
set_option linter.unusedVariables false
theorem u64_pos (z : Int) : 0 ≤ IntKind.u64.wrap z := by
  unfold IntKind.wrap
  simp [IntKind.signed, IntKind.bits]
  omega
set_option maxRecDepth 100000 in
set_option maxHeartbeats 8000000 in
theorem once_any (b s0 : Int) (A : Option Addr) (n c : Nat) (R0 : List Int) (C : Option Addr) (nn cc : Nat) (OL : List Op1) (w : World) (hT : TabAt w) (hA : At w w.heap.size A (ints R0)) (hn : n = R0.length) (hc : n ≤ c) (hn2 : (n : Int) ≤ 9223372036854775807) (hO : OpsAt w w.heap.size C OL) (hon : nn = OL.length) (hon2 : (nn : Int) ≤ 9223372036854775807) :
    Calls Tryd.prog 5 #[rangeV b s0 A n c, .slice C nn cc] w fun e w' => e = .returned (.bool true) ∧ Below w.heap.size w w' := by
  have HA0 := Lib.hid (smR_at hA)
  have HN0 := Lib.hid (smN_len hn)
  have hn70 : smN n ≤ 70 := by unfold smN; split <;> omega
  have HO := Lib.hid hO
  have HON := Lib.hid hon
  have HT0 := Lib.hid hT
  obtain ⟨R, hR⟩ : ∃ R, smR R0 = R := ⟨_, rfl⟩
  obtain ⟨n', hn'⟩ : ∃ n', smN n = n' := ⟨_, rfl⟩
  obtain ⟨s1, hs1⟩ : ∃ s1, smS s0 = s1 := ⟨_, rfl⟩
  rw [hR, hn'] at HN0
  rw [hR] at HA0
  rw [hn'] at hn70
  have HEQ := Lib.hid (And.intro hn' hs1)
  have HS60 := Lib.hid (show rangeOk b s1 R = true → s1 ≤ 60 by
    intro h
    unfold rangeOk headOk at h
    simp only [Bool.and_eq_true, decide_eq_true_eq] at h
    rw [← hs1] at h ⊢
    unfold smS at h ⊢
    split <;> (try split at h) <;> omega)
  clear hA hn hO hon hR hn' hs1 hT
  unfold rangeV
  go_enter Tryd.func5, Tryd.ntmps5
  go_wp2_with fail
  refine (small_any b s0 A n c _ hc hn2).mono ?_
  rw [HEQ.out.1, HEQ.out.2]
  rintro e w1 ⟨rfl, hb⟩
  obtain ⟨xs, dr, rfl⟩ := ext_of hb
  clear hb
  unfold rangeV
  go_upto_region 2 with (fail)
  refine wp_world (fun W1 => Below w.heap.size w W1 ∧ W1.heap[w.heap.size]? = some (.cells #[.int .i64 b, .int .i64 s1, .slice A n' c] 24 (0, 0))) ⟨by (repeat (first | exact Below.refl _ _ | exact Nat.le_refl _ | (refine below_ext ?_ (by first | (simp [size_ext, grow]; done) | (simp [size_ext, grow]; omega) | omega) _ _) | (refine Below.setCell ?_ (by first | (simp [size_ext, grow]; done) | (simp [size_ext, grow]; omega) | omega) _) | (refine Below.alloc ?_ (by first | (simp [size_ext, grow]; done) | (simp [size_ext, grow]; omega) | omega) _) | refine Below.drew ?_ | refine below_drewN ?_ _ | (refine Below.trans ?_ (Below.mono (by assumption) (by first | (simp [size_ext, grow]; done) | (simp [size_ext, grow]; omega) | omega))))), by (repeat (first | ((refine heap_alloc_at _ _ _ ?_); (simp [go_sem]; done)) | ((refine (heap_ext _ _ _ _ ?_).trans ?_); (focus (simp [go_sem]; done))) | ((refine (heap_alloc_past _ _ _ ?_).trans ?_); (focus (simp [go_sem]; done)))))⟩ ?_
  intro W1 ⟨hb1, hbx⟩
  have HBX := Lib.hid hbx
  have HB1 := Lib.hid hb1
  have HT1 := Lib.hid (HT0.out.keep hb1)
  have HAR := Lib.hid (HA0.out.keep hb1)
  have HAW := Lib.hid (show w.heap.size ≤ W1.heap.size from hb1.size)
  have e0 : W1.cell? ⟨w.heap.size, 0, none⟩ = some (.int .i64 b) := (cell_of_row W1 _ 0 _ _ (0, 0) hbx).trans rfl
  have e1 : W1.cell? ⟨w.heap.size, 1, none⟩ = some (.int .i64 s1) := (cell_of_row W1 _ 1 _ _ (0, 0) hbx).trans rfl
  have e2 : W1.cell? ⟨w.heap.size, 2, none⟩ = some (.slice A n' c) := (cell_of_row W1 _ 2 _ _ (0, 0) hbx).trans rfl
  have ez : w.heap.size < W1.heap.size := lt_of_block hbx
  have hn9 : (n' : Int) ≤ 9223372036854775807 := by omega
  clear hb1 hbx
  cases hok : rangeOk b s1 R
  · have HOK := Lib.hid hok
    clear hok
    go_wp2_with fail
    refine (new_any b s1 A n' c R _ (HAR.out.more HAW.out) HN0.out hn9).mono ?_
    rintro e w2 ⟨hb, ⟨_, rfl⟩ | ⟨hok, _⟩⟩
    · obtain ⟨xs2, dr2, rfl⟩ := ext_of hb
      clear hb
      go_wp2_with fail
      refine (awake_any _ (HT1.out.keep (by (repeat (first | exact Below.refl _ _ | exact Nat.le_refl _ | (refine below_ext ?_ (by first | (simp [size_ext, grow]; done) | (simp [size_ext, grow]; omega) | omega) _ _) | (refine Below.setCell ?_ (by first | (simp [size_ext, grow]; done) | (simp [size_ext, grow]; omega) | omega) _) | (refine Below.alloc ?_ (by first | (simp [size_ext, grow]; done) | (simp [size_ext, grow]; omega) | omega) _) | refine Below.drew ?_ | refine below_drewN ?_ _ | (refine Below.trans ?_ (Below.mono (by assumption) (by first | (simp [size_ext, grow]; done) | (simp [size_ext, grow]; omega) | omega)))))))).mono ?_
      rintro e w5 ⟨rfl, hb⟩
      obtain ⟨xs5, dr5, rfl⟩ := ext_of hb
      clear hb
      go_wp2_with fail
      go_ret
      exact ⟨rfl, HB1.out.trans (Below.mono (by (repeat (first | exact Below.refl _ _ | exact Nat.le_refl _ | (refine below_ext ?_ (by first | (simp [size_ext, grow]; done) | (simp [size_ext, grow]; omega) | omega) _ _) | (refine Below.setCell ?_ (by first | (simp [size_ext, grow]; done) | (simp [size_ext, grow]; omega) | omega) _) | (refine Below.alloc ?_ (by first | (simp [size_ext, grow]; done) | (simp [size_ext, grow]; omega) | omega) _) | refine Below.drew ?_ | refine below_drewN ?_ _ | (refine Below.trans ?_ (Below.mono (by assumption) (by first | (simp [size_ext, grow]; done) | (simp [size_ext, grow]; omega) | omega)))))) HAW.out)⟩
    · rw [HOK.out] at hok; cases hok
  · have HOK := Lib.hid hok
    obtain ⟨s, rfl, hbd, hs60, hro⟩ := Bd.of hok (HS60.out hok)
    have HBD := Lib.hid hbd
    have HRO := Lib.hid hro
    have HNR := Lib.hid HN0.out
    clear hok hbd hro
    go_wp2_with fail
    refine (new_any b (s : Int) A n' c R _ (HAR.out.more HAW.out) HN0.out hn9).mono ?_
    rintro e w2 ⟨hb, ⟨hno, _⟩ | ⟨_, p, S, rfl, hp, haf, hao, hpa, hfr, hlt1, hlt2⟩⟩
    · rw [HOK.out] at hno; cases hno
    · rw [Int.toNat_natCast] at hfr
      have HPZ2 := Lib.hid (show PZ W1 p S b s R w2.heap.size w2 from ⟨⟨hpa, Inv.fresh hfr HRO.out, hb, hp, haf⟩, lt_of_block hpa.st, by have := lt_of_block hpa.st; omega, by have := lt_of_block hpa.st; omega, Nat.le_refl _, hb.size⟩)
      have HLF := Lib.hid (lsd_fresh hfr)
      clear hb hpa hfr hp haf hao hlt1 hlt2 e0 e1 e2 ez
      go_wp2_with fail
      refine (awake_any _ (HT1.out.keep HPZ2.out.a.below)).mono ?_
      rintro e w5 ⟨rfl, hb⟩
      have HPZ0 := Lib.hid (HPZ2.out.grow hb)
      obtain ⟨Z, hZ⟩ : ∃ Z, w2.heap.size = Z := ⟨_, rfl⟩
      rw [hZ] at HPZ0
      clear hb HPZ2 hZ
      go_wp2_with fail
      go_loopw [8, 7] (fun iv hv wr => ∃ (j n1 c1 : Nat) (A1 : Option Addr) (H : List Int) (S : PoolS), j ≤ nn ∧ j ≤ 60 ∧ iv = .int .i64 j ∧ hv = .slice A1 n1 c1 ∧ n1 = H.length ∧ n1 ≤ j ∧ PZ W1 p S b s R Z wr ∧ Had H (lsd S s) ∧ wr.ownsRow Z 3 1 (.slice A1 n1 c1) n1 (ints H)) (fun iv _ _ => nn - (intOf iv).toNat)
      case atStart => exact ⟨0, 0, 0, none, [], S, Nat.zero_le _, by omega, rfl, rfl, rfl, Nat.le_refl _, HPZ0.out, by rw [HLF.out]; exact Had.nil, own_nil _ _ _ _⟩
      case round =>
        clear HPZ0 HLF S
        obtain ⟨j, n1, c1, A1, H, S, hj, hj2, rfl, rfl, hn1, hn1j, hpz, hhd, how⟩ := hrel
        have HPZ := Lib.hid hpz
        have HHD := Lib.hid hhd
        have HOW := Lib.hid how
        have HN1 := Lib.hid hn1
        have hcap := own_le_cap how
        clear hpz hhd how hn1
        by_cases hlt : j < nn
        · by_cases h60 : j < 60
          · obtain ⟨ob, oo, rfl, hob, hop⟩ := HO.out.get (k := j) (by rw [← HON.out]; exact hlt)
            obtain ⟨x, hx⟩ : ∃ x, OL[j]'(by rw [← HON.out]; exact hlt) = x := ⟨_, rfl⟩
            rw [hx] at hop
            have hobW : ob < W1.heap.size := by have := HAW.out; omega
            have hob0 : ∀ q, wr.cell? ⟨ob, q, none⟩ = w.cell? ⟨ob, q, none⟩ := fun q => (HPZ.out.a.below.cell (p := ⟨ob, q, none⟩) hobW).trans (HB1.out.cell (p := ⟨ob, q, none⟩) hob)
            have g0 := (hob0 _).trans hop.d
            have g1 := (hob0 _).trans hop.a
            have hob9 : ob < wr.heap.size := by have := HPZ.out.a.below.size; omega
            have jj0 : (0 : Int) ≤ (j : Int) := by omega
            have jj1 : (j : Int) < (nn : Int) := by omega
            clear hop hob0 hx hob hobW
            by_cases hg : (x.d : Int) % 2 = 1 ∧ 0 < n1
            · obtain ⟨hq, hn0⟩ := hg
              obtain ⟨u, hu⟩ : ∃ u : Nat, IntKind.u64.wrap x.a = (u : Int) := ⟨(IntKind.u64.wrap x.a).toNat, by have : 0 ≤ IntKind.u64.wrap x.a := u64_pos _; omega⟩
              obtain ⟨k, hk⟩ : ∃ k, u % n1 = k := ⟨_, rfl⟩
              have hkn : k < n1 := by rw [← hk]; exact Nat.mod_lt _ hn0
              have hE : (u : Int) % (n1 : Int) = (k : Int) := by rw [← hk]; exact (Int.natCast_emod _ _).symm
              have hD : (u : Int).tmod (n1 : Int) = (k : Int) := by rw [Int.tmod_eq_emod_of_nonneg (by omega), hE]
              have hwn : IntKind.u64.wrap (n1 : Int) = (n1 : Int) := IntWalk.u64_in _ (by omega)
              have hwk : IntKind.i64.wrap (k : Int) = (k : Int) := IntWalk.i64_in _ (by omega)
              have hne : ¬ n1 = 0 := by omega
              have hk1 : IntKind.i64.wrap ((k : Int) + 1) = ((k + 1 : Nat) : Int) := by rw [IntWalk.i64_in _ (by omega)]; omega
              have kk0 : (0 : Int) ≤ (k : Int) := by omega
              have kk1 : (k : Int) < (n1 : Int) := by omega
              have kc1 : (k : Int) ≤ (c1 : Int) := by omega
              have kn1 : (k : Int) + 1 ≤ (n1 : Int) := by omega
              have kn2 : (0 : Int) ≤ (k : Int) + 1 := by omega
              have nc1 : (n1 : Int) ≤ (c1 : Int) := by omega
              have HK := Lib.hid (show k < H.length by rw [← HN1.out]; exact hkn)
              have HYM := Lib.hid (show H.getD k 0 ∈ lsd S s from (HHD.out.mem _).1 (by rw [List.getD_eq_getElem?_getD, List.getElem?_eq_getElem HK.out]; exact List.getElem_mem HK.out))
              have HHG := Lib.hid (HHD.out.give HK.out)
              obtain ⟨lb, lo, rfl, hbB, hcells⟩ := At.int (At.of_own HOW.out) HK.out
              have c0 := hcells k HK.out
              obtain ⟨y, hy⟩ : ∃ y, H.getD k 0 = y := ⟨_, rfl⟩
              rw [hy] at c0 HYM HHG
              have hry := HPZ.out.a.inv.lsd_has HYM.out
              have HGV := Lib.hid (show gvE S y = 0 by rw [HPZ.out.a.inv.gives]; unfold rgE; rw [if_pos hry, if_pos (by simpa using HYM.out)])
              have HGL := Lib.hid (show rgL b (s : Int) R (lsd S s) y = (lsd S s).filter (fun z => !(z == y)) by unfold rgL; rw [if_pos (by simp [hry, HYM.out])])
              clear hy hcells hk hry
              go_wp2_with fail
              refine (giveU y HPZ.out.a.pool HPZ.out.a.inv HBD.out).mono ?_
              rw [HGV.out, HGL.out]
              rintro e w4 ⟨S2, rfl, hp, hi, ht, haf, hao, hl⟩
              have HPZ4 := Lib.hid (HPZ.out.turn ht hp hi haf hao)
              have HOW4 := Lib.hid (HPZ.out.own ht HOW.out)
              have HHD4 := Lib.hid (show Had (H.take k ++ H.drop (k + 1)) (lsd S2 s) by rw [hl]; exact HHG.out)
              clear hp hi ht haf hao hl c0 hbB
              have HT4 := Lib.hid (show At w4 w4.heap.size (some ⟨lb, lo, none⟩) (ints (H.take k)) by rw [ints_take]; exact (At.of_own HOW4.out).take k)
              by_cases hce : c1 = k + 1
              · have HD4 := Lib.hid (show At w4 w4.heap.size (some ⟨lb, lo, none⟩) (ints (H.drop (k + 1))) by rw [show H.drop (k + 1) = [] from List.drop_eq_nil_iff.2 (by have := HN1.out; omega)]; exact At.nil _ _ _)
                obtain rfl : c1 = n1 := by omega
                subst hce
                have kc3 : (k : Int) ≤ (k : Int) + 1 := by omega
                go_upto_region 15 with (fail)
                go_region_held3 (fun w' => True) (first | (go_keep; done) | (go_simp; done) | (simp [go_sem]; done)) ((first | (refine step_appv w4 rfl (.tmp 66) (.tmp 69) 22 rfl 3 Tryd.underlying22 (.int .i64 0) 1 8 info3 rfl (by decide) (by decide) (.slice (some ⟨w4.heap.size, 0, none⟩) 0 0) 0 [] rfl (by exact own_below (own_void3 w4 w4.heap.size w4.heap.size rfl (Nat.le_refl _)) (by (repeat (first | exact Below.refl _ _ | exact Nat.le_refl _ | (refine below_ext ?_ (by first | (simp [size_ext, grow]; done) | (simp [size_ext, grow]; omega) | omega) _ _) | (refine Below.setCell ?_ (by first | (simp [size_ext, grow]; done) | (simp [size_ext, grow]; omega) | omega) _) | (refine Below.alloc ?_ (by first | (simp [size_ext, grow]; done) | (simp [size_ext, grow]; omega) | omega) _) | refine Below.drew ?_ | refine below_drewN ?_ _ | (refine Below.trans ?_ (Below.mono (by assumption) (by first | (simp [size_ext, grow]; done) | (simp [size_ext, grow]; omega) | omega))))))) w4.heap.size (some ⟨lb, lo, none⟩) k _ (ints (H.take k)) rfl (by simp [ints]; have := HK.out; omega) (by omega) (by exact HT4.out.keep (by (repeat (first | exact Below.refl _ _ | exact Nat.le_refl _ | (refine below_ext ?_ (by first | (simp [size_ext, grow]; done) | (simp [size_ext, grow]; omega) | omega) _ _) | (refine Below.setCell ?_ (by first | (simp [size_ext, grow]; done) | (simp [size_ext, grow]; omega) | omega) _) | (refine Below.alloc ?_ (by first | (simp [size_ext, grow]; done) | (simp [size_ext, grow]; omega) | omega) _) | refine Below.drew ?_ | refine below_drewN ?_ _ | (refine Below.trans ?_ (Below.mono (by assumption) (by first | (simp [size_ext, grow]; done) | (simp [size_ext, grow]; omega) | omega))))))) (by exact ints_one _) (by (repeat (first | exact Below.refl _ _ | exact Nat.le_refl _ | (refine below_ext ?_ (by first | (simp [size_ext, grow]; done) | (simp [size_ext, grow]; omega) | omega) _ _) | (refine Below.setCell ?_ (by first | (simp [size_ext, grow]; done) | (simp [size_ext, grow]; omega) | omega) _) | (refine Below.alloc ?_ (by first | (simp [size_ext, grow]; done) | (simp [size_ext, grow]; omega) | omega) _) | refine Below.drew ?_ | refine below_drewN ?_ _ | (refine Below.trans ?_ (Below.mono (by assumption) (by first | (simp [size_ext, grow]; done) | (simp [size_ext, grow]; omega) | omega)))))) ?_; intro A3 c3 w7 ho3 hc3 hb3 hg3; have HO3 := Lib.hid ho3; have HB3 := Lib.hid hb3; clear ho3 hc3 hb3 hg3) | (refine step_appv w4 rfl (.tmp 70) (.tmp 74) 22 rfl 3 Tryd.underlying22 (.int .i64 0) 1 8 info3 rfl (by decide) (by decide) (.slice A3 (0 + k) c3) (0 + k) ([] ++ ints (H.take k)) rfl (by exact own_below HO3.out (by (repeat (first | exact Below.refl _ _ | exact Nat.le_refl _ | (refine below_ext ?_ (by first | (simp [size_ext, grow]; done) | (simp [size_ext, grow]; omega) | omega) _ _) | (refine Below.setCell ?_ (by first | (simp [size_ext, grow]; done) | (simp [size_ext, grow]; omega) | omega) _) | (refine Below.alloc ?_ (by first | (simp [size_ext, grow]; done) | (simp [size_ext, grow]; omega) | omega) _) | refine Below.drew ?_ | refine below_drewN ?_ _ | (refine Below.trans ?_ (Below.mono (by assumption) (by first | (simp [size_ext, grow]; done) | (simp [size_ext, grow]; omega) | omega))))))) w4.heap.size _ _ _ (ints (H.drop (k + 1))) rfl (by simp [ints]; have := HN1.out; omega) (by omega) (by exact HD4.out.keep (by have := HB3.out; (repeat (first | exact Below.refl _ _ | exact Nat.le_refl _ | (refine below_ext ?_ (by first | (simp [size_ext, grow]; done) | (simp [size_ext, grow]; omega) | omega) _ _) | (refine Below.setCell ?_ (by first | (simp [size_ext, grow]; done) | (simp [size_ext, grow]; omega) | omega) _) | (refine Below.alloc ?_ (by first | (simp [size_ext, grow]; done) | (simp [size_ext, grow]; omega) | omega) _) | refine Below.drew ?_ | refine below_drewN ?_ _ | (refine Below.trans ?_ (Below.mono (by assumption) (by first | (simp [size_ext, grow]; done) | (simp [size_ext, grow]; omega) | omega))))))) (by exact ints_one _) (by have := HB3.out; (repeat (first | exact Below.refl _ _ | exact Nat.le_refl _ | (refine below_ext ?_ (by first | (simp [size_ext, grow]; done) | (simp [size_ext, grow]; omega) | omega) _ _) | (refine Below.setCell ?_ (by first | (simp [size_ext, grow]; done) | (simp [size_ext, grow]; omega) | omega) _) | (refine Below.alloc ?_ (by first | (simp [size_ext, grow]; done) | (simp [size_ext, grow]; omega) | omega) _) | refine Below.drew ?_ | refine below_drewN ?_ _ | (refine Below.trans ?_ (Below.mono (by assumption) (by first | (simp [size_ext, grow]; done) | (simp [size_ext, grow]; omega) | omega)))))) ?_; intro A4 c4 w8 ho4 hc4 hb4 hg4; have HO4 := Lib.hid ho4; have HB4 := Lib.hid hb4; clear ho4 hc4 hb4 hg4)))
                all_goals
                  go_wp2_with fail
                  go_roundw
                  case rel => exact ⟨j + 1, k, c4, A4, H.take k ++ H.drop (k + 1), S2, by omega, by omega, by go_num, rfl, by (rw [List.length_append, List.length_take, List.length_drop, ← HN1.out]; omega), by omega, HPZ4.out.grow (HB4.out.mono HPZ4.out.z4), HHD4.out, by (rw [show ints (H.take k ++ H.drop (k + 1)) = [] ++ ints (H.take k) ++ ints (H.drop (k + 1)) by simp [ints]]; have h := HO4.out; simp only [Nat.zero_add, Nat.sub_self, Nat.add_zero] at h; exact own_down HPZ4.out.z4 h)⟩
                  case measure => simp [intOf]; omega
              · have HD4 := Lib.hid (show At w4 w4.heap.size (some ⟨lb, lo + (k + 1), none⟩) (ints (H.drop (k + 1))) by
                  have h := (At.of_own HOW4.out).drop (k + 1) c1 (fun e => absurd e hce)
                  rw [if_neg hce] at h
                  rw [show ints (H.drop (k + 1)) = (ints H).drop (k + 1) by simp [ints, List.map_drop]]
                  simpa [Addr.add] using h)
                go_upto_region 15 with (fail)
                go_region_held3 (fun w' => True) (first | (go_keep; done) | (go_simp; done) | (simp [go_sem]; done)) ((first | (refine step_appv w4 rfl (.tmp 66) (.tmp 69) 22 rfl 3 Tryd.underlying22 (.int .i64 0) 1 8 info3 rfl (by decide) (by decide) (.slice (some ⟨w4.heap.size, 0, none⟩) 0 0) 0 [] rfl (by exact own_below (own_void3 w4 w4.heap.size w4.heap.size rfl (Nat.le_refl _)) (by (repeat (first | exact Below.refl _ _ | exact Nat.le_refl _ | (refine below_ext ?_ (by first | (simp [size_ext, grow]; done) | (simp [size_ext, grow]; omega) | omega) _ _) | (refine Below.setCell ?_ (by first | (simp [size_ext, grow]; done) | (simp [size_ext, grow]; omega) | omega) _) | (refine Below.alloc ?_ (by first | (simp [size_ext, grow]; done) | (simp [size_ext, grow]; omega) | omega) _) | refine Below.drew ?_ | refine below_drewN ?_ _ | (refine Below.trans ?_ (Below.mono (by assumption) (by first | (simp [size_ext, grow]; done) | (simp [size_ext, grow]; omega) | omega))))))) w4.heap.size (some ⟨lb, lo, none⟩) k _ (ints (H.take k)) rfl (by simp [ints]; have := HK.out; omega) (by omega) (by exact HT4.out.keep (by (repeat (first | exact Below.refl _ _ | exact Nat.le_refl _ | (refine below_ext ?_ (by first | (simp [size_ext, grow]; done) | (simp [size_ext, grow]; omega) | omega) _ _) | (refine Below.setCell ?_ (by first | (simp [size_ext, grow]; done) | (simp [size_ext, grow]; omega) | omega) _) | (refine Below.alloc ?_ (by first | (simp [size_ext, grow]; done) | (simp [size_ext, grow]; omega) | omega) _) | refine Below.drew ?_ | refine below_drewN ?_ _ | (refine Below.trans ?_ (Below.mono (by assumption) (by first | (simp [size_ext, grow]; done) | (simp [size_ext, grow]; omega) | omega))))))) (by exact ints_one _) (by (repeat (first | exact Below.refl _ _ | exact Nat.le_refl _ | (refine below_ext ?_ (by first | (simp [size_ext, grow]; done) | (simp [size_ext, grow]; omega) | omega) _ _) | (refine Below.setCell ?_ (by first | (simp [size_ext, grow]; done) | (simp [size_ext, grow]; omega) | omega) _) | (refine Below.alloc ?_ (by first | (simp [size_ext, grow]; done) | (simp [size_ext, grow]; omega) | omega) _) | refine Below.drew ?_ | refine below_drewN ?_ _ | (refine Below.trans ?_ (Below.mono (by assumption) (by first | (simp [size_ext, grow]; done) | (simp [size_ext, grow]; omega) | omega)))))) ?_; intro A3 c3 w7 ho3 hc3 hb3 hg3; have HO3 := Lib.hid ho3; have HB3 := Lib.hid hb3; clear ho3 hc3 hb3 hg3) | (refine step_appv w4 rfl (.tmp 70) (.tmp 74) 22 rfl 3 Tryd.underlying22 (.int .i64 0) 1 8 info3 rfl (by decide) (by decide) (.slice A3 (0 + k) c3) (0 + k) ([] ++ ints (H.take k)) rfl (by exact own_below HO3.out (by (repeat (first | exact Below.refl _ _ | exact Nat.le_refl _ | (refine below_ext ?_ (by first | (simp [size_ext, grow]; done) | (simp [size_ext, grow]; omega) | omega) _ _) | (refine Below.setCell ?_ (by first | (simp [size_ext, grow]; done) | (simp [size_ext, grow]; omega) | omega) _) | (refine Below.alloc ?_ (by first | (simp [size_ext, grow]; done) | (simp [size_ext, grow]; omega) | omega) _) | refine Below.drew ?_ | refine below_drewN ?_ _ | (refine Below.trans ?_ (Below.mono (by assumption) (by first | (simp [size_ext, grow]; done) | (simp [size_ext, grow]; omega) | omega))))))) w4.heap.size _ _ _ (ints (H.drop (k + 1))) rfl (by simp [ints]; have := HN1.out; omega) (by omega) (by exact HD4.out.keep (by have := HB3.out; (repeat (first | exact Below.refl _ _ | exact Nat.le_refl _ | (refine below_ext ?_ (by first | (simp [size_ext, grow]; done) | (simp [size_ext, grow]; omega) | omega) _ _) | (refine Below.setCell ?_ (by first | (simp [size_ext, grow]; done) | (simp [size_ext, grow]; omega) | omega) _) | (refine Below.alloc ?_ (by first | (simp [size_ext, grow]; done) | (simp [size_ext, grow]; omega) | omega) _) | refine Below.drew ?_ | refine below_drewN ?_ _ | (refine Below.trans ?_ (Below.mono (by assumption) (by first | (simp [size_ext, grow]; done) | (simp [size_ext, grow]; omega) | omega))))))) (by exact ints_one _) (by have := HB3.out; (repeat (first | exact Below.refl _ _ | exact Nat.le_refl _ | (refine below_ext ?_ (by first | (simp [size_ext, grow]; done) | (simp [size_ext, grow]; omega) | omega) _ _) | (refine Below.setCell ?_ (by first | (simp [size_ext, grow]; done) | (simp [size_ext, grow]; omega) | omega) _) | (refine Below.alloc ?_ (by first | (simp [size_ext, grow]; done) | (simp [size_ext, grow]; omega) | omega) _) | refine Below.drew ?_ | refine below_drewN ?_ _ | (refine Below.trans ?_ (Below.mono (by assumption) (by first | (simp [size_ext, grow]; done) | (simp [size_ext, grow]; omega) | omega)))))) ?_; intro A4 c4 w8 ho4 hc4 hb4 hg4; have HO4 := Lib.hid ho4; have HB4 := Lib.hid hb4; clear ho4 hc4 hb4 hg4)))
                all_goals
                  go_wp2_with fail
                  go_roundw
                  case rel => exact ⟨j + 1, (k + (n1 - (k + 1))), c4, A4, H.take k ++ H.drop (k + 1), S2, by omega, by omega, by go_num, rfl, by (rw [List.length_append, List.length_take, List.length_drop, ← HN1.out]; omega), by omega, HPZ4.out.grow (HB4.out.mono HPZ4.out.z4), HHD4.out, by (rw [show ints (H.take k ++ H.drop (k + 1)) = [] ++ ints (H.take k) ++ ints (H.drop (k + 1)) by simp [ints]]; have h := HO4.out; simp only [Nat.zero_add, Nat.sub_self, Nat.add_zero] at h; exact own_down HPZ4.out.z4 h)⟩
                  case measure => simp [intOf]; omega
            · by_cases hq : (x.d : Int) % 2 = 1
              · obtain rfl : n1 = 0 := by omega
                go_wp2_with fail
                refine (takeU HPZ.out.a.pool HPZ.out.a.inv HBD.out (HT1.out.keep HPZ.out.a.below)).mono ?_
                rintro e w4 ⟨S2, rfl, hp, hi, ht, haf, hao, hl⟩
                have HPZ4 := Lib.hid (HPZ.out.turn ht hp hi haf hao)
                have HOW4 := Lib.hid (HPZ.out.own ht HOW.out)
                cases hlo : lowO S.fw with
                | none =>
                  have HLF := Lib.hid (show S2.left = 0 by rw [hi.free HRO.out, hl, hlo]; exact (HPZ.out.a.inv.free HRO.out).symm.trans (HPZ.out.a.inv.low_none hlo))
                  have HHD4 := Lib.hid (show Had H (lsd S2 s) by rw [hl, hlo]; exact HHD.out)
                  clear hp hi ht haf hao hl hlo
                  unfold rtA rtE
                  go_wp2_with fail
                  refine (Free_any p S2 _ HPZ4.out.a.pool).mono ?_
                  rw [HLF.out]
                  rintro e w5 ⟨rfl, rfl⟩
                  go_wp2_with fail
                  go_roundw
                  case rel => exact ⟨j + 1, 0, c1, _, H, S2, by omega, by omega, by go_num, rfl, HN1.out, by omega, HPZ4.out, HHD4.out, HOW4.out⟩
                  case measure => simp [intOf]; omega
                | some i =>
                  obtain ⟨hr, hno, his⟩ := HPZ.out.a.inv.low HPZ.out.a.pool.free.wide hlo
                  have HHD4 := Lib.hid (show Had (H ++ [b + (i : Int)]) (lsd S2 s) by rw [hl, hlo]; exact HHD.out.add hno)
                  have HHB := Lib.hid (show hasB S2 (b + (i : Int)) = true by rw [hi.has]; exact hr)
                  have hin : (b + (i : Int)) ∈ lsd S2 s := (HHD4.out.mem _).1 (by simp)
                  have HPE := Lib.hid (show plE S2 (b + (i : Int)) = 122 by rw [hi.want]; unfold rwE; rw [if_pos hr, if_pos (by simpa using hin)])
                  have HRL := Lib.hid (show rwL b (s : Int) R (lsd S2 s) (b + (i : Int)) = lsd S2 s by unfold rwL; rw [if_neg (by simp [hin])])
                  have HNO := Lib.hid (show ∀ k, k < H.length → H.getD k 0 ≠ b + (i : Int) by
                    intro k hk e
                    refine hno ((HHD.out.mem _).1 ?_)
                    rw [← e, List.getD_eq_getElem?_getD, List.getElem?_eq_getElem hk]
                    exact List.getElem_mem hk)
                  obtain ⟨a, ha⟩ : ∃ a, b + (i : Int) = a := ⟨_, rfl⟩
                  unfold rtA rtE
                  simp only
                  rw [ha] at HHD4 HHB HPE HRL HNO ⊢
                  clear hp hi ht haf hao hl hlo hr hno his hin ha
                  go_wp2_with fail
                  go_loopw [12] (fun iv w3 => ∃ k : Nat, k ≤ 0 ∧ iv = .int .i64 k ∧ w3 = w4) (fun iv _ => 0 - (intOf iv).toNat)
                  case atStart => exact ⟨0, Nat.zero_le _, rfl, rfl⟩
                  case round =>
                    obtain ⟨k, hk, rfl, rfl⟩ := hrel
                    by_cases hlk : k < 0
                    · have HK := Lib.hid (show k < H.length by have := HN1.out; omega)
                      obtain ⟨lb, lo, rfl, hbB, hcells⟩ := At.int (At.of_own HOW4.out) HK.out
                      have c0 := hcells k HK.out
                      have hnk := HNO.out k HK.out
                      obtain ⟨y, hy⟩ : ∃ y, H.getD k 0 = y := ⟨_, rfl⟩
                      rw [hy] at c0 hnk
                      have e3 : (y == a) = false := by simpa using hnk
                      have ii0 : (0 : Int) ≤ (k : Int) := by omega
                      have ii1 : (k : Int) < (0 : Int) := by omega
                      clear hy hcells hnk
                      go_wp2_with fail
                      go_roundw
                      case rel => exact ⟨k + 1, by omega, by go_num, by trivial⟩
                      case measure => simp [intOf]; omega
                    · obtain rfl : 0 = k := by omega
                      go_wp2_with fail
                      refine (Has_any p S2 a _ HPZ4.out.a.pool (HBD.out.sound HPZ4.out.a.inv)).mono ?_
                      rw [HHB.out]
                      rintro e w6 ⟨rfl, q, rfl⟩
                      go_wp2_with fail
                      refine (wantU a (HPZ4.out.a.pool.keep (by (repeat (first | exact Below.refl _ _ | exact Nat.le_refl _ | (refine below_ext ?_ (by first | (simp [size_ext, grow]; done) | (simp [size_ext, grow]; omega) | omega) _ _) | (refine Below.setCell ?_ (by first | (simp [size_ext, grow]; done) | (simp [size_ext, grow]; omega) | omega) _) | (refine Below.alloc ?_ (by first | (simp [size_ext, grow]; done) | (simp [size_ext, grow]; omega) | omega) _) | refine Below.drew ?_ | refine below_drewN ?_ _ | (refine Below.trans ?_ (Below.mono (by assumption) (by first | (simp [size_ext, grow]; done) | (simp [size_ext, grow]; omega) | omega))))))) HPZ4.out.a.inv HBD.out).mono ?_
                      rw [HPE.out, HRL.out]
                      rintro e w7 ⟨S3, rfl, hp, hi, ht, haf, hao, hl⟩
                      have HPZq := HPZ4.out.grow (w' := wr.drewN q) (Below.mono (by (repeat (first | exact Below.refl _ _ | exact Nat.le_refl _ | (refine below_ext ?_ (by first | (simp [size_ext, grow]; done) | (simp [size_ext, grow]; omega) | omega) _ _) | (refine Below.setCell ?_ (by first | (simp [size_ext, grow]; done) | (simp [size_ext, grow]; omega) | omega) _) | (refine Below.alloc ?_ (by first | (simp [size_ext, grow]; done) | (simp [size_ext, grow]; omega) | omega) _) | refine Below.drew ?_ | refine below_drewN ?_ _ | (refine Below.trans ?_ (Below.mono (by assumption) (by first | (simp [size_ext, grow]; done) | (simp [size_ext, grow]; omega) | omega)))))) HPZ4.out.z4)
                      have HPZ7 := Lib.hid (HPZq.turn ht hp hi haf hao)
                      have HOW7 := Lib.hid (HPZq.own ht (own_below HOW4.out (by (repeat (first | exact Below.refl _ _ | exact Nat.le_refl _ | (refine below_ext ?_ (by first | (simp [size_ext, grow]; done) | (simp [size_ext, grow]; omega) | omega) _ _) | (refine Below.setCell ?_ (by first | (simp [size_ext, grow]; done) | (simp [size_ext, grow]; omega) | omega) _) | (refine Below.alloc ?_ (by first | (simp [size_ext, grow]; done) | (simp [size_ext, grow]; omega) | omega) _) | refine Below.drew ?_ | refine below_drewN ?_ _ | (refine Below.trans ?_ (Below.mono (by assumption) (by first | (simp [size_ext, grow]; done) | (simp [size_ext, grow]; omega) | omega))))))))
                      have HHD7 := Lib.hid (show Had (H ++ [a]) (lsd S3 s) by rw [hl]; exact HHD4.out)
                      have HTS := Lib.hid (trunc_size HPZ7.out.z4)
                      have HTB := Lib.hid (trunc_below HPZ7.out.z4)
                      have HHL := Lib.hid (show (H ++ [a]).length = 0 + 1 by rw [List.length_append, ← HN1.out]; rfl)
                      clear hp hi ht haf hao hl HPZq
                      go_wp2_with (at_builtin; refine wpList_appv (trunc w7 Z) rfl (.tmp 112) (.tmp 114) 22 rfl 3 Tryd.underlying22 (.int .i64 0) 1 8 info3 rfl (by decide) (by decide) (.slice _ 0 c1) 0 (ints H) rfl (by rw [HTS.out]; exact own_below HOW7.out (by (repeat (first | exact Below.refl _ _ | exact Nat.le_refl _ | (refine below_ext ?_ (by first | (simp [size_ext, grow]; done) | (simp [size_ext, grow]; omega) | omega) _ _) | (refine Below.setCell ?_ (by first | (simp [size_ext, grow]; done) | (simp [size_ext, grow]; omega) | omega) _) | (refine Below.alloc ?_ (by first | (simp [size_ext, grow]; done) | (simp [size_ext, grow]; omega) | omega) _) | refine Below.drew ?_ | refine below_drewN ?_ _ | (refine Below.trans ?_ (Below.mono (by assumption) (by first | (simp [size_ext, grow]; done) | (simp [size_ext, grow]; omega) | omega))))))) (w7.heap.size + 1) (some ⟨w7.heap.size, 0, none⟩) 1 1 [.int .i64 a] rfl rfl (by omega) (by exact At.newN _ _ _ _ _ rfl rfl) (by intro u hu; simp at hu; rw [hu]; rfl) (by have h1 := HTB.out; have h2 := h1.size; (repeat (first | exact Below.refl _ _ | exact Nat.le_refl _ | (refine below_ext ?_ (by first | (simp [size_ext, grow]; done) | (simp [size_ext, grow]; omega) | omega) _ _) | (refine Below.setCell ?_ (by first | (simp [size_ext, grow]; done) | (simp [size_ext, grow]; omega) | omega) _) | (refine Below.alloc ?_ (by first | (simp [size_ext, grow]; done) | (simp [size_ext, grow]; omega) | omega) _) | refine Below.drew ?_ | refine below_drewN ?_ _ | (refine Below.trans ?_ (Below.mono (by assumption) (by first | (simp [size_ext, grow]; done) | (simp [size_ext, grow]; omega) | omega)))))) ?_; intro A4 c4 w8 ho4 hc4 hb4 hg4; rw [HTS.out] at ho4; have HO4 := Lib.hid ho4; have HG4 := Lib.hid hg4; have HB4 := Lib.hid hb4; clear ho4 hc4 hb4 hg4)
                      go_roundw
                      case rel => exact ⟨j + 1, 0 + 1, c4, A4, H ++ [a], S3, by omega, by omega, by go_num, rfl, HHL.out.symm, by omega, HPZ7.out.grow (trunc_up HPZ7.out.z4 (by have h := HG4.out.size; simp at h; omega) HB4.out), HHD7.out, by rw [ints_snoc]; exact HO4.out⟩
                      case measure => simp [intOf]; omega
              · have hq : (x.d : Int) % 2 = 0 := by omega
                clear hg
                go_wp2_with fail
                refine (takeU HPZ.out.a.pool HPZ.out.a.inv HBD.out (HT1.out.keep HPZ.out.a.below)).mono ?_
                rintro e w4 ⟨S2, rfl, hp, hi, ht, haf, hao, hl⟩
                have HPZ4 := Lib.hid (HPZ.out.turn ht hp hi haf hao)
                have HOW4 := Lib.hid (HPZ.out.own ht HOW.out)
                cases hlo : lowO S.fw with
                | none =>
                  have HLF := Lib.hid (show S2.left = 0 by rw [hi.free HRO.out, hl, hlo]; exact (HPZ.out.a.inv.free HRO.out).symm.trans (HPZ.out.a.inv.low_none hlo))
                  have HHD4 := Lib.hid (show Had H (lsd S2 s) by rw [hl, hlo]; exact HHD.out)
                  clear hp hi ht haf hao hl hlo
                  unfold rtA rtE
                  go_wp2_with fail
                  refine (Free_any p S2 _ HPZ4.out.a.pool).mono ?_
                  rw [HLF.out]
                  rintro e w5 ⟨rfl, rfl⟩
                  go_wp2_with fail
                  go_roundw
                  case rel => exact ⟨j + 1, n1, c1, _, H, S2, by omega, by omega, by go_num, rfl, HN1.out, by omega, HPZ4.out, HHD4.out, HOW4.out⟩
                  case measure => simp [intOf]; omega
                | some i =>
                  obtain ⟨hr, hno, his⟩ := HPZ.out.a.inv.low HPZ.out.a.pool.free.wide hlo
                  have HHD4 := Lib.hid (show Had (H ++ [b + (i : Int)]) (lsd S2 s) by rw [hl, hlo]; exact HHD.out.add hno)
                  have HHB := Lib.hid (show hasB S2 (b + (i : Int)) = true by rw [hi.has]; exact hr)
                  have hin : (b + (i : Int)) ∈ lsd S2 s := (HHD4.out.mem _).1 (by simp)
                  have HPE := Lib.hid (show plE S2 (b + (i : Int)) = 122 by rw [hi.want]; unfold rwE; rw [if_pos hr, if_pos (by simpa using hin)])
                  have HRL := Lib.hid (show rwL b (s : Int) R (lsd S2 s) (b + (i : Int)) = lsd S2 s by unfold rwL; rw [if_neg (by simp [hin])])
                  have HNO := Lib.hid (show ∀ k, k < H.length → H.getD k 0 ≠ b + (i : Int) by
                    intro k hk e
                    refine hno ((HHD.out.mem _).1 ?_)
                    rw [← e, List.getD_eq_getElem?_getD, List.getElem?_eq_getElem hk]
                    exact List.getElem_mem hk)
                  obtain ⟨a, ha⟩ : ∃ a, b + (i : Int) = a := ⟨_, rfl⟩
                  unfold rtA rtE
                  simp only
                  rw [ha] at HHD4 HHB HPE HRL HNO ⊢
                  clear hp hi ht haf hao hl hlo hr hno his hin ha
                  go_wp2_with fail
                  go_loopw [12] (fun iv w3 => ∃ k : Nat, k ≤ n1 ∧ iv = .int .i64 k ∧ w3 = w4) (fun iv _ => n1 - (intOf iv).toNat)
                  case atStart => exact ⟨0, Nat.zero_le _, rfl, rfl⟩
                  case round =>
                    obtain ⟨k, hk, rfl, rfl⟩ := hrel
                    by_cases hlk : k < n1
                    · have HK := Lib.hid (show k < H.length by have := HN1.out; omega)
                      obtain ⟨lb, lo, rfl, hbB, hcells⟩ := At.int (At.of_own HOW4.out) HK.out
                      have c0 := hcells k HK.out
                      have hnk := HNO.out k HK.out
                      obtain ⟨y, hy⟩ : ∃ y, H.getD k 0 = y := ⟨_, rfl⟩
                      rw [hy] at c0 hnk
                      have e3 : (y == a) = false := by simpa using hnk
                      have ii0 : (0 : Int) ≤ (k : Int) := by omega
                      have ii1 : (k : Int) < (n1 : Int) := by omega
                      clear hy hcells hnk
                      go_wp2_with fail
                      go_roundw
                      case rel => exact ⟨k + 1, by omega, by go_num, by trivial⟩
                      case measure => simp [intOf]; omega
                    · obtain rfl : n1 = k := by omega
                      go_wp2_with fail
                      refine (Has_any p S2 a _ HPZ4.out.a.pool (HBD.out.sound HPZ4.out.a.inv)).mono ?_
                      rw [HHB.out]
                      rintro e w6 ⟨rfl, q, rfl⟩
                      go_wp2_with fail
                      refine (wantU a (HPZ4.out.a.pool.keep (by (repeat (first | exact Below.refl _ _ | exact Nat.le_refl _ | (refine below_ext ?_ (by first | (simp [size_ext, grow]; done) | (simp [size_ext, grow]; omega) | omega) _ _) | (refine Below.setCell ?_ (by first | (simp [size_ext, grow]; done) | (simp [size_ext, grow]; omega) | omega) _) | (refine Below.alloc ?_ (by first | (simp [size_ext, grow]; done) | (simp [size_ext, grow]; omega) | omega) _) | refine Below.drew ?_ | refine below_drewN ?_ _ | (refine Below.trans ?_ (Below.mono (by assumption) (by first | (simp [size_ext, grow]; done) | (simp [size_ext, grow]; omega) | omega))))))) HPZ4.out.a.inv HBD.out).mono ?_
                      rw [HPE.out, HRL.out]
                      rintro e w7 ⟨S3, rfl, hp, hi, ht, haf, hao, hl⟩
                      have HPZq := HPZ4.out.grow (w' := wr.drewN q) (Below.mono (by (repeat (first | exact Below.refl _ _ | exact Nat.le_refl _ | (refine below_ext ?_ (by first | (simp [size_ext, grow]; done) | (simp [size_ext, grow]; omega) | omega) _ _) | (refine Below.setCell ?_ (by first | (simp [size_ext, grow]; done) | (simp [size_ext, grow]; omega) | omega) _) | (refine Below.alloc ?_ (by first | (simp [size_ext, grow]; done) | (simp [size_ext, grow]; omega) | omega) _) | refine Below.drew ?_ | refine below_drewN ?_ _ | (refine Below.trans ?_ (Below.mono (by assumption) (by first | (simp [size_ext, grow]; done) | (simp [size_ext, grow]; omega) | omega)))))) HPZ4.out.z4)
                      have HPZ7 := Lib.hid (HPZq.turn ht hp hi haf hao)
                      have HOW7 := Lib.hid (HPZq.own ht (own_below HOW4.out (by (repeat (first | exact Below.refl _ _ | exact Nat.le_refl _ | (refine below_ext ?_ (by first | (simp [size_ext, grow]; done) | (simp [size_ext, grow]; omega) | omega) _ _) | (refine Below.setCell ?_ (by first | (simp [size_ext, grow]; done) | (simp [size_ext, grow]; omega) | omega) _) | (refine Below.alloc ?_ (by first | (simp [size_ext, grow]; done) | (simp [size_ext, grow]; omega) | omega) _) | refine Below.drew ?_ | refine below_drewN ?_ _ | (refine Below.trans ?_ (Below.mono (by assumption) (by first | (simp [size_ext, grow]; done) | (simp [size_ext, grow]; omega) | omega))))))))
                      have HHD7 := Lib.hid (show Had (H ++ [a]) (lsd S3 s) by rw [hl]; exact HHD4.out)
                      have HTS := Lib.hid (trunc_size HPZ7.out.z4)
                      have HTB := Lib.hid (trunc_below HPZ7.out.z4)
                      have HHL := Lib.hid (show (H ++ [a]).length = n1 + 1 by rw [List.length_append, ← HN1.out]; rfl)
                      clear hp hi ht haf hao hl HPZq
                      go_wp2_with (at_builtin; refine wpList_appv (trunc w7 Z) rfl (.tmp 112) (.tmp 114) 22 rfl 3 Tryd.underlying22 (.int .i64 0) 1 8 info3 rfl (by decide) (by decide) (.slice _ n1 c1) n1 (ints H) rfl (by rw [HTS.out]; exact own_below HOW7.out (by (repeat (first | exact Below.refl _ _ | exact Nat.le_refl _ | (refine below_ext ?_ (by first | (simp [size_ext, grow]; done) | (simp [size_ext, grow]; omega) | omega) _ _) | (refine Below.setCell ?_ (by first | (simp [size_ext, grow]; done) | (simp [size_ext, grow]; omega) | omega) _) | (refine Below.alloc ?_ (by first | (simp [size_ext, grow]; done) | (simp [size_ext, grow]; omega) | omega) _) | refine Below.drew ?_ | refine below_drewN ?_ _ | (refine Below.trans ?_ (Below.mono (by assumption) (by first | (simp [size_ext, grow]; done) | (simp [size_ext, grow]; omega) | omega))))))) (w7.heap.size + 1) (some ⟨w7.heap.size, 0, none⟩) 1 1 [.int .i64 a] rfl rfl (by omega) (by exact At.newN _ _ _ _ _ rfl rfl) (by intro u hu; simp at hu; rw [hu]; rfl) (by have h1 := HTB.out; have h2 := h1.size; (repeat (first | exact Below.refl _ _ | exact Nat.le_refl _ | (refine below_ext ?_ (by first | (simp [size_ext, grow]; done) | (simp [size_ext, grow]; omega) | omega) _ _) | (refine Below.setCell ?_ (by first | (simp [size_ext, grow]; done) | (simp [size_ext, grow]; omega) | omega) _) | (refine Below.alloc ?_ (by first | (simp [size_ext, grow]; done) | (simp [size_ext, grow]; omega) | omega) _) | refine Below.drew ?_ | refine below_drewN ?_ _ | (refine Below.trans ?_ (Below.mono (by assumption) (by first | (simp [size_ext, grow]; done) | (simp [size_ext, grow]; omega) | omega)))))) ?_; intro A4 c4 w8 ho4 hc4 hb4 hg4; rw [HTS.out] at ho4; have HO4 := Lib.hid ho4; have HG4 := Lib.hid hg4; have HB4 := Lib.hid hb4; clear ho4 hc4 hb4 hg4)
                      go_roundw
                      case rel => exact ⟨j + 1, n1 + 1, c4, A4, H ++ [a], S3, by omega, by omega, by go_num, rfl, HHL.out.symm, by omega, HPZ7.out.grow (trunc_up HPZ7.out.z4 (by have h := HG4.out.size; simp at h; omega) HB4.out), HHD7.out, by rw [ints_snoc]; exact HO4.out⟩
                      case measure => simp [intOf]; omega
          · obtain rfl : j = 60 := by omega
            have hx : decide ((60 : Int) < (nn : Int)) = true := by simp; omega
            go_wp2_with fail
            refine (Leased_any p S _ HPZ.out.a.pool (HBD.out.sound HPZ.out.a.inv)).mono ?_
            rw [HPZ.out.a.inv.hs]
            rintro e wl ⟨LA, lc, rfl, hb, -, -, -⟩
            have HWL := Lib.hid hb
            have HLEN := Lib.hid (show (lsd S s).length = n1 by rw [HN1.out]; exact (HHD.out.len (lsd_nodup S s)).symm)
            rw [HLEN.out]
            clear hb
            go_wp2_with fail
            go_ret
            exact ⟨by first | rfl | (simp; done), HB1.out.trans ((HPZ.out.a.below.trans (HWL.out.mono HPZ.out.a.below.size)).mono HAW.out)⟩
        · obtain rfl : j = nn := by omega
          go_wp2_with fail
          refine (Leased_any p S _ HPZ.out.a.pool (HBD.out.sound HPZ.out.a.inv)).mono ?_
          rw [HPZ.out.a.inv.hs]
          rintro e wl ⟨LA, lc, rfl, hb, -, -, -⟩
          have HWL := Lib.hid hb
          have HLEN := Lib.hid (show (lsd S s).length = n1 by rw [HN1.out]; exact (HHD.out.len (lsd_nodup S s)).symm)
          rw [HLEN.out]
          clear hb
          go_wp2_with fail
          go_ret
          exact ⟨by first | rfl | (simp; done), HB1.out.trans ((HPZ.out.a.below.trans (HWL.out.mono HPZ.out.a.below.size)).mono HAW.out)⟩
end Go.Proofs.YtoilghhclpgfaaaDoor
