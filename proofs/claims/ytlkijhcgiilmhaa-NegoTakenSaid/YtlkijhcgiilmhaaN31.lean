/- NegoTaken: its walk. -/
import Derived.Test.YtlkijhcgiilmhaaN30
namespace Go.Proofs.Ytlkijhcgiilmhaa
open Go.ChangeShapes Go.WideShapes Go.ChangeAt Go.RowKit Go.Joins Go.Deep
set_option linter.unusedSimpArgs false
set_option linter.unusedVariables false
set_option maxRecDepth 100000 in
set_option maxHeartbeats 4000000 in
theorem taken_walk (A A' : Option Addr) (n c n' c' : Nat) (naks most : Int) (R : List Rl) (E' : List Ent) (w : World) (hR : RulesAt w w.heap.size A R) (hn : n = R.length) (hc : n ≤ c) (hl : (n : Int) ≤ 9223372036854775807)
    (hE' : OptsAt w w.heap.size A' E') (hn' : n' = E'.length) (hl' : (n' : Int) ≤ 9223372036854775807) (hd' : ∀ e ∈ E', (e.d.length : Int) ≤ 9223372036854775807) :
    Calls Try.prog 5 #[.slice A n c, .slice A' n' c', .int .i64 naks, .int .i64 most] w fun x w' => x = .returned (.bool true) ∧ Below w.heap.size w w' := by
  have HR := Lib.hid (hR.take 18)
  have HN := Lib.hid (show min n 18 = (R.take 18).length by rw [List.length_take]; omega)
  obtain ⟨m, hm⟩ : ∃ m, min n 18 = m := ⟨_, rfl⟩
  have hm18 : m ≤ 18 := by omega
  rw [hm] at HN
  have HM := Lib.hid hm
  generalize R.take 18 = R1 at HR HN
  have HE' := Lib.hid hE'
  have HN' := Lib.hid hn'
  have HD' := Lib.hid hd'
  clear hR hn hE' hn' hd' hm
  go_enter Try.func5, Try.ntmps5
  go_wp2_with fail
  refine (rules_any A n c _ hc hl).mono ?_
  rw [HM.out]
  rintro e W1 ⟨rfl, rfl⟩
  go_wp2_with fail
  refine (few_any A' n' c' E' _ _ (Nat.le_refl _) HE'.out HN'.out hl' HD'.out).mono ?_
  rintro e W2 h1
  obtain ⟨A2, n2, c2, rfl, hb, hcut⟩ := h1.get (HE'.out) (Nat.le_refl _)
  have HB2 := Lib.hid hb
  have hz2 := hb.size
  have HC2 := Lib.hid hcut.opts
  have HN2 := Lib.hid hcut.len
  have HD2 := Lib.hid hcut.data
  have hl2 := hcut.le
  have hc2 := hcut.cap
  clear h1 hb hcut
  generalize fewE E' = F2 at HC2 HN2 HD2
  obtain ⟨L, hL⟩ : ∃ L, F2.map Ent.o = L := ⟨_, rfl⟩
  have HL := Lib.hid hL
  have HLN := Lib.hid (show L.length = n2 by rw [← hL, List.length_map]; exact HN2.out.symm)
  clear hL
  go_wp2_with fail
  refine (answer_any A A2 m c n2 c2 naks most R1 F2 L HL.out _ _ (Nat.le_refl _) ((HR.out.keep HB2.out).more hz2) HN.out (by omega) (HC2.out) HN2.out hc2 (by omega) HD2.out).mono ?_
  have HT := Lib.hid (answer_taken (R := R1) (L := L) (naks := naks) (most := most))
  have hyl0 : (answerO R1 L naks most).2.length ≤ 2000 := answer_len (R := R1) (L := L) (naks := naks) (most := most) (by have := HN.out; omega) (by have := HLN.out; omega)
  obtain ⟨⟨co, Y⟩, hY⟩ : ∃ Y, answerO R1 L naks most = Y := ⟨_, rfl⟩
  rw [hY] at HT hyl0
  rw [hY]
  clear hY
  have hyl : Y.length ≤ 2000 := hyl0
  clear hyl0
  obtain ⟨ny, hny⟩ : ∃ ny, Y.length = ny := ⟨_, rfl⟩
  rw [hny] at hyl
  have HNY := Lib.hid hny
  clear hny
  rintro e W3 h1
  obtain ⟨E3, A3, c3, rfl, he, hn3, hc3, hb, ho⟩ := h1.get HNY.out
  have HE3 := Lib.hid he
  have HN3 := Lib.hid hn3
  have HB3 := Lib.hid hb
  have HO3 := Lib.hid ho.at
  have hz3 := hb.size
  have HBW3 := Lib.hid (HB2.out.trans (HB3.out.mono hz2))
  have hzw : w.heap.size ≤ W3.heap.size := by omega
  clear h1 he hn3 hb ho
  by_cases hco : co = 2
  · subst hco
    obtain ⟨har, hYL, hfit, hth⟩ := HT.out rfl
    replace hYL : Y = L := hYL
    have HOK := Lib.hid har
    have HFIT := Lib.hid hfit
    have HTH := Lib.hid hth
    have HYL := Lib.hid hYL
    clear har hfit hth hYL
    go_wp2_with fail
    refine (same_ref A3 A2 ny n2 c3 c2 E3 F2 _ _ (Nat.le_refl _) HO3.out ((HC2.out.keep HB3.out).more hz3) HN3.out HN2.out (by omega)).mono ?_
    rw [HE3.out, HL.out, HYL.out, sameB_self]
    rintro e W4 ⟨rfl, hb⟩
    have HBW4 := Lib.hid (HBW3.out.trans (hb.mono hzw))
    have HB24 := Lib.hid (HB3.out.trans (hb.mono hz3))
    have hz4 := hb.size
    have hBz : W2.heap.size ≤ W4.heap.size := by omega
    clear hb
    have HRW := Lib.hid ((HR.out.keep HBW4.out))
    have HOW := Lib.hid (HC2.out.keep HB24.out)
    obtain ⟨B, hBB⟩ : ∃ B, W2.heap.size = B := ⟨_, rfl⟩
    rw [hBB] at HOW hBz
    have hwB : w.heap.size ≤ B := by omega
    clear hBB
    go_wp2_with fail
    go_loopw [11] (fun i wr => ∃ k : Nat, k ≤ n2 ∧ i = .int .i64 k ∧ Below W4.heap.size W4 wr) (fun i _ => n2 - (intOf i).toNat)
    case atStart => exact ⟨0, Nat.zero_le _, rfl, Below.refl _ _⟩
    case round =>
      obtain ⟨k, hk, rfl, hbl⟩ := hrel
      have HBL := Lib.hid hbl
      have hsz := hbl.size
      clear hbl
      by_cases hlt : k < n2
      · have HK := Lib.hid (show k < F2.length by have := HN2.out; omega)
        have HEQ := Lib.hid (show L[k]'(by have := HLN.out; omega) = (F2[k]'HK.out).o by simp only [← HL.out, List.getElem_map])
        have HFK := Lib.hid (HFIT.out (L[k]'(by have := HLN.out; omega)) (List.getElem_mem _))
        rw [HEQ.out] at HFK
        have jj0 : (0 : Int) ≤ (k : Int) := by omega
        have jj1 : (k : Int) < (n2 : Int) := by omega
        obtain ⟨W5, hW5⟩ : ∃ W5, W5 = wr := ⟨_, rfl⟩
        rw [← hW5] at HBL hsz ⊢
        clear hW5
        go_wp2_with fail
        go_loopw [12, 13] (fun f j wr => ∃ q : Nat, q ≤ m ∧ j = .int .i64 q ∧ f = .bool (anyB R1 (F2[k]'HK.out).o q) ∧ Below W4.heap.size W4 wr) (fun _ j _ => m - (intOf j).toNat)
        case atStart => exact ⟨0, Nat.zero_le _, rfl, rfl, HBL.out⟩
        case round =>
          obtain ⟨q, hq, rfl, rfl, hbi⟩ := hrel
          have HBI := Lib.hid hbi
          have hszi := hbi.size
          clear hbi
          by_cases hqm : q < m
          · have HQ := Lib.hid (show q < R1.length by have := HN.out; omega)
            have hB3 : B ≤ W4.heap.size := hBz
            have hBz : B ≤ wr.heap.size := by omega
            obtain ⟨b, o, rfl, hbB, hx, hy⟩ := (HOW.out.keep (HBI.out.mono hB3)).get HK.out
            obtain ⟨rb, ro, rfl, hrb, hrat⟩ := (HRW.out.keep (HBI.out.mono (by omega))).get HQ.out
            have hat := (HOW.out.2 _ (List.getElem_mem HK.out)).1
            have HNX := Lib.hid (any_succ (o := (F2[k]'HK.out).o) HQ.out)
            have hrok := are_ok HOK.out (List.getElem_mem HQ.out)
            obtain ⟨e0, he0⟩ : ∃ e0, F2[k]'HK.out = e0 := ⟨_, rfl⟩
            rw [he0] at hx hy hat HNX
            have HE0 := Lib.hid he0
            obtain ⟨r, hr⟩ : ∃ r, R1[q]'HQ.out = r := ⟨_, rfl⟩
            rw [hr] at hrat HNX hrok
            clear he0 hr
            obtain ⟨t, d, a, ce⟩ := e0
            obtain ⟨hb0, hb4, -, -, -, -⟩ := ok_bounds hrok
            obtain ⟨rt, sz, kd, lo, hi, gd, mu⟩ := r
            obtain ⟨c0, c1, c2', c3', c4', c5, c6⟩ := hrat
            unfold Ent.v at hy
            simp only at hx hy hat c0 c1 c2' c3' c4' c5 c6 hb0 hb4
            obtain ⟨s, rfl⟩ := Int.eq_ofNat_of_zero_le hb0
            have h4 : s ≤ 4 := by omega
            have hbz : b < wr.heap.size := by omega
            have hrblt : rb < wr.heap.size := by omega
            have qq0 : (0 : Int) ≤ (q : Int) := by omega
            have qq1 : (q : Int) < (m : Int) := by omega
            have HAT := Lib.hid hat
            clear hat hrok
            rw [HE0.out]
            unfold fitB at HNX
            simp only [Ent.o, Rl.takes] at HNX
            cases hany : anyB R1 (Ent.o ⟨t, d, a, ce⟩) q
            · have HANY := Lib.hid hany
              rw [show anyB R1 (t, d) q = false from hany] at HNX
              clear hany
              cases htt : (rt == t)
              · rw [htt] at HNX
                simp only [Bool.false_and, Bool.or_false] at HNX
                go_upto_region 14 with (fail)
                go_quiet (fail)
                go_wp2_with fail
                go_roundw
                case rel => exact ⟨q + 1, by omega, by go_num, congrArg Value.bool HNX.out.symm, by have := HBI.out; (repeat (first | exact Below.refl _ _ | exact Nat.le_refl _ | (refine below_ext ?_ (by first | (simp [size_ext, grow]; done) | (simp [size_ext, grow]; omega) | omega) _ _) | (refine Below.setCell ?_ (by first | (simp [size_ext, grow]; done) | (simp [size_ext, grow]; omega) | omega) _) | (refine Below.alloc ?_ (by first | (simp [size_ext, grow]; done) | (simp [size_ext, grow]; omega) | omega) _) | refine Below.drew ?_ | refine below_drewN ?_ _ | (refine Below.trans ?_ (Below.mono (by assumption) (by first | (simp [size_ext, grow]; done) | (simp [size_ext, grow]; omega) | omega)))))⟩
                case measure => simp [intOf]; omega
              · have htt2 : rt = t := by simpa using htt
                obtain rfl : t = rt := htt2.symm
                have HTT := Lib.hid htt
                clear htt
                obtain ⟨dl, hdl⟩ : ∃ dl, d.length = dl := ⟨_, rfl⟩
                rw [hdl] at hy HNX
                have HS := Lib.hid hdl.symm
                clear hdl
                cases hss : ((s : Int) == (dl : Int))
                · rw [hss] at HNX
                  simp only [Bool.and_false, Bool.false_and, Bool.or_false] at HNX
                  go_upto_region 14 with (fail)
                  go_quiet (fail)
                  go_wp2_with fail
                  go_roundw
                  case rel => exact ⟨q + 1, by omega, by go_num, congrArg Value.bool HNX.out.symm, by have := HBI.out; (repeat (first | exact Below.refl _ _ | exact Nat.le_refl _ | (refine below_ext ?_ (by first | (simp [size_ext, grow]; done) | (simp [size_ext, grow]; omega) | omega) _ _) | (refine Below.setCell ?_ (by first | (simp [size_ext, grow]; done) | (simp [size_ext, grow]; omega) | omega) _) | (refine Below.alloc ?_ (by first | (simp [size_ext, grow]; done) | (simp [size_ext, grow]; omega) | omega) _) | refine Below.drew ?_ | refine below_drewN ?_ _ | (refine Below.trans ?_ (Below.mono (by assumption) (by first | (simp [size_ext, grow]; done) | (simp [size_ext, grow]; omega) | omega)))))⟩
                  case measure => simp [intOf]; omega
                · obtain rfl : s = dl := by simp at hss; omega
                  rw [HTT.out, hss] at HNX
                  simp only [Bool.true_and, Bool.false_or] at HNX
                  obtain ⟨tk, htk⟩ : ∃ tk, takesB kd lo hi gd (be d : Int) = tk := ⟨_, rfl⟩
                  rw [htk] at HNX
                  have HTK := Lib.hid htk
                  clear htk hss
                  go_upto_region 14 with (fail)
                  go_region_held3 (fun w' => w'.cell? ⟨rb, ro + q * 7, none⟩ = some (.int .i64 t) ∧ w'.cell? ⟨rb, ro + q * 7 + 1, none⟩ = some (.int .i64 (s : Int)) ∧ w'.cell? ⟨rb, ro + q * 7 + 2, none⟩ = some (.int .i64 kd) ∧ w'.cell? ⟨rb, ro + q * 7 + 3, none⟩ = some (.int .i64 lo) ∧ w'.cell? ⟨rb, ro + q * 7 + 4, none⟩ = some (.int .i64 hi) ∧ w'.cell? ⟨rb, ro + q * 7 + 5, none⟩ = some (.int .i64 gd) ∧ w'.cell? ⟨rb, ro + q * 7 + 6, none⟩ = some (.bool mu) ∧ w'.cell? ⟨b, o + k * 2, none⟩ = some (.int .i64 t) ∧ w'.cell? ⟨b, o + k * 2 + 1, none⟩ = some (.slice a s ce)) (first | (go_keep; done) | (go_simp; done) | (simp [go_sem]; done)) ((first | (go_at_call 20; go_must (refine (number_law t a s ce d _ B (by have := hBz; first | omega | (simp [size_ext, grow]; omega)) (by exact HAT.out.keep (by have h := HBI.out.mono hB3; (repeat (first | exact Below.refl _ _ | exact Nat.le_refl _ | (refine below_ext ?_ (by first | (simp [size_ext, grow]; done) | (simp [size_ext, grow]; omega) | omega) _ _) | (refine Below.setCell ?_ (by first | (simp [size_ext, grow]; done) | (simp [size_ext, grow]; omega) | omega) _) | (refine Below.alloc ?_ (by first | (simp [size_ext, grow]; done) | (simp [size_ext, grow]; omega) | omega) _) | refine Below.drew ?_ | refine below_drewN ?_ _ | (refine Below.trans ?_ (Below.mono (by assumption) (by first | (simp [size_ext, grow]; done) | (simp [size_ext, grow]; omega) | omega))))))) HS.out h4).mono ?_); rintro e w1 ⟨rfl, hb⟩; obtain ⟨xs4, dr4, rfl⟩ := ext_of hb; clear hb) | (go_at_call 19; go_must (refine (takes_ref t _ kd lo hi _ _ mu _).mono ?_); rw [HTK.out]; rintro e w1 ⟨rfl, hb⟩; obtain ⟨xs5, dr5, rfl⟩ := ext_of hb; clear hb)))
                  all_goals
                    go_wp2_with fail
                    go_roundw
                    case rel => exact ⟨q + 1, by omega, by go_num, congrArg Value.bool HNX.out.symm, by have := HBI.out; (repeat (first | exact Below.refl _ _ | exact Nat.le_refl _ | (refine below_ext ?_ (by first | (simp [size_ext, grow]; done) | (simp [size_ext, grow]; omega) | omega) _ _) | (refine Below.setCell ?_ (by first | (simp [size_ext, grow]; done) | (simp [size_ext, grow]; omega) | omega) _) | (refine Below.alloc ?_ (by first | (simp [size_ext, grow]; done) | (simp [size_ext, grow]; omega) | omega) _) | refine Below.drew ?_ | refine below_drewN ?_ _ | (refine Below.trans ?_ (Below.mono (by assumption) (by first | (simp [size_ext, grow]; done) | (simp [size_ext, grow]; omega) | omega)))))⟩
                    case measure => simp [intOf]; omega
            · rw [show anyB R1 (t, d) q = true from hany] at HNX
              simp only [Bool.true_or] at HNX
              clear hany
              go_upto_region 14 with (fail)
              go_quiet (fail)
              go_wp2_with fail
              go_roundw
              case rel => exact ⟨q + 1, by omega, by go_num, congrArg Value.bool HNX.out.symm, by have := HBI.out; (repeat (first | exact Below.refl _ _ | exact Nat.le_refl _ | (refine below_ext ?_ (by first | (simp [size_ext, grow]; done) | (simp [size_ext, grow]; omega) | omega) _ _) | (refine Below.setCell ?_ (by first | (simp [size_ext, grow]; done) | (simp [size_ext, grow]; omega) | omega) _) | (refine Below.alloc ?_ (by first | (simp [size_ext, grow]; done) | (simp [size_ext, grow]; omega) | omega) _) | refine Below.drew ?_ | refine below_drewN ?_ _ | (refine Below.trans ?_ (Below.mono (by assumption) (by first | (simp [size_ext, grow]; done) | (simp [size_ext, grow]; omega) | omega)))))⟩
              case measure => simp [intOf]; omega
          · obtain rfl : q = m := by omega
            have HF2 := Lib.hid (show anyB R1 (F2[k]'HK.out).o q = true by have h := HFK.out; rwa [← HN.out] at h)
            rw [HF2.out]
            go_wp2_with fail
            go_roundw
            case rel => exact ⟨k + 1, by omega, by go_num, HBI.out⟩
            case measure => simp [intOf]; omega
      · obtain rfl : n2 = k := by omega
        go_wp2_with fail
        obtain ⟨W5, hW5⟩ : ∃ W5, W5 = wr := ⟨_, rfl⟩
        rw [← hW5] at HBL hsz ⊢
        clear hW5
        go_loopw [14] (fun i wr => ∃ q : Nat, q ≤ m ∧ i = .int .i64 q ∧ Below W4.heap.size W4 wr) (fun i _ => m - (intOf i).toNat)
        case atStart => exact ⟨0, Nat.zero_le _, rfl, HBL.out⟩
        case round =>
          obtain ⟨q, hq, rfl, hbi⟩ := hrel
          have HBI := Lib.hid hbi
          have hszi := hbi.size
          clear hbi
          by_cases hqm : q < m
          · have HQ := Lib.hid (show q < R1.length by have := HN.out; omega)
            have HTQ := Lib.hid (HTH.out (R1[q]'HQ.out) (List.getElem_mem _))
            obtain ⟨rb, ro, hra, hrb, hrat⟩ := (HRW.out.keep (HBI.out.mono (by omega))).get HQ.out
            obtain ⟨c0, c1, c2', c3', c4', c5, c6⟩ := hrat
            subst hra
            have HTZ := Lib.hid (there_zero L (R1[q]'HQ.out))
            have hrblt : rb < wr.heap.size := by omega
            have qq0 : (0 : Int) ≤ (q : Int) := by omega
            have qq1 : (q : Int) < (m : Int) := by omega
            obtain ⟨mu, hmu⟩ : ∃ mu, (R1[q]'HQ.out).must = mu := ⟨_, rfl⟩
            rw [hmu] at c6 HTZ
            clear hmu c0 c1 c2' c3' c4' c5
            obtain ⟨W6, hW6⟩ : ∃ W6, W6 = wr := ⟨_, rfl⟩
            rw [← hW6] at HBI hszi c6 hrblt ⊢
            clear hW6
            go_wp2_with fail
            clear c6
            rw [← HTZ.out]
            go_loopw [15, 16] (fun f j wr => ∃ k : Nat, k ≤ n2 ∧ j = .int .i64 k ∧ f = .bool (thereB L (R1[q]'HQ.out) k) ∧ Below W4.heap.size W4 wr) (fun _ j _ => n2 - (intOf j).toNat)
            case atStart => exact ⟨0, Nat.zero_le _, rfl, rfl, by have := HBI.out; (repeat (first | exact Below.refl _ _ | exact Nat.le_refl _ | (refine below_ext ?_ (by first | (simp [size_ext, grow]; done) | (simp [size_ext, grow]; omega) | omega) _ _) | (refine Below.setCell ?_ (by first | (simp [size_ext, grow]; done) | (simp [size_ext, grow]; omega) | omega) _) | (refine Below.alloc ?_ (by first | (simp [size_ext, grow]; done) | (simp [size_ext, grow]; omega) | omega) _) | refine Below.drew ?_ | refine below_drewN ?_ _ | (refine Below.trans ?_ (Below.mono (by assumption) (by first | (simp [size_ext, grow]; done) | (simp [size_ext, grow]; omega) | omega)))))⟩
            case round =>
              obtain ⟨k, hk, rfl, rfl, hbj⟩ := hrel
              have HBJ := Lib.hid hbj
              have hszj := hbj.size
              clear hbj
              by_cases hkn : k < n2
              · have HK := Lib.hid (show k < F2.length by have := HN2.out; omega)
                have HEQ := Lib.hid (show L[k]'(by have := HLN.out; omega) = (F2[k]'HK.out).o by simp only [← HL.out, List.getElem_map])
                have HNX := Lib.hid (there_succ (r := R1[q]'HQ.out) (show k < L.length by have := HLN.out; omega))
                rw [HEQ.out] at HNX
                obtain ⟨b, o, rfl, hbB, hx, -⟩ := (HOW.out.keep (HBJ.out.mono hBz)).get HK.out
                obtain ⟨rb2, ro2, hra, -, hrat⟩ := (HRW.out.keep (HBJ.out.mono (by omega))).get HQ.out
                simp only [Option.some.injEq, Addr.mk.injEq, and_true] at hra
                obtain ⟨rfl, rfl⟩ := hra
                have c0 := hrat.c0
                clear hrat
                obtain ⟨rt, hrt⟩ : ∃ rt, (R1[q]'HQ.out).t = rt := ⟨_, rfl⟩
                obtain ⟨lt, hlt⟩ : ∃ lt, (F2[k]'HK.out).t = lt := ⟨_, rfl⟩
                have HOT := Lib.hid (show (F2[k]'HK.out).o.1 = lt from hlt)
                rw [HOT.out, hrt] at HNX
                rw [hrt] at c0
                rw [hlt] at hx
                clear hrt hlt HOT
                have hbz : b < wr.heap.size := by omega
                have hrz : rb < wr.heap.size := by omega
                have kk0 : (0 : Int) ≤ (k : Int) := by omega
                have kk1 : (k : Int) < (n2 : Int) := by omega
                cases hth : thereB L (R1[q]'HQ.out) k
                · rw [hth] at HNX
                  simp only [Bool.false_or] at HNX
                  have HTT := Lib.hid hth
                  clear hth
                  go_upto_region 24 with (fail)
                  go_quiet (fail)
                  go_wp2_with fail
                  go_roundw
                  case rel => exact ⟨k + 1, by omega, by go_num, congrArg Value.bool HNX.out.symm, by have := HBJ.out; (repeat (first | exact Below.refl _ _ | exact Nat.le_refl _ | (refine below_ext ?_ (by first | (simp [size_ext, grow]; done) | (simp [size_ext, grow]; omega) | omega) _ _) | (refine Below.setCell ?_ (by first | (simp [size_ext, grow]; done) | (simp [size_ext, grow]; omega) | omega) _) | (refine Below.alloc ?_ (by first | (simp [size_ext, grow]; done) | (simp [size_ext, grow]; omega) | omega) _) | refine Below.drew ?_ | refine below_drewN ?_ _ | (refine Below.trans ?_ (Below.mono (by assumption) (by first | (simp [size_ext, grow]; done) | (simp [size_ext, grow]; omega) | omega)))))⟩
                  case measure => simp [intOf]; omega
                · rw [hth] at HNX
                  simp only [Bool.true_or] at HNX
                  have HTT := Lib.hid hth
                  clear hth
                  go_upto_region 24 with (fail)
                  go_quiet (fail)
                  go_wp2_with fail
                  go_roundw
                  case rel => exact ⟨k + 1, by omega, by go_num, congrArg Value.bool HNX.out.symm, by have := HBJ.out; (repeat (first | exact Below.refl _ _ | exact Nat.le_refl _ | (refine below_ext ?_ (by first | (simp [size_ext, grow]; done) | (simp [size_ext, grow]; omega) | omega) _ _) | (refine Below.setCell ?_ (by first | (simp [size_ext, grow]; done) | (simp [size_ext, grow]; omega) | omega) _) | (refine Below.alloc ?_ (by first | (simp [size_ext, grow]; done) | (simp [size_ext, grow]; omega) | omega) _) | refine Below.drew ?_ | refine below_drewN ?_ _ | (refine Below.trans ?_ (Below.mono (by assumption) (by first | (simp [size_ext, grow]; done) | (simp [size_ext, grow]; omega) | omega)))))⟩
                  case measure => simp [intOf]; omega
              · obtain rfl : k = n2 := by omega
                have HT2 := Lib.hid (show thereB L (R1[q]'HQ.out) k = true by have h := HTQ.out; rwa [HLN.out] at h)
                rw [HT2.out]
                go_wp2_with fail
                go_roundw
                case rel => exact ⟨q + 1, by omega, by go_num, HBJ.out⟩
                case measure => simp [intOf]; omega
          · obtain rfl : q = m := by omega
            go_wp2_with fail
            refine (awake_any _).mono ?_
            rintro e w1 ⟨rfl, hb⟩; obtain ⟨xs9, d9, rfl⟩ := ext_of hb; clear hb
            go_wp2_with fail
            go_ret
            exact ⟨rfl, by have h := HBW4.out.trans (HBI.out.mono (by omega)); have := h.size; (repeat (first | exact Below.refl _ _ | exact Nat.le_refl _ | (refine below_ext ?_ (by first | (simp [size_ext, grow]; done) | (simp [size_ext, grow]; omega) | omega) _ _) | (refine Below.setCell ?_ (by first | (simp [size_ext, grow]; done) | (simp [size_ext, grow]; omega) | omega) _) | (refine Below.alloc ?_ (by first | (simp [size_ext, grow]; done) | (simp [size_ext, grow]; omega) | omega) _) | refine Below.drew ?_ | refine below_drewN ?_ _ | (refine Below.trans ?_ (Below.mono (by assumption) (by first | (simp [size_ext, grow]; done) | (simp [size_ext, grow]; omega) | omega)))))⟩
  · have hc1 : (co != 2) = true := by simpa using hco
    go_wp2_with fail
    refine (awake_any _).mono ?_
    rintro e w1 ⟨rfl, hb⟩; obtain ⟨xs9, d9, rfl⟩ := ext_of hb; clear hb
    go_wp2_with fail
    go_ret
    exact ⟨rfl, by have := HBW3.out; (repeat (first | exact Below.refl _ _ | exact Nat.le_refl _ | (refine below_ext ?_ (by first | (simp [size_ext, grow]; done) | (simp [size_ext, grow]; omega) | omega) _ _) | (refine Below.setCell ?_ (by first | (simp [size_ext, grow]; done) | (simp [size_ext, grow]; omega) | omega) _) | (refine Below.alloc ?_ (by first | (simp [size_ext, grow]; done) | (simp [size_ext, grow]; omega) | omega) _) | refine Below.drew ?_ | refine below_drewN ?_ _ | (refine Below.trans ?_ (Below.mono (by assumption) (by first | (simp [size_ext, grow]; done) | (simp [size_ext, grow]; omega) | omega)))))⟩
theorem negoTaken_calls {H : Type} (enc : TypeId × Value → H) (W : World) (base : Nat) (v0 v1 v2 v3 : Value) (d0 d1 d2 d3 : DataW H) (p0 p1 p2 p3 : List MemPlace)
    (o0 : Value.okWide Try.prog W .any base 22 v0) (o1 : Value.okWide Try.prog W .any base 23 v1) (o2 : Value.okWide Try.prog W .any base 3 v2) (o3 : Value.okWide Try.prog W .any base 3 v3)
    (h0 : DataW.Trod enc Try.prog W 0 (fun _ => true) true 22 v0 d0 p0) (h1 : DataW.Trod enc Try.prog W 0 (fun _ => true) true 23 v1 d1 p1) (h2 : DataW.Trod enc Try.prog W 0 (fun _ => true) true 3 v2 d2 p2) (h3 : DataW.Trod enc Try.prog W 0 (fun _ => true) true 3 v3 d3 p3) :
    Calls Try.prog 5 #[v0, v1, v2, v3] W fun e W' => e = .returned (.bool true) ∧ Below W.heap.size W W' := by
  obtain ⟨A, n, c, R, rfl, hR, hn, hc, hl⟩ := open_rules o0 h0
  obtain ⟨A', n', c', E', rfl, hE', hn', hc', hl', hd'⟩ := open_opts_arg o1 h1
  obtain ⟨i2, rfl, rfl, rfl, w2⟩ := open_int Try.underlying3 o2 h2
  obtain ⟨i3, rfl, rfl, rfl, w3⟩ := open_int Try.underlying3 o3 h3
  exact taken_walk A A' n c n' c' i2 i3 R E' W hR hn hc hl hE' hn' hl' hd'
end Go.Proofs.Ytlkijhcgiilmhaa
