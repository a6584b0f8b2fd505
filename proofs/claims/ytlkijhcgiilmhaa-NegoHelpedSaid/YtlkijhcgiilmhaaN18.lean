/- The reference's Are: which rows of rules may be. -/
import Derived.Test.YtlkijhcgiilmhaaN17
namespace Go.Proofs.Ytlkijhcgiilmhaa
open Go.RowKit Go.Maps
set_option linter.unusedSimpArgs false
set_option linter.unusedVariables false
set_option maxHeartbeats 2000000 in
theorem are_ref (A : Option Addr) (n c : Nat) (R : List Rl) (w : World) (B : Nat) (hB : B ≤ w.heap.size) (hR : RulesAt w B A R) (hn : n = R.length) (hl : n ≤ 1000000) :
    Calls Try.prog 15 #[.slice A n c] w fun x w' => x = .returned (.bool (areB R)) ∧ Below w.heap.size w w' := by
  have HR := Lib.hid hR
  have HN := Lib.hid hn
  have HB := Lib.hid hB
  clear hR hn hB
  by_cases h16 : n ≤ 16
  · have f16 : decide (16 < n) = false := by simp; omega
    go_enter Try.func15, Try.ntmps15
    go_wp2_with fail
    go_loopw [3] (fun i wr => ∃ k : Nat, k ≤ n ∧ i = .int .i64 k ∧ goodK R k = true ∧ Below w.heap.size w wr) (fun i _ => n - (intOf i).toNat)
    case atStart => exact ⟨0, Nat.zero_le _, rfl, rfl, by exact bel⟩
    case round =>
      obtain ⟨k, hk, rfl, hg, hbl⟩ := hrel
      have HG := Lib.hid hg
      have HBL := Lib.hid hbl
      have hsz := hbl.size
      clear hg hbl
      by_cases hlt : k < n
      · have HK := Lib.hid (show k < R.length by have := HN.out; omega)
        obtain ⟨b, o, rfl, hbB, hat⟩ := (HR.out.keep (HBL.out.mono HB.out)).get HK.out
        have HIT := Lib.hid (item_at HK.out)
        obtain ⟨r, hr⟩ : ∃ r, R[k]'HK.out = r := ⟨_, rfl⟩
        rw [hr] at hat HIT
        clear hr
        obtain ⟨t, sz, kd, lo, hi, gd, mu⟩ := r
        obtain ⟨c0, c1, c2, c3, c4, c5, c6⟩ := hat
        simp only at c0 c1 c2 c3 c4 c5 c6
        have hblt : b < wr.heap.size := by have := HB.out; omega
        have hix0 : (0 : Int) ≤ (k : Int) := by omega
        have hix1 : (k : Int) < (n : Int) := by omega
        cases hob : okB t sz kd lo hi gd
        · have HOKB := Lib.hid hob
          have HRES := Lib.hid (show areB R = false from are_not HK.out (by rw [HIT.out]; show (okB t sz kd lo hi gd && _) = false; rw [hob]; rfl))
          clear hob
          go_wp2_with fail
          refine (is_ref t sz kd lo hi gd mu _).mono ?_
          rw [HOKB.out]
          rintro e w1 ⟨rfl, hb⟩; obtain ⟨xs, d, rfl⟩ := ext_of hb; clear hb
          go_wp2_with fail
          go_ret
          exact ⟨by rw [HRES.out]; rfl, by have := HBL.out; exact bel⟩
        · have HOKB := Lib.hid hob
          clear hob
          go_wp2_with fail
          refine (is_ref t sz kd lo hi gd mu _).mono ?_
          rw [HOKB.out]
          rintro e w1 ⟨rfl, hb⟩; obtain ⟨xs, d, rfl⟩ := ext_of hb; clear hb
          go_wp2_with fail
          have HBX := Lib.hid (show Below w.heap.size w (ext wr xs d) by have := HBL.out; exact bel)
          go_loopw [4] (fun i wi => ∃ j : Nat, j ≤ k ∧ i = .int .i64 j ∧ cntB R j t = 0 ∧ Below w.heap.size w wi) (fun i _ => k - (intOf i).toNat)
          case atStart => exact ⟨0, Nat.zero_le _, rfl, rfl, HBX.out⟩
          case round =>
            obtain ⟨j, hj, rfl, hcn, hbi⟩ := hrel
            have HCN := Lib.hid hcn
            have HBI := Lib.hid hbi
            have hszi := hbi.size
            clear hcn hbi
            by_cases hjk : j < k
            · have HJ := Lib.hid (show j < R.length by have := HK.out; omega)
              obtain ⟨b', o', hq, hbB', hat2⟩ := (HR.out.keep (HBI.out.mono HB.out)).get HJ.out
              cases hq
              have HCS := Lib.hid (cnt_succ HJ.out t)
              obtain ⟨r2, hr2⟩ : ∃ r2, R[j]'HJ.out = r2 := ⟨_, rfl⟩
              rw [hr2] at hat2 HCS
              clear hr2
              have d0 := hat2.c0
              obtain ⟨t2, _, _, _, _, _, _⟩ := r2
              simp only at d0 HCS
              obtain ⟨c0', -⟩ := (HR.out.keep (HBI.out.mono HB.out)).get HK.out
              have hblt2 : b < wr.heap.size := by have := HB.out; omega
              have c0i : wr.cell? ⟨b, o + k * 7, none⟩ = some (.int .i64 t) := by
                have h1 := HBI.out.cell (p := ⟨b, o + k * 7, none⟩) (by have := HB.out; simp; omega)
                have h2 := HBL.out.cell (p := ⟨b, o + k * 7, none⟩) (by have := HB.out; simp; omega)
                rw [h1, ← h2]; exact c0
              have j0 : (0 : Int) ≤ (j : Int) := by omega
              have j1 : (j : Int) < (n : Int) := by omega
              clear hat2
              cases ht : (t2 == t)
              · have HCX := Lib.hid (show cntB R (j + 1) t = 0 by rw [HCS.out, HCN.out, if_neg (by simpa using ht)])
                go_upto_region 12 with (fail)
                go_quiet (fail)
                go_wp2_with fail
                go_roundw
                case rel => exact ⟨j + 1, by omega, by go_num, HCX.out, by have := HBI.out; exact bel⟩
                case measure => simp [intOf]; omega
              · have HRES := Lib.hid (show areB R = false from are_not HK.out (by
                  rw [HIT.out]
                  have h1 : 1 ≤ cntB R k t := by
                    have h2 : cntB R (j + 1) t ≤ cntB R k t := by
                      unfold cntB
                      have : R.take k = R.take (j + 1) ++ (R.take k).drop (j + 1) := by
                        have h9 := List.take_append_drop (j + 1) (R.take k)
                        rw [List.take_take, Nat.min_eq_left (by omega)] at h9
                        exact h9.symm
                      rw [this, List.countP_append]; omega
                    have h3 : cntB R (j + 1) t = 1 := by rw [HCS.out, HCN.out, if_pos (by simpa using ht)]
                    omega
                  simp; intro _; omega))
                go_upto_region 12 with (fail)
                go_quiet (fail)
                go_wp2_with fail
                go_ret
                exact ⟨by rw [HRES.out]; rfl, by have := HBI.out; exact bel⟩
            · obtain rfl : j = k := by omega
              have HNX := Lib.hid (show goodK R (j + 1) = true by rw [goodK_succ, HG.out, HIT.out]; show (true && (okB t sz kd lo hi gd && _)) = true; rw [HOKB.out, HCN.out]; simp)
              go_wp2_with fail
              go_roundw
              case rel => exact ⟨j + 1, by omega, by go_num, HNX.out, HBI.out⟩
              case measure => simp [intOf]; omega
      · obtain rfl : k = n := by omega
        have HRES := Lib.hid (show areB R = true by unfold areB; rw [← HN.out, HG.out]; simp; omega)
        go_wp2_with fail
        go_ret
        exact ⟨by rw [HRES.out]; rfl, HBL.out⟩
  · have HRES := Lib.hid (show areB R = false by unfold areB; rw [← HN.out]; simp; omega)
    have f16 : decide (16 < n) = true := by simp; omega
    go_enter Try.func15, Try.ntmps15
    go_wp2_with fail
    go_ret
    exact ⟨by rw [HRES.out]; rfl, Below.refl _ _⟩
end Go.Proofs.Ytlkijhcgiilmhaa
