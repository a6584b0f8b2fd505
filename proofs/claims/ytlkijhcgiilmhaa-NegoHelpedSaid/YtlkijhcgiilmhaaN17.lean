/- nego.Check: which rows of rules may be. -/
import Derived.Test.YtlkijhcgiilmhaaN16
namespace Go.Proofs.Ytlkijhcgiilmhaa
open Go.RowKit Go.Maps
set_option linter.unusedSimpArgs false
set_option linter.unusedVariables false
def chkV (b : Bool) : Int := if b = true then 0 else 150
theorem chk_true : chkV true = 0 := rfl
theorem chk_false : chkV false = 150 := rfl
set_option maxHeartbeats 2000000 in
theorem check_any (A : Option Addr) (n c : Nat) (R : List Rl) (w : World) (B : Nat) (hB : B ≤ w.heap.size) (hR : RulesAt w B A R) (hn : n = R.length) (hl : n ≤ 1000000) :
    Calls Try.prog 13 #[.slice A n c] w fun x w' => x = .returned (.int .i64 (chkV (areB R))) ∧ Below w.heap.size w w' := by
  have HR := Lib.hid hR
  have HN := Lib.hid hn
  have HB := Lib.hid hB
  clear hR hn hB
  by_cases h16 : n ≤ 16
  · have hmm := @run_makeMap Try.prog
    have f16 : decide (16 < n) = false := by simp; omega
    go_enter Try.func13, Try.ntmps13
    go_wp2_with fail
    go_loopw [12] (fun i wr => ∃ k : Nat, k ≤ n ∧ i = .int .i64 k ∧ goodK R k = true ∧ CountMap wr w.heap.size k (cntB R k) ∧ Below w.heap.size w wr) (fun i _ => n - (intOf i).toNat)
    case atStart => exact ⟨0, Nat.zero_le _, rfl, rfl, CountMap.made w, by exact bel⟩
    case round =>
      obtain ⟨k, hk, rfl, hg, hcm, hbl⟩ := hrel
      have HG := Lib.hid hg
      have HCM := Lib.hid hcm
      have HBL := Lib.hid hbl
      have hsz := hbl.size
      have hclt := hcm.lt
      clear hg hcm hbl
      by_cases hlt : k < n
      · have HK := Lib.hid (show k < R.length by have := HN.out; omega)
        obtain ⟨b, o, rfl, hbB, hat⟩ := (HR.out.keep (HBL.out.mono HB.out)).get HK.out
        have hwf := (HR.out.2 _ (List.getElem_mem HK.out)).1
        have HIT := Lib.hid (item_at HK.out)
        have HCS := Lib.hid (cnt_succ HK.out)
        obtain ⟨r, hr⟩ : ∃ r, R[k]'HK.out = r := ⟨_, rfl⟩
        rw [hr] at hat hwf HIT HCS
        clear hr
        obtain ⟨t, sz, kd, lo, hi, gd, mu⟩ := r
        obtain ⟨c0, c1, c2, c3, c4, c5, c6⟩ := hat
        simp only at c0 c1 c2 c3 c4 c5 c6 hwf
        obtain ⟨q, hq⟩ : ∃ q, cntB R k t = q := ⟨_, rfl⟩
        have HQ := Lib.hid hq
        have hqk : q ≤ 16 := by have := cnt_le R k t; omega
        clear hq
        have HO := Lib.hid (show okB t sz kd lo hi gd = okB t sz kd lo hi gd from rfl)
        have hcm2 : CountMap (wr.alloc (.cells #[.int .i64 t, .int .i64 sz, .int .i64 kd, .int .i64 lo, .int .i64 hi, .int .i64 gd, .bool mu] 39)) w.heap.size k (cntB R k) := HCM.out.keep (Below.heap_alloc _ _ _ hclt)
        have e1 : (Instr.lookup 54 (.map (some w.heap.size)) (.int .i64 t) false).run Try.prog (wr.alloc (.cells #[.int .i64 t, .int .i64 sz, .int .i64 kd, .int .i64 lo, .int .i64 hi, .int .i64 gd, .bool mu] 39)) = .ok (.int .i64 (q : Int)) (wr.alloc (.cells #[.int .i64 t, .int .i64 sz, .int .i64 kd, .int .i64 lo, .int .i64 hi, .int .i64 gd, .bool mu] 39)) := by have := hcm2.look hwf; rwa [HQ.out] at this
        obtain ⟨w1, hr2, hcm1, hgr1⟩ := hcm2.store (g := cntB R (k + 1)) (by unfold maxLen; omega) hwf (c := q + 1) (by unfold wf64; omega) (fun u => by rw [HCS.out u]; by_cases e : t = u <;> simp [e]; subst e; exact HQ.out)
        have e2 : (Instr.mapUpdate 54 (.map (some w.heap.size)) (.int .i64 t) (.int .i64 ((q : Int) + 1))).run Try.prog (wr.alloc (.cells #[.int .i64 t, .int .i64 sz, .int .i64 kd, .int .i64 lo, .int .i64 hi, .int .i64 gd, .bool mu] 39)) = .ok () w1 := hr2
        have hbx : w1.heap[wr.heap.size]? = some (.cells #[.int .i64 t, .int .i64 sz, .int .i64 kd, .int .i64 lo, .int .i64 hi, .int .i64 gd, .bool mu] 39 (0, 0)) := by
          rw [hgr1.block wr.heap.size (by simp) (by simp; omega)]
          exact heap_alloc_new wr _
        obtain ⟨g0, g1, g2, g3, g4, g5, g6, g7⟩ := seven (r := ⟨t, sz, kd, lo, hi, gd, mu⟩) hbx
        have HB1 := Lib.hid (show Below w.heap.size w w1 from (HBL.out.alloc hsz _).grown hgr1 (by simp; omega) (fun r e => by cases e; exact Nat.le_refl _))
        have hsz1 := HB1.out.size
        have hblt : b < wr.heap.size := by have := HB.out; omega
        have HCM1 := Lib.hid hcm1
        have HWF := Lib.hid hwf
        have hclt1 := hcm1.lt
        have hix0 : (0 : Int) ≤ (k : Int) := by omega
        have hix1 : (k : Int) < (n : Int) := by omega
        clear hbx hgr1 hcm2 hr2 hcm1 hwf
        cases hob : okB t sz kd lo hi gd
        · have HOKB := Lib.hid hob
          have HRES := Lib.hid (show areB R = false from are_not HK.out (by rw [HIT.out]; show (okB t sz kd lo hi gd && _) = false; rw [hob]; rfl))
          clear hob
          go_wp2_with fail
          refine (may_any t sz kd lo hi gd mu _).mono ?_
          rw [HOKB.out]
          rintro e w1 ⟨rfl, hb⟩; obtain ⟨xs, d, rfl⟩ := ext_of hb; clear hb
          go_wp2_with fail
          go_ret
          exact ⟨by rw [HRES.out]; rfl, by have := HB1.out; exact bel⟩
        · have HOKB := Lib.hid hob
          by_cases hq0 : q = 0
          · have HNX := Lib.hid (show goodK R (k + 1) = true by rw [goodK_succ, HG.out, HIT.out]; show (true && (okB t sz kd lo hi gd && _)) = true; rw [hob, HQ.out]; simp [hq0])
            clear hob
            have e4 : decide ((1 : Int) < (q : Int) + 1) = false := by simp; omega
            have e5 : ¬ (1 : Int) < (q : Int) + 1 := by omega
            clear hq0
            go_wp2_with fail
            refine (may_any t sz kd lo hi gd mu _).mono ?_
            rw [HOKB.out]
            rintro e w1 ⟨rfl, hb⟩; obtain ⟨xs, d, rfl⟩ := ext_of hb; clear hb
            have e3 : (Instr.lookup 54 (.map (some w.heap.size)) (.int .i64 t) false).run Try.prog (ext w1 xs d) = .ok (.int .i64 ((q : Int) + 1)) (ext w1 xs d) := by
              have := (HCM1.out.keep (w' := ext w1 xs d) (ext_block w1 xs d _ hclt1)).look HWF.out
              rw [HCS.out, HQ.out] at this
              simpa using this
            go_wp2_with fail
            go_roundw
            case rel => exact ⟨k + 1, by omega, by go_num, HNX.out, HCM1.out.keep (ext_block w1 xs d _ hclt1), by have := HB1.out; exact bel⟩
            case measure => simp [intOf]; omega
          · have HRES := Lib.hid (show areB R = false from are_not HK.out (by rw [HIT.out, HQ.out]; simp [hq0]))
            have e4 : decide ((1 : Int) < (q : Int) + 1) = true := by simp; omega
            have e5 : (1 : Int) < (q : Int) + 1 := by omega
            clear hob
            go_wp2_with fail
            refine (may_any t sz kd lo hi gd mu _).mono ?_
            rw [HOKB.out]
            rintro e w1 ⟨rfl, hb⟩; obtain ⟨xs, d, rfl⟩ := ext_of hb; clear hb
            have e3 : (Instr.lookup 54 (.map (some w.heap.size)) (.int .i64 t) false).run Try.prog (ext w1 xs d) = .ok (.int .i64 ((q : Int) + 1)) (ext w1 xs d) := by
              have := (HCM1.out.keep (w' := ext w1 xs d) (ext_block w1 xs d _ hclt1)).look HWF.out
              rw [HCS.out, HQ.out] at this
              simpa using this
            go_wp2_with fail
            go_ret
            exact ⟨by rw [HRES.out]; rfl, by have := HB1.out; exact bel⟩
      · obtain rfl : k = n := by omega
        have HRES := Lib.hid (show areB R = true by unfold areB; rw [← HN.out, HG.out]; simp; omega)
        go_wp2_with fail
        go_ret
        exact ⟨by rw [HRES.out]; rfl, HBL.out⟩
  · have HRES := Lib.hid (show areB R = false by unfold areB; rw [← HN.out]; simp; omega)
    have f16 : decide (16 < n) = true := by simp; omega
    go_enter Try.func13, Try.ntmps13
    go_wp2_with fail
    go_ret
    exact ⟨by rw [HRES.out]; rfl, Below.refl _ _⟩
end Go.Proofs.Ytlkijhcgiilmhaa
