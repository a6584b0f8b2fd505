/- The program: which settings and automata may be. -/
import Derived.Test.YthidhfkbfoejbaaGreatQ1
namespace Go.Proofs.YthidhfkbfoejbaaGreat
open Go.RowKit
set_option linter.ambiguousOpen false
open Ne (Rl Opt RulesAt areB)
set_option linter.unusedSimpArgs false
set_option linter.unusedVariables false

set_option maxHeartbeats 2000000 in
theorem settings_any (A : Option Addr) (n c : Nat) (R : List Rl) (mc mt mf wt : Int) (w : World) (B : Nat) (hB : B ≤ w.heap.size) (hR : RulesAt w B A R) (hn : n = R.length) (hl : n ≤ 1000000) :
    Calls Tryz.prog 55 #[.agg #[.slice A n c, .int .i64 mc, .int .i64 mt, .int .i64 mf, .int .i64 wt]] w fun x w' => x = .returned (.bool (confB ⟨R, mc, mt, mf, wt⟩)) ∧ Below w.heap.size w w' := by
  have HB := Lib.hid hB
  have HR := Lib.hid hR
  have HN := Lib.hid hn
  clear hB hR hn
  cases h0 : areB R
  · have HK := Lib.hid (show Ne.chkV (areB R) = 150 by rw [h0]; rfl)
    have HV := Lib.hid (show confB ⟨R, mc, mt, mf, wt⟩ = false by simp [confB, h0])
    go_enter Tryz.func55, Tryz.ntmps55
    go_wp2_with (first | (go_at_call 79; refine (Ne.check_any A n c R _ B (by have := HB.out; simp; omega) (by exact HR.out.keep (by have := HB.out; exact bel)) HN.out hl).mono ?_; rw [HK.out]; rintro e w1 ⟨rfl, hb⟩; obtain ⟨xs, d, rfl⟩ := ext_of hb; clear hb) | (go_at_call 41; refine (within_t _ _ _ _ (by assumption)).mono ?_; rintro e w1 ⟨rfl, rfl⟩) | (go_at_call 41; refine (within_f _ _ _ _ (by assumption)).mono ?_; rintro e w1 ⟨rfl, rfl⟩))
    go_ret
    exact ⟨by rw [HV.out]; rfl, by exact bel⟩
  · cases h1 : inB mc 1 1000
    · have HK := Lib.hid (show Ne.chkV (areB R) = 0 by rw [h0]; rfl)
      have HV := Lib.hid (show confB ⟨R, mc, mt, mf, wt⟩ = false by simp [confB, h0, h1])
      go_enter Tryz.func55, Tryz.ntmps55
      go_wp2_with (first | (go_at_call 79; refine (Ne.check_any A n c R _ B (by have := HB.out; simp; omega) (by exact HR.out.keep (by have := HB.out; exact bel)) HN.out hl).mono ?_; rw [HK.out]; rintro e w1 ⟨rfl, hb⟩; obtain ⟨xs, d, rfl⟩ := ext_of hb; clear hb) | (go_at_call 41; refine (within_t _ _ _ _ (by assumption)).mono ?_; rintro e w1 ⟨rfl, rfl⟩) | (go_at_call 41; refine (within_f _ _ _ _ (by assumption)).mono ?_; rintro e w1 ⟨rfl, rfl⟩))
      go_ret
      exact ⟨by rw [HV.out]; rfl, by exact bel⟩
    · cases h2 : inB mt 1 1000
      · have HK := Lib.hid (show Ne.chkV (areB R) = 0 by rw [h0]; rfl)
        have HV := Lib.hid (show confB ⟨R, mc, mt, mf, wt⟩ = false by simp [confB, h0, h1, h2])
        go_enter Tryz.func55, Tryz.ntmps55
        go_wp2_with (first | (go_at_call 79; refine (Ne.check_any A n c R _ B (by have := HB.out; simp; omega) (by exact HR.out.keep (by have := HB.out; exact bel)) HN.out hl).mono ?_; rw [HK.out]; rintro e w1 ⟨rfl, hb⟩; obtain ⟨xs, d, rfl⟩ := ext_of hb; clear hb) | (go_at_call 41; refine (within_t _ _ _ _ (by assumption)).mono ?_; rintro e w1 ⟨rfl, rfl⟩) | (go_at_call 41; refine (within_f _ _ _ _ (by assumption)).mono ?_; rintro e w1 ⟨rfl, rfl⟩))
        go_ret
        exact ⟨by rw [HV.out]; rfl, by exact bel⟩
      · cases h3 : inB mf 0 1000
        · have HK := Lib.hid (show Ne.chkV (areB R) = 0 by rw [h0]; rfl)
          have HV := Lib.hid (show confB ⟨R, mc, mt, mf, wt⟩ = false by simp [confB, h0, h1, h2, h3])
          go_enter Tryz.func55, Tryz.ntmps55
          go_wp2_with (first | (go_at_call 79; refine (Ne.check_any A n c R _ B (by have := HB.out; simp; omega) (by exact HR.out.keep (by have := HB.out; exact bel)) HN.out hl).mono ?_; rw [HK.out]; rintro e w1 ⟨rfl, hb⟩; obtain ⟨xs, d, rfl⟩ := ext_of hb; clear hb) | (go_at_call 41; refine (within_t _ _ _ _ (by assumption)).mono ?_; rintro e w1 ⟨rfl, rfl⟩) | (go_at_call 41; refine (within_f _ _ _ _ (by assumption)).mono ?_; rintro e w1 ⟨rfl, rfl⟩))
          go_ret
          exact ⟨by rw [HV.out]; rfl, by exact bel⟩
        · cases h4 : inB wt 1 1048576
          · have HK := Lib.hid (show Ne.chkV (areB R) = 0 by rw [h0]; rfl)
            have HV := Lib.hid (show confB ⟨R, mc, mt, mf, wt⟩ = false by simp [confB, h0, h1, h2, h3, h4])
            go_enter Tryz.func55, Tryz.ntmps55
            go_wp2_with (first | (go_at_call 79; refine (Ne.check_any A n c R _ B (by have := HB.out; simp; omega) (by exact HR.out.keep (by have := HB.out; exact bel)) HN.out hl).mono ?_; rw [HK.out]; rintro e w1 ⟨rfl, hb⟩; obtain ⟨xs, d, rfl⟩ := ext_of hb; clear hb) | (go_at_call 41; refine (within_t _ _ _ _ (by assumption)).mono ?_; rintro e w1 ⟨rfl, rfl⟩) | (go_at_call 41; refine (within_f _ _ _ _ (by assumption)).mono ?_; rintro e w1 ⟨rfl, rfl⟩))
            go_ret
            exact ⟨by rw [HV.out]; rfl, by exact bel⟩
          · have HK := Lib.hid (show Ne.chkV (areB R) = 0 by rw [h0]; rfl)
            have HV := Lib.hid (show confB ⟨R, mc, mt, mf, wt⟩ = true by simp [confB, h0, h1, h2, h3, h4])
            go_enter Tryz.func55, Tryz.ntmps55
            go_wp2_with (first | (go_at_call 79; refine (Ne.check_any A n c R _ B (by have := HB.out; simp; omega) (by exact HR.out.keep (by have := HB.out; exact bel)) HN.out hl).mono ?_; rw [HK.out]; rintro e w1 ⟨rfl, hb⟩; obtain ⟨xs, d, rfl⟩ := ext_of hb; clear hb) | (go_at_call 41; refine (within_t _ _ _ _ (by assumption)).mono ?_; rintro e w1 ⟨rfl, rfl⟩) | (go_at_call 41; refine (within_f _ _ _ _ (by assumption)).mono ?_; rintro e w1 ⟨rfl, rfl⟩))
            go_ret
            exact ⟨by rw [HV.out]; rfl, by exact bel⟩
set_option maxHeartbeats 4000000 in
theorem sound_any (st id req cnt tim nak : Int) (A : Option Addr) (n c : Nat) (E : List Ent) (L : List Opt) (hL : E.map Ent.o = L) (w : World) (B : Nat) (hB : B ≤ w.heap.size) (hE : OptsAt w B A E) (hn : n = E.length) :
    Calls Tryz.prog 56 #[.agg #[.int .i64 st, .int .i64 id, .int .i64 req, .slice A n c, .int .i64 cnt, .int .i64 tim, .int .i64 nak]] w fun x w' => x = .returned (.bool (isB ⟨st, id, req, L, cnt, tim, nak⟩)) ∧ Below w.heap.size w w' := by
  have HB := Lib.hid hB
  have HE := Lib.hid hE
  have HN := Lib.hid hn
  have HL := Lib.hid hL
  clear hB hE hn hL
  cases h1 : inB st 0 9
  · have HV := Lib.hid (show isB ⟨st, id, req, L, cnt, tim, nak⟩ = false by simp [isB, numsB, h1])
    have HENC := Lib.hid (rfl : (0 : Nat) = 0)
    have HTM := Lib.hid (rfl : (0 : Nat) = 0)
    go_enter Tryz.func56, Tryz.ntmps56
    go_wp2_with (first | (go_at_call 41; refine (within_t _ _ _ _ (by assumption)).mono ?_; rintro e w1 ⟨rfl, rfl⟩) | (go_at_call 41; refine (within_f _ _ _ _ (by assumption)).mono ?_; rintro e w1 ⟨rfl, rfl⟩))
    go_ret
    exact ⟨by rw [HV.out]; rfl, by exact bel⟩
  · cases h2 : inB id 0 255
    · have HV := Lib.hid (show isB ⟨st, id, req, L, cnt, tim, nak⟩ = false by simp [isB, numsB, h1, h2])
      have HENC := Lib.hid (rfl : (0 : Nat) = 0)
      have HTM := Lib.hid (rfl : (0 : Nat) = 0)
      go_enter Tryz.func56, Tryz.ntmps56
      go_wp2_with (first | (go_at_call 41; refine (within_t _ _ _ _ (by assumption)).mono ?_; rintro e w1 ⟨rfl, rfl⟩) | (go_at_call 41; refine (within_f _ _ _ _ (by assumption)).mono ?_; rintro e w1 ⟨rfl, rfl⟩))
      go_ret
      exact ⟨by rw [HV.out]; rfl, by exact bel⟩
    · cases h3 : inB req 0 255
      · have HV := Lib.hid (show isB ⟨st, id, req, L, cnt, tim, nak⟩ = false by simp [isB, numsB, h1, h2, h3])
        have HENC := Lib.hid (rfl : (0 : Nat) = 0)
        have HTM := Lib.hid (rfl : (0 : Nat) = 0)
        go_enter Tryz.func56, Tryz.ntmps56
        go_wp2_with (first | (go_at_call 41; refine (within_t _ _ _ _ (by assumption)).mono ?_; rintro e w1 ⟨rfl, rfl⟩) | (go_at_call 41; refine (within_f _ _ _ _ (by assumption)).mono ?_; rintro e w1 ⟨rfl, rfl⟩))
        go_ret
        exact ⟨by rw [HV.out]; rfl, by exact bel⟩
      · cases h4 : inB cnt 0 1000
        · have HV := Lib.hid (show isB ⟨st, id, req, L, cnt, tim, nak⟩ = false by simp [isB, numsB, h1, h2, h3, h4])
          have HENC := Lib.hid (rfl : (0 : Nat) = 0)
          have HTM := Lib.hid (rfl : (0 : Nat) = 0)
          go_enter Tryz.func56, Tryz.ntmps56
          go_wp2_with (first | (go_at_call 41; refine (within_t _ _ _ _ (by assumption)).mono ?_; rintro e w1 ⟨rfl, rfl⟩) | (go_at_call 41; refine (within_f _ _ _ _ (by assumption)).mono ?_; rintro e w1 ⟨rfl, rfl⟩))
          go_ret
          exact ⟨by rw [HV.out]; rfl, by exact bel⟩
        · cases h5 : inB nak 0 1000
          · have HV := Lib.hid (show isB ⟨st, id, req, L, cnt, tim, nak⟩ = false by simp [isB, numsB, h1, h2, h3, h4, h5])
            have HENC := Lib.hid (rfl : (0 : Nat) = 0)
            have HTM := Lib.hid (rfl : (0 : Nat) = 0)
            go_enter Tryz.func56, Tryz.ntmps56
            go_wp2_with (first | (go_at_call 41; refine (within_t _ _ _ _ (by assumption)).mono ?_; rintro e w1 ⟨rfl, rfl⟩) | (go_at_call 41; refine (within_f _ _ _ _ (by assumption)).mono ?_; rintro e w1 ⟨rfl, rfl⟩))
            go_ret
            exact ⟨by rw [HV.out]; rfl, by exact bel⟩
          · obtain ⟨⟨eb, ee⟩, henc⟩ : ∃ y, Op.encR L = y := ⟨_, rfl⟩
            have HENC := Lib.hid henc
            clear henc
            by_cases hee : ee = 0
            · subst hee
              cases htm : Fs.timedB st
              · have HTM := Lib.hid htm
                by_cases ht0 : tim = 0
                · have HV := Lib.hid (show isB ⟨st, id, req, L, cnt, tim, nak⟩ = true by simp [isB, numsB, timB, h1, h2, h3, h4, h5, HENC.out, htm, ht0])
                  clear htm
                  go_enter Tryz.func56, Tryz.ntmps56
                  go_wp2_with (first | (go_at_call 41; refine (within_t _ _ _ _ (by assumption)).mono ?_; rintro e w1 ⟨rfl, rfl⟩) | (go_at_call 41; refine (within_f _ _ _ _ (by assumption)).mono ?_; rintro e w1 ⟨rfl, rfl⟩) | (go_at_call 52; refine (Op.enc_any A n c E _ B (by have := HB.out; simp; omega) (by exact HE.out.keep (by have := HB.out; exact bel)) HN.out).mono ?_; rw [HL.out]; unfold Op.EncP; rw [HENC.out]; rintro e w2 ⟨v, rfl, hb, -⟩; obtain ⟨xs2, d2, rfl⟩ := ext_of hb; clear hb) | (go_at_call 33; refine (Fs.timed_any _ _).mono ?_; rw [HTM.out]; rintro e w1 ⟨rfl, rfl⟩))
                  go_ret
                  exact ⟨by rw [HV.out]; rfl, by exact bel⟩
                · have HV := Lib.hid (show isB ⟨st, id, req, L, cnt, tim, nak⟩ = false by simp [isB, numsB, timB, h1, h2, h3, h4, h5, HENC.out, htm, ht0])
                  have ht1 : (tim == 0) = false := by simpa using ht0
                  clear htm
                  go_enter Tryz.func56, Tryz.ntmps56
                  go_wp2_with (first | (go_at_call 41; refine (within_t _ _ _ _ (by assumption)).mono ?_; rintro e w1 ⟨rfl, rfl⟩) | (go_at_call 41; refine (within_f _ _ _ _ (by assumption)).mono ?_; rintro e w1 ⟨rfl, rfl⟩) | (go_at_call 52; refine (Op.enc_any A n c E _ B (by have := HB.out; simp; omega) (by exact HE.out.keep (by have := HB.out; exact bel)) HN.out).mono ?_; rw [HL.out]; unfold Op.EncP; rw [HENC.out]; rintro e w2 ⟨v, rfl, hb, -⟩; obtain ⟨xs2, d2, rfl⟩ := ext_of hb; clear hb) | (go_at_call 33; refine (Fs.timed_any _ _).mono ?_; rw [HTM.out]; rintro e w1 ⟨rfl, rfl⟩))
                  go_ret
                  exact ⟨by rw [HV.out]; rfl, by exact bel⟩
              · have HTM := Lib.hid htm
                cases h6 : inB tim 1 1099512676352
                · have HV := Lib.hid (show isB ⟨st, id, req, L, cnt, tim, nak⟩ = false by simp [isB, numsB, timB, h1, h2, h3, h4, h5, HENC.out, htm, h6])
                  clear htm
                  go_enter Tryz.func56, Tryz.ntmps56
                  go_wp2_with (first | (go_at_call 41; refine (within_t _ _ _ _ (by assumption)).mono ?_; rintro e w1 ⟨rfl, rfl⟩) | (go_at_call 41; refine (within_f _ _ _ _ (by assumption)).mono ?_; rintro e w1 ⟨rfl, rfl⟩) | (go_at_call 52; refine (Op.enc_any A n c E _ B (by have := HB.out; simp; omega) (by exact HE.out.keep (by have := HB.out; exact bel)) HN.out).mono ?_; rw [HL.out]; unfold Op.EncP; rw [HENC.out]; rintro e w2 ⟨v, rfl, hb, -⟩; obtain ⟨xs2, d2, rfl⟩ := ext_of hb; clear hb) | (go_at_call 33; refine (Fs.timed_any _ _).mono ?_; rw [HTM.out]; rintro e w1 ⟨rfl, rfl⟩))
                  go_ret
                  exact ⟨by rw [HV.out]; rfl, by exact bel⟩
                · have HV := Lib.hid (show isB ⟨st, id, req, L, cnt, tim, nak⟩ = true by simp [isB, numsB, timB, h1, h2, h3, h4, h5, HENC.out, htm, h6])
                  clear htm
                  go_enter Tryz.func56, Tryz.ntmps56
                  go_wp2_with (first | (go_at_call 41; refine (within_t _ _ _ _ (by assumption)).mono ?_; rintro e w1 ⟨rfl, rfl⟩) | (go_at_call 41; refine (within_f _ _ _ _ (by assumption)).mono ?_; rintro e w1 ⟨rfl, rfl⟩) | (go_at_call 52; refine (Op.enc_any A n c E _ B (by have := HB.out; simp; omega) (by exact HE.out.keep (by have := HB.out; exact bel)) HN.out).mono ?_; rw [HL.out]; unfold Op.EncP; rw [HENC.out]; rintro e w2 ⟨v, rfl, hb, -⟩; obtain ⟨xs2, d2, rfl⟩ := ext_of hb; clear hb) | (go_at_call 33; refine (Fs.timed_any _ _).mono ?_; rw [HTM.out]; rintro e w1 ⟨rfl, rfl⟩))
                  go_ret
                  exact ⟨by rw [HV.out]; rfl, by exact bel⟩
            · have HV := Lib.hid (show isB ⟨st, id, req, L, cnt, tim, nak⟩ = false by simp [isB, numsB, h1, h2, h3, h4, h5, HENC.out, hee])
              have HTM := Lib.hid (rfl : (0 : Nat) = 0)
              have hee2 : (ee != 0) = true := by simpa using hee
              go_enter Tryz.func56, Tryz.ntmps56
              go_wp2_with (first | (go_at_call 41; refine (within_t _ _ _ _ (by assumption)).mono ?_; rintro e w1 ⟨rfl, rfl⟩) | (go_at_call 41; refine (within_f _ _ _ _ (by assumption)).mono ?_; rintro e w1 ⟨rfl, rfl⟩) | (go_at_call 52; refine (Op.enc_any A n c E _ B (by have := HB.out; simp; omega) (by exact HE.out.keep (by have := HB.out; exact bel)) HN.out).mono ?_; rw [HL.out]; unfold Op.EncP; rw [HENC.out]; rintro e w2 ⟨v, rfl, hb, -⟩; obtain ⟨xs2, d2, rfl⟩ := ext_of hb; clear hb))
              go_ret
              exact ⟨by rw [HV.out]; rfl, by exact bel⟩
set_option maxHeartbeats 2000000 in
theorem may_any (A : Option Addr) (n c : Nat) (R : List Rl) (mc mt mf wt : Int) (st id req cnt tim nak : Int) (A2 : Option Addr) (n2 c2 : Nat) (E : List Ent) (L : List Opt) (hL : E.map Ent.o = L) (tick : Int) (w : World) (B : Nat) (hB : B ≤ w.heap.size) (hR : RulesAt w B A R) (hn : n = R.length) (hl : n ≤ 1000000) (hE : OptsAt w B A2 E) (hn2 : n2 = E.length) :
    Calls Tryz.prog 30 #[.agg #[.slice A n c, .int .i64 mc, .int .i64 mt, .int .i64 mf, .int .i64 wt], .agg #[.int .i64 st, .int .i64 id, .int .i64 req, .slice A2 n2 c2, .int .i64 cnt, .int .i64 tim, .int .i64 nak], .int .i64 tick] w fun x w' => x = .returned (.bool (fineB ⟨R, mc, mt, mf, wt⟩ ⟨st, id, req, L, cnt, tim, nak⟩ tick)) ∧ Below w.heap.size w w' := by
  have HB := Lib.hid hB
  have HR := Lib.hid hR
  have HN := Lib.hid hn
  have HE := Lib.hid hE
  have HN2 := Lib.hid hn2
  have HL := Lib.hid hL
  clear hB hR hn hE hn2 hL
  cases h0 : confB ⟨R, mc, mt, mf, wt⟩
  · have HV := Lib.hid (show fineB ⟨R, mc, mt, mf, wt⟩ ⟨st, id, req, L, cnt, tim, nak⟩ tick = false by simp [fineB, h0])
    have HC := Lib.hid h0
    clear h0
    have HI := Lib.hid (rfl : (0 : Nat) = 0)
    go_enter Tryz.func30, Tryz.ntmps30
    go_wp2_with (first | (go_at_call 55; refine (settings_any A n c R mc mt mf wt _ B (by have := HB.out; simp; omega) (by exact HR.out.keep (by have := HB.out; exact bel)) HN.out hl).mono ?_; rw [HC.out]; rintro e w1 ⟨rfl, hb⟩; obtain ⟨xs, d, rfl⟩ := ext_of hb; clear hb) | (go_at_call 41; refine (within_t _ _ _ _ (by assumption)).mono ?_; rintro e w1 ⟨rfl, rfl⟩) | (go_at_call 41; refine (within_f _ _ _ _ (by assumption)).mono ?_; rintro e w1 ⟨rfl, rfl⟩))
    go_ret
    exact ⟨by rw [HV.out]; rfl, by exact bel⟩
  · cases h1 : isB ⟨st, id, req, L, cnt, tim, nak⟩
    · have HV := Lib.hid (show fineB ⟨R, mc, mt, mf, wt⟩ ⟨st, id, req, L, cnt, tim, nak⟩ tick = false by simp [fineB, h0, h1])
      have HC := Lib.hid h0
      clear h0
      have HI := Lib.hid h1
      clear h1
      go_enter Tryz.func30, Tryz.ntmps30
      go_wp2_with (first | (go_at_call 55; refine (settings_any A n c R mc mt mf wt _ B (by have := HB.out; simp; omega) (by exact HR.out.keep (by have := HB.out; exact bel)) HN.out hl).mono ?_; rw [HC.out]; rintro e w1 ⟨rfl, hb⟩; obtain ⟨xs, d, rfl⟩ := ext_of hb; clear hb) | (go_at_call 41; refine (within_t _ _ _ _ (by assumption)).mono ?_; rintro e w1 ⟨rfl, rfl⟩) | (go_at_call 41; refine (within_f _ _ _ _ (by assumption)).mono ?_; rintro e w1 ⟨rfl, rfl⟩) | (go_at_call 56; refine (sound_any st id req cnt tim nak A2 n2 c2 E L HL.out _ B (by have := HB.out; simp [size_ext, grow]; omega) (by exact HE.out.keep (by have := HB.out; exact bel)) HN2.out).mono ?_; rw [HI.out]; rintro e w1 ⟨rfl, hb⟩; obtain ⟨xs3, d3, rfl⟩ := ext_of hb; clear hb))
      go_ret
      exact ⟨by rw [HV.out]; rfl, by exact bel⟩
    · cases h2 : inB tick 0 1099511627776
      · have HV := Lib.hid (show fineB ⟨R, mc, mt, mf, wt⟩ ⟨st, id, req, L, cnt, tim, nak⟩ tick = false by simp [fineB, h0, h1, h2])
        have HC := Lib.hid h0
        clear h0
        have HI := Lib.hid h1
        clear h1
        go_enter Tryz.func30, Tryz.ntmps30
        go_wp2_with (first | (go_at_call 55; refine (settings_any A n c R mc mt mf wt _ B (by have := HB.out; simp; omega) (by exact HR.out.keep (by have := HB.out; exact bel)) HN.out hl).mono ?_; rw [HC.out]; rintro e w1 ⟨rfl, hb⟩; obtain ⟨xs, d, rfl⟩ := ext_of hb; clear hb) | (go_at_call 41; refine (within_t _ _ _ _ (by assumption)).mono ?_; rintro e w1 ⟨rfl, rfl⟩) | (go_at_call 41; refine (within_f _ _ _ _ (by assumption)).mono ?_; rintro e w1 ⟨rfl, rfl⟩) | (go_at_call 56; refine (sound_any st id req cnt tim nak A2 n2 c2 E L HL.out _ B (by have := HB.out; simp [size_ext, grow]; omega) (by exact HE.out.keep (by have := HB.out; exact bel)) HN2.out).mono ?_; rw [HI.out]; rintro e w1 ⟨rfl, hb⟩; obtain ⟨xs3, d3, rfl⟩ := ext_of hb; clear hb))
        go_ret
        exact ⟨by rw [HV.out]; rfl, by exact bel⟩
      · have HV := Lib.hid (show fineB ⟨R, mc, mt, mf, wt⟩ ⟨st, id, req, L, cnt, tim, nak⟩ tick = true by simp [fineB, h0, h1, h2])
        have HC := Lib.hid h0
        clear h0
        have HI := Lib.hid h1
        clear h1
        go_enter Tryz.func30, Tryz.ntmps30
        go_wp2_with (first | (go_at_call 55; refine (settings_any A n c R mc mt mf wt _ B (by have := HB.out; simp; omega) (by exact HR.out.keep (by have := HB.out; exact bel)) HN.out hl).mono ?_; rw [HC.out]; rintro e w1 ⟨rfl, hb⟩; obtain ⟨xs, d, rfl⟩ := ext_of hb; clear hb) | (go_at_call 41; refine (within_t _ _ _ _ (by assumption)).mono ?_; rintro e w1 ⟨rfl, rfl⟩) | (go_at_call 41; refine (within_f _ _ _ _ (by assumption)).mono ?_; rintro e w1 ⟨rfl, rfl⟩) | (go_at_call 56; refine (sound_any st id req cnt tim nak A2 n2 c2 E L HL.out _ B (by have := HB.out; simp [size_ext, grow]; omega) (by exact HE.out.keep (by have := HB.out; exact bel)) HN2.out).mono ?_; rw [HI.out]; rintro e w1 ⟨rfl, hb⟩; obtain ⟨xs3, d3, rfl⟩ := ext_of hb; clear hb))
        go_ret
        exact ⟨by rw [HV.out]; rfl, by exact bel⟩
def checkE (c : Cf) (a : Au) : Int := if confB c = true ∧ isB a = true then 0 else 160
set_option maxHeartbeats 2000000 in
theorem acheck_any (A : Option Addr) (n c : Nat) (R : List Rl) (mc mt mf wt : Int) (st id req cnt tim nak : Int) (A2 : Option Addr) (n2 c2 : Nat) (E : List Ent) (L : List Opt) (hL : E.map Ent.o = L) (w : World) (B : Nat) (hB : B ≤ w.heap.size) (hR : RulesAt w B A R) (hn : n = R.length) (hl : n ≤ 1000000) (hE : OptsAt w B A2 E) (hn2 : n2 = E.length) :
    Calls Tryz.prog 27 #[.agg #[.int .i64 st, .int .i64 id, .int .i64 req, .slice A2 n2 c2, .int .i64 cnt, .int .i64 tim, .int .i64 nak], .agg #[.slice A n c, .int .i64 mc, .int .i64 mt, .int .i64 mf, .int .i64 wt]] w fun x w' => x = .returned (.int .i64 (checkE ⟨R, mc, mt, mf, wt⟩ ⟨st, id, req, L, cnt, tim, nak⟩)) ∧ Below w.heap.size w w' := by
  have HB := Lib.hid hB
  have HR := Lib.hid hR
  have HN := Lib.hid hn
  have HE := Lib.hid hE
  have HN2 := Lib.hid hn2
  have HL := Lib.hid hL
  clear hB hR hn hE hn2 hL
  cases h0 : confB ⟨R, mc, mt, mf, wt⟩
  · have HV := Lib.hid (show checkE ⟨R, mc, mt, mf, wt⟩ ⟨st, id, req, L, cnt, tim, nak⟩ = 160 by simp [checkE, h0])
    have HC := Lib.hid h0
    clear h0
    have HI := Lib.hid (rfl : (0 : Nat) = 0)
    go_enter Tryz.func27, Tryz.ntmps27
    go_wp2_with (first | (go_at_call 55; refine (settings_any A n c R mc mt mf wt _ B (by have := HB.out; simp; omega) (by exact HR.out.keep (by have := HB.out; exact bel)) HN.out hl).mono ?_; rw [HC.out]; rintro e w1 ⟨rfl, hb⟩; obtain ⟨xs, d, rfl⟩ := ext_of hb; clear hb))
    go_ret
    exact ⟨by rw [HV.out]; rfl, by exact bel⟩
  · cases h1 : isB ⟨st, id, req, L, cnt, tim, nak⟩
    · have HV := Lib.hid (show checkE ⟨R, mc, mt, mf, wt⟩ ⟨st, id, req, L, cnt, tim, nak⟩ = 160 by simp [checkE, h0, h1])
      have HC := Lib.hid h0
      clear h0
      have HI := Lib.hid h1
      clear h1
      go_enter Tryz.func27, Tryz.ntmps27
      go_wp2_with (first | (go_at_call 55; refine (settings_any A n c R mc mt mf wt _ B (by have := HB.out; simp; omega) (by exact HR.out.keep (by have := HB.out; exact bel)) HN.out hl).mono ?_; rw [HC.out]; rintro e w1 ⟨rfl, hb⟩; obtain ⟨xs, d, rfl⟩ := ext_of hb; clear hb) | (go_at_call 56; refine (sound_any st id req cnt tim nak A2 n2 c2 E L HL.out _ B (by have := HB.out; simp [size_ext, grow]; omega) (by exact HE.out.keep (by have := HB.out; exact bel)) HN2.out).mono ?_; rw [HI.out]; rintro e w1 ⟨rfl, hb⟩; obtain ⟨xs3, d3, rfl⟩ := ext_of hb; clear hb))
      go_ret
      exact ⟨by rw [HV.out]; rfl, by exact bel⟩
    · have HV := Lib.hid (show checkE ⟨R, mc, mt, mf, wt⟩ ⟨st, id, req, L, cnt, tim, nak⟩ = 0 by simp [checkE, h0, h1])
      have HC := Lib.hid h0
      clear h0
      have HI := Lib.hid h1
      clear h1
      go_enter Tryz.func27, Tryz.ntmps27
      go_wp2_with (first | (go_at_call 55; refine (settings_any A n c R mc mt mf wt _ B (by have := HB.out; simp; omega) (by exact HR.out.keep (by have := HB.out; exact bel)) HN.out hl).mono ?_; rw [HC.out]; rintro e w1 ⟨rfl, hb⟩; obtain ⟨xs, d, rfl⟩ := ext_of hb; clear hb) | (go_at_call 56; refine (sound_any st id req cnt tim nak A2 n2 c2 E L HL.out _ B (by have := HB.out; simp [size_ext, grow]; omega) (by exact HE.out.keep (by have := HB.out; exact bel)) HN2.out).mono ?_; rw [HI.out]; rintro e w1 ⟨rfl, hb⟩; obtain ⟨xs3, d3, rfl⟩ := ext_of hb; clear hb))
      go_ret
      exact ⟨by rw [HV.out]; rfl, by exact bel⟩
/-- The automaton that did nothing yet. -/
def auNew (L : List Opt) : Au := if (Op.encR L).2 = 0 then ⟨0, 0, 0, L, 0, 0, 0⟩ else ⟨0, 0, 0, [], 0, 0, 0⟩
def errNew (L : List Opt) : Int := if (Op.encR L).2 = 0 then 0 else 160
set_option maxHeartbeats 2000000 in
theorem new_any (A : Option Addr) (n c : Nat) (E : List Ent) (L : List Opt) (hL : E.map Ent.o = L) (w : World) (B : Nat) (hB : B ≤ w.heap.size) (hE : OptsAt w B A E) (hn : n = E.length) (hl : n ≤ 1000000) (hd : ∀ e ∈ E, e.d.length ≤ 400000000) :
    Calls Tryz.prog 23 #[.slice A n c] w fun x w' => ∃ v, x = .returned (.tuple #[v, .int .i64 (errNew L)]) ∧ AutP (auNew L) w.heap.size w w' v := by
  have HB := Lib.hid hB
  have HE := Lib.hid hE
  have HN := Lib.hid hn
  have HL := Lib.hid hL
  have HD := Lib.hid hd
  clear hB hE hn hL hd
  obtain ⟨⟨eb, ee⟩, henc⟩ : ∃ y, Op.encR L = y := ⟨_, rfl⟩
  have HENC := Lib.hid henc
  clear henc
  by_cases hee : ee = 0
  · subst hee
    have HV1 := Lib.hid (show auNew L = ⟨0, 0, 0, L, 0, 0, 0⟩ by simp [auNew, HENC.out])
    have HV2 := Lib.hid (show errNew L = 0 by simp [errNew, HENC.out])
    go_enter Tryz.func23, Tryz.ntmps23
    go_wp2_with (first | (go_at_call 52; refine (Op.enc_any A n c E _ B (by have := HB.out; simp; omega) (by exact HE.out.keep (by have := HB.out; exact bel)) HN.out).mono ?_; rw [HL.out]; unfold Op.EncP; rw [HENC.out]; rintro e w2 ⟨v, rfl, hb, -⟩; obtain ⟨xs2, d2, rfl⟩ := ext_of hb; clear hb))
    refine (copied_any A n c E _ B (by have := HB.out; simp [size_ext, grow]; omega) (by exact HE.out.keep (by have := HB.out; exact bel)) HN.out hl HD.out).mono ?_
    rintro e w1 ⟨E2, A2, c2, rfl, he, hn2, hc2, hb, ho⟩
    obtain ⟨xs, d, rfl⟩ := ext_of hb
    have HE2 := Lib.hid he
    have HN2 := Lib.hid hn2
    have HC2 := Lib.hid hc2
    have HO := Lib.hid ho
    clear hb ho he hn2 hc2
    go_wp2_with fail
    refine bodyPost_ret (v := .tuple #[.agg #[.int .i64 0, .int .i64 0, .int .i64 0, .slice A2 n c2, .int .i64 0, .int .i64 0, .int .i64 0], .int .i64 0]) (by simp [results, Tryz.results23, go_sem]) rfl ⟨_, by rw [HV2.out], ?_⟩
    rw [HV1.out]
    exact ⟨E2, A2, n, c2, rfl, HE2.out.trans HL.out, HN2.out, HC2.out, by exact bel, OwnOpts.base (OwnOpts.swap HO.out (by simp [size_ext]) (by simp [size_ext])) (by simp [size_ext, grow]; omega)⟩
  · have hee2 : (ee != 0) = true := by simpa using hee
    have HV1 := Lib.hid (show auNew L = ⟨0, 0, 0, [], 0, 0, 0⟩ by simp [auNew, HENC.out, hee])
    have HV2 := Lib.hid (show errNew L = 160 by simp [errNew, HENC.out, hee])
    go_enter Tryz.func23, Tryz.ntmps23
    go_wp2_with (first | (go_at_call 52; refine (Op.enc_any A n c E _ B (by have := HB.out; simp; omega) (by exact HE.out.keep (by have := HB.out; exact bel)) HN.out).mono ?_; rw [HL.out]; unfold Op.EncP; rw [HENC.out]; rintro e w2 ⟨v, rfl, hb, -⟩; obtain ⟨xs2, d2, rfl⟩ := ext_of hb; clear hb))
    refine bodyPost_ret (v := .tuple #[.agg #[.int .i64 0, .int .i64 0, .int .i64 0, .slice none 0 0, .int .i64 0, .int .i64 0, .int .i64 0], .int .i64 160]) (by simp [results, Tryz.results23, go_sem]) rfl ⟨_, by rw [HV2.out], ?_⟩
    rw [HV1.out]
    exact ⟨[], none, 0, 0, rfl, rfl, rfl, Nat.le_refl _, by exact bel, OwnOpts.nil _ _⟩
end Go.Proofs.YthidhfkbfoejbaaGreat
