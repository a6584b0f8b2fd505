/- The actions that send. -/
import Derived.Test.YthidhfkbfoejbaaGreatQ8
namespace Go.Proofs.YthidhfkbfoejbaaGreat
open Go.RowKit
set_option linter.unusedSimpArgs false
set_option linter.unusedVariables false
set_option linter.ambiguousOpen false
open Ne (Rl Opt RulesAt areB)
open Fs (av hasB)
def nxt (i : Int) : Int := (i + 1) % 256
def dec (n : Int) : Int := if 0 < n then n - 1 else n
theorem nxt_in (i : Int) : 0 ≤ nxt i ∧ nxt i ≤ 255 := by unfold nxt; omega
theorem encR_len (L : List Opt) : (Op.encR L).1.length ≤ 1488 := by
  unfold Op.encR
  split
  · simp
  · split
    · split
      · simp
      · simp only; omega
    · simp
theorem ActP.trans {b : Nat} {s s' : Rm} {L : List Opt} {li ln : List UInt8} {acts : List Int} {out : List Pk} {w w1 w' : World} {x : Ending} (h : Below b w w1) (h2 : ActP b s' L li ln acts out w1 x w') : ActP b s' L li ln acts out w x w' :=
  ⟨h2.1, h.trans h2.2.1, h2.2.2⟩
theorem ActP.fin {b : Nat} {s1 s2 s' : Rm} {L : List Opt} {li ln : List UInt8} {acts : List Int} {out : List Pk} {w w1 w' : World} (hi : RunI w1 b s1 L li ln acts out) (hb : Below b w w1) (hr : RunAt w' b s2) (hg : w1.grownBy w' (some b))
    (e : s2 = { s' with vo := s1.vo }) (ha : s'.va = s1.va) (hi2 : s'.vi = s1.vi) (hn : s'.vn = s1.vn) (hd : s'.vd = s1.vd) : ActP b s' L li ln acts out w (.returned (.tuple #[])) w' := by
  refine ⟨rfl, hb.trans (below_of_grown hg (Nat.le_of_lt hi.run.lt)), s1.vo, ?_⟩
  rw [← e]
  exact hi.num s2 hr hg (by rw [e]; exact ha) (by rw [e]; exact hi2) (by rw [e]; exact hn) (by rw [e]; exact hd) (by rw [e])
/-- The packet of another one. -/
theorem echo_any (b : Nat) (s : Rm) (L : List Opt) (li ln : List UInt8) (acts : List Int) (out : List Pk) (w : World) (h : RunI w b s L li ln acts out) (hlo : out.length ≤ 999) : Calls Tryz.prog 104 #[.pointer (some ⟨b, 0, none⟩)] w (ActP b s L li ln acts (out ++ [⟨s.ac, s.ai, ln⟩]) w) := by
  obtain ⟨A, n, c, hvn, hat, hn, hc⟩ := h.ans
  have hb := h.run.lt
  have c15 := h.run.cell 15 (v := .int .i64 s.ac) rfl
  have c16 := h.run.cell 16 (v := .int .i64 s.ai) rfl
  have c17 := h.run.cell 17 (v := .slice A n c) (by rw [← hvn]; rfl)
  have HI := Lib.hid h
  have HAT := Lib.hid (hat.more (Nat.le_of_lt hb))
  have HN := Lib.hid hn
  have HM := Lib.hid (show n ≤ 400000000 by have := h.hln; omega)
  clear h hvn hat hn
  go_enter Tryz.func104, Tryz.ntmps104
  go_wp2_with fail
  refine (send_run b s L li ln acts out s.ac s.ai A n c ln _ HI.out HAT.out HN.out hc HM.out hlo).mono ?_
  rintro e w1 ⟨rfl, hb1, vo, hi⟩
  go_wp2_with fail
  exact bodyPost_end (v := .tuple #[]) (by simp [results, Tryz.results104, go_sem]) rfl ⟨rfl, hb1, vo, hi⟩
theorem ended_any (b : Nat) (s : Rm) (L : List Opt) (li ln : List UInt8) (acts : List Int) (out : List Pk) (w : World) (h : RunI w b s L li ln acts out) (hlo : out.length ≤ 999) : Calls Tryz.prog 102 #[.pointer (some ⟨b, 0, none⟩)] w (ActP b s L li ln acts (out ++ [⟨6, s.ii, []⟩]) w) := by
  have hb := h.run.lt
  have c13 := h.run.cell 13 (v := .int .i64 s.ii) rfl
  have HI := Lib.hid h
  clear h
  go_enter Tryz.func102, Tryz.ntmps102
  go_wp2_with fail
  refine (send_run b s L li ln acts out 6 s.ii none 0 0 [] _ HI.out (At.nil _ _ _) rfl (Nat.le_refl _) (by omega) hlo).mono ?_
  rintro e w1 ⟨rfl, hb1, vo, hi⟩
  go_wp2_with fail
  exact bodyPost_end (v := .tuple #[]) (by simp [results, Tryz.results102, go_sem]) rfl ⟨rfl, hb1, vo, hi⟩
theorem ack_any (b : Nat) (s : Rm) (L : List Opt) (li ln : List UInt8) (acts : List Int) (out : List Pk) (w : World) (h : RunI w b s L li ln acts out) (hlo : out.length ≤ 999) : Calls Tryz.prog 99 #[.pointer (some ⟨b, 0, none⟩)] w (ActP b { s with nak := 0 } L li ln acts (out ++ [⟨s.ac, s.ai, ln⟩]) w) := by
  obtain ⟨vr, mc, mt, mf, wt, st, id, req, va, cnt, tim, nak, ic, ii, vi, ac, ai, vn, tick, vd, vo⟩ := s
  dsimp only at *
  obtain ⟨A, n, c, hvn, hat, hn, hc⟩ := h.ans
  dsimp only at hvn
  subst hvn
  have hb := h.run.lt
  have c15 := h.run.cell 15 (v := .int .i64 ac) rfl
  have c16 := h.run.cell 16 (v := .int .i64 ai) rfl
  have c17 := h.run.cell 17 (v := .slice A n c) rfl
  have HI := Lib.hid h
  have HAT := Lib.hid (hat.more (Nat.le_of_lt hb))
  have HN := Lib.hid hn
  have HM := Lib.hid (show n ≤ 400000000 by have := h.hln; omega)
  clear h hat hn
  go_enter Tryz.func99, Tryz.ntmps99
  go_wp2_with fail
  refine (send_run b _ L li ln acts out ac ai A n c ln _ HI.out HAT.out HN.out hc HM.out hlo).mono ?_
  rintro e w1 ⟨rfl, hb1, vo1, hi⟩
  have HI1 := Lib.hid hi
  have HB1 := Lib.hid hb1
  have hbz := hi.run.lt
  have c11 := hi.run.cell 11 (v := .int .i64 nak) rfl
  have f11 := hi.run.free 11
  clear hi hb1
  go_wp2_with fail
  exact bodyPost_end (v := .tuple #[]) (by simp [results, Tryz.results99, go_sem]) rfl (ActP.fin HI1.out HB1.out (HI1.out.run.nak _) grn rfl rfl rfl rfl rfl)
theorem nak_any (b : Nat) (s : Rm) (L : List Opt) (li ln : List UInt8) (acts : List Int) (out : List Pk) (w : World) (h : RunI w b s L li ln acts out) (hlo : out.length ≤ 999) (h0 : 0 ≤ s.nak) (h1 : s.nak ≤ 1000) : Calls Tryz.prog 100 #[.pointer (some ⟨b, 0, none⟩)] w (ActP b { s with nak := if s.ac = 3 then (if s.nak < 1000 then s.nak + 1 else s.nak) else s.nak } L li ln acts (out ++ [⟨s.ac, s.ai, ln⟩]) w) := by
  obtain ⟨vr, mc, mt, mf, wt, st, id, req, va, cnt, tim, nak, ic, ii, vi, ac, ai, vn, tick, vd, vo⟩ := s
  dsimp only at *
  obtain ⟨A, n, c, hvn, hat, hn, hc⟩ := h.ans
  dsimp only at hvn
  subst hvn
  have hb := h.run.lt
  have c15 := h.run.cell 15 (v := .int .i64 ac) rfl
  have c16 := h.run.cell 16 (v := .int .i64 ai) rfl
  have c17 := h.run.cell 17 (v := .slice A n c) rfl
  have HI := Lib.hid h
  have HAT := Lib.hid (hat.more (Nat.le_of_lt hb))
  have HN := Lib.hid hn
  have HM := Lib.hid (show n ≤ 400000000 by have := h.hln; omega)
  clear h hat hn
  by_cases h3 : ac = 3
  · subst h3
    by_cases hk0 : nak < 1000
    · have HQ := Lib.hid (show (if (3 : Int) = 3 then (if nak < 1000 then nak + 1 else nak) else nak) = nak + 1 by simp [hk0])
      rw [HQ.out]
      go_enter Tryz.func100, Tryz.ntmps100
      go_wp2_with fail
      refine (send_run b _ L li ln acts out 3 ai A n c ln _ HI.out HAT.out HN.out hc HM.out hlo).mono ?_
      rintro e w1 ⟨rfl, hb1, vo1, hi⟩
      have HI1 := Lib.hid hi
      have HB1 := Lib.hid hb1
      have hbz := hi.run.lt
      have c15' := hi.run.cell 15 (v := .int .i64 3) rfl
      have c11 := hi.run.cell 11 (v := .int .i64 nak) rfl
      have f11 := hi.run.free 11
      clear hi hb1 c15
      go_wp2_with fail
      exact bodyPost_end (v := .tuple #[]) (by simp [results, Tryz.results100, go_sem]) rfl (ActP.fin HI1.out HB1.out (HI1.out.run.nak _) grn rfl rfl rfl rfl rfl)
    · obtain rfl : nak = 1000 := by omega
      have HQ := Lib.hid (show (if (3 : Int) = 3 then (if (1000 : Int) < 1000 then (1000 : Int) + 1 else 1000) else 1000) = 1000 by decide)
      rw [HQ.out]
      go_enter Tryz.func100, Tryz.ntmps100
      go_wp2_with fail
      refine (send_run b _ L li ln acts out 3 ai A n c ln _ HI.out HAT.out HN.out hc HM.out hlo).mono ?_
      rintro e w1 ⟨rfl, hb1, vo1, hi⟩
      have HI1 := Lib.hid hi
      have HB1 := Lib.hid hb1
      have hbz := hi.run.lt
      have c15' := hi.run.cell 15 (v := .int .i64 3) rfl
      have c11 := hi.run.cell 11 (v := .int .i64 1000) rfl
      have f11 := hi.run.free 11
      clear hi hb1 c15
      go_wp2_with fail
      exact bodyPost_end (v := .tuple #[]) (by simp [results, Tryz.results100, go_sem]) rfl (ActP.fin HI1.out HB1.out (HI1.out.run.nak _) grn rfl rfl rfl rfl rfl)
  · have HQ := Lib.hid (show (if ac = 3 then (if nak < 1000 then nak + 1 else nak) else nak) = nak by rw [if_neg h3])
    have h4 : (ac == 3) = false := by simpa using h3
    rw [HQ.out]
    clear h3
    go_enter Tryz.func100, Tryz.ntmps100
    go_wp2_with fail
    refine (send_run b _ L li ln acts out ac ai A n c ln _ HI.out HAT.out HN.out hc HM.out hlo).mono ?_
    rintro e w1 ⟨rfl, hb1, vo1, hi⟩
    have HI1 := Lib.hid hi
    have HB1 := Lib.hid hb1
    have hbz := hi.run.lt
    have c15' := hi.run.cell 15 (v := .int .i64 ac) rfl
    have c11 := hi.run.cell 11 (v := .int .i64 nak) rfl
    have f11 := hi.run.free 11
    clear hi hb1 c15
    go_wp2_with fail
    exact bodyPost_end (v := .tuple #[]) (by simp [results, Tryz.results100, go_sem]) rfl ⟨rfl, HB1.out, vo1, HI1.out⟩
end Go.Proofs.YthidhfkbfoejbaaGreat
