/- The actions: what they do to a run. -/
import Derived.Test.YthidhfkbfoejbaaGreatQ7
import Derived.Test.YthidhfkbfoejbaaGreatQ2
namespace Go.Proofs.YthidhfkbfoejbaaGreat
open Go.RowKit
set_option linter.unusedSimpArgs false
set_option linter.unusedVariables false
set_option linter.ambiguousOpen false
open Ne (Rl Opt RulesAt areB)
open Fs (av hasB)
set_option maxHeartbeats 1000000 in
theorem index_any (A : Option Addr) (n c : Nat) (l : List Int) (a : Int) (w : World) (B : Nat) (hA : At w B A (l.map av)) (hn : n = l.length) (hl : n ≤ 1000000000) :
    Calls Tryz.prog 137 #[.slice A n c, .int .i64 a] w fun e w' => ∃ i : Int, e = .returned (.int .i64 i) ∧ decide (0 ≤ i) = hasB l a ∧ w = w' := by
  subst hn
  have HA := Lib.hid hA
  clear hA
  go_enter Tryz.func137, Tryz.ntmps137
  go_wp2
  go_loop [8] (fun i => ∃ k : Nat, k ≤ l.length ∧ i = .int .i64 k ∧ hasB (l.take k) a = false) (fun i => l.length - (intOf i).toNat)
  case atStart => exact ⟨0, Nat.zero_le _, rfl, by simp [hasB]⟩
  case round =>
    obtain ⟨k, hk, rfl, hh⟩ := hrel
    have HH := Lib.hid hh
    clear hh
    by_cases hlt : k < l.length
    · obtain ⟨b, o, rfl, -⟩ := HA.out.cellAt hlt
      obtain ⟨x, hx, hc⟩ := HA.out.readAt hlt
      have HX := Lib.hid hx
      clear hx
      cases he : (a == x)
      · have HE := Lib.hid (show (l.getD k 0 == a) = false by rw [HX.out]; simp at he ⊢; omega)
        go_wp2
        go_round
        case rel => exact ⟨k + 1, by omega, by go_num, Fs.hasB_take hlt HH.out HE.out⟩
        case measure => simp [intOf]; omega
      · have HE := Lib.hid (show (l.getD k 0 == a) = true by rw [HX.out]; simp at he ⊢; omega)
        go_wp2
        go_ret
        exact ⟨_, rfl, by rw [Fs.hasB_at hlt HE.out]; simp, rfl⟩
    · have HL := Lib.hid (show hasB l a = false by have := HH.out; rwa [List.take_of_length_le (by omega)] at this)
      go_wp2
      go_ret
      exact ⟨_, rfl, by rw [HL.out]; rfl, rfl⟩
theorem contains_any (A : Option Addr) (n c : Nat) (l : List Int) (a : Int) (w : World) (B : Nat) (hA : At w B A (l.map av)) (hn : n = l.length) (hl : n ≤ 1000000000) :
    Calls Tryz.prog 124 #[.slice A n c, .int .i64 a] w fun e w' => e = .returned (.bool (hasB l a)) ∧ w = w' := by
  have HA := Lib.hid hA
  have HN := Lib.hid hn
  obtain ⟨bb, hbb⟩ : ∃ bb, hasB l a = bb := ⟨_, rfl⟩
  have HBB := Lib.hid hbb
  rw [hbb]
  clear hA hn hbb
  go_enter Tryz.func124, Tryz.ntmps124
  go_wp2_with fail
  refine (index_any A n c l a _ B HA.out HN.out hl).mono ?_
  rintro e w' ⟨i, rfl, hi, rfl⟩
  rw [HBB.out] at hi
  cases bb
  · have hi2 : decide (0 ≤ i) = false := hi
    clear hi
    go_wp2_with fail
    go_ret
    exact ⟨rfl, rfl⟩
  · have hi2 : (0 : Int) ≤ i := by simpa using hi
    clear hi
    go_wp2_with fail
    go_ret
    exact ⟨rfl, rfl⟩
theorem begin_any (b : Nat) (s : Rm) (L : List Opt) (li ln : List UInt8) (acts : List Int) (out : List Pk) (w : World) (h : RunI w b s L li ln acts out) (hm : acts.length ≤ 1000) :
    Calls Tryz.prog 96 #[.pointer (some ⟨b, 0, none⟩)] w (ActP b { s with cnt := if hasB acts 10 = true then s.mt else s.mc } L li ln acts out w) := by
  obtain ⟨A, n, c, hvd, hat, hn, hc⟩ := h.did
  have HI := Lib.hid h
  have HH := Lib.hid h.run
  have hb := h.run.lt
  have c1 := h.run.cell 1 (v := .int .i64 s.mc) rfl
  have c2 := h.run.cell 2 (v := .int .i64 s.mt) rfl
  have c9 := h.run.cell 9 (v := .int .i64 s.cnt) rfl
  have c19 := h.run.cell 19 (v := .slice A n c) (by rw [← hvd]; rfl)
  have f9 := h.run.free 9
  have HAT := Lib.hid hat
  have HN := Lib.hid hn
  have hn2 : n ≤ 1000 := by omega
  clear h hvd hat hn
  cases hh : hasB acts 10
  · have HB := Lib.hid hh
    simp only [Bool.false_eq_true, if_false]
    clear hh
    go_enter Tryz.func96, Tryz.ntmps96
    go_wp2_with fail
    refine (contains_any A n c acts 10 _ b (HAT.out.keep (by exact below_of_grown grn (Nat.le_of_lt hb))) HN.out (by omega)).mono ?_
    rw [HB.out]
    rintro e w1 ⟨rfl, rfl⟩
    go_wp2_with fail
    exact bodyPost_end (v := .tuple #[]) (by simp [results, Tryz.results96, go_sem]) rfl (NumP.act ⟨rfl, HH.out.cnt _, grn⟩ HI.out rfl rfl rfl rfl rfl)
  · have HB := Lib.hid hh
    simp only [if_true]
    clear hh
    go_enter Tryz.func96, Tryz.ntmps96
    go_wp2_with fail
    refine (contains_any A n c acts 10 _ b (HAT.out.keep (by exact below_of_grown grn (Nat.le_of_lt hb))) HN.out (by omega)).mono ?_
    rw [HB.out]
    rintro e w1 ⟨rfl, rfl⟩
    go_wp2_with fail
    exact bodyPost_end (v := .tuple #[]) (by simp [results, Tryz.results96, go_sem]) rfl (NumP.act ⟨rfl, (HH.out.cnt _).cnt _, grn⟩ HI.out rfl rfl rfl rfl rfl)
end Go.Proofs.YthidhfkbfoejbaaGreat
