/- PoolRuns. -/
import Derived.Test.YtoilghhclpgfaaaDoorP18
namespace Go.Proofs.YtoilghhclpgfaaaDoor
open Go.ChangeShapes Go.WideShapes Go.ChangeAt Go.RowKit Go.Joins Go.Deep
set_option linter.unusedSimpArgs false
set_option linter.unusedVariables false
structure Bd (b : Int) (s : Nat) : Prop where
  b1 : 1 ≤ b
  b2 : b ≤ 4294967294
  s : s ≤ 65536
theorem Bd.sound {b : Int} {s : Nat} {R : List Int} {S : PoolS} (h : Bd b s) (hi : Inv b s R S) : Sound S := ⟨by rw [hi.hb]; exact h.b1, by rw [hi.hb]; exact h.b2, by rw [hi.hs]; exact h.s⟩
theorem Bd.of {b s : Int} {R : List Int} (h : rangeOk b s R = true) (hs : s ≤ 60) : ∃ m : Nat, s = (m : Int) ∧ Bd b m ∧ m ≤ 60 ∧ rowOk (m : Int) R = true := by
  unfold rangeOk headOk at h
  simp only [Bool.and_eq_true, decide_eq_true_eq] at h
  obtain ⟨⟨h1, h2, h3, h4, h5⟩, h6⟩ := h
  obtain ⟨m, rfl⟩ := Int.eq_ofNat_of_zero_le h3
  exact ⟨m, rfl, ⟨h1, h2, by omega⟩, by omega, h6⟩
def TakeU (p : Nat) (S : PoolS) (b : Int) (s : Nat) (R : List Int) (w : World) (e : Ending) (w' : World) : Prop :=
  ∃ S', e = .returned (.tuple #[.int .i64 (rtA b (lowO S.fw)), .int .i64 (rtE (lowO S.fw))]) ∧ PoolAt w' p S' ∧ Inv b s R S' ∧ Two p S.af w w' ∧ S'.af = S.af ∧ S'.ao = S.ao ∧ lsd S' s = rtL b (lsd S s) (lowO S.fw)
theorem takeU {p : Nat} {S : PoolS} {b : Int} {s : Nat} {R : List Int} {w : World} (h : PoolAt w p S) (hi : Inv b s R S) (hb : Bd b s) (hT : TabAt w) : Calls Tryd.prog 14 #[.pointer (some ⟨p, 0, none⟩)] w (TakeU p S b s R w) := by
  cases hl : lowO S.fw with
  | none =>
    refine (Take_no p S w h (hb.sound hi) hT hl).mono ?_
    rintro e w' ⟨rfl, hbw⟩
    exact ⟨S, by rw [hl]; rfl, h.keep hbw, hi, Two.of_below hbw, rfl, rfl, by rw [hl]; rfl⟩
  | some i =>
    obtain ⟨h1, h2, -⟩ := lowO_some h.free.wide hl
    refine (Take_yes p S i w h (hb.sound hi) hT hl (hi.bd hb.s)).mono ?_
    rintro e w' ⟨rfl, hp, ht⟩
    exact ⟨leased S i, by rw [hl, hi.hb]; rfl, hp, hi.lease h.free.wide h1 h2, ht, rfl, rfl, by rw [hl]; exact hi.lsd_lease h.free.wide h1 h2⟩
def ErrU (p : Nat) (S : PoolS) (b : Int) (s : Nat) (R : List Int) (er : Int) (L' : List Int) (w : World) (e : Ending) (w' : World) : Prop :=
  ∃ S', e = .returned (.int .i64 er) ∧ PoolAt w' p S' ∧ Inv b s R S' ∧ Two p S.af w w' ∧ S'.af = S.af ∧ S'.ao = S.ao ∧ lsd S' s = L'
theorem Inv.at_ {b : Int} {s : Nat} {R : List Int} {S : PoolS} (hi : Inv b s R S) {a : Int} (hh : hasB S a = true) : ∃ i : Nat, a - S.b = (i : Int) ∧ i < s ∧ bitW S.ow i = true ∧ freeB S a = bitW S.fw i := by
  obtain ⟨h1, h2, i, hi1, hi2⟩ := hasB_in hh
  refine ⟨i, hi1, by have := hi.hs; omega, ?_, ?_⟩
  · unfold hasB at hh; rw [hi1] at hh; simp at hh; exact hh.2.2
  · unfold freeB; rw [hi1]; rfl
theorem wantU {p : Nat} {S : PoolS} {b : Int} {s : Nat} {R : List Int} {w : World} (a : Int) (h : PoolAt w p S) (hi : Inv b s R S) (hb : Bd b s) : Calls Tryd.prog 17 #[.pointer (some ⟨p, 0, none⟩), .int .i64 a] w (ErrU p S b s R (plE S a) (rwL b (s : Int) R (lsd S s) a) w) := by
  by_cases hl : plE S a = 0
  · have hh : hasB S a = true ∧ freeB S a = true := by
      unfold plE at hl
      cases h1 : hasB S a <;> cases h2 : freeB S a <;> simp [h1, h2] at hl ⊢
    obtain ⟨i, h1, h2, h3, h4⟩ := hi.at_ hh.1
    rw [h4] at hh
    have hli : i / 64 < S.fw.length := by rw [← h.free.n]; unfold PoolS.nw; rw [hi.hs]; omega
    refine (Want_yes p S a i w h (hb.sound hi) hl h1 (hi.bd hb.s)).mono ?_
    rintro e w' ⟨rfl, hp, ht⟩
    refine ⟨leased S i, by rw [hl], hp, hi.lease h.free.wide hli hh.2, ht, rfl, rfl, ?_⟩
    rw [hi.lsd_lease h.free.wide hli hh.2]
    unfold rwL
    rw [← hi.has, hi.mem hh.1, h4, hh.1, hh.2]
    have : a = b + (i : Int) := by rw [hi.hb] at h1; omega
    simp [this]
  · refine (Want_no p S a w h (hb.sound hi) hl).mono ?_
    rintro e w' ⟨rfl, hbw⟩
    refine ⟨S, rfl, h.keep hbw, hi, Two.of_below hbw, rfl, rfl, ?_⟩
    unfold rwL
    rw [← hi.has]
    cases hh : hasB S a
    · rfl
    · rw [hi.mem hh]
      unfold plE at hl
      rw [hh] at hl
      cases hf : freeB S a
      · rfl
      · rw [hf] at hl; simp at hl
theorem giveU {p : Nat} {S : PoolS} {b : Int} {s : Nat} {R : List Int} {w : World} (a : Int) (h : PoolAt w p S) (hi : Inv b s R S) (hb : Bd b s) : Calls Tryd.prog 15 #[.pointer (some ⟨p, 0, none⟩), .int .i64 a] w (ErrU p S b s R (gvE S a) (rgL b (s : Int) R (lsd S s) a) w) := by
  by_cases hl : gvE S a = 0
  · have hh : hasB S a = true ∧ freeB S a = false := by
      unfold gvE at hl
      cases h1 : hasB S a <;> cases h2 : freeB S a <;> simp [h1, h2] at hl ⊢
    obtain ⟨i, h1, h2, h3, h4⟩ := hi.at_ hh.1
    rw [h4] at hh
    have hli : i / 64 < S.fw.length := by rw [← h.free.n]; unfold PoolS.nw; rw [hi.hs]; omega
    refine (Give_yes p S a i w h (hb.sound hi) hl h1 (hi.bd hb.s)).mono ?_
    rintro e w' ⟨rfl, hp, ht⟩
    refine ⟨given S i, by rw [hl], hp, hi.give h.free.wide hli hh.2 h3, ht, rfl, rfl, ?_⟩
    rw [hi.lsd_give h.free.wide hli]
    unfold rgL
    rw [← hi.has, hi.mem hh.1, h4, hh.1, hh.2]
    have : a = b + (i : Int) := by rw [hi.hb] at h1; omega
    simp [this]
  · refine (Give_no p S a w h (hb.sound hi) hl).mono ?_
    rintro e w' ⟨rfl, hbw⟩
    refine ⟨S, rfl, h.keep hbw, hi, Two.of_below hbw, rfl, rfl, ?_⟩
    unfold rgL
    rw [← hi.has]
    cases hh : hasB S a
    · rfl
    · rw [hi.mem hh]
      unfold gvE at hl
      rw [hh] at hl
      cases hf : freeB S a
      · rw [hf] at hl; simp at hl
      · rfl
theorem lsd_fresh {b : Int} {s : Nat} {R : List Int} {S : PoolS} (h : Fresh b s R S) : lsd S s = [] := by
  rw [lsd_is]
  unfold lsdF
  rw [List.filter_eq_nil_iff.2 (fun i _ => by unfold isL; rw [h.free]; cases bitW S.ow i <;> simp)]
  rfl
end Go.Proofs.YtoilghhclpgfaaaDoor
