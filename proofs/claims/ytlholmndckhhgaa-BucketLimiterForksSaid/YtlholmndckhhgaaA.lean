/- Contracts of the small functions of bucket and its reference. -/
import Derived.Test.YtlholmndckhhgaaRows
import Derived.WalkKit
import Derived.WalkSpells
import Derived.WalkLawsBesides
import Derived.Deep.QuietTactic
import Derived.BigQuiet
import Derived.Deep.RegionHeld3
import Derived.Lib.Hide
namespace Go.Proofs.Ytlholmndckhhgaa
open Go.RowKit

def inB (n a b : Int) : Bool := decide (a ≤ n) && decide (n ≤ b)
def rated (e m : Int) : Bool := inB e 0 1048576 && inB m 1 1048576
def rateErr (e m : Int) : Int := if rated e m then 0 else 100
def full (e m : Int) : Int := if rated e m then m else 0

theorem rated_iff (e m : Int) : rated e m = true ↔ (0 ≤ e ∧ e ≤ 1048576) ∧ (1 ≤ m ∧ m ≤ 1048576) := by simp [rated, inB]



theorem bcell {W w1 : World} (hb : Below W.heap.size W w1) : (∀ b o, b < W.heap.size → w1.cell? ⟨b, o, none⟩ = W.cell? ⟨b, o, none⟩) ∧ (∀ b o, b < W.heap.size → w1.frozen? ⟨b, o, none⟩ = W.frozen? ⟨b, o, none⟩) ∧ (∀ b, b < W.heap.size → b < w1.heap.size) :=
  ⟨fun b o h => hb.cell (p := ⟨b, o, none⟩) h, fun b o h => hb.frozen (p := ⟨b, o, none⟩) h, fun _ h => Nat.lt_of_lt_of_le h hb.size⟩

theorem within_any (n a b : Int) (w : World) :
    Calls Try.prog 28 #[.int .i64 n, .int .i64 a, .int .i64 b] w fun e w' => e = .returned (.bool (inB n a b)) ∧ w = w' := by
  by_cases h1 : a ≤ n
  · by_cases h2 : n ≤ b
    · have H := Lib.hid (show inB n a b = true by simp [inB, h1, h2])
      go_enter Try.func28, Try.ntmps28
      go_wp2
      go_ret
      rw [H.out]
      exact ⟨rfl, rfl⟩
    · have H := Lib.hid (show inB n a b = false by simp [inB, h2])
      go_enter Try.func28, Try.ntmps28
      go_wp2
      go_ret
      rw [H.out]
      exact ⟨rfl, rfl⟩
  · have H := Lib.hid (show inB n a b = false by simp [inB, h1])
    go_enter Try.func28, Try.ntmps28
    go_wp2
    go_ret
    rw [H.out]
    exact ⟨rfl, rfl⟩

theorem check_any (e m : Int) (w : World) :
    Calls Try.prog 13 #[.agg #[.int .i64 e, .int .i64 m]] w fun x w' => x = .returned (.int .i64 (rateErr e m)) ∧ Below w.heap.size w w' := by
  cases h1 : inB e 0 1048576
  · have H := Lib.hid (show rateErr e m = 100 by simp [rateErr, rated, h1])
    go_enter Try.func13, Try.ntmps13
    go_wp2_with (go_at_call 28; refine (within_any _ _ _ _).mono ?_; rintro e w' ⟨rfl, rfl⟩)
    go_ret
    rw [H.out]
    exact ⟨rfl, (Below.refl _ _).alloc (Nat.le_refl _) _⟩
  · cases h2 : inB m 1 1048576
    · have H := Lib.hid (show rateErr e m = 100 by simp [rateErr, rated, h2])
      go_enter Try.func13, Try.ntmps13
      go_wp2_with (go_at_call 28; refine (within_any _ _ _ _).mono ?_; rintro e w' ⟨rfl, rfl⟩)
      go_ret
      rw [H.out]
      exact ⟨rfl, (Below.refl _ _).alloc (Nat.le_refl _) _⟩
    · have H := Lib.hid (show rateErr e m = 0 by simp [rateErr, rated, h1, h2])
      go_enter Try.func13, Try.ntmps13
      go_wp2_with (go_at_call 28; refine (within_any _ _ _ _).mono ?_; rintro e w' ⟨rfl, rfl⟩)
      go_ret
      rw [H.out]
      exact ⟨rfl, (Below.refl _ _).alloc (Nat.le_refl _) _⟩

theorem full_any (e m : Int) (w : World) :
    Calls Try.prog 15 #[.agg #[.int .i64 e, .int .i64 m]] w fun x w' => x = .returned (.agg #[.int .i64 (full e m), .int .i64 0]) ∧ Below w.heap.size w w' := by
  cases h1 : rated e m
  · have H := Lib.hid (show full e m = 0 by simp [full, h1])
    have H1 := Lib.hid (show rateErr e m = 100 by simp [rateErr, h1])
    clear h1
    rw [H.out]
    go_enter Try.func15, Try.ntmps15
    go_wp2_with (go_at_call 13; refine (check_any _ _ _).mono ?_; rw [H1.out]; rintro e w1 ⟨rfl, hb⟩; obtain ⟨hc, hf, hz⟩ := bcell hb)
    refine bodyPost_ret (v := .agg #[.int .i64 0, .int .i64 0]) (by simp [results, Try.results15, go_sem, hc]) rfl ⟨rfl, ?_⟩
    (repeat (first | exact Below.refl _ _ | exact Nat.le_refl _ | (refine Below.setCell ?_ (by simp; try omega) _) | (refine Below.alloc ?_ (by simp; try omega) _) | refine Below.drew ?_ | (refine Below.trans ?_ (Below.mono (by assumption) (by simp; try omega)))))
  · have H := Lib.hid (show full e m = m by simp [full, h1])
    have H1 := Lib.hid (show rateErr e m = 0 by simp [rateErr, h1])
    clear h1
    rw [H.out]
    go_enter Try.func15, Try.ntmps15
    go_wp2_with (go_at_call 13; refine (check_any _ _ _).mono ?_; rw [H1.out]; rintro e w1 ⟨rfl, hb⟩; obtain ⟨hc, hf, hz⟩ := bcell hb)
    refine bodyPost_ret (v := .agg #[.int .i64 m, .int .i64 0]) (by simp [results, Try.results15, go_sem, hc]) rfl ⟨rfl, ?_⟩
    (repeat (first | exact Below.refl _ _ | exact Nat.le_refl _ | (refine Below.setCell ?_ (by simp; try omega) _) | (refine Below.alloc ?_ (by simp; try omega) _) | refine Below.drew ?_ | (refine Below.trans ?_ (Below.mono (by assumption) (by simp; try omega)))))
def atOk (e m t k n : Int) : Bool := rated e m && inB t 0 m && inB k 0 1099511627776 && inB n k 1099511627776
def atTok (e m t k n : Int) : Int := if atOk e m t k n then min m (t + e * (n - k)) else 0
def atTick (e m t k n : Int) : Int := if atOk e m t k n then n else 0
def atErr (e m t k n : Int) : Int := if atOk e m t k n then 0 else 100

theorem at_any (e m t k n : Int) (w : World) :
    Calls Try.prog 11 #[.agg #[.int .i64 e, .int .i64 m], .agg #[.int .i64 t, .int .i64 k], .int .i64 n] w fun x w' => x = .returned (.tuple #[.agg #[.int .i64 (atTok e m t k n), .int .i64 (atTick e m t k n)], .int .i64 (atErr e m t k n)]) ∧ Below w.heap.size w w' := by
  cases h0 : atOk e m t k n
  · have H := Lib.hid (show atTok e m t k n = 0 ∧ atTick e m t k n = 0 ∧ atErr e m t k n = 100 by simp [atTok, atTick, atErr, h0])
    rw [H.out.1, H.out.2.1, H.out.2.2]
    cases h1 : rated e m
    · have H1 := Lib.hid (show rateErr e m = 100 by simp [rateErr, h1])
      clear h1 h0
      go_enter Try.func11, Try.ntmps11
      go_wp2_with (first | (go_at_call 13; refine (check_any _ _ _).mono ?_; rw [H1.out]; rintro e w1 ⟨rfl, hb⟩; obtain ⟨hc, hf, hz⟩ := bcell hb) | (go_at_call 28; refine (within_any _ _ _ _).mono ?_; rintro e w' ⟨rfl, rfl⟩))
      refine bodyPost_ret (v := .tuple #[.agg #[.int .i64 0, .int .i64 0], .int .i64 100]) (by simp [results, Try.results11, go_sem, hc]) rfl ⟨rfl, ?_⟩
      (repeat (first | exact Below.refl _ _ | exact Nat.le_refl _ | (refine Below.setCell ?_ (by simp; try omega) _) | (refine Below.alloc ?_ (by simp; try omega) _) | refine Below.drew ?_ | (refine Below.trans ?_ (Below.mono (by assumption) (by simp; try omega)))))
    · have H1 := Lib.hid (show rateErr e m = 0 by simp [rateErr, h1])
      cases h2 : inB t 0 m
      · clear h1 h0
        go_enter Try.func11, Try.ntmps11
        go_wp2_with (first | (go_at_call 13; refine (check_any _ _ _).mono ?_; rw [H1.out]; rintro e w1 ⟨rfl, hb⟩; obtain ⟨hc, hf, hz⟩ := bcell hb) | (go_at_call 28; refine (within_any _ _ _ _).mono ?_; rintro e w' ⟨rfl, rfl⟩))
        refine bodyPost_ret (v := .tuple #[.agg #[.int .i64 0, .int .i64 0], .int .i64 100]) (by simp [results, Try.results11, go_sem, hc]) rfl ⟨rfl, ?_⟩
        (repeat (first | exact Below.refl _ _ | exact Nat.le_refl _ | (refine Below.setCell ?_ (by simp; try omega) _) | (refine Below.alloc ?_ (by simp; try omega) _) | refine Below.drew ?_ | (refine Below.trans ?_ (Below.mono (by assumption) (by simp; try omega)))))
      · cases h3 : inB k 0 1099511627776
        · clear h1 h0
          go_enter Try.func11, Try.ntmps11
          go_wp2_with (first | (go_at_call 13; refine (check_any _ _ _).mono ?_; rw [H1.out]; rintro e w1 ⟨rfl, hb⟩; obtain ⟨hc, hf, hz⟩ := bcell hb) | (go_at_call 28; refine (within_any _ _ _ _).mono ?_; rintro e w' ⟨rfl, rfl⟩))
          refine bodyPost_ret (v := .tuple #[.agg #[.int .i64 0, .int .i64 0], .int .i64 100]) (by simp [results, Try.results11, go_sem, hc]) rfl ⟨rfl, ?_⟩
          (repeat (first | exact Below.refl _ _ | exact Nat.le_refl _ | (refine Below.setCell ?_ (by simp; try omega) _) | (refine Below.alloc ?_ (by simp; try omega) _) | refine Below.drew ?_ | (refine Below.trans ?_ (Below.mono (by assumption) (by simp; try omega)))))
        · have h4 : inB n k 1099511627776 = false := by simpa [atOk, h1, h2, h3] using h0
          clear h1 h0
          go_enter Try.func11, Try.ntmps11
          go_wp2_with (first | (go_at_call 13; refine (check_any _ _ _).mono ?_; rw [H1.out]; rintro e w1 ⟨rfl, hb⟩; obtain ⟨hc, hf, hz⟩ := bcell hb) | (go_at_call 28; refine (within_any _ _ _ _).mono ?_; rintro e w' ⟨rfl, rfl⟩))
          refine bodyPost_ret (v := .tuple #[.agg #[.int .i64 0, .int .i64 0], .int .i64 100]) (by simp [results, Try.results11, go_sem, hc]) rfl ⟨rfl, ?_⟩
          (repeat (first | exact Below.refl _ _ | exact Nat.le_refl _ | (refine Below.setCell ?_ (by simp; try omega) _) | (refine Below.alloc ?_ (by simp; try omega) _) | refine Below.drew ?_ | (refine Below.trans ?_ (Below.mono (by assumption) (by simp; try omega)))))
  · have H := Lib.hid (show atTok e m t k n = min m (t + e * (n - k)) ∧ atTick e m t k n = n ∧ atErr e m t k n = 0 by simp [atTok, atTick, atErr, h0])
    rw [H.out.1, H.out.2.1, H.out.2.2]
    simp only [atOk, Bool.and_eq_true] at h0
    obtain ⟨⟨⟨h1, h2⟩, h3⟩, h4⟩ := h0
    have H1 := Lib.hid (show rateErr e m = 0 by simp [rateErr, h1])
    have b1 := (rated_iff e m).1 h1
    have b2 : 0 ≤ t ∧ t ≤ m := by simpa [inB] using h2
    have b3 : 0 ≤ k ∧ k ≤ 1099511627776 := by simpa [inB] using h3
    have b4 : k ≤ n ∧ n ≤ 1099511627776 := by simpa [inB] using h4
    obtain ⟨⟨a1, a2⟩, a3, a4⟩ := b1
    obtain ⟨a5, a6⟩ := b2
    obtain ⟨a7, a8⟩ := b3
    obtain ⟨a9, a10⟩ := b4
    have hmul : e * (n - k) = (n - k) * e := Int.mul_comm _ _
    have p0 : 0 ≤ (n - k) * e := Int.mul_nonneg (by omega) (by omega)
    have p2 : 1048576 < n - k → 1 ≤ e → 1048576 ≤ (n - k) * e := fun h1 h2 => by
      have := Int.mul_le_mul (a := 1048576) (c := n - k) (b := 1) (d := e) (by omega) (by omega) (by omega) (by omega)
      omega
    have p3 : e = 0 → (n - k) * e = 0 := fun h => by rw [h]; simp
    have e0 : e = 0 ∨ 1 ≤ e := by omega
    by_cases c1 : n - k ≤ 1048576
    · have p1 : (n - k) * e ≤ 1099511627776 := by
        have := Int.mul_le_mul (a := n - k) (c := 1048576) (b := e) (d := 1048576) (by omega) (by omega) (by omega) (by omega)
        omega
      have H2 := Lib.hid hmul
      clear h1 H hmul p2 p3 e0
      go_enter Try.func11, Try.ntmps11
      go_wp2_with (first | (go_at_call 13; refine (check_any _ _ _).mono ?_; rw [H1.out]; rintro e w1 ⟨rfl, hb⟩; obtain ⟨hc, hf, hz⟩ := bcell hb) | (go_at_call 28; refine (within_any _ _ _ _).mono ?_; rintro e w' ⟨rfl, rfl⟩))
      all_goals
        refine bodyPost_ret (v := .tuple #[.agg #[.int .i64 (min m (t + e * (n - k))), .int .i64 n], .int .i64 0]) (by simp [results, Try.results11, go_sem, hc]; rw [H2.out]; omega) rfl ⟨rfl, ?_⟩
        (repeat (first | exact Below.refl _ _ | exact Nat.le_refl _ | (refine Below.setCell ?_ (by simp; try omega) _) | (refine Below.alloc ?_ (by simp; try omega) _) | refine Below.drew ?_ | (refine Below.trans ?_ (Below.mono (by assumption) (by simp; try omega)))))
    · have q2 := p2 (by omega)
      have HQ := Lib.hid (And.intro hmul (And.intro q2 (And.intro p3 e0)))
      clear h1 H hmul p2 q2 p3 e0 p0
      go_enter Try.func11, Try.ntmps11
      go_wp2_with (first | (go_at_call 13; refine (check_any _ _ _).mono ?_; rw [H1.out]; rintro e w1 ⟨rfl, hb⟩; obtain ⟨hc, hf, hz⟩ := bcell hb) | (go_at_call 28; refine (within_any _ _ _ _).mono ?_; rintro e w' ⟨rfl, rfl⟩))
      all_goals
        refine bodyPost_ret (v := .tuple #[.agg #[.int .i64 (min m (t + e * (n - k))), .int .i64 n], .int .i64 0]) (by simp [results, Try.results11, go_sem, hc]; obtain ⟨g1, g2, g3, g4⟩ := HQ.out; rw [g1]; rcases g4 with g4 | g4; (have := g3 g4; omega); (have := g2 g4; omega)) rfl ⟨rfl, ?_⟩
        (repeat (first | exact Below.refl _ _ | exact Nat.le_refl _ | (refine Below.setCell ?_ (by simp; try omega) _) | (refine Below.alloc ?_ (by simp; try omega) _) | refine Below.drew ?_ | (refine Below.trans ?_ (Below.mono (by assumption) (by simp; try omega)))))
end Go.Proofs.Ytlholmndckhhgaa
