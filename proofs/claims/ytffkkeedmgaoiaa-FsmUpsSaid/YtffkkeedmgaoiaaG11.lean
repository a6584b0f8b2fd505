/- The page's example; Step by its three answers. -/
import Derived.Test.YtffkkeedmgaoiaaG10
namespace Go.Proofs.Ytffkkeedmgaoiaa
open Go.RowKit
set_option linter.unusedSimpArgs false
set_option linter.unusedVariables false
theorem walk_ex (A : Option Addr) (w : World) (B : Nat) (hB : B ≤ w.heap.size) (hA : At w B A ([3, 9, 7].map av)) : Calls Try.prog 15 #[.int .i64 2, .slice A 3 3] w fun x w' => ∃ v, x = .returned (.tuple #[.int .i64 9, v, .int .i64 3, .int .i64 0]) ∧ Told w [5, 7, 5, 8, 1] v w' := by
  refine (walk_any 2 A 3 3 [3, 9, 7] w B hB hA rfl (by decide)).mono ?_
  intro x w' h
  have hW : walkF 2 [3, 9, 7] = (9, [5, 7, 5, 8, 1], 3, 0) := by decide
  unfold WalkP at h
  rw [hW] at h
  exact h
set_option maxHeartbeats 400000 in
theorem awake_any (w : World) : Calls Try.prog 14 #[] w fun e w' => e = .returned (.bool true) ∧ Below w.heap.size w w' := by
  go_enter Try.func14, Try.ntmps14
  go_wp2_with fail
  have HA := Lib.hid (At.new w #[.int .i64 3, .int .i64 9, .int .i64 7] 23 ([3, 9, 7].map av) rfl)
  refine (walk_ex _ _ (w.heap.size + 1) (by simp) HA.out).mono ?_
  rintro e' w1 ⟨v, rfl, hb, ho⟩; obtain ⟨xs1, d1, rfl⟩ := ext_of hb; clear hb; obtain ⟨A1, c1, rfl, -, -⟩ := ownsRow_form ho; have HO1 := Lib.hid ho; clear ho
  simp only [List.length_cons, List.length_nil, Nat.zero_add, Nat.reduceAdd] at HO1 ⊢
  go_wp2_with fail
  have HN := Lib.hid (At.newN (ext (w.alloc (.cells #[.int .i64 3, .int .i64 9, .int .i64 7] 23)) xs1 d1) #[.int .i64 5, .int .i64 7, .int .i64 5, .int .i64 8, .int .i64 1] 37 ([5, 7, 5, 8, 1].map av) (grow w.heap.size xs1 + 1) (by simp [size_ext, grow]; try omega) rfl)
  refine (same_any A1 (some ⟨grow w.heap.size xs1 + 1, 0, none⟩) 5 5 c1 5 [5, 7, 5, 8, 1] _ _ (Nat.le_refl _) ((At.of_own HO1.out).move (by (repeat (first | exact Below.refl _ _ | exact Nat.le_refl _ | (refine below_ext ?_ (by first | (simp [size_ext, grow]; done) | (simp [size_ext, grow]; omega) | omega) _ _) | (refine Below.setCell ?_ (by first | (simp [size_ext, grow]; done) | (simp [size_ext, grow]; omega) | omega) _) | (refine Below.alloc ?_ (by first | (simp [size_ext, grow]; done) | (simp [size_ext, grow]; omega) | omega) _) | refine Below.drew ?_ | refine below_drewN ?_ _ | (refine Below.trans ?_ (Below.mono (by assumption) (by first | (simp [size_ext, grow]; done) | (simp [size_ext, grow]; omega) | omega)))))) (by first | (simp [size_ext, grow]; done) | (simp [size_ext, grow]; omega))) (HN.out.move (Below.refl _ _) (by first | (simp [size_ext, grow]; done) | (simp [size_ext, grow]; omega))) rfl rfl (by decide)).mono ?_
  rintro e w1 ⟨rfl, hb⟩; obtain ⟨xs2, d2, rfl⟩ := ext_of hb; clear hb
  have HS := Lib.hid (show nameOf stL 9 = [79, 112, 101, 110, 101, 100] from rfl)
  go_wp2_with (go_at_call 19; refine (name_any _ _).mono ?_; rw [HS.out]; rintro e w1 ⟨rfl, rfl⟩)
  go_ret
  exact ⟨rfl, by (repeat (first | exact Below.refl _ _ | exact Nat.le_refl _ | (refine below_ext ?_ (by first | (simp [size_ext, grow]; done) | (simp [size_ext, grow]; omega) | omega) _ _) | (refine Below.setCell ?_ (by first | (simp [size_ext, grow]; done) | (simp [size_ext, grow]; omega) | omega) _) | (refine Below.alloc ?_ (by first | (simp [size_ext, grow]; done) | (simp [size_ext, grow]; omega) | omega) _) | refine Below.drew ?_ | refine below_drewN ?_ _ | (refine Below.trans ?_ (Below.mono (by assumption) (by first | (simp [size_ext, grow]; done) | (simp [size_ext, grow]; omega) | omega)))))⟩
theorem step_gen (s e nx er : Int) (l : List Int) (w : World) (h1 : tabNext e s = nx) (h2 : tabActs e s = l) (h3 : stepErr s e = er) : Calls Try.prog 11 #[.int .i64 s, .int .i64 e] w fun x w' => ∃ v, x = .returned (.tuple #[.int .i64 nx, v, .int .i64 er]) ∧ Told w l v w' := by
  subst h1; subst h2; subst h3
  exact step_any s e w
end Go.Proofs.Ytffkkeedmgaoiaa
