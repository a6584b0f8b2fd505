/- Two options held against each other. -/
import Derived.Test.YtbdkapmiioiikaaH6
namespace Go.Proofs.Ytbdkapmiioiikaa
open Go.RowKit
set_option linter.unusedSimpArgs false
set_option linter.unusedVariables false
def oneB (a b : Int × List UInt8) : Bool := a.1 == b.1 && a.2 == b.2
set_option maxHeartbeats 1000000 in
theorem one_ref (t1 t2 : Int) (A1 A2 : Option Addr) (n1 n2 c1 c2 : Nat) (d1 d2 : List UInt8) (w : World) (B : Nat) (hB : B ≤ w.heap.size) (h1 : At w B A1 (d1.map bv)) (h2 : At w B A2 (d2.map bv)) (hn1 : n1 = d1.length) (hn2 : n2 = d2.length) :
    Calls Try.prog 22 #[.agg #[.int .i64 t1, .slice A1 n1 c1], .agg #[.int .i64 t2, .slice A2 n2 c2]] w fun x w' => x = .returned (.bool (oneB (t1, d1) (t2, d2))) ∧ Below w.heap.size w w' := by
  have q1 : ∀ W : World, At W B A1 (d1.map bv) → (convert 23 9 (.slice A1 n1 c1)).run Try.prog W = .ok (.string ⟨d1.toArray⟩) W := fun W h => run_str Try.underlying23 Try.underlying5 Try.underlying9 hn1 h
  have q2 : ∀ W : World, At W B A2 (d2.map bv) → (convert 23 9 (.slice A2 n2 c2)).run Try.prog W = .ok (.string ⟨d2.toArray⟩) W := fun W h => run_str Try.underlying23 Try.underlying5 Try.underlying9 hn2 h
  have g1 : At ((w.alloc (.cells #[.int .i64 t1, .slice A1 n1 c1] 36)).alloc (.cells #[.int .i64 t2, .slice A2 n2 c2] 36)) B A1 (d1.map bv) := h1.keep (by (repeat (first | exact Below.refl _ _ | exact Nat.le_refl _ | (refine below_ext ?_ (by first | (simp [size_ext, grow]; done) | (simp [size_ext, grow]; omega) | omega) _ _) | (refine Below.setCell ?_ (by first | (simp [size_ext, grow]; done) | (simp [size_ext, grow]; omega) | omega) _) | (refine Below.alloc ?_ (by first | (simp [size_ext, grow]; done) | (simp [size_ext, grow]; omega) | omega) _) | refine Below.drew ?_ | refine below_drewN ?_ _ | (refine Below.trans ?_ (Below.mono (by assumption) (by first | (simp [size_ext, grow]; done) | (simp [size_ext, grow]; omega) | omega))))))
  have g2 : At ((w.alloc (.cells #[.int .i64 t1, .slice A1 n1 c1] 36)).alloc (.cells #[.int .i64 t2, .slice A2 n2 c2] 36)) B A2 (d2.map bv) := h2.keep (by (repeat (first | exact Below.refl _ _ | exact Nat.le_refl _ | (refine below_ext ?_ (by first | (simp [size_ext, grow]; done) | (simp [size_ext, grow]; omega) | omega) _ _) | (refine Below.setCell ?_ (by first | (simp [size_ext, grow]; done) | (simp [size_ext, grow]; omega) | omega) _) | (refine Below.alloc ?_ (by first | (simp [size_ext, grow]; done) | (simp [size_ext, grow]; omega) | omega) _) | refine Below.drew ?_ | refine below_drewN ?_ _ | (refine Below.trans ?_ (Below.mono (by assumption) (by first | (simp [size_ext, grow]; done) | (simp [size_ext, grow]; omega) | omega))))))
  clear h1 h2 hn1 hn2 hB
  cases ht : (t1 == t2)
  · have HR := Lib.hid (show oneB (t1, d1) (t2, d2) = false by unfold oneB; simp only [ht, Bool.false_and])
    clear q1 q2 g1 g2
    go_enter Try.func22, Try.ntmps22
    go_wp2
    go_ret
    exact ⟨by rw [HR.out]; rfl, by (repeat (first | exact Below.refl _ _ | exact Nat.le_refl _ | (refine below_ext ?_ (by first | (simp [size_ext, grow]; done) | (simp [size_ext, grow]; omega) | omega) _ _) | (refine Below.setCell ?_ (by first | (simp [size_ext, grow]; done) | (simp [size_ext, grow]; omega) | omega) _) | (refine Below.alloc ?_ (by first | (simp [size_ext, grow]; done) | (simp [size_ext, grow]; omega) | omega) _) | refine Below.drew ?_ | refine below_drewN ?_ _ | (refine Below.trans ?_ (Below.mono (by assumption) (by first | (simp [size_ext, grow]; done) | (simp [size_ext, grow]; omega) | omega)))))⟩
  · cases hd : (d1 == d2)
    · have HR := Lib.hid (show oneB (t1, d1) (t2, d2) = false by unfold oneB; simp only [hd, Bool.and_false])
      go_enter Try.func22, Try.ntmps22
      go_wp2
      go_ret
      exact ⟨by rw [HR.out]; rfl, by (repeat (first | exact Below.refl _ _ | exact Nat.le_refl _ | (refine below_ext ?_ (by first | (simp [size_ext, grow]; done) | (simp [size_ext, grow]; omega) | omega) _ _) | (refine Below.setCell ?_ (by first | (simp [size_ext, grow]; done) | (simp [size_ext, grow]; omega) | omega) _) | (refine Below.alloc ?_ (by first | (simp [size_ext, grow]; done) | (simp [size_ext, grow]; omega) | omega) _) | refine Below.drew ?_ | refine below_drewN ?_ _ | (refine Below.trans ?_ (Below.mono (by assumption) (by first | (simp [size_ext, grow]; done) | (simp [size_ext, grow]; omega) | omega)))))⟩
    · have HR := Lib.hid (show oneB (t1, d1) (t2, d2) = true by unfold oneB; simp only [ht, hd, Bool.and_true])
      go_enter Try.func22, Try.ntmps22
      go_wp2
      go_ret
      exact ⟨by rw [HR.out]; rfl, by (repeat (first | exact Below.refl _ _ | exact Nat.le_refl _ | (refine below_ext ?_ (by first | (simp [size_ext, grow]; done) | (simp [size_ext, grow]; omega) | omega) _ _) | (refine Below.setCell ?_ (by first | (simp [size_ext, grow]; done) | (simp [size_ext, grow]; omega) | omega) _) | (refine Below.alloc ?_ (by first | (simp [size_ext, grow]; done) | (simp [size_ext, grow]; omega) | omega) _) | refine Below.drew ?_ | refine below_drewN ?_ _ | (refine Below.trans ?_ (Below.mono (by assumption) (by first | (simp [size_ext, grow]; done) | (simp [size_ext, grow]; omega) | omega)))))⟩
set_option maxHeartbeats 1000000 in
theorem one_any (t1 t2 : Int) (A1 A2 : Option Addr) (n1 n2 c1 c2 : Nat) (d1 d2 : List UInt8) (w : World) (B : Nat) (hB : B ≤ w.heap.size) (h1 : At w B A1 (d1.map bv)) (h2 : At w B A2 (d2.map bv)) (hn1 : n1 = d1.length) (hn2 : n2 = d2.length) :
    Calls Try.prog 33 #[.agg #[.int .i64 t1, .slice A1 n1 c1], .agg #[.int .i64 t2, .slice A2 n2 c2]] w fun x w' => x = .returned (.bool (oneB (t1, d1) (t2, d2))) ∧ Below w.heap.size w w' := by
  have q1 : ∀ W : World, At W B A1 (d1.map bv) → (convert 23 9 (.slice A1 n1 c1)).run Try.prog W = .ok (.string ⟨d1.toArray⟩) W := fun W h => run_str Try.underlying23 Try.underlying5 Try.underlying9 hn1 h
  have q2 : ∀ W : World, At W B A2 (d2.map bv) → (convert 23 9 (.slice A2 n2 c2)).run Try.prog W = .ok (.string ⟨d2.toArray⟩) W := fun W h => run_str Try.underlying23 Try.underlying5 Try.underlying9 hn2 h
  have g1 : At ((w.alloc (.cells #[.int .i64 t1, .slice A1 n1 c1] 36)).alloc (.cells #[.int .i64 t2, .slice A2 n2 c2] 36)) B A1 (d1.map bv) := h1.keep (by (repeat (first | exact Below.refl _ _ | exact Nat.le_refl _ | (refine below_ext ?_ (by first | (simp [size_ext, grow]; done) | (simp [size_ext, grow]; omega) | omega) _ _) | (refine Below.setCell ?_ (by first | (simp [size_ext, grow]; done) | (simp [size_ext, grow]; omega) | omega) _) | (refine Below.alloc ?_ (by first | (simp [size_ext, grow]; done) | (simp [size_ext, grow]; omega) | omega) _) | refine Below.drew ?_ | refine below_drewN ?_ _ | (refine Below.trans ?_ (Below.mono (by assumption) (by first | (simp [size_ext, grow]; done) | (simp [size_ext, grow]; omega) | omega))))))
  have g2 : At ((w.alloc (.cells #[.int .i64 t1, .slice A1 n1 c1] 36)).alloc (.cells #[.int .i64 t2, .slice A2 n2 c2] 36)) B A2 (d2.map bv) := h2.keep (by (repeat (first | exact Below.refl _ _ | exact Nat.le_refl _ | (refine below_ext ?_ (by first | (simp [size_ext, grow]; done) | (simp [size_ext, grow]; omega) | omega) _ _) | (refine Below.setCell ?_ (by first | (simp [size_ext, grow]; done) | (simp [size_ext, grow]; omega) | omega) _) | (refine Below.alloc ?_ (by first | (simp [size_ext, grow]; done) | (simp [size_ext, grow]; omega) | omega) _) | refine Below.drew ?_ | refine below_drewN ?_ _ | (refine Below.trans ?_ (Below.mono (by assumption) (by first | (simp [size_ext, grow]; done) | (simp [size_ext, grow]; omega) | omega))))))
  clear h1 h2 hn1 hn2 hB
  cases ht : (t1 == t2)
  · have HR := Lib.hid (show oneB (t1, d1) (t2, d2) = false by unfold oneB; simp only [ht, Bool.false_and])
    clear q1 q2 g1 g2
    go_enter Try.func33, Try.ntmps33
    go_wp2
    go_ret
    exact ⟨by rw [HR.out]; rfl, by (repeat (first | exact Below.refl _ _ | exact Nat.le_refl _ | (refine below_ext ?_ (by first | (simp [size_ext, grow]; done) | (simp [size_ext, grow]; omega) | omega) _ _) | (refine Below.setCell ?_ (by first | (simp [size_ext, grow]; done) | (simp [size_ext, grow]; omega) | omega) _) | (refine Below.alloc ?_ (by first | (simp [size_ext, grow]; done) | (simp [size_ext, grow]; omega) | omega) _) | refine Below.drew ?_ | refine below_drewN ?_ _ | (refine Below.trans ?_ (Below.mono (by assumption) (by first | (simp [size_ext, grow]; done) | (simp [size_ext, grow]; omega) | omega)))))⟩
  · cases hd : (d1 == d2)
    · have HR := Lib.hid (show oneB (t1, d1) (t2, d2) = false by unfold oneB; simp only [hd, Bool.and_false])
      go_enter Try.func33, Try.ntmps33
      go_wp2
      go_ret
      exact ⟨by rw [HR.out]; rfl, by (repeat (first | exact Below.refl _ _ | exact Nat.le_refl _ | (refine below_ext ?_ (by first | (simp [size_ext, grow]; done) | (simp [size_ext, grow]; omega) | omega) _ _) | (refine Below.setCell ?_ (by first | (simp [size_ext, grow]; done) | (simp [size_ext, grow]; omega) | omega) _) | (refine Below.alloc ?_ (by first | (simp [size_ext, grow]; done) | (simp [size_ext, grow]; omega) | omega) _) | refine Below.drew ?_ | refine below_drewN ?_ _ | (refine Below.trans ?_ (Below.mono (by assumption) (by first | (simp [size_ext, grow]; done) | (simp [size_ext, grow]; omega) | omega)))))⟩
    · have HR := Lib.hid (show oneB (t1, d1) (t2, d2) = true by unfold oneB; simp only [ht, hd, Bool.and_true])
      go_enter Try.func33, Try.ntmps33
      go_wp2
      go_ret
      exact ⟨by rw [HR.out]; rfl, by (repeat (first | exact Below.refl _ _ | exact Nat.le_refl _ | (refine below_ext ?_ (by first | (simp [size_ext, grow]; done) | (simp [size_ext, grow]; omega) | omega) _ _) | (refine Below.setCell ?_ (by first | (simp [size_ext, grow]; done) | (simp [size_ext, grow]; omega) | omega) _) | (refine Below.alloc ?_ (by first | (simp [size_ext, grow]; done) | (simp [size_ext, grow]; omega) | omega) _) | refine Below.drew ?_ | refine below_drewN ?_ _ | (refine Below.trans ?_ (Below.mono (by assumption) (by first | (simp [size_ext, grow]; done) | (simp [size_ext, grow]; omega) | omega)))))⟩
end Go.Proofs.Ytbdkapmiioiikaa
