/- What the law itself calls: cut, and whether two packets are the same. -/
import Derived.Test.YtjnahbiagfghgaaC14
namespace Go.Proofs.Ytjnahbiagfghgaa
open Go.RowKit
set_option linter.unusedSimpArgs false
set_option linter.unusedVariables false
@[go_sem] theorem le_pl_2 (x : Nat) : x ≤ x + 1 + 1 := by omega
@[go_sem] theorem lt_pl_2 (x : Nat) : x < x + 1 + 1 := by omega
@[go_sem] theorem le_pl_3 (x : Nat) : x ≤ x + 1 + 1 + 1 := by omega
@[go_sem] theorem lt_pl_3 (x : Nat) : x < x + 1 + 1 + 1 := by omega
@[go_sem] theorem le_pl_4 (x : Nat) : x ≤ x + 1 + 1 + 1 + 1 := by omega
@[go_sem] theorem lt_pl_4 (x : Nat) : x < x + 1 + 1 + 1 + 1 := by omega
@[go_sem] theorem le_pl_5 (x : Nat) : x ≤ x + 1 + 1 + 1 + 1 + 1 := by omega
@[go_sem] theorem lt_pl_5 (x : Nat) : x < x + 1 + 1 + 1 + 1 + 1 := by omega
@[go_sem] theorem le_pl_6 (x : Nat) : x ≤ x + 1 + 1 + 1 + 1 + 1 + 1 := by omega
@[go_sem] theorem lt_pl_6 (x : Nat) : x < x + 1 + 1 + 1 + 1 + 1 + 1 := by omega
@[go_sem] theorem le_pl_7 (x : Nat) : x ≤ x + 1 + 1 + 1 + 1 + 1 + 1 + 1 := by omega
@[go_sem] theorem lt_pl_7 (x : Nat) : x < x + 1 + 1 + 1 + 1 + 1 + 1 + 1 := by omega
@[go_sem] theorem le_pl_8 (x : Nat) : x ≤ x + 1 + 1 + 1 + 1 + 1 + 1 + 1 + 1 := by omega
@[go_sem] theorem lt_pl_8 (x : Nat) : x < x + 1 + 1 + 1 + 1 + 1 + 1 + 1 + 1 := by omega
theorem cut_any (A : Option Addr) (len c : Nat) (w : World) (hlc : len ≤ c) (hl : (len : Int) ≤ 9223372036854775807) :
    Calls Try.prog 8 #[.slice A len c] w fun e w' => e = .returned (.slice A (min len 1600) c) ∧ w = w' := by
  have ha : Option.map (fun x : Addr => x.add 0) A = A := by cases A <;> simp [Addr.add]
  by_cases h : 1600 < len
  · have hm := Lib.hid (show min len 1600 = 1600 by omega)
    have hc : (1600 : Int) ≤ (c : Int) := by omega
    go_enter Try.func8, Try.ntmps8
    go_wp2
    go_ret
    exact ⟨by rw [hm.out]; rfl, rfl⟩
  · have hm := Lib.hid (show min len 1600 = len by omega)
    have hc : (len : Int) ≤ (c : Int) := by omega
    go_enter Try.func8, Try.ntmps8
    go_wp2
    go_ret
    exact ⟨by rw [hm.out]; rfl, rfl⟩

set_option maxRecDepth 100000 in
theorem samePPP_true (p : Int) (A1 A2 : Option Addr) (n c1 c2 : Nat) (l : List UInt8) (w : World) (B : Nat) (hB : B ≤ w.heap.size) (g1 : At w B A1 (l.map bv)) (g2 : At w B A2 (l.map bv)) (hn : n = l.length) :
    Calls Try.prog 13 #[.agg #[.int .i64 p, .slice A1 n c1], .agg #[.int .i64 p, .slice A2 n c2]] w fun e w' => e = .returned (.bool true) ∧ Below w.heap.size w w' := by
  have h1 := g1.more hB
  have h2 := g2.more hB
  clear g1 g2 hB
  have q1 : ∀ W : World, At W w.heap.size A1 (l.map bv) → (convert 22 9 (.slice A1 n c1)).run Try.prog W = .ok (.string ⟨l.toArray⟩) W := fun W h => run_str Try.underlying22 Try.underlying5 Try.underlying9 hn h
  have q2 : ∀ W : World, At W w.heap.size A2 (l.map bv) → (convert 22 9 (.slice A2 n c2)).run Try.prog W = .ok (.string ⟨l.toArray⟩) W := fun W h => run_str Try.underlying22 Try.underlying5 Try.underlying9 hn h
  have HN := Lib.hid hn
  clear hn
  go_enter Try.func13, Try.ntmps13
  go_wp2
  go_ret
  exact ⟨rfl, by (repeat (first | exact Below.refl _ _ | exact Nat.le_refl _ | (refine below_ext ?_ (by first | (simp [size_ext, grow]; done) | (simp [size_ext, grow]; omega)) _ _) | (refine Below.setCell ?_ (by first | (simp [size_ext, grow]; done) | (simp [size_ext, grow]; omega)) _) | (refine Below.alloc ?_ (by first | (simp [size_ext, grow]; done) | (simp [size_ext, grow]; omega)) _) | refine Below.drew ?_ | refine below_drewN ?_ _ | (refine Below.trans ?_ (Below.mono (by assumption) (by first | (simp [size_ext, grow]; done) | (simp [size_ext, grow]; omega))))))⟩
set_option maxRecDepth 100000 in
theorem same_true (a b : Int) (A1 A2 : Option Addr) (n c1 c2 : Nat) (l : List UInt8) (w : World) (B : Nat) (hB : B ≤ w.heap.size) (g1 : At w B A1 (l.map bv)) (g2 : At w B A2 (l.map bv)) (hn : n = l.length) :
    Calls Try.prog 19 #[.agg #[.int .i64 a, .int .i64 b, .slice A1 n c1], .agg #[.int .i64 a, .int .i64 b, .slice A2 n c2]] w fun e w' => e = .returned (.bool true) ∧ Below w.heap.size w w' := by
  have h1 := g1.more hB
  have h2 := g2.more hB
  clear g1 g2 hB
  have q1 : ∀ W : World, At W w.heap.size A1 (l.map bv) → (convert 22 9 (.slice A1 n c1)).run Try.prog W = .ok (.string ⟨l.toArray⟩) W := fun W h => run_str Try.underlying22 Try.underlying5 Try.underlying9 hn h
  have q2 : ∀ W : World, At W w.heap.size A2 (l.map bv) → (convert 22 9 (.slice A2 n c2)).run Try.prog W = .ok (.string ⟨l.toArray⟩) W := fun W h => run_str Try.underlying22 Try.underlying5 Try.underlying9 hn h
  have HN := Lib.hid hn
  clear hn
  go_enter Try.func19, Try.ntmps19
  go_wp2
  go_ret
  exact ⟨rfl, by (repeat (first | exact Below.refl _ _ | exact Nat.le_refl _ | (refine below_ext ?_ (by first | (simp [size_ext, grow]; done) | (simp [size_ext, grow]; omega)) _ _) | (refine Below.setCell ?_ (by first | (simp [size_ext, grow]; done) | (simp [size_ext, grow]; omega)) _) | (refine Below.alloc ?_ (by first | (simp [size_ext, grow]; done) | (simp [size_ext, grow]; omega)) _) | refine Below.drew ?_ | refine below_drewN ?_ _ | (refine Below.trans ?_ (Below.mono (by assumption) (by first | (simp [size_ext, grow]; done) | (simp [size_ext, grow]; omega))))))⟩
end Go.Proofs.Ytjnahbiagfghgaa
