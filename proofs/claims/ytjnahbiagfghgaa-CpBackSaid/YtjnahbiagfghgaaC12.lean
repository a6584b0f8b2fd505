/- Decode: the closure that reads on. -/
import Derived.Test.YtjnahbiagfghgaaC11
namespace Go.Proofs.Ytjnahbiagfghgaa
open Go.RowKit
set_option linter.unusedSimpArgs false
set_option linter.unusedVariables false
theorem or_i64 (a y : Nat) (ha : a < 256) (hy : y < 256) : bits .or .i64 ((a : Int) * 256) (y : Int) = ((a * 256 + y : Nat) : Int) := by
  have e1 : (BitVec.ofInt 64 ((a : Int) * 256)).toNat = a * 256 := by
    rw [show (a : Int) * 256 = ((a * 256 : Nat) : Int) from by omega, BitVec.ofInt_natCast, BitVec.toNat_ofNat]; exact Nat.mod_eq_of_lt (by omega)
  have e2 : (BitVec.ofInt 64 (y : Int)).toNat = y := by
    rw [BitVec.ofInt_natCast, BitVec.toNat_ofNat]; exact Nat.mod_eq_of_lt (by omega)
  have e3 := Nat.shiftLeft_add_eq_or_of_lt (i := 8) (b := y) (by omega) a
  rw [Nat.shiftLeft_eq] at e3
  show IntKind.i64.wrap ((BitVec.ofInt 64 ((a : Int) * 256) ||| BitVec.ofInt 64 (y : Int)).toNat : Int) = _
  rw [BitVec.toNat_or, e1, e2, ← e3, IntKind.wrap_i64]
  omega
theorem or_zero (y : Nat) (hy : y < 256) : bits .or .i64 0 (y : Int) = (y : Int) := by
  have := or_i64 0 y (by omega) hy
  simpa using this

set_option maxHeartbeats 1000000 in
theorem next_one (pb pa b o len c : Nat) (k : Int) (x : UInt8) (w : World) (h1 : w.cell? ⟨pb, 0, none⟩ = some (.slice (some ⟨b, o, none⟩) len c)) (h2 : w.cell? ⟨pa, 0, none⟩ = some (.int .i64 k)) (h3 : w.frozen? ⟨pa, 0, none⟩ = false)
    (h0 : 0 ≤ k) (hk : k < len) (hl : len ≤ 1000000000) (hx : w.cell? ⟨b, o + k.toNat, none⟩ = some (.int .u8 (x.toNat : Int))) :
    Calls Try.prog 29 #[.int .i64 1, .pointer (some ⟨pb, 0, none⟩), .pointer (some ⟨pa, 0, none⟩)] w fun e w' => e = .returned (.int .i64 (x.toNat : Int)) ∧ w.setCell ⟨pa, 0, none⟩ (.int .i64 (k + 1)) = w' := by
  have xb : ((x.toNat : Nat) : Int) < 256 := by have := x.toNat_lt; omega
  have hor := or_zero x.toNat x.toNat_lt
  go_enter Try.func29, Try.ntmps29
  go_wp2
  refine wp_loop_rounds 2 ?_
  rw [rounds_succ]; go_wp2
  rw [rounds_succ]; go_wp2
  go_ret
  exact ⟨rfl, rfl⟩

set_option maxHeartbeats 1000000 in
theorem next_two (pb pa b o len c : Nat) (k : Int) (x y : UInt8) (w : World) (h1 : w.cell? ⟨pb, 0, none⟩ = some (.slice (some ⟨b, o, none⟩) len c)) (h2 : w.cell? ⟨pa, 0, none⟩ = some (.int .i64 k)) (h3 : w.frozen? ⟨pa, 0, none⟩ = false)
    (n1 : pb ≠ pa) (n2 : b ≠ pa) (h0 : 0 ≤ k) (hk : k + 1 < len) (hl : len ≤ 1000000000) (hx : w.cell? ⟨b, o + k.toNat, none⟩ = some (.int .u8 (x.toNat : Int))) (hy : w.cell? ⟨b, o + (k + 1).toNat, none⟩ = some (.int .u8 (y.toNat : Int))) :
    Calls Try.prog 29 #[.int .i64 2, .pointer (some ⟨pb, 0, none⟩), .pointer (some ⟨pa, 0, none⟩)] w fun e w' => e = .returned (.int .i64 ((x.toNat * 256 + y.toNat : Nat) : Int)) ∧ (w.setCell ⟨pa, 0, none⟩ (.int .i64 (k + 1))).setCell ⟨pa, 0, none⟩ (.int .i64 (k + 1 + 1)) = w' := by
  have xb : ((x.toNat : Nat) : Int) < 256 := by have := x.toNat_lt; omega
  have yb : ((y.toNat : Nat) : Int) < 256 := by have := y.toNat_lt; omega
  have hor := or_zero x.toNat x.toNat_lt
  have hor2 := Lib.hid (or_i64 x.toNat y.toNat x.toNat_lt y.toNat_lt)
  have c1 : (w.setCell ⟨pa, 0, none⟩ (.int .i64 (k + 1))).cell? ⟨pb, 0, none⟩ = some (.slice (some ⟨b, o, none⟩) len c) := by rw [World.cell?_setCell_other _ _ _ _ (by intro h; simp only [Addr.mk.injEq] at h; omega)]; exact h1
  have c2 : (w.setCell ⟨pa, 0, none⟩ (.int .i64 (k + 1))).cell? ⟨pa, 0, none⟩ = some (.int .i64 (k + 1)) := World.cell?_setCell_same _ _ _ h2
  have c3 : (w.setCell ⟨pa, 0, none⟩ (.int .i64 (k + 1))).cell? ⟨b, o + (k + 1).toNat, none⟩ = some (.int .u8 (y.toNat : Int)) := by rw [World.cell?_setCell_other _ _ _ _ (by intro h; simp only [Addr.mk.injEq] at h; omega)]; exact hy
  have k1 : k < len := by omega
  go_enter Try.func29, Try.ntmps29
  go_wp2
  refine wp_loop_rounds 3 ?_
  rw [rounds_succ]; go_wp2
  rw [rounds_succ]; go_wp2
  rw [rounds_succ]; go_wp2
  go_ret
  exact ⟨ret_int hor2.out, rfl⟩

theorem At.cell {w : World} {B b o : Nat} {xs : List Value} (h : At w B (some ⟨b, o, none⟩) xs) {j : Nat} {u : Value} (hu : xs[j]? = some u) : w.cell? ⟨b, o + j, none⟩ = some u := by
  rcases h with h | ⟨b', o', e, _, hc⟩
  · subst h; simp at hu
  · cases e; exact hc j u hu

def decN (l : List UInt8) : Nat := be ((l.drop 2).take 2)
def decErr (l : List UInt8) : Int := if l.length < 4 then 71 else if decN l < 4 ∨ l.length < decN l then 71 else 0
def decCode (l : List UInt8) : Int := if decErr l = 0 then (l.getD 0 0).toNat else 0
def decID (l : List UInt8) : Int := if decErr l = 0 then (l.getD 1 0).toNat else 0
def decData (l : List UInt8) : List UInt8 := if decErr l = 0 then (l.take (decN l)).drop 4 else []
def DecP (w : World) (l : List UInt8) (e : Ending) (w' : World) : Prop :=
  ∃ v, e = .returned (.tuple #[.agg #[.int .i64 (decCode l), .int .i64 (decID l), v], .int .i64 (decErr l)]) ∧ Below w.heap.size w w' ∧ w'.ownsRow w.heap.size 5 1 v (decData l).length ((decData l).map bv)
theorem decErr_bad {l : List UInt8} (h : decErr l = 71) : decErr l = 71 ∧ decCode l = 0 ∧ decID l = 0 ∧ decData l = [] := ⟨h, by simp [decCode, h], by simp [decID, h], by simp [decData, h]⟩
theorem four_of {l : List UInt8} (h : ¬ l.length < 4) : ∃ a b c d t, l = a :: b :: c :: d :: t := by
  match l, h with
  | [], h => simp at h
  | [_], h => simp at h
  | [_, _], h => simp at h
  | [_, _, _], h => simp at h
  | a :: b :: c :: d :: t, _ => exact ⟨a, b, c, d, t, rfl⟩
end Go.Proofs.Ytjnahbiagfghgaa
