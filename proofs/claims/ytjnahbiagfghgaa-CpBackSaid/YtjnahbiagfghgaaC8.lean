/- cp.Split, cp.Join, cp.Encode, cp.Decode and their references. -/
import Derived.Test.YtjnahbiagfghgaaC7
namespace Go.Proofs.Ytjnahbiagfghgaa
open Go.RowKit
set_option linter.unusedSimpArgs false
set_option linter.unusedVariables false

def splitErr (l : List UInt8) : Int := if l.length < 2 || !proto (be (l.take 2)) then 70 else if 1494 < l.length then 2 else 0
def splitNum (l : List UInt8) : Int := if splitErr l = 0 then be (l.take 2) else 0
def splitRest (l : List UInt8) : List UInt8 := if splitErr l = 0 then l.drop 2 else []
def SplitP (w : World) (l : List UInt8) (e : Ending) (w' : World) : Prop :=
  ∃ v, e = .returned (.tuple #[.agg #[.int .i64 (splitNum l), v], .int .i64 (splitErr l)]) ∧ Below w.heap.size w w' ∧ w'.ownsRow w.heap.size 5 1 v (splitRest l).length ((splitRest l).map bv)

set_option maxRecDepth 100000 in
set_option maxHeartbeats 1000000 in
theorem split_any (A : Option Addr) (len c : Nat) (l : List UInt8) (w : World) (B : Nat) (hB : B ≤ w.heap.size) (hA : At w B A (l.map bv)) (hlen : len = l.length) (hl : len ≤ 1000000000) (hlc : len ≤ c) :
    Calls Try.prog 9 #[.slice A len c] w (SplitP w l) := by
  have HA := Lib.hid (hA.more hB)
  have HL := Lib.hid hlen
  clear hA hB hlen
  by_cases h2 : len < 2
  · have H : Hid (splitErr l = 70 ∧ splitNum l = 0 ∧ splitRest l = []) := by
      have e : splitErr l = 70 := by unfold splitErr; rw [if_pos (by simp; left; have := HL.out; omega)]
      exact ⟨e, by simp [splitNum, e], by simp [splitRest, e]⟩
    go_enter Try.func9, Try.ntmps9
    go_wp2_with (go_at_call 24; refine (take_no _ _ _ _ _ (.inr (by omega))).mono ?_; rintro e w1 ⟨rfl, rfl⟩)
    refine bodyPost_ret (v := .tuple #[.agg #[.int .i64 0, .slice none 0 0], .int .i64 70]) (by simp [results, Try.results9, go_sem]) rfl ⟨.slice none 0 0, by rw [H.out.1, H.out.2.1], ?_, by rw [H.out.2.2]; exact own_nil _ _ _ _⟩
    (repeat (first | exact Below.refl _ _ | exact Nat.le_refl _ | (refine below_ext ?_ (by first | (simp [size_ext, grow]; done) | (simp [size_ext, grow]; omega)) _ _) | (refine Below.setCell ?_ (by first | (simp [size_ext, grow]; done) | (simp [size_ext, grow]; omega)) _) | (refine Below.alloc ?_ (by first | (simp [size_ext, grow]; done) | (simp [size_ext, grow]; omega)) _) | refine Below.drew ?_ | refine below_drewN ?_ _ | (refine Below.trans ?_ (Below.mono (by assumption) (by first | (simp [size_ext, grow]; done) | (simp [size_ext, grow]; omega))))))
  · have hn := be_take_lt l 2 (by omega)
    have h65 : ((be (l.take 2) : Nat) : Int) < 65536 := by omega
    cases hp : proto (be (l.take 2))
    · have H : Hid (splitErr l = 70 ∧ splitNum l = 0 ∧ splitRest l = []) := by
        have e : splitErr l = 70 := by unfold splitErr; rw [if_pos (by simp [hp])]
        exact ⟨e, by simp [splitNum, e], by simp [splitRest, e]⟩
      go_enter Try.func9, Try.ntmps9
      go_wp2_with (first | (go_at_call 24; refine (take_yes _ _ _ l 2 _ w.heap.size (by simp [go_sem]) (by simpa [go_sem] using HA.out) HL.out (by omega) (by omega) (by omega) (by omega) hlc).mono ?_; rintro e w1 ⟨v, rfl, hb, ho⟩; obtain ⟨xs, d, rfl⟩ := ext_of hb; clear hb; obtain ⟨A2, c2, rfl, -, -⟩ := ownsRow_form ho; have HO := Lib.hid ho; clear ho) | (go_at_call 25; refine (isProto_any _ _).mono ?_; rintro e w1 ⟨rfl, rfl⟩))
      refine bodyPost_ret (v := .tuple #[.agg #[.int .i64 0, .slice none 0 0], .int .i64 70]) (by simp [results, Try.results9, go_sem]) rfl ⟨.slice none 0 0, by rw [H.out.1, H.out.2.1], ?_, by rw [H.out.2.2]; exact own_nil _ _ _ _⟩
      (repeat (first | exact Below.refl _ _ | exact Nat.le_refl _ | (refine below_ext ?_ (by first | (simp [size_ext, grow]; done) | (simp [size_ext, grow]; omega)) _ _) | (refine Below.setCell ?_ (by first | (simp [size_ext, grow]; done) | (simp [size_ext, grow]; omega)) _) | (refine Below.alloc ?_ (by first | (simp [size_ext, grow]; done) | (simp [size_ext, grow]; omega)) _) | refine Below.drew ?_ | refine below_drewN ?_ _ | (refine Below.trans ?_ (Below.mono (by assumption) (by first | (simp [size_ext, grow]; done) | (simp [size_ext, grow]; omega))))))
    · by_cases h3 : 1494 < len
      · have H : Hid (splitErr l = 2 ∧ splitNum l = 0 ∧ splitRest l = []) := by
          have := HL.out
          have e : splitErr l = 2 := by unfold splitErr; rw [if_neg (by simp [hp]; omega), if_pos (by omega)]
          exact ⟨e, by simp [splitNum, e], by simp [splitRest, e]⟩
        have h4 : (1492 : Int) < ((l.length - 2 : Nat) : Int) := by have := HL.out; omega
        go_enter Try.func9, Try.ntmps9
        go_wp2_with (first | (go_at_call 24; refine (take_yes _ _ _ l 2 _ w.heap.size (by simp [go_sem]) (by simpa [go_sem] using HA.out) HL.out (by omega) (by omega) (by omega) (by omega) hlc).mono ?_; rintro e w1 ⟨v, rfl, hb, ho⟩; obtain ⟨xs, d, rfl⟩ := ext_of hb; clear hb; obtain ⟨A2, c2, rfl, -, -⟩ := ownsRow_form ho; have HO := Lib.hid ho; clear ho) | (go_at_call 25; refine (isProto_any _ _).mono ?_; rintro e w1 ⟨rfl, rfl⟩))
        refine bodyPost_ret (v := .tuple #[.agg #[.int .i64 0, .slice none 0 0], .int .i64 2]) (by simp [results, Try.results9, go_sem]) rfl ⟨.slice none 0 0, by rw [H.out.1, H.out.2.1], ?_, by rw [H.out.2.2]; exact own_nil _ _ _ _⟩
        (repeat (first | exact Below.refl _ _ | exact Nat.le_refl _ | (refine below_ext ?_ (by first | (simp [size_ext, grow]; done) | (simp [size_ext, grow]; omega)) _ _) | (refine Below.setCell ?_ (by first | (simp [size_ext, grow]; done) | (simp [size_ext, grow]; omega)) _) | (refine Below.alloc ?_ (by first | (simp [size_ext, grow]; done) | (simp [size_ext, grow]; omega)) _) | refine Below.drew ?_ | refine below_drewN ?_ _ | (refine Below.trans ?_ (Below.mono (by assumption) (by first | (simp [size_ext, grow]; done) | (simp [size_ext, grow]; omega))))))
      · have H : Hid (splitErr l = 0 ∧ splitNum l = be (l.take 2) ∧ splitRest l = l.drop 2) := by
          have := HL.out
          have e : splitErr l = 0 := by unfold splitErr; rw [if_neg (by simp [hp]; omega), if_neg (by omega)]
          exact ⟨e, by simp [splitNum, e], by simp [splitRest, e]⟩
        have h4 : decide ((1492 : Int) < ((l.length - 2 : Nat) : Int)) = false := by have := HL.out; simp; omega
        go_enter Try.func9, Try.ntmps9
        go_wp2_with (first | (go_at_call 24; refine (take_yes _ _ _ l 2 _ w.heap.size (by simp [go_sem]) (by simpa [go_sem] using HA.out) HL.out (by omega) (by omega) (by omega) (by omega) hlc).mono ?_; rintro e w1 ⟨v, rfl, hb, ho⟩; obtain ⟨xs, d, rfl⟩ := ext_of hb; clear hb; obtain ⟨A2, c2, rfl, -, -⟩ := ownsRow_form ho; have HO := Lib.hid ho; clear ho) | (go_at_call 25; refine (isProto_any _ _).mono ?_; rintro e w1 ⟨rfl, rfl⟩))
        refine bodyPost_ret (v := .tuple #[.agg #[.int .i64 (be (l.take 2)), .slice A2 (l.length - 2) c2], .int .i64 0]) (by simp [results, Try.results9, go_sem]) rfl ⟨.slice A2 (l.length - 2) c2, by rw [H.out.1, H.out.2.1], ?_, ?_⟩
        · (repeat (first | exact Below.refl _ _ | exact Nat.le_refl _ | (refine below_ext ?_ (by first | (simp [size_ext, grow]; done) | (simp [size_ext, grow]; omega)) _ _) | (refine Below.setCell ?_ (by first | (simp [size_ext, grow]; done) | (simp [size_ext, grow]; omega)) _) | (refine Below.alloc ?_ (by first | (simp [size_ext, grow]; done) | (simp [size_ext, grow]; omega)) _) | refine Below.drew ?_ | refine below_drewN ?_ _ | (refine Below.trans ?_ (Below.mono (by assumption) (by first | (simp [size_ext, grow]; done) | (simp [size_ext, grow]; omega))))))
        · rw [H.out.2.2, List.length_drop]
          exact own_base (own_swap HO.out (by simp) (by simp)) (by simp)
end Go.Proofs.Ytjnahbiagfghgaa
