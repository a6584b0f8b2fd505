/- Parse, Timed, and the page's example. -/
import Derived.Test.YtffkkeedmgaoiaaG9
import Derived.Test.YtffkkeedmgaoiaaG8
namespace Go.Proofs.Ytffkkeedmgaoiaa
open Go.RowKit
set_option linter.unusedSimpArgs false
set_option linter.unusedVariables false
def findAt (k : Nat) : List (List UInt8) → List UInt8 → Option Nat
  | [], _ => none
  | x :: xs, l => if x = l then some k else findAt (k + 1) xs l
theorem findAt_step {L : List (List UInt8)} {k : Nat} {x l : List UInt8} (hk : k < L.length) (hx : L.getD k [] = x) : findAt k (L.drop k) l = if x = l then some k else findAt (k + 1) (L.drop (k + 1)) l := by
  rw [List.drop_eq_getElem_cons hk]
  have e : L[k] = x := by rw [← hx]; simp [List.getD_eq_getElem?_getD, List.getElem?_eq_getElem hk]
  rw [e, findAt]
def parseN (l : List UInt8) : Int := match findAt 0 stL l with | some k => k | none => 0
def parseB (l : List UInt8) : Bool := (findAt 0 stL l).isSome
theorem parse_some {l : List UInt8} {k : Nat} (h : findAt 0 stL l = some k) : parseN l = k ∧ parseB l = true := by simp [parseN, parseB, h]
theorem parse_none {l : List UInt8} (h : findAt 0 stL l = none) : parseN l = 0 ∧ parseB l = false := by simp [parseN, parseB, h]
theorem ret_par {a a' : Int} {b b' : Bool} (h1 : a = a') (h2 : b = b') : Ending.returned (.tuple #[.int .i64 a, .bool b]) = .returned (.tuple #[.int .i64 a', .bool b']) := by rw [h1, h2]
set_option maxHeartbeats 1000000 in
theorem parse_any (l : List UInt8) (w : World) : Calls Try.prog 20 #[.string ⟨l.toArray⟩] w fun e w' => e = .returned (.tuple #[.int .i64 (parseN l), .bool (parseB l)]) ∧ w = w' := by
  go_enter Try.func20, Try.ntmps20
  go_wp2
  go_loop [4] (fun i => ∃ k : Nat, k ≤ 10 ∧ i = .int .i64 k ∧ findAt k (stL.drop k) l = findAt 0 stL l) (fun i => 10 - (intOf i).toNat)
  case atStart => exact ⟨0, by decide, rfl, rfl⟩
  case round =>
    obtain ⟨k, hk, rfl, hh⟩ := hrel
    have HH := Lib.hid hh
    clear hh
    by_cases hlt : k < 10
    · obtain ⟨x, hx⟩ : ∃ x, nameOf stL (k : Int) = x := ⟨_, rfl⟩
      have HX := Lib.hid hx
      have HX2 := Lib.hid (show stL.getD k [] = x by rw [← hx, nameOf_nat])
      have h9 : k ≤ 9 := by omega
      clear hx
      cases he : (x == l)
      · have HE := Lib.hid (show findAt (k + 1) (stL.drop (k + 1)) l = findAt 0 stL l by have := findAt_step (l := l) (show k < stL.length from hlt) HX2.out; rw [if_neg (by simpa using he)] at this; rw [← this]; exact HH.out)
        go_wp2_with (go_at_call 19; refine (name_any _ _).mono ?_; rw [HX.out]; rintro e w1 ⟨rfl, rfl⟩)
        go_round
        case rel => exact ⟨k + 1, by omega, by go_num, HE.out⟩
        case measure => simp [intOf]; omega
      · have HE := Lib.hid (show findAt 0 stL l = some k by have := findAt_step (l := l) (show k < stL.length from hlt) HX2.out; rw [if_pos (by simpa using he)] at this; rw [← this]; exact HH.out.symm)
        go_wp2_with (go_at_call 19; refine (name_any _ _).mono ?_; rw [HX.out]; rintro e w1 ⟨rfl, rfl⟩)
        go_ret2
        exact ⟨by rw [(parse_some HE.out).1, (parse_some HE.out).2]; rfl, rfl⟩
    · have HE := Lib.hid (show findAt 0 stL l = none by have := HH.out; rw [List.drop_eq_nil_of_le (show stL.length ≤ k by simp only [stL, List.length_cons, List.length_nil]; omega)] at this; exact this.symm)
      have hk9 : ¬ k ≤ 9 := by omega
      go_wp2
      go_ret2
      exact ⟨by rw [(parse_none HE.out).1, (parse_none HE.out).2]; rfl, rfl⟩
set_option maxHeartbeats 1000000 in
theorem parse_ref (l : List UInt8) (w : World) : Calls Try.prog 21 #[.string ⟨l.toArray⟩] w fun e w' => e = .returned (.tuple #[.int .i64 (parseN l), .bool (parseB l)]) ∧ Below w.heap.size w w' := by
  go_enter Try.func21, Try.ntmps21
  go_wp2_with (go_at_call 34; refine (states_row _).mono ?_; rintro e w1 ⟨A, rfl, hb, hA⟩; obtain ⟨xs, d, rfl⟩ := ext_of hb; clear hb; have HA := Lib.hid hA; clear hA)
  obtain ⟨wz, hwz⟩ : ∃ wz, wz = ext w xs d := ⟨_, rfl⟩
  rw [← hwz] at HA ⊢
  have HWZ := Lib.hid (show Below w.heap.size w wz by subst hwz; (repeat (first | exact Below.refl _ _ | exact Nat.le_refl _ | (refine below_ext ?_ (by first | (simp [size_ext, grow]; done) | (simp [size_ext, grow]; omega) | omega) _ _) | (refine Below.setCell ?_ (by first | (simp [size_ext, grow]; done) | (simp [size_ext, grow]; omega) | omega) _) | (refine Below.alloc ?_ (by first | (simp [size_ext, grow]; done) | (simp [size_ext, grow]; omega) | omega) _) | refine Below.drew ?_ | refine below_drewN ?_ _ | (refine Below.trans ?_ (Below.mono (by assumption) (by first | (simp [size_ext, grow]; done) | (simp [size_ext, grow]; omega) | omega))))))
  clear hwz
  go_loop [5] (fun i => ∃ k : Nat, k ≤ stL.length ∧ i = .int .i64 k ∧ findAt k (stL.drop k) l = findAt 0 stL l) (fun i => stL.length - (intOf i).toNat)
  case atStart => exact ⟨0, by decide, rfl, rfl⟩
  case round =>
    obtain ⟨k, hk, rfl, hh⟩ := hrel
    have HH := Lib.hid hh
    clear hh
    by_cases hlt : k < stL.length
    · obtain ⟨b, o, x, rfl, hx, hc⟩ := HA.out.strAt hlt
      have HX := Lib.hid hx
      clear hx
      have h10 : k < 10 := hlt
      cases he : (x == l)
      · have HE := Lib.hid (show findAt (k + 1) (stL.drop (k + 1)) l = findAt 0 stL l by have := findAt_step (l := l) hlt HX.out; rw [if_neg (by simpa using he)] at this; rw [← this]; exact HH.out)
        go_wp2
        go_round
        case rel => exact ⟨k + 1, by omega, by go_num, HE.out⟩
        case measure => simp [intOf]; omega
      · have HE := Lib.hid (show findAt 0 stL l = some k by have := findAt_step (l := l) hlt HX.out; rw [if_pos (by simpa using he)] at this; rw [← this]; exact HH.out.symm)
        go_wp2
        go_ret2
        exact ⟨by rw [(parse_some HE.out).1, (parse_some HE.out).2]; rfl, HWZ.out⟩
    · have HE := Lib.hid (show findAt 0 stL l = none by have := HH.out; rw [List.drop_eq_nil_of_le (by omega)] at this; exact this.symm)
      go_wp2
      go_ret2
      exact ⟨by rw [(parse_none HE.out).1, (parse_none HE.out).2]; rfl, HWZ.out⟩
def timedB (s : Int) : Bool := decide (4 ≤ s) && decide (s ≤ 8)
set_option maxHeartbeats 4000000 in
theorem timed_any (s : Int) (w : World) : Calls Try.prog 18 #[.int .i64 s] w fun e w' => e = .returned (.bool (timedB s)) ∧ w = w' := by
  by_cases h : 6 ≤ s ∧ s ≤ 8
  · have HT := Lib.hid (show timedB s = true by simp [timedB]; omega)
    have hk : (decide (6 ≤ s) && decide (s ≤ 8)) = true := by simp; omega
    clear h
    go_enter Try.func18, Try.ntmps18
    go_wp2_with (go_at_call 33; refine (asks_any _ _).mono ?_; rw [hk]; rintro e w1 ⟨rfl, rfl⟩)
    go_ret
    exact ⟨by rw [HT.out]; rfl, rfl⟩
  · have hk : (decide (6 ≤ s) && decide (s ≤ 8)) = false := by simp; omega
    by_cases h4 : s = 4
    · subst h4
      go_enter Try.func18, Try.ntmps18
      go_wp2_with (go_at_call 33; refine (asks_any _ _).mono ?_; rw [hk]; rintro e w1 ⟨rfl, rfl⟩)
      go_ret
      exact ⟨rfl, rfl⟩
    · by_cases h5 : s = 5
      · subst h5
        go_enter Try.func18, Try.ntmps18
        go_wp2_with (go_at_call 33; refine (asks_any _ _).mono ?_; rw [hk]; rintro e w1 ⟨rfl, rfl⟩)
        go_ret
        exact ⟨rfl, rfl⟩
      · have HT := Lib.hid (show timedB s = false by simp [timedB]; omega)
        have k4 : (s == 4) = false := by simpa using h4
        have k5 : (s == 5) = false := by simpa using h5
        clear h h4 h5
        go_enter Try.func18, Try.ntmps18
        go_wp2_with (go_at_call 33; refine (asks_any _ _).mono ?_; rw [hk]; rintro e w1 ⟨rfl, rfl⟩)
        go_ret
        exact ⟨by rw [HT.out]; rfl, rfl⟩
theorem timed_r (s : Int) (w : World) : Calls Try.prog 22 #[.int .i64 s] w fun e w' => e = .returned (.bool (timedB s)) ∧ w = w' := timed_ref s w
end Go.Proofs.Ytffkkeedmgaoiaa
