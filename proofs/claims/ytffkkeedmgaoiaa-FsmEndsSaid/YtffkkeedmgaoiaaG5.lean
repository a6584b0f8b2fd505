/- The reference: rows of strings; the action of a name. -/
import Derived.Test.YtffkkeedmgaoiaaG4
import Derived.WalkSpells
namespace Go.Proofs.Ytffkkeedmgaoiaa
open Go.RowKit
set_option linter.unusedSimpArgs false
set_option linter.unusedVariables false
def sv (l : List UInt8) : Value := .string ⟨l.toArray⟩
theorem sv_one (l : List UInt8) : (sv l).oneCell' = true := rfl
/-- A cell of a row of strings. -/
theorem At.strAt {w : World} {B : Nat} {A : Option Addr} {l : List (List UInt8)} (h : At w B A (l.map sv)) {k : Nat} (hk : k < l.length) : ∃ b o x, A = some ⟨b, o, none⟩ ∧ l.getD k [] = x ∧ w.cell? ⟨b, o + k, none⟩ = some (.string ⟨x.toArray⟩) := by
  obtain ⟨b, o, e, hb, hc⟩ := h.get (by simp; omega)
  refine ⟨b, o, _, e, rfl, hc k _ ?_⟩
  rw [List.getElem?_map, List.getElem?_eq_getElem hk]; simp [List.getD_eq_getElem?_getD, List.getElem?_eq_getElem hk]; rfl
/-- A row of strings is told. -/
def Strs (w : World) (l : List (List UInt8)) (x : Ending) (w' : World) : Prop := ∃ A, x = .returned (.slice A l.length l.length) ∧ Below w.heap.size w w' ∧ At w' w'.heap.size A (l.map sv)
theorem actions_ref (w : World) : Calls Try.prog 36 #[] w (Strs w actL) := by
  go_enter Try.func36, Try.ntmps36
  go_wp2
  go_ret
  exact ⟨_, rfl, by (repeat (first | exact Below.refl _ _ | exact Nat.le_refl _ | (refine below_ext ?_ (by first | (simp [size_ext, grow]; done) | (simp [size_ext, grow]; omega)) _ _) | (refine Below.setCell ?_ (by first | (simp [size_ext, grow]; done) | (simp [size_ext, grow]; omega)) _) | (refine Below.alloc ?_ (by first | (simp [size_ext, grow]; done) | (simp [size_ext, grow]; omega)) _) | refine Below.drew ?_ | refine below_drewN ?_ _ | (refine Below.trans ?_ (Below.mono (by assumption) (by first | (simp [size_ext, grow]; done) | (simp [size_ext, grow]; omega)))))), At.of_own (own_lit (base := 0) (size := 1) (e := 9) (n := 14) (by (repeat (first | ((refine heap_alloc_at _ _ _ ?_); (simp [go_sem]; done)) | ((refine (heap_ext _ _ _ _ ?_).trans ?_); (focus (simp [go_sem]; done))) | ((refine (heap_alloc_past _ _ _ ?_).trans ?_); (focus (simp [go_sem]; done)))))) (Nat.zero_le _) (by decide) rfl rfl)⟩
def firstAt (k : Int) : List (List UInt8) → List UInt8 → Int
  | [], _ => 0
  | x :: xs, l => if x = l then k else firstAt (k + 1) xs l
theorem firstAt_step {L : List (List UInt8)} {k : Nat} {x l : List UInt8} (hk : k < L.length) (hx : L.getD k [] = x) : firstAt k (L.drop k) l = if x = l then (k : Int) else firstAt ((k + 1 : Nat) : Int) (L.drop (k + 1)) l := by
  rw [List.drop_eq_getElem_cons hk]
  have e : L[k] = x := by rw [← hx]; simp [List.getD_eq_getElem?_getD, List.getElem?_eq_getElem hk]
  rw [e, firstAt]; rfl
def actionOf (l : List UInt8) : Int := firstAt 1 (actL.drop 1) l
set_option maxHeartbeats 1000000 in
theorem action_ref (l : List UInt8) (w : World) : Calls Try.prog 31 #[.string ⟨l.toArray⟩] w fun e w' => e = .returned (.int .i64 (actionOf l)) ∧ Below w.heap.size w w' := by
  go_enter Try.func31, Try.ntmps31
  go_wp2_with (go_at_call 36; refine (actions_ref _).mono ?_; rintro e w1 ⟨A, rfl, hb, hA⟩; obtain ⟨xs, d, rfl⟩ := ext_of hb; clear hb; have HA := Lib.hid hA; clear hA)
  obtain ⟨wz, hwz⟩ : ∃ wz, wz = ext w xs d := ⟨_, rfl⟩
  rw [← hwz] at HA ⊢
  have HWZ := Lib.hid hwz
  clear hwz
  go_loop [4] (fun i => ∃ k : Nat, 1 ≤ k ∧ k ≤ actL.length ∧ i = .int .i64 k ∧ firstAt k (actL.drop k) l = actionOf l) (fun i => actL.length - (intOf i).toNat)
  case atStart => exact ⟨1, by decide, by decide, rfl, rfl⟩
  case round =>
    obtain ⟨k, hk1, hk, rfl, hh⟩ := hrel
    have HH := Lib.hid hh
    clear hh
    by_cases hlt : k < actL.length
    · obtain ⟨b, o, x, rfl, hx, hc⟩ := HA.out.strAt hlt
      have HX := Lib.hid hx
      clear hx
      have h14 : k < 14 := hlt
      cases he : (x == l)
      · have HE := Lib.hid (show firstAt ((k + 1 : Nat) : Int) (actL.drop (k + 1)) l = actionOf l by have := firstAt_step (l := l) hlt HX.out; rw [if_neg (by simpa using he)] at this; rw [← this]; exact HH.out)
        go_wp2
        go_round
        case rel => exact ⟨k + 1, by omega, by omega, by go_num, HE.out⟩
        case measure => simp [intOf]; omega
      · have HE := Lib.hid (show actionOf l = (k : Int) by have := firstAt_step (l := l) hlt HX.out; rw [if_pos (by simpa using he)] at this; rw [← this]; exact HH.out.symm)
        go_wp2
        go_ret
        exact ⟨by rw [HE.out]; rfl, by have hwz := HWZ.out; subst hwz; (repeat (first | exact Below.refl _ _ | exact Nat.le_refl _ | (refine below_ext ?_ (by first | (simp [size_ext, grow]; done) | (simp [size_ext, grow]; omega)) _ _) | (refine Below.setCell ?_ (by first | (simp [size_ext, grow]; done) | (simp [size_ext, grow]; omega)) _) | (refine Below.alloc ?_ (by first | (simp [size_ext, grow]; done) | (simp [size_ext, grow]; omega)) _) | refine Below.drew ?_ | refine below_drewN ?_ _ | (refine Below.trans ?_ (Below.mono (by assumption) (by first | (simp [size_ext, grow]; done) | (simp [size_ext, grow]; omega))))))⟩
    · have HE := Lib.hid (show actionOf l = 0 by have := HH.out; rw [List.drop_eq_nil_of_le (by omega)] at this; exact this.symm)
      go_wp2
      go_ret
      exact ⟨by rw [HE.out]; rfl, by have hwz := HWZ.out; subst hwz; (repeat (first | exact Below.refl _ _ | exact Nat.le_refl _ | (refine below_ext ?_ (by first | (simp [size_ext, grow]; done) | (simp [size_ext, grow]; omega)) _ _) | (refine Below.setCell ?_ (by first | (simp [size_ext, grow]; done) | (simp [size_ext, grow]; omega)) _) | (refine Below.alloc ?_ (by first | (simp [size_ext, grow]; done) | (simp [size_ext, grow]; omega)) _) | refine Below.drew ?_ | refine below_drewN ?_ _ | (refine Below.trans ?_ (Below.mono (by assumption) (by first | (simp [size_ext, grow]; done) | (simp [size_ext, grow]; omega))))))⟩
end Go.Proofs.Ytffkkeedmgaoiaa
