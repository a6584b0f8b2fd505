/- Join, both. -/
import Derived.Test.YtjnahbiagfghgaaC9
namespace Go.Proofs.Ytjnahbiagfghgaa
open Go.RowKit
set_option linter.unusedSimpArgs false
set_option linter.unusedVariables false

def joinErr (p : Int) (n : Nat) : Int := if !proto p then 70 else if 1492 < n then 2 else 0
def joinB (p : Int) (l : List UInt8) : List UInt8 := if joinErr p l.length = 0 then putB p.toNat 2 ++ l else []
def JoinP (w : World) (p : Int) (l : List UInt8) (e : Ending) (w' : World) : Prop :=
  ∃ v, e = .returned (.tuple #[v, .int .i64 (joinErr p l.length)]) ∧ Below w.heap.size w w' ∧ w'.ownsRow w.heap.size 5 1 v (joinB p l).length ((joinB p l).map bv)
theorem proto_bd {p : Int} (h : proto p = true) : 1 ≤ p ∧ p ≤ 65535 := by
  simp only [proto, inB, Bool.and_eq_true, decide_eq_true_eq] at h; omega

set_option maxRecDepth 100000 in
set_option maxHeartbeats 1000000 in
theorem join_any (p : Int) (A : Option Addr) (len c : Nat) (l : List UInt8) (w : World) (B : Nat) (hB : B ≤ w.heap.size) (hA : At w B A (l.map bv)) (hlen : len = l.length) (hl : len ≤ 1000000000) :
    Calls Try.prog 11 #[.agg #[.int .i64 p, .slice A len c]] w (JoinP w p l) := by
  have HA := Lib.hid (hA.more hB)
  have HL := Lib.hid hlen
  clear hA hB hlen
  cases hp : proto p
  · have H : Hid (joinErr p l.length = 70 ∧ joinB p l = []) := by
      have e : joinErr p l.length = 70 := by simp [joinErr, hp]
      exact ⟨e, by simp [joinB, e]⟩
    go_enter Try.func11, Try.ntmps11
    go_wp2_with (go_at_call 25; refine (isProto_any _ _).mono ?_; rintro e w1 ⟨rfl, rfl⟩)
    go_ret2
    exact ⟨.slice none 0 0, by rw [H.out.1]; rfl, by (repeat (first | exact Below.refl _ _ | exact Nat.le_refl _ | (refine below_ext ?_ (by first | (simp [size_ext, grow]; done) | (simp [size_ext, grow]; omega)) _ _) | (refine Below.setCell ?_ (by first | (simp [size_ext, grow]; done) | (simp [size_ext, grow]; omega)) _) | (refine Below.alloc ?_ (by first | (simp [size_ext, grow]; done) | (simp [size_ext, grow]; omega)) _) | refine Below.drew ?_ | refine below_drewN ?_ _ | (refine Below.trans ?_ (Below.mono (by assumption) (by first | (simp [size_ext, grow]; done) | (simp [size_ext, grow]; omega)))))), by rw [H.out.2]; exact own_nil _ _ _ _⟩
  · by_cases h3 : 1492 < len
    · have H : Hid (joinErr p l.length = 2 ∧ joinB p l = []) := by
        have e : joinErr p l.length = 2 := by rw [← HL.out]; simp [joinErr, hp, h3]
        exact ⟨e, by simp [joinB, e]⟩
      go_enter Try.func11, Try.ntmps11
      go_wp2_with (go_at_call 25; refine (isProto_any _ _).mono ?_; rintro e w1 ⟨rfl, rfl⟩)
      go_ret2
      exact ⟨.slice none 0 0, by rw [H.out.1]; rfl, by (repeat (first | exact Below.refl _ _ | exact Nat.le_refl _ | (refine below_ext ?_ (by first | (simp [size_ext, grow]; done) | (simp [size_ext, grow]; omega)) _ _) | (refine Below.setCell ?_ (by first | (simp [size_ext, grow]; done) | (simp [size_ext, grow]; omega)) _) | (refine Below.alloc ?_ (by first | (simp [size_ext, grow]; done) | (simp [size_ext, grow]; omega)) _) | refine Below.drew ?_ | refine below_drewN ?_ _ | (refine Below.trans ?_ (Below.mono (by assumption) (by first | (simp [size_ext, grow]; done) | (simp [size_ext, grow]; omega)))))), by rw [H.out.2]; exact own_nil _ _ _ _⟩
    · have H : Hid (joinErr p l.length = 0 ∧ joinB p l = putB p.toNat 2 ++ l) := by
        have e : joinErr p l.length = 0 := by rw [← HL.out]; simp [joinErr, hp, h3]
        exact ⟨e, by simp [joinB, e]⟩
      have hbd := proto_bd hp
      obtain ⟨q, rfl⟩ := Int.eq_ofNat_of_zero_le (show 0 ≤ p by omega)
      have hq : ((q : Nat) : Int) ≤ 65535 := hbd.2
      have HQ := Lib.hid (show q < 18446744073709551616 by omega)
      have HN := Lib.hid (show 2 + len ≤ 2000000000 by omega)
      have iq : IntKind.u64.wrap (q : Int) = (q : Int) := IntWalk.u64_in _ (by omega)
      clear hbd
      go_enter Try.func11, Try.ntmps11
      go_wp2_with (go_at_call 25; refine (isProto_any _ _).mono ?_; rintro e w1 ⟨rfl, rfl⟩)
      go_region_held3 (fun w' => w'.cell? ⟨w.heap.size, 0, none⟩ = some (.int .i64 (q : Int)) ∧ w'.cell? ⟨w.heap.size, 1, none⟩ = some (.slice A len c)) (first | (go_keep; done) | (go_simp; done) | (simp [go_sem]; done)) (first | (go_at_call 27; refine (put_yes q 2 _ HQ.out (by omega) (by omega)).mono ?_; rintro e w1 ⟨v, rfl, hb, ho⟩; obtain ⟨xs, d, rfl⟩ := ext_of hb; clear hb; have HO := Lib.hid ho; clear ho) | (refine step_appb (w.alloc (.cells #[.int .i64 (q : Int), .slice A len c] 24)) rfl (.tmp 7) (.tmp 9) 22 rfl 5 Try.underlying22 infoU8 _ 2 (putB q 2) rfl (own_base HO.out (by simp)) w.heap.size _ _ _ l rfl HL.out HN.out (by simpa [go_sem] using HA.out) (by (repeat (first | exact Below.refl _ _ | exact Nat.le_refl _ | (refine below_ext ?_ (by first | (simp [size_ext, grow]; done) | (simp [size_ext, grow]; omega)) _ _) | (refine Below.setCell ?_ (by first | (simp [size_ext, grow]; done) | (simp [size_ext, grow]; omega)) _) | (refine Below.alloc ?_ (by first | (simp [size_ext, grow]; done) | (simp [size_ext, grow]; omega)) _) | refine Below.drew ?_ | refine below_drewN ?_ _ | (refine Below.trans ?_ (Below.mono (by assumption) (by first | (simp [size_ext, grow]; done) | (simp [size_ext, grow]; omega))))))) ?_; intro v' ys d hown hfar hsz; clear hfar hsz; have HP := Lib.hid hown; clear hown))
      all_goals
        go_wp2
        go_ret2
        refine ⟨v', by rw [H.out.1]; rfl, by (repeat (first | exact Below.refl _ _ | exact Nat.le_refl _ | (refine below_ext ?_ (by first | (simp [size_ext, grow]; done) | (simp [size_ext, grow]; omega)) _ _) | (refine Below.setCell ?_ (by first | (simp [size_ext, grow]; done) | (simp [size_ext, grow]; omega)) _) | (refine Below.alloc ?_ (by first | (simp [size_ext, grow]; done) | (simp [size_ext, grow]; omega)) _) | refine Below.drew ?_ | refine below_drewN ?_ _ | (refine Below.trans ?_ (Below.mono (by assumption) (by first | (simp [size_ext, grow]; done) | (simp [size_ext, grow]; omega)))))), ?_⟩
        rw [H.out.2, List.length_append, putB_length, ← HL.out, Int.toNat_natCast]
        exact own_base HP.out (by simp)
set_option maxRecDepth 100000 in
set_option maxHeartbeats 1000000 in
theorem join_ref (p : Int) (A : Option Addr) (len c : Nat) (l : List UInt8) (w : World) (B : Nat) (hB : B ≤ w.heap.size) (hA : At w B A (l.map bv)) (hlen : len = l.length) (hl : len ≤ 1000000000) :
    Calls Try.prog 12 #[.agg #[.int .i64 p, .slice A len c]] w (JoinP w p l) := by
  have HA := Lib.hid (hA.more hB)
  have HL := Lib.hid hlen
  clear hA hB hlen
  cases hp : proto p
  · have H : Hid (joinErr p l.length = 70 ∧ joinB p l = []) := by
      have e : joinErr p l.length = 70 := by simp [joinErr, hp]
      exact ⟨e, by simp [joinB, e]⟩
    go_enter Try.func12, Try.ntmps12
    go_wp2_with (go_at_call 26; refine (isProto_ref _ _).mono ?_; rintro e w1 ⟨rfl, rfl⟩)
    go_ret2
    exact ⟨.slice none 0 0, by rw [H.out.1]; rfl, by (repeat (first | exact Below.refl _ _ | exact Nat.le_refl _ | (refine below_ext ?_ (by first | (simp [size_ext, grow]; done) | (simp [size_ext, grow]; omega)) _ _) | (refine Below.setCell ?_ (by first | (simp [size_ext, grow]; done) | (simp [size_ext, grow]; omega)) _) | (refine Below.alloc ?_ (by first | (simp [size_ext, grow]; done) | (simp [size_ext, grow]; omega)) _) | refine Below.drew ?_ | refine below_drewN ?_ _ | (refine Below.trans ?_ (Below.mono (by assumption) (by first | (simp [size_ext, grow]; done) | (simp [size_ext, grow]; omega)))))), by rw [H.out.2]; exact own_nil _ _ _ _⟩
  · by_cases h3 : 1492 < len
    · have H : Hid (joinErr p l.length = 2 ∧ joinB p l = []) := by
        have e : joinErr p l.length = 2 := by rw [← HL.out]; simp [joinErr, hp, h3]
        exact ⟨e, by simp [joinB, e]⟩
      go_enter Try.func12, Try.ntmps12
      go_wp2_with (go_at_call 26; refine (isProto_ref _ _).mono ?_; rintro e w1 ⟨rfl, rfl⟩)
      go_ret2
      exact ⟨.slice none 0 0, by rw [H.out.1]; rfl, by (repeat (first | exact Below.refl _ _ | exact Nat.le_refl _ | (refine below_ext ?_ (by first | (simp [size_ext, grow]; done) | (simp [size_ext, grow]; omega)) _ _) | (refine Below.setCell ?_ (by first | (simp [size_ext, grow]; done) | (simp [size_ext, grow]; omega)) _) | (refine Below.alloc ?_ (by first | (simp [size_ext, grow]; done) | (simp [size_ext, grow]; omega)) _) | refine Below.drew ?_ | refine below_drewN ?_ _ | (refine Below.trans ?_ (Below.mono (by assumption) (by first | (simp [size_ext, grow]; done) | (simp [size_ext, grow]; omega)))))), by rw [H.out.2]; exact own_nil _ _ _ _⟩
    · have H : Hid (joinErr p l.length = 0 ∧ joinB p l = putB p.toNat 2 ++ l) := by
        have e : joinErr p l.length = 0 := by rw [← HL.out]; simp [joinErr, hp, h3]
        exact ⟨e, by simp [joinB, e]⟩
      have hbd := proto_bd hp
      obtain ⟨q, rfl⟩ := Int.eq_ofNat_of_zero_le (show 0 ≤ p by omega)
      have hq : ((q : Nat) : Int) ≤ 65535 := hbd.2
      have HQ := Lib.hid (show q < 18446744073709551616 by omega)
      have HN := Lib.hid (show 2 + len ≤ 2000000000 by omega)
      have iq : IntKind.u64.wrap (q : Int) = (q : Int) := IntWalk.u64_in _ (by omega)
      clear hbd
      go_enter Try.func12, Try.ntmps12
      go_wp2_with (go_at_call 26; refine (isProto_ref _ _).mono ?_; rintro e w1 ⟨rfl, rfl⟩)
      go_region_held3 (fun w' => w'.cell? ⟨w.heap.size, 0, none⟩ = some (.int .i64 (q : Int)) ∧ w'.cell? ⟨w.heap.size, 1, none⟩ = some (.slice A len c)) (first | (go_keep; done) | (go_simp; done) | (simp [go_sem]; done)) (first | (go_at_call 28; refine (rput_yes q 2 _ HQ.out (by omega) (by omega)).mono ?_; rintro e w1 ⟨v, rfl, hb, ho⟩; obtain ⟨xs, d, rfl⟩ := ext_of hb; clear hb; have HO := Lib.hid ho; clear ho) | (refine step_appb (w.alloc (.cells #[.int .i64 (q : Int), .slice A len c] 24)) rfl (.tmp 15) (.tmp 17) 22 rfl 5 Try.underlying22 infoU8 _ 2 (putB q 2) rfl (own_base HO.out (by simp)) w.heap.size _ _ _ l rfl HL.out HN.out (by simpa [go_sem] using HA.out) (by (repeat (first | exact Below.refl _ _ | exact Nat.le_refl _ | (refine below_ext ?_ (by first | (simp [size_ext, grow]; done) | (simp [size_ext, grow]; omega)) _ _) | (refine Below.setCell ?_ (by first | (simp [size_ext, grow]; done) | (simp [size_ext, grow]; omega)) _) | (refine Below.alloc ?_ (by first | (simp [size_ext, grow]; done) | (simp [size_ext, grow]; omega)) _) | refine Below.drew ?_ | refine below_drewN ?_ _ | (refine Below.trans ?_ (Below.mono (by assumption) (by first | (simp [size_ext, grow]; done) | (simp [size_ext, grow]; omega))))))) ?_; intro v' ys d hown hfar hsz; clear hfar hsz; have HP := Lib.hid hown; clear hown))
      all_goals
        go_wp2
        go_ret2
        refine ⟨v', by rw [H.out.1]; rfl, by (repeat (first | exact Below.refl _ _ | exact Nat.le_refl _ | (refine below_ext ?_ (by first | (simp [size_ext, grow]; done) | (simp [size_ext, grow]; omega)) _ _) | (refine Below.setCell ?_ (by first | (simp [size_ext, grow]; done) | (simp [size_ext, grow]; omega)) _) | (refine Below.alloc ?_ (by first | (simp [size_ext, grow]; done) | (simp [size_ext, grow]; omega)) _) | refine Below.drew ?_ | refine below_drewN ?_ _ | (refine Below.trans ?_ (Below.mono (by assumption) (by first | (simp [size_ext, grow]; done) | (simp [size_ext, grow]; omega)))))), ?_⟩
        rw [H.out.2, List.length_append, putB_length, ← HL.out, Int.toNat_natCast]
        exact own_base HP.out (by simp)
end Go.Proofs.Ytjnahbiagfghgaa
