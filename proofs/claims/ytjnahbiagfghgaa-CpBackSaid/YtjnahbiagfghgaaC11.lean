/- Encode, both. -/
import Derived.Test.YtjnahbiagfghgaaC10
namespace Go.Proofs.Ytjnahbiagfghgaa
open Go.RowKit
set_option linter.unusedSimpArgs false
set_option linter.unusedVariables false

def encErr (a b : Int) (n : Nat) : Int := if !inB a 0 255 || !inB b 0 255 then 1 else if 1488 < n then 2 else 0
def encB (a b : Int) (l : List UInt8) : List UInt8 := if encErr a b l.length = 0 then [UInt8.ofNat a.toNat, UInt8.ofNat b.toNat] ++ putB (l.length + 4) 2 ++ l else []
def EncP (w : World) (a b : Int) (l : List UInt8) (e : Ending) (w' : World) : Prop :=
  ∃ v, e = .returned (.tuple #[v, .int .i64 (encErr a b l.length)]) ∧ Below w.heap.size w w' ∧ w'.ownsRow w.heap.size 5 1 v (encB a b l).length ((encB a b l).map bv)
theorem byte_of {a : Int} (h : inB a 0 255 = true) : ∃ x : UInt8, a = (x.toNat : Int) ∧ UInt8.ofNat a.toNat = x := by
  simp only [inB, Bool.and_eq_true, decide_eq_true_eq] at h
  obtain ⟨n, rfl⟩ := Int.eq_ofNat_of_zero_le h.1
  have h2 : n < 256 := by omega
  refine ⟨UInt8.ofNat n, ?_, by simp⟩
  rw [show (UInt8.ofNat n).toNat = n % 256 from by simp, Nat.mod_eq_of_lt h2]

set_option maxRecDepth 100000 in
set_option maxHeartbeats 2000000 in
theorem enc_any (a b : Int) (A : Option Addr) (len c : Nat) (l : List UInt8) (w : World) (B : Nat) (hB : B ≤ w.heap.size) (hA : At w B A (l.map bv)) (hlen : len = l.length) (hl : len ≤ 1000000000) :
    Calls Try.prog 17 #[.agg #[.int .i64 a, .int .i64 b, .slice A len c]] w (EncP w a b l) := by
  have HA := Lib.hid (hA.more hB)
  have HL := Lib.hid hlen
  clear hA hB hlen
  cases h1 : inB a 0 255
  · have H : Hid (encErr a b l.length = 1 ∧ encB a b l = []) := by
      have e : encErr a b l.length = 1 := by simp [encErr, h1]
      exact ⟨e, by simp [encB, e]⟩
    go_enter Try.func17, Try.ntmps17
    go_wp2_with (go_at_call 30; refine (isByte_any _ _).mono ?_; rintro e w1 ⟨rfl, rfl⟩)
    go_ret2
    exact ⟨.slice none 0 0, by rw [H.out.1]; rfl, by (repeat (first | exact Below.refl _ _ | exact Nat.le_refl _ | (refine below_ext ?_ (by first | (simp [size_ext, grow]; done) | (simp [size_ext, grow]; omega)) _ _) | (refine Below.setCell ?_ (by first | (simp [size_ext, grow]; done) | (simp [size_ext, grow]; omega)) _) | (refine Below.alloc ?_ (by first | (simp [size_ext, grow]; done) | (simp [size_ext, grow]; omega)) _) | refine Below.drew ?_ | refine below_drewN ?_ _ | (refine Below.trans ?_ (Below.mono (by assumption) (by first | (simp [size_ext, grow]; done) | (simp [size_ext, grow]; omega)))))), by rw [H.out.2]; exact own_nil _ _ _ _⟩
  · cases h2 : inB b 0 255
    · have H : Hid (encErr a b l.length = 1 ∧ encB a b l = []) := by
        have e : encErr a b l.length = 1 := by simp [encErr, h2]
        exact ⟨e, by simp [encB, e]⟩
      go_enter Try.func17, Try.ntmps17
      go_wp2_with (go_at_call 30; refine (isByte_any _ _).mono ?_; rintro e w1 ⟨rfl, rfl⟩)
      go_ret2
      exact ⟨.slice none 0 0, by rw [H.out.1]; rfl, by (repeat (first | exact Below.refl _ _ | exact Nat.le_refl _ | (refine below_ext ?_ (by first | (simp [size_ext, grow]; done) | (simp [size_ext, grow]; omega)) _ _) | (refine Below.setCell ?_ (by first | (simp [size_ext, grow]; done) | (simp [size_ext, grow]; omega)) _) | (refine Below.alloc ?_ (by first | (simp [size_ext, grow]; done) | (simp [size_ext, grow]; omega)) _) | refine Below.drew ?_ | refine below_drewN ?_ _ | (refine Below.trans ?_ (Below.mono (by assumption) (by first | (simp [size_ext, grow]; done) | (simp [size_ext, grow]; omega)))))), by rw [H.out.2]; exact own_nil _ _ _ _⟩
    · by_cases h3 : 1488 < len
      · have H : Hid (encErr a b l.length = 2 ∧ encB a b l = []) := by
          have e : encErr a b l.length = 2 := by rw [← HL.out]; simp [encErr, h1, h2, h3]
          exact ⟨e, by simp [encB, e]⟩
        go_enter Try.func17, Try.ntmps17
        go_wp2_with (go_at_call 30; refine (isByte_any _ _).mono ?_; rintro e w1 ⟨rfl, rfl⟩)
        go_ret2
        exact ⟨.slice none 0 0, by rw [H.out.1]; rfl, by (repeat (first | exact Below.refl _ _ | exact Nat.le_refl _ | (refine below_ext ?_ (by first | (simp [size_ext, grow]; done) | (simp [size_ext, grow]; omega)) _ _) | (refine Below.setCell ?_ (by first | (simp [size_ext, grow]; done) | (simp [size_ext, grow]; omega)) _) | (refine Below.alloc ?_ (by first | (simp [size_ext, grow]; done) | (simp [size_ext, grow]; omega)) _) | refine Below.drew ?_ | refine below_drewN ?_ _ | (refine Below.trans ?_ (Below.mono (by assumption) (by first | (simp [size_ext, grow]; done) | (simp [size_ext, grow]; omega)))))), by rw [H.out.2]; exact own_nil _ _ _ _⟩
      · obtain ⟨x, hx, hx2⟩ := byte_of h1
        obtain ⟨y, hy, hy2⟩ := byte_of h2
        have H : Hid (encErr a b l.length = 0 ∧ encB a b l = [x, y] ++ putB (l.length + 4) 2 ++ l) := by
          have e : encErr a b l.length = 0 := by rw [← HL.out]; simp [encErr, h1, h2, h3]
          exact ⟨e, by simp [encB, e, hx2, hy2]⟩
        clear hx2 hy2
        subst hx hy
        obtain ⟨m, hm, hm2⟩ : ∃ m : Nat, (4 : Int) + (len : Int) = (m : Int) ∧ m = l.length + 4 := ⟨l.length + 4, by have := HL.out; omega, rfl⟩
        have HM := Lib.hid hm2
        have hm3 : m ≤ 1492 := by have := HL.out; omega
        have HQ := Lib.hid (show m < 18446744073709551616 by omega)
        have HN := Lib.hid (show 2 + 2 + len ≤ 2000000000 by omega)
        have xb : ((x.toNat : Nat) : Int) < 256 := by have := x.toNat_lt; omega
        have yb : ((y.toNat : Nat) : Int) < 256 := by have := y.toNat_lt; omega
        have i1 : IntKind.u8.wrap (x.toNat : Int) = (x.toNat : Int) := IntWalk.u8_in _ (by omega)
        have i2 : IntKind.u8.wrap (y.toNat : Int) = (y.toNat : Int) := IntWalk.u8_in _ (by omega)
        have i3 : IntKind.i64.wrap (m : Int) = (m : Int) := IntWalk.i64_in _ (by omega)
        have i4 : IntKind.u64.wrap (m : Int) = (m : Int) := IntWalk.u64_in _ (by omega)
        clear hm2
        go_enter Try.func17, Try.ntmps17
        go_wp2_with (go_at_call 30; refine (isByte_any _ _).mono ?_; rintro e w1 ⟨rfl, rfl⟩)
        go_region_held3 (fun w' => w'.cell? ⟨w.heap.size, 0, none⟩ = some (.int .i64 (x.toNat : Int)) ∧ w'.cell? ⟨w.heap.size, 1, none⟩ = some (.int .i64 (y.toNat : Int)) ∧ w'.cell? ⟨w.heap.size, 2, none⟩ = some (.slice A len c)) (first | (go_keep; done) | (go_simp; done) | (simp [go_sem]; done)) (first | (go_at_call 27; refine (put_yes m 2 _ HQ.out (by omega) (by omega)).mono ?_; rintro e w1 ⟨v, rfl, hb, ho⟩; obtain ⟨xs, d, rfl⟩ := ext_of hb; clear hb; obtain ⟨A2, c2, rfl, -, -⟩ := ownsRow_form ho; have HA2 := Lib.hid (At.of_own ho); clear ho) | (refine step_appb (w.alloc (.cells #[.int .i64 (x.toNat : Int), .int .i64 (y.toNat : Int), .slice A len c] 39)) rfl (.tmp 25) (.tmp 31) 22 rfl 5 Try.underlying22 infoU8 _ 2 [x, y] rfl (own_lit (by (repeat (first | ((refine heap_alloc_at _ _ _ ?_); (simp [go_sem]; done)) | ((refine (heap_ext _ _ _ _ ?_).trans ?_); (focus (simp [go_sem]; done))) | ((refine (heap_alloc_past _ _ _ ?_).trans ?_); (focus (simp [go_sem]; done)))))) (by simp [go_sem]) (by decide) rfl rfl) _ A2 _ _ (putB m 2) rfl (putB_length m 2).symm (by omega) (HA2.out.move (by (repeat (first | exact Below.refl _ _ | exact Nat.le_refl _ | (refine below_ext ?_ (by first | (simp [size_ext, grow]; done) | (simp [size_ext, grow]; omega)) _ _) | (refine Below.setCell ?_ (by first | (simp [size_ext, grow]; done) | (simp [size_ext, grow]; omega)) _) | (refine Below.alloc ?_ (by first | (simp [size_ext, grow]; done) | (simp [size_ext, grow]; omega)) _) | refine Below.drew ?_ | refine below_drewN ?_ _ | (refine Below.trans ?_ (Below.mono (by assumption) (by first | (simp [size_ext, grow]; done) | (simp [size_ext, grow]; omega))))))) (Nat.le_refl _)) (by (repeat (first | exact Below.refl _ _ | exact Nat.le_refl _ | (refine below_ext ?_ (by first | (simp [size_ext, grow]; done) | (simp [size_ext, grow]; omega)) _ _) | (refine Below.setCell ?_ (by first | (simp [size_ext, grow]; done) | (simp [size_ext, grow]; omega)) _) | (refine Below.alloc ?_ (by first | (simp [size_ext, grow]; done) | (simp [size_ext, grow]; omega)) _) | refine Below.drew ?_ | refine below_drewN ?_ _ | (refine Below.trans ?_ (Below.mono (by assumption) (by first | (simp [size_ext, grow]; done) | (simp [size_ext, grow]; omega))))))) ?_; intro v' ys d' hown hfar hsz; clear hfar hsz; have HP := Lib.hid hown; clear hown HA2))
        all_goals
          go_wp2_with (at_builtin; refine wpList_appb (w.alloc (.cells #[.int .i64 (x.toNat : Int), .int .i64 (y.toNat : Int), .slice A len c] 39)) rfl (.tmp 33) (.tmp 35) 22 rfl 5 Try.underlying22 infoU8 _ (2 + 2) ([x, y] ++ putB m 2) rfl HP.out w.heap.size _ _ _ l rfl HL.out HN.out (by simpa [go_sem] using HA.out) (by (repeat (first | exact Below.refl _ _ | exact Nat.le_refl _ | (refine below_ext ?_ (by first | (simp [size_ext, grow]; done) | (simp [size_ext, grow]; omega)) _ _) | (refine Below.setCell ?_ (by first | (simp [size_ext, grow]; done) | (simp [size_ext, grow]; omega)) _) | (refine Below.alloc ?_ (by first | (simp [size_ext, grow]; done) | (simp [size_ext, grow]; omega)) _) | refine Below.drew ?_ | refine below_drewN ?_ _ | (refine Below.trans ?_ (Below.mono (by assumption) (by first | (simp [size_ext, grow]; done) | (simp [size_ext, grow]; omega))))))) ?_; intro v3 ys2 d2 hown hfar hsz; clear hfar hsz; have HR := Lib.hid hown; clear hown)
          go_ret2
          refine ⟨v3, by rw [H.out.1]; rfl, by (repeat (first | exact Below.refl _ _ | exact Nat.le_refl _ | (refine below_ext ?_ (by first | (simp [size_ext, grow]; done) | (simp [size_ext, grow]; omega)) _ _) | (refine Below.setCell ?_ (by first | (simp [size_ext, grow]; done) | (simp [size_ext, grow]; omega)) _) | (refine Below.alloc ?_ (by first | (simp [size_ext, grow]; done) | (simp [size_ext, grow]; omega)) _) | refine Below.drew ?_ | refine below_drewN ?_ _ | (refine Below.trans ?_ (Below.mono (by assumption) (by first | (simp [size_ext, grow]; done) | (simp [size_ext, grow]; omega)))))), ?_⟩
          rw [H.out.2, List.length_append, List.length_append, putB_length, ← HL.out, HL.out, ← HM.out, ← HL.out]
          exact own_base HR.out (by simp)
set_option maxRecDepth 100000 in
set_option maxHeartbeats 2000000 in
theorem enc_ref (a b : Int) (A : Option Addr) (len c : Nat) (l : List UInt8) (w : World) (B : Nat) (hB : B ≤ w.heap.size) (hA : At w B A (l.map bv)) (hlen : len = l.length) (hl : len ≤ 1000000000) :
    Calls Try.prog 18 #[.agg #[.int .i64 a, .int .i64 b, .slice A len c]] w (EncP w a b l) := by
  have HA := Lib.hid (hA.more hB)
  have HL := Lib.hid hlen
  clear hA hB hlen
  cases h1 : inB a 0 255
  · have H : Hid (encErr a b l.length = 1 ∧ encB a b l = []) := by
      have e : encErr a b l.length = 1 := by simp [encErr, h1]
      exact ⟨e, by simp [encB, e]⟩
    go_enter Try.func18, Try.ntmps18
    go_wp2_with (go_at_call 31; refine (byteOK_any _ _).mono ?_; rintro e w1 ⟨rfl, rfl⟩)
    go_ret2
    exact ⟨.slice none 0 0, by rw [H.out.1]; rfl, by (repeat (first | exact Below.refl _ _ | exact Nat.le_refl _ | (refine below_ext ?_ (by first | (simp [size_ext, grow]; done) | (simp [size_ext, grow]; omega)) _ _) | (refine Below.setCell ?_ (by first | (simp [size_ext, grow]; done) | (simp [size_ext, grow]; omega)) _) | (refine Below.alloc ?_ (by first | (simp [size_ext, grow]; done) | (simp [size_ext, grow]; omega)) _) | refine Below.drew ?_ | refine below_drewN ?_ _ | (refine Below.trans ?_ (Below.mono (by assumption) (by first | (simp [size_ext, grow]; done) | (simp [size_ext, grow]; omega)))))), by rw [H.out.2]; exact own_nil _ _ _ _⟩
  · cases h2 : inB b 0 255
    · have H : Hid (encErr a b l.length = 1 ∧ encB a b l = []) := by
        have e : encErr a b l.length = 1 := by simp [encErr, h2]
        exact ⟨e, by simp [encB, e]⟩
      go_enter Try.func18, Try.ntmps18
      go_wp2_with (go_at_call 31; refine (byteOK_any _ _).mono ?_; rintro e w1 ⟨rfl, rfl⟩)
      go_ret2
      exact ⟨.slice none 0 0, by rw [H.out.1]; rfl, by (repeat (first | exact Below.refl _ _ | exact Nat.le_refl _ | (refine below_ext ?_ (by first | (simp [size_ext, grow]; done) | (simp [size_ext, grow]; omega)) _ _) | (refine Below.setCell ?_ (by first | (simp [size_ext, grow]; done) | (simp [size_ext, grow]; omega)) _) | (refine Below.alloc ?_ (by first | (simp [size_ext, grow]; done) | (simp [size_ext, grow]; omega)) _) | refine Below.drew ?_ | refine below_drewN ?_ _ | (refine Below.trans ?_ (Below.mono (by assumption) (by first | (simp [size_ext, grow]; done) | (simp [size_ext, grow]; omega)))))), by rw [H.out.2]; exact own_nil _ _ _ _⟩
    · by_cases h3 : 1488 < len
      · have H : Hid (encErr a b l.length = 2 ∧ encB a b l = []) := by
          have e : encErr a b l.length = 2 := by rw [← HL.out]; simp [encErr, h1, h2, h3]
          exact ⟨e, by simp [encB, e]⟩
        go_enter Try.func18, Try.ntmps18
        go_wp2_with (go_at_call 31; refine (byteOK_any _ _).mono ?_; rintro e w1 ⟨rfl, rfl⟩)
        go_ret2
        exact ⟨.slice none 0 0, by rw [H.out.1]; rfl, by (repeat (first | exact Below.refl _ _ | exact Nat.le_refl _ | (refine below_ext ?_ (by first | (simp [size_ext, grow]; done) | (simp [size_ext, grow]; omega)) _ _) | (refine Below.setCell ?_ (by first | (simp [size_ext, grow]; done) | (simp [size_ext, grow]; omega)) _) | (refine Below.alloc ?_ (by first | (simp [size_ext, grow]; done) | (simp [size_ext, grow]; omega)) _) | refine Below.drew ?_ | refine below_drewN ?_ _ | (refine Below.trans ?_ (Below.mono (by assumption) (by first | (simp [size_ext, grow]; done) | (simp [size_ext, grow]; omega)))))), by rw [H.out.2]; exact own_nil _ _ _ _⟩
      · obtain ⟨x, hx, hx2⟩ := byte_of h1
        obtain ⟨y, hy, hy2⟩ := byte_of h2
        have H : Hid (encErr a b l.length = 0 ∧ encB a b l = [x, y] ++ putB (l.length + 4) 2 ++ l) := by
          have e : encErr a b l.length = 0 := by rw [← HL.out]; simp [encErr, h1, h2, h3]
          exact ⟨e, by simp [encB, e, hx2, hy2]⟩
        clear hx2 hy2
        subst hx hy
        obtain ⟨m, hm, hm2⟩ : ∃ m : Nat, (len : Int) + 4 = (m : Int) ∧ m = l.length + 4 := ⟨l.length + 4, by have := HL.out; omega, rfl⟩
        have HM := Lib.hid hm2
        have hm3 : m ≤ 1492 := by have := HL.out; omega
        have HQ := Lib.hid (show m < 18446744073709551616 by omega)
        have HN := Lib.hid (show 2 + 2 + len ≤ 2000000000 by omega)
        have xb : ((x.toNat : Nat) : Int) < 256 := by have := x.toNat_lt; omega
        have yb : ((y.toNat : Nat) : Int) < 256 := by have := y.toNat_lt; omega
        have i1 : IntKind.u8.wrap (x.toNat : Int) = (x.toNat : Int) := IntWalk.u8_in _ (by omega)
        have i2 : IntKind.u8.wrap (y.toNat : Int) = (y.toNat : Int) := IntWalk.u8_in _ (by omega)
        have i3 : IntKind.i64.wrap (m : Int) = (m : Int) := IntWalk.i64_in _ (by omega)
        have i4 : IntKind.u64.wrap (m : Int) = (m : Int) := IntWalk.u64_in _ (by omega)
        clear hm2
        go_enter Try.func18, Try.ntmps18
        go_wp2_with (go_at_call 31; refine (byteOK_any _ _).mono ?_; rintro e w1 ⟨rfl, rfl⟩)
        go_region_held3 (fun w' => w'.cell? ⟨w.heap.size, 0, none⟩ = some (.int .i64 (x.toNat : Int)) ∧ w'.cell? ⟨w.heap.size, 1, none⟩ = some (.int .i64 (y.toNat : Int)) ∧ w'.cell? ⟨w.heap.size, 2, none⟩ = some (.slice A len c)) (first | (go_keep; done) | (go_simp; done) | (simp [go_sem]; done)) (first | (go_at_call 28; refine (rput_yes m 2 _ HQ.out (by omega) (by omega)).mono ?_; rintro e w1 ⟨v, rfl, hb, ho⟩; obtain ⟨xs, d, rfl⟩ := ext_of hb; clear hb; obtain ⟨A2, c2, rfl, -, -⟩ := ownsRow_form ho; have HA2 := Lib.hid (At.of_own ho); clear ho) | (refine step_appb (w.alloc (.cells #[.int .i64 (x.toNat : Int), .int .i64 (y.toNat : Int), .slice A len c] 39)) rfl (.tmp 25) (.tmp 31) 22 rfl 5 Try.underlying22 infoU8 _ 2 [x, y] rfl (own_lit (by (repeat (first | ((refine heap_alloc_at _ _ _ ?_); (simp [go_sem]; done)) | ((refine (heap_ext _ _ _ _ ?_).trans ?_); (focus (simp [go_sem]; done))) | ((refine (heap_alloc_past _ _ _ ?_).trans ?_); (focus (simp [go_sem]; done)))))) (by simp [go_sem]) (by decide) rfl rfl) _ A2 _ _ (putB m 2) rfl (putB_length m 2).symm (by omega) (HA2.out.move (by (repeat (first | exact Below.refl _ _ | exact Nat.le_refl _ | (refine below_ext ?_ (by first | (simp [size_ext, grow]; done) | (simp [size_ext, grow]; omega)) _ _) | (refine Below.setCell ?_ (by first | (simp [size_ext, grow]; done) | (simp [size_ext, grow]; omega)) _) | (refine Below.alloc ?_ (by first | (simp [size_ext, grow]; done) | (simp [size_ext, grow]; omega)) _) | refine Below.drew ?_ | refine below_drewN ?_ _ | (refine Below.trans ?_ (Below.mono (by assumption) (by first | (simp [size_ext, grow]; done) | (simp [size_ext, grow]; omega))))))) (Nat.le_refl _)) (by (repeat (first | exact Below.refl _ _ | exact Nat.le_refl _ | (refine below_ext ?_ (by first | (simp [size_ext, grow]; done) | (simp [size_ext, grow]; omega)) _ _) | (refine Below.setCell ?_ (by first | (simp [size_ext, grow]; done) | (simp [size_ext, grow]; omega)) _) | (refine Below.alloc ?_ (by first | (simp [size_ext, grow]; done) | (simp [size_ext, grow]; omega)) _) | refine Below.drew ?_ | refine below_drewN ?_ _ | (refine Below.trans ?_ (Below.mono (by assumption) (by first | (simp [size_ext, grow]; done) | (simp [size_ext, grow]; omega))))))) ?_; intro v' ys d' hown hfar hsz; clear hfar hsz; have HP := Lib.hid hown; clear hown HA2))
        all_goals
          go_wp2_with (at_builtin; refine wpList_appb (w.alloc (.cells #[.int .i64 (x.toNat : Int), .int .i64 (y.toNat : Int), .slice A len c] 39)) rfl (.tmp 33) (.tmp 35) 22 rfl 5 Try.underlying22 infoU8 _ (2 + 2) ([x, y] ++ putB m 2) rfl HP.out w.heap.size _ _ _ l rfl HL.out HN.out (by simpa [go_sem] using HA.out) (by (repeat (first | exact Below.refl _ _ | exact Nat.le_refl _ | (refine below_ext ?_ (by first | (simp [size_ext, grow]; done) | (simp [size_ext, grow]; omega)) _ _) | (refine Below.setCell ?_ (by first | (simp [size_ext, grow]; done) | (simp [size_ext, grow]; omega)) _) | (refine Below.alloc ?_ (by first | (simp [size_ext, grow]; done) | (simp [size_ext, grow]; omega)) _) | refine Below.drew ?_ | refine below_drewN ?_ _ | (refine Below.trans ?_ (Below.mono (by assumption) (by first | (simp [size_ext, grow]; done) | (simp [size_ext, grow]; omega))))))) ?_; intro v3 ys2 d2 hown hfar hsz; clear hfar hsz; have HR := Lib.hid hown; clear hown)
          go_ret2
          refine ⟨v3, by rw [H.out.1]; rfl, by (repeat (first | exact Below.refl _ _ | exact Nat.le_refl _ | (refine below_ext ?_ (by first | (simp [size_ext, grow]; done) | (simp [size_ext, grow]; omega)) _ _) | (refine Below.setCell ?_ (by first | (simp [size_ext, grow]; done) | (simp [size_ext, grow]; omega)) _) | (refine Below.alloc ?_ (by first | (simp [size_ext, grow]; done) | (simp [size_ext, grow]; omega)) _) | refine Below.drew ?_ | refine below_drewN ?_ _ | (refine Below.trans ?_ (Below.mono (by assumption) (by first | (simp [size_ext, grow]; done) | (simp [size_ext, grow]; omega)))))), ?_⟩
          rw [H.out.2, List.length_append, List.length_append, putB_length, ← HL.out, HL.out, ← HM.out, ← HL.out]
          exact own_base HR.out (by simp)
end Go.Proofs.Ytjnahbiagfghgaa
