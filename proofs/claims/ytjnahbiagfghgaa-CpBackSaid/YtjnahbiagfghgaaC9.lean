/- The reference's Split. -/
import Derived.Test.YtjnahbiagfghgaaC8
namespace Go.Proofs.Ytjnahbiagfghgaa
open Go.RowKit
set_option linter.unusedSimpArgs false
set_option linter.unusedVariables false

theorem two_of {l : List UInt8} (h : ¬ l.length < 2) : ∃ x y t, l = x :: y :: t := by
  match l, h with
  | [], h => simp at h
  | [_], h => simp at h
  | x :: y :: t, _ => exact ⟨x, y, t, rfl⟩
theorem be2 (x y : UInt8) (t : List UInt8) : be ((x :: y :: t).take 2) = x.toNat * 256 + y.toNat := by simp [be]

set_option maxRecDepth 100000 in
set_option maxHeartbeats 1000000 in
theorem split_ref (A : Option Addr) (len c : Nat) (l : List UInt8) (w : World) (B : Nat) (hB : B ≤ w.heap.size) (hA : At w B A (l.map bv)) (hlen : len = l.length) (hl : len ≤ 1000000000) (hlc : len ≤ c) :
    Calls Try.prog 10 #[.slice A len c] w (SplitP w l) := by
  have HA := Lib.hid (hA.more hB)
  have HL := Lib.hid hlen
  by_cases h2 : len < 2
  · have H : Hid (splitErr l = 70 ∧ splitNum l = 0 ∧ splitRest l = []) := by
      have e : splitErr l = 70 := by unfold splitErr; rw [if_pos (by simp; left; omega)]
      exact ⟨e, by simp [splitNum, e], by simp [splitRest, e]⟩
    have h3 : decide ((len : Int) < 2) = true := by simp; omega
    clear hA hB hlen
    go_enter Try.func10, Try.ntmps10
    go_wp2_with fail
    go_quiet (fail)
    go_wp2
    refine bodyPost_ret (v := .tuple #[.agg #[.int .i64 0, .slice none 0 0], .int .i64 70]) (by simp [results, Try.results10, go_sem]) rfl ⟨.slice none 0 0, by rw [H.out.1, H.out.2.1], ?_, by rw [H.out.2.2]; exact own_nil _ _ _ _⟩
    (repeat (first | exact Below.refl _ _ | exact Nat.le_refl _ | (refine below_ext ?_ (by first | (simp [size_ext, grow]; done) | (simp [size_ext, grow]; omega)) _ _) | (refine Below.setCell ?_ (by first | (simp [size_ext, grow]; done) | (simp [size_ext, grow]; omega)) _) | (refine Below.alloc ?_ (by first | (simp [size_ext, grow]; done) | (simp [size_ext, grow]; omega)) _) | refine Below.drew ?_ | refine below_drewN ?_ _ | (refine Below.trans ?_ (Below.mono (by assumption) (by first | (simp [size_ext, grow]; done) | (simp [size_ext, grow]; omega))))))
  · obtain ⟨x, y, t, rfl⟩ := two_of (l := l) (by omega)
    obtain ⟨b, o, rfl, hb, hc⟩ := hA.get (by simp)
    have c0 : w.cell? ⟨b, o, none⟩ = some (.int .u8 (x.toNat : Int)) := by have := hc 0 (bv x) (by simp); simpa [bv] using this
    have c1 : w.cell? ⟨b, o + 1, none⟩ = some (.int .u8 (y.toNat : Int)) := by have := hc 1 (bv y) (by simp); simpa [bv] using this
    have hbw : b < w.heap.size := by omega
    have x1 : ((x.toNat : Nat) : Int) < 256 := by have := x.toNat_lt; omega
    have y1 : ((y.toNat : Nat) : Int) < 256 := by have := y.toNat_lt; omega
    have l0 : (0 : Int) < (len : Int) := by omega
    have m0 : 0 < len := by omega
    have m2 : (2 : Int) ≤ (len : Int) := by omega
    have m3 : 2 ≤ len := by omega
    have m1 : 1 < len := by omega
    have i1 : IntKind.i64.wrap (x.toNat : Int) = (x.toNat : Int) := IntWalk.i64_in _ (by omega)
    have i2 : IntKind.i64.wrap (256 * (x.toNat : Int)) = 256 * (x.toNat : Int) := IntWalk.i64_in _ (by omega)
    have i3 : IntKind.i64.wrap (256 * (x.toNat : Int) + (y.toNat : Int)) = 256 * (x.toNat : Int) + (y.toNat : Int) := IntWalk.i64_in _ (by omega)
    have i4 : IntKind.i64.wrap (y.toNat : Int) = (y.toNat : Int) := IntWalk.i64_in _ (by omega)
    have l1 : (1 : Int) < (len : Int) := by omega
    have h3 : decide ((len : Int) < 2) = false := by simp; omega
    have hbe : ((be ((x :: y :: t).take 2) : Nat) : Int) = 256 * (x.toNat : Int) + (y.toNat : Int) := by rw [be2]; omega
    have HE := Lib.hid hbe
    clear hA hB hlen hc hb
    cases hp : proto (256 * (x.toNat : Int) + (y.toNat : Int))
    · have H : Hid (splitErr (x :: y :: t) = 70 ∧ splitNum (x :: y :: t) = 0 ∧ splitRest (x :: y :: t) = []) := by
        have e : splitErr (x :: y :: t) = 70 := by unfold splitErr; rw [if_pos (by rw [hbe, hp]; simp)]
        exact ⟨e, by simp [splitNum, e], by simp [splitRest, e]⟩
      clear hbe
      go_enter Try.func10, Try.ntmps10
      go_wp2_with fail
      go_region_held3 (fun w' => w'.cell? ⟨b, o, none⟩ = some (.int .u8 (x.toNat : Int)) ∧ w'.cell? ⟨b, o + 1, none⟩ = some (.int .u8 (y.toNat : Int))) (first | (go_keep; done) | (go_simp; done) | (simp [go_sem]; done)) (first | (go_at_call 26; refine (isProto_ref _ _).mono ?_; rintro e w1 ⟨rfl, rfl⟩))
      go_wp2
      refine bodyPost_ret (v := .tuple #[.agg #[.int .i64 0, .slice none 0 0], .int .i64 70]) (by simp [results, Try.results10, go_sem]) rfl ⟨.slice none 0 0, by rw [H.out.1, H.out.2.1], ?_, by rw [H.out.2.2]; exact own_nil _ _ _ _⟩
      (repeat (first | exact Below.refl _ _ | exact Nat.le_refl _ | (refine below_ext ?_ (by first | (simp [size_ext, grow]; done) | (simp [size_ext, grow]; omega)) _ _) | (refine Below.setCell ?_ (by first | (simp [size_ext, grow]; done) | (simp [size_ext, grow]; omega)) _) | (refine Below.alloc ?_ (by first | (simp [size_ext, grow]; done) | (simp [size_ext, grow]; omega)) _) | refine Below.drew ?_ | refine below_drewN ?_ _ | (refine Below.trans ?_ (Below.mono (by assumption) (by first | (simp [size_ext, grow]; done) | (simp [size_ext, grow]; omega))))))
    · by_cases h4 : 1494 < len
      · have H : Hid (splitErr (x :: y :: t) = 2 ∧ splitNum (x :: y :: t) = 0 ∧ splitRest (x :: y :: t) = []) := by
          have := HL.out
          have e : splitErr (x :: y :: t) = 2 := by unfold splitErr; rw [if_neg (by rw [hbe, hp]; simp), if_pos (by omega)]
          exact ⟨e, by simp [splitNum, e], by simp [splitRest, e]⟩
        have h5 : decide ((1492 : Int) < (len : Int) - 2) = true := by simp; omega
        clear hbe
        go_enter Try.func10, Try.ntmps10
        go_wp2_with fail
        go_region_held3 (fun w' => w'.cell? ⟨b, o, none⟩ = some (.int .u8 (x.toNat : Int)) ∧ w'.cell? ⟨b, o + 1, none⟩ = some (.int .u8 (y.toNat : Int))) (first | (go_keep; done) | (go_simp; done) | (simp [go_sem]; done)) (first | (go_at_call 26; refine (isProto_ref _ _).mono ?_; rintro e w1 ⟨rfl, rfl⟩))
        go_wp2
        refine bodyPost_ret (v := .tuple #[.agg #[.int .i64 0, .slice none 0 0], .int .i64 2]) (by simp [results, Try.results10, go_sem]) rfl ⟨.slice none 0 0, by rw [H.out.1, H.out.2.1], ?_, by rw [H.out.2.2]; exact own_nil _ _ _ _⟩
        (repeat (first | exact Below.refl _ _ | exact Nat.le_refl _ | (refine below_ext ?_ (by first | (simp [size_ext, grow]; done) | (simp [size_ext, grow]; omega)) _ _) | (refine Below.setCell ?_ (by first | (simp [size_ext, grow]; done) | (simp [size_ext, grow]; omega)) _) | (refine Below.alloc ?_ (by first | (simp [size_ext, grow]; done) | (simp [size_ext, grow]; omega)) _) | refine Below.drew ?_ | refine below_drewN ?_ _ | (refine Below.trans ?_ (Below.mono (by assumption) (by first | (simp [size_ext, grow]; done) | (simp [size_ext, grow]; omega))))))
      · have H : Hid (splitErr (x :: y :: t) = 0 ∧ splitNum (x :: y :: t) = be ((x :: y :: t).take 2) ∧ splitRest (x :: y :: t) = (x :: y :: t).drop 2) := by
          have := HL.out
          have e : splitErr (x :: y :: t) = 0 := by unfold splitErr; rw [if_neg (by rw [hbe, hp]; simp), if_neg (by omega)]
          exact ⟨e, by simp [splitNum, e], by simp [splitRest, e]⟩
        have h5 : decide ((1492 : Int) < (len : Int) - 2) = false := by simp; omega
        clear hbe
        go_enter Try.func10, Try.ntmps10
        go_wp2_with fail
        go_region_held3 (fun w' => w'.cell? ⟨b, o, none⟩ = some (.int .u8 (x.toNat : Int)) ∧ w'.cell? ⟨b, o + 1, none⟩ = some (.int .u8 (y.toNat : Int))) (first | (go_keep; done) | (go_simp; done) | (simp [go_sem]; done)) (first | (go_at_call 26; refine (isProto_ref _ _).mono ?_; rintro e w1 ⟨rfl, rfl⟩))
        go_wp2_with fail
        have hcut := (HA.out).drop 2 c (fun h => by rw [List.drop_eq_nil_iff, List.length_map]; have := HL.out; omega)
        have e2 : ((x :: y :: t).map bv).drop 2 = t.map bv := by simp
        rw [e2] at hcut
        by_cases hcc : c = 2
        · rw [if_pos hcc] at hcut
          have HT := Lib.hid hcut
          subst hcc
          clear hcut e2
          have ht : t = [] := by have := HL.out; simp at this; exact List.eq_nil_of_length_eq_zero (by omega)
          subst ht
          go_region_held3 (fun w' => w'.cell? ⟨b, o, none⟩ = some (.int .u8 (x.toNat : Int)) ∧ w'.cell? ⟨b, o + 1, none⟩ = some (.int .u8 (y.toNat : Int))) (first | (go_keep; done) | (go_simp; done) | (simp [go_sem]; done)) (fail)
          all_goals
            go_wp2
            refine bodyPost_ret (v := .tuple #[.agg #[.int .i64 (256 * (x.toNat : Int) + (y.toNat : Int)), .slice (some ⟨w.heap.size + 1, 0, none⟩) 0 0], .int .i64 0]) (by simp [results, Try.results10, go_sem]) rfl ⟨.slice (some ⟨w.heap.size + 1, 0, none⟩) 0 0, by rw [H.out.1, H.out.2.1, HE.out], ?_, ?_⟩
            · (repeat (first | exact Below.refl _ _ | exact Nat.le_refl _ | (refine below_ext ?_ (by first | (simp [size_ext, grow]; done) | (simp [size_ext, grow]; omega)) _ _) | (refine Below.setCell ?_ (by first | (simp [size_ext, grow]; done) | (simp [size_ext, grow]; omega)) _) | (refine Below.alloc ?_ (by first | (simp [size_ext, grow]; done) | (simp [size_ext, grow]; omega)) _) | refine Below.drew ?_ | refine below_drewN ?_ _ | (refine Below.trans ?_ (Below.mono (by assumption) (by first | (simp [size_ext, grow]; done) | (simp [size_ext, grow]; omega))))))
            · rw [H.out.2.2]
              exact own_lit (by (repeat (first | ((refine heap_alloc_at _ _ _ ?_); (simp [go_sem]; done)) | ((refine (heap_ext _ _ _ _ ?_).trans ?_); (focus (simp [go_sem]; done))) | ((refine (heap_alloc_past _ _ _ ?_).trans ?_); (focus (simp [go_sem]; done)))))) (by simp) (by decide) rfl rfl
        · rw [if_neg hcc] at hcut
          have HT := Lib.hid (show At w w.heap.size (some ⟨b, o + 2, none⟩) (t.map bv) by simpa [Addr.add] using hcut)
          have HM := Lib.hid (show len - 2 = t.length by have := HL.out; simp at this; omega)
          have HN := Lib.hid (show 0 + (len - 2) ≤ 2000000000 by omega)
          clear hcut e2
          go_region_held3 (fun w' => w'.cell? ⟨b, o, none⟩ = some (.int .u8 (x.toNat : Int)) ∧ w'.cell? ⟨b, o + 1, none⟩ = some (.int .u8 (y.toNat : Int))) (first | (go_keep; done) | (go_simp; done) | (simp [go_sem]; done)) (first | (refine step_appb (w.alloc (.cells #[.int .i64 0, .slice none 0 0] 24)) rfl (.tmp 37) (.tmp 39) 22 rfl 5 Try.underlying22 infoU8 _ 0 [] rfl (own_lit (by (repeat (first | ((refine heap_alloc_at _ _ _ ?_); (simp [go_sem]; done)) | ((refine (heap_ext _ _ _ _ ?_).trans ?_); (focus (simp [go_sem]; done))) | ((refine (heap_alloc_past _ _ _ ?_).trans ?_); (focus (simp [go_sem]; done)))))) (by simp) (by decide) rfl rfl) w.heap.size _ _ _ t rfl HM.out HN.out (by simpa [go_sem] using HT.out) (by (repeat (first | exact Below.refl _ _ | exact Nat.le_refl _ | (refine below_ext ?_ (by first | (simp [size_ext, grow]; done) | (simp [size_ext, grow]; omega)) _ _) | (refine Below.setCell ?_ (by first | (simp [size_ext, grow]; done) | (simp [size_ext, grow]; omega)) _) | (refine Below.alloc ?_ (by first | (simp [size_ext, grow]; done) | (simp [size_ext, grow]; omega)) _) | refine Below.drew ?_ | refine below_drewN ?_ _ | (refine Below.trans ?_ (Below.mono (by assumption) (by first | (simp [size_ext, grow]; done) | (simp [size_ext, grow]; omega))))))) ?_; intro v' ys d hown hfar hsz; simp only [Nat.zero_add, List.nil_append] at hown; obtain ⟨A2, c2, rfl, -, -⟩ := ownsRow_form hown; have HO := Lib.hid hown; clear hown hfar hsz))
          all_goals
            go_wp2
            refine bodyPost_ret (v := .tuple #[.agg #[.int .i64 (256 * (x.toNat : Int) + (y.toNat : Int)), .slice A2 (len - 2) c2], .int .i64 0]) (by simp [results, Try.results10, go_sem]) rfl ⟨.slice A2 (len - 2) c2, by rw [H.out.1, H.out.2.1, HE.out], ?_, ?_⟩
            · (repeat (first | exact Below.refl _ _ | exact Nat.le_refl _ | (refine below_ext ?_ (by first | (simp [size_ext, grow]; done) | (simp [size_ext, grow]; omega)) _ _) | (refine Below.setCell ?_ (by first | (simp [size_ext, grow]; done) | (simp [size_ext, grow]; omega)) _) | (refine Below.alloc ?_ (by first | (simp [size_ext, grow]; done) | (simp [size_ext, grow]; omega)) _) | refine Below.drew ?_ | refine below_drewN ?_ _ | (refine Below.trans ?_ (Below.mono (by assumption) (by first | (simp [size_ext, grow]; done) | (simp [size_ext, grow]; omega))))))
            · rw [H.out.2.2, show (x :: y :: t).drop 2 = t from rfl, ← HM.out]
              exact own_base (own_swap HO.out (by simp) (by simp)) (by simp)
end Go.Proofs.Ytjnahbiagfghgaa
