/- The reference's Decode. -/
import Derived.Test.YtjnahbiagfghgaaC13
namespace Go.Proofs.Ytjnahbiagfghgaa
open Go.RowKit
set_option linter.unusedSimpArgs false
set_option linter.unusedVariables false
set_option maxRecDepth 100000 in
set_option maxHeartbeats 2000000 in
theorem dec_ref (A : Option Addr) (len c : Nat) (l : List UInt8) (w : World) (B : Nat) (hB : B ≤ w.heap.size) (hA : At w B A (l.map bv)) (hlen : len = l.length) (hl : len ≤ 1000000000) (hlc : len ≤ c) :
    Calls Try.prog 16 #[.slice A len c] w (DecP w l) := by
  have HA := Lib.hid (hA.more hB)
  have HL := Lib.hid hlen
  by_cases h2 : len < 4
  · have H := Lib.hid (decErr_bad (l := l) (by unfold decErr; rw [if_pos (by omega)]))
    clear hA hB hlen
    go_enter Try.func16, Try.ntmps16
    go_wp2
    refine bodyPost_ret (v := .tuple #[.agg #[.int .i64 0, .int .i64 0, .slice none 0 0], .int .i64 71]) (by simp [results, Try.results16, go_sem]) rfl ⟨.slice none 0 0, by rw [H.out.1, H.out.2.1, H.out.2.2.1], ?_, by rw [H.out.2.2.2]; exact own_nil _ _ _ _⟩
    (repeat (first | exact Below.refl _ _ | exact Nat.le_refl _ | (refine below_ext ?_ (by first | (simp [size_ext, grow]; done) | (simp [size_ext, grow]; omega)) _ _) | (refine Below.setCell ?_ (by first | (simp [size_ext, grow]; done) | (simp [size_ext, grow]; omega)) _) | (refine Below.alloc ?_ (by first | (simp [size_ext, grow]; done) | (simp [size_ext, grow]; omega)) _) | refine Below.drew ?_ | refine below_drewN ?_ _ | (refine Below.trans ?_ (Below.mono (by assumption) (by first | (simp [size_ext, grow]; done) | (simp [size_ext, grow]; omega))))))
  · obtain ⟨x0, x1, x2, x3, t, rfl⟩ := four_of (l := l) (by omega)
    obtain ⟨b, o, rfl, hb, hc⟩ := hA.get (by simp)
    have c0 : w.cell? ⟨b, o, none⟩ = some (.int .u8 (x0.toNat : Int)) := At.cell hA (j := 0) rfl
    have c1 : w.cell? ⟨b, o + 1, none⟩ = some (.int .u8 (x1.toNat : Int)) := At.cell hA (j := 1) rfl
    have c2 : w.cell? ⟨b, o + 2, none⟩ = some (.int .u8 (x2.toNat : Int)) := At.cell hA (j := 2) rfl
    have c3 : w.cell? ⟨b, o + 3, none⟩ = some (.int .u8 (x3.toNat : Int)) := At.cell hA (j := 3) rfl
    have hbw : b < w.heap.size := by omega
    clear hA hB hlen hc hb
    have b0 : ((x0.toNat : Nat) : Int) < 256 := by have := x0.toNat_lt; omega
    have b1 : ((x1.toNat : Nat) : Int) < 256 := by have := x1.toNat_lt; omega
    have b2 : ((x2.toNat : Nat) : Int) < 256 := by have := x2.toNat_lt; omega
    have b3 : ((x3.toNat : Nat) : Int) < 256 := by have := x3.toNat_lt; omega
    obtain ⟨m, hm, hm2⟩ : ∃ m : Nat, 256 * (x2.toNat : Int) + (x3.toNat : Int) = (m : Int) ∧ m = x2.toNat * 256 + x3.toNat := ⟨x2.toNat * 256 + x3.toNat, by omega, rfl⟩
    have hdN : decN (x0 :: x1 :: x2 :: x3 :: t) = m := by rw [hm2]; simp [decN, be]
    have i0 : IntKind.i64.wrap (x0.toNat : Int) = (x0.toNat : Int) := IntWalk.i64_in _ (by omega)
    have i1 : IntKind.i64.wrap (x1.toNat : Int) = (x1.toNat : Int) := IntWalk.i64_in _ (by omega)
    have i2 : IntKind.i64.wrap (x2.toNat : Int) = (x2.toNat : Int) := IntWalk.i64_in _ (by omega)
    have i3 : IntKind.i64.wrap (x3.toNat : Int) = (x3.toNat : Int) := IntWalk.i64_in _ (by omega)
    have i4 : IntKind.i64.wrap (256 * (x2.toNat : Int)) = 256 * (x2.toNat : Int) := IntWalk.i64_in _ (by omega)
    have i5 : IntKind.i64.wrap (m : Int) = (m : Int) := IntWalk.i64_in _ (by omega)
    have l0 : 0 < len := by omega
    have l1 : (1 : Int) < (len : Int) := by omega
    have l2 : (2 : Int) < (len : Int) := by omega
    have l3 : (3 : Int) < (len : Int) := by omega
    have l4 : (0 : Int) < (len : Int) := by omega
    clear hm2
    by_cases h3 : m < 4
    · have H := Lib.hid (decErr_bad (l := x0 :: x1 :: x2 :: x3 :: t) (by unfold decErr; rw [if_neg (by simp), if_pos (by rw [hdN]; omega)]))
      clear hdN
      go_enter Try.func16, Try.ntmps16
      go_wp2_with fail
      go_region_held3 (fun w' => w'.cell? ⟨b, o + 2, none⟩ = some (.int .u8 (x2.toNat : Int)) ∧ w'.cell? ⟨b, o + 3, none⟩ = some (.int .u8 (x3.toNat : Int))) (first | (go_keep; done) | (go_simp; done) | (simp [go_sem]; done)) (fail)
      go_wp2
      refine bodyPost_ret (v := .tuple #[.agg #[.int .i64 0, .int .i64 0, .slice none 0 0], .int .i64 71]) (by simp [results, Try.results16, go_sem]) rfl ⟨.slice none 0 0, by rw [H.out.1, H.out.2.1, H.out.2.2.1], ?_, by rw [H.out.2.2.2]; exact own_nil _ _ _ _⟩
      (repeat (first | exact Below.refl _ _ | exact Nat.le_refl _ | (refine below_ext ?_ (by first | (simp [size_ext, grow]; done) | (simp [size_ext, grow]; omega)) _ _) | (refine Below.setCell ?_ (by first | (simp [size_ext, grow]; done) | (simp [size_ext, grow]; omega)) _) | (refine Below.alloc ?_ (by first | (simp [size_ext, grow]; done) | (simp [size_ext, grow]; omega)) _) | refine Below.drew ?_ | refine below_drewN ?_ _ | (refine Below.trans ?_ (Below.mono (by assumption) (by first | (simp [size_ext, grow]; done) | (simp [size_ext, grow]; omega))))))
    · by_cases h4 : len < m
      · have H := Lib.hid (decErr_bad (l := x0 :: x1 :: x2 :: x3 :: t) (by have := HL.out; unfold decErr; rw [if_neg (by simp), if_pos (by rw [hdN]; right; omega)]))
        clear hdN
        go_enter Try.func16, Try.ntmps16
        go_wp2_with fail
        go_region_held3 (fun w' => w'.cell? ⟨b, o + 2, none⟩ = some (.int .u8 (x2.toNat : Int)) ∧ w'.cell? ⟨b, o + 3, none⟩ = some (.int .u8 (x3.toNat : Int))) (first | (go_keep; done) | (go_simp; done) | (simp [go_sem]; done)) (fail)
        go_wp2
        refine bodyPost_ret (v := .tuple #[.agg #[.int .i64 0, .int .i64 0, .slice none 0 0], .int .i64 71]) (by simp [results, Try.results16, go_sem]) rfl ⟨.slice none 0 0, by rw [H.out.1, H.out.2.1, H.out.2.2.1], ?_, by rw [H.out.2.2.2]; exact own_nil _ _ _ _⟩
        (repeat (first | exact Below.refl _ _ | exact Nat.le_refl _ | (refine below_ext ?_ (by first | (simp [size_ext, grow]; done) | (simp [size_ext, grow]; omega)) _ _) | (refine Below.setCell ?_ (by first | (simp [size_ext, grow]; done) | (simp [size_ext, grow]; omega)) _) | (refine Below.alloc ?_ (by first | (simp [size_ext, grow]; done) | (simp [size_ext, grow]; omega)) _) | refine Below.drew ?_ | refine below_drewN ?_ _ | (refine Below.trans ?_ (Below.mono (by assumption) (by first | (simp [size_ext, grow]; done) | (simp [size_ext, grow]; omega))))))
      · have H : Hid (decErr (x0 :: x1 :: x2 :: x3 :: t) = 0 ∧ decCode (x0 :: x1 :: x2 :: x3 :: t) = x0.toNat ∧ decID (x0 :: x1 :: x2 :: x3 :: t) = x1.toNat ∧ decData (x0 :: x1 :: x2 :: x3 :: t) = t.take (m - 4)) := by
          have := HL.out
          have e : decErr (x0 :: x1 :: x2 :: x3 :: t) = 0 := by unfold decErr; rw [if_neg (by simp), if_neg (by rw [hdN]; omega)]
          exact ⟨e, by simp [decCode, e], by simp [decID, e], by simp only [decData, e, hdN, if_true]; rw [List.drop_take]; rfl⟩
        have HT := Lib.hid (show (t.take (m - 4)).length = m - 4 by have := HL.out; simp at this; simp; omega)
        have hcut := ((HA.out).drop 4 c (fun h => by rw [List.drop_eq_nil_iff, List.length_map]; have := HL.out; omega))
        have m4 : (4 : Int) ≤ (m : Int) := by omega
        have m5 : (m : Int) ≤ (c : Int) := by omega
        have m6 : (m : Int) ≤ (len : Int) := by omega
        by_cases h5 : c = 4
        · have h6 : m = 4 := by omega
          have HE := Lib.hid (show t.take (m - 4) = [] by rw [h6]; simp)
          subst h6
          subst h5
          clear hdN hcut
          go_enter Try.func16, Try.ntmps16
          go_wp2_with fail
          go_region_held3 (fun w' => w'.cell? ⟨b, o + 2, none⟩ = some (.int .u8 (x2.toNat : Int)) ∧ w'.cell? ⟨b, o + 3, none⟩ = some (.int .u8 (x3.toNat : Int))) (first | (go_keep; done) | (go_simp; done) | (simp [go_sem]; done)) (fail)
          go_wp2_with fail
          go_region_held3 (fun w' => w'.cell? ⟨b, o, none⟩ = some (.int .u8 (x0.toNat : Int)) ∧ w'.cell? ⟨b, o + 1, none⟩ = some (.int .u8 (x1.toNat : Int))) (first | (go_keep; done) | (go_simp; done) | (simp [go_sem]; done)) (fail)
          all_goals
            go_wp2
            refine bodyPost_ret (v := .tuple #[.agg #[.int .i64 (x0.toNat : Int), .int .i64 (x1.toNat : Int), .slice (some ⟨w.heap.size + 1, 0, none⟩) 0 0], .int .i64 0]) (by simp [results, Try.results16, go_sem]) rfl ⟨.slice (some ⟨w.heap.size + 1, 0, none⟩) 0 0, by rw [H.out.1, H.out.2.1, H.out.2.2.1], ?_, ?_⟩
            · (repeat (first | exact Below.refl _ _ | exact Nat.le_refl _ | (refine below_ext ?_ (by first | (simp [size_ext, grow]; done) | (simp [size_ext, grow]; omega)) _ _) | (refine Below.setCell ?_ (by first | (simp [size_ext, grow]; done) | (simp [size_ext, grow]; omega)) _) | (refine Below.alloc ?_ (by first | (simp [size_ext, grow]; done) | (simp [size_ext, grow]; omega)) _) | refine Below.drew ?_ | refine below_drewN ?_ _ | (refine Below.trans ?_ (Below.mono (by assumption) (by first | (simp [size_ext, grow]; done) | (simp [size_ext, grow]; omega))))))
            · rw [H.out.2.2.2, HE.out]
              exact own_lit (by (repeat (first | ((refine heap_alloc_at _ _ _ ?_); (simp [go_sem]; done)) | ((refine (heap_ext _ _ _ _ ?_).trans ?_); (focus (simp [go_sem]; done))) | ((refine (heap_alloc_past _ _ _ ?_).trans ?_); (focus (simp [go_sem]; done)))))) (by omega) (by decide) rfl rfl
        · rw [if_neg h5, ← List.map_drop] at hcut
          have HD := Lib.hid (show At w w.heap.size (some ⟨b, o + 4, none⟩) ((t.take (m - 4)).map bv) by rw [List.map_take]; exact (show At w w.heap.size (some ⟨b, o + 4, none⟩) (t.map bv) by simpa [Addr.add] using hcut).take _)
          clear hdN hcut
          by_cases h6 : m = 4
          · have HE := Lib.hid (show t.take (m - 4) = [] by rw [h6]; simp)
            have m8 : (4 : Int) ≤ (c : Int) := by omega
            have m9 : 4 ≤ c := by omega
            subst h6
            go_enter Try.func16, Try.ntmps16
            go_wp2_with fail
            go_region_held3 (fun w' => w'.cell? ⟨b, o + 2, none⟩ = some (.int .u8 (x2.toNat : Int)) ∧ w'.cell? ⟨b, o + 3, none⟩ = some (.int .u8 (x3.toNat : Int))) (first | (go_keep; done) | (go_simp; done) | (simp [go_sem]; done)) (fail)
            go_wp2_with fail
            go_region_held3 (fun w' => w'.cell? ⟨b, o, none⟩ = some (.int .u8 (x0.toNat : Int)) ∧ w'.cell? ⟨b, o + 1, none⟩ = some (.int .u8 (x1.toNat : Int))) (first | (go_keep; done) | (go_simp; done) | (simp [go_sem]; done)) (fail)
            all_goals
              go_wp2
              refine bodyPost_ret (v := .tuple #[.agg #[.int .i64 (x0.toNat : Int), .int .i64 (x1.toNat : Int), .slice (some ⟨w.heap.size + 1, 0, none⟩) 0 0], .int .i64 0]) (by simp [results, Try.results16, go_sem]) rfl ⟨.slice (some ⟨w.heap.size + 1, 0, none⟩) 0 0, by rw [H.out.1, H.out.2.1, H.out.2.2.1], ?_, ?_⟩
              · (repeat (first | exact Below.refl _ _ | exact Nat.le_refl _ | (refine below_ext ?_ (by first | (simp [size_ext, grow]; done) | (simp [size_ext, grow]; omega)) _ _) | (refine Below.setCell ?_ (by first | (simp [size_ext, grow]; done) | (simp [size_ext, grow]; omega)) _) | (refine Below.alloc ?_ (by first | (simp [size_ext, grow]; done) | (simp [size_ext, grow]; omega)) _) | refine Below.drew ?_ | refine below_drewN ?_ _ | (refine Below.trans ?_ (Below.mono (by assumption) (by first | (simp [size_ext, grow]; done) | (simp [size_ext, grow]; omega))))))
              · rw [H.out.2.2.2, HE.out]
                exact own_lit (by (repeat (first | ((refine heap_alloc_at _ _ _ ?_); (simp [go_sem]; done)) | ((refine (heap_ext _ _ _ _ ?_).trans ?_); (focus (simp [go_sem]; done))) | ((refine (heap_alloc_past _ _ _ ?_).trans ?_); (focus (simp [go_sem]; done)))))) (by omega) (by decide) rfl rfl
          · have m7 : 0 < m - 4 := by omega
            go_enter Try.func16, Try.ntmps16
            go_wp2_with fail
            go_region_held3 (fun w' => w'.cell? ⟨b, o + 2, none⟩ = some (.int .u8 (x2.toNat : Int)) ∧ w'.cell? ⟨b, o + 3, none⟩ = some (.int .u8 (x3.toNat : Int))) (first | (go_keep; done) | (go_simp; done) | (simp [go_sem]; done)) (fail)
            go_wp2_with fail
            go_region_held3 (fun w' => w'.cell? ⟨b, o, none⟩ = some (.int .u8 (x0.toNat : Int)) ∧ w'.cell? ⟨b, o + 1, none⟩ = some (.int .u8 (x1.toNat : Int))) (first | (go_keep; done) | (go_simp; done) | (simp [go_sem]; done)) (first | (refine step_appb (w.alloc (.cells #[.int .i64 0, .int .i64 0, .slice none 0 0] 39)) rfl (.tmp 36) (.tmp 39) 22 rfl 5 Try.underlying22 infoU8 _ 0 [] rfl (own_lit (by (repeat (first | ((refine heap_alloc_at _ _ _ ?_); (simp [go_sem]; done)) | ((refine (heap_ext _ _ _ _ ?_).trans ?_); (focus (simp [go_sem]; done))) | ((refine (heap_alloc_past _ _ _ ?_).trans ?_); (focus (simp [go_sem]; done)))))) (by simp) (by decide) rfl rfl) w.heap.size _ _ _ (t.take (m - 4)) rfl HT.out.symm (by omega) (HD.out.keep (by (repeat (first | exact Below.refl _ _ | exact Nat.le_refl _ | (refine below_ext ?_ (by first | (simp [size_ext, grow]; done) | (simp [size_ext, grow]; omega)) _ _) | (refine Below.setCell ?_ (by first | (simp [size_ext, grow]; done) | (simp [size_ext, grow]; omega)) _) | (refine Below.alloc ?_ (by first | (simp [size_ext, grow]; done) | (simp [size_ext, grow]; omega)) _) | refine Below.drew ?_ | refine below_drewN ?_ _ | (refine Below.trans ?_ (Below.mono (by assumption) (by first | (simp [size_ext, grow]; done) | (simp [size_ext, grow]; omega)))))))) (by (repeat (first | exact Below.refl _ _ | exact Nat.le_refl _ | (refine below_ext ?_ (by first | (simp [size_ext, grow]; done) | (simp [size_ext, grow]; omega)) _ _) | (refine Below.setCell ?_ (by first | (simp [size_ext, grow]; done) | (simp [size_ext, grow]; omega)) _) | (refine Below.alloc ?_ (by first | (simp [size_ext, grow]; done) | (simp [size_ext, grow]; omega)) _) | refine Below.drew ?_ | refine below_drewN ?_ _ | (refine Below.trans ?_ (Below.mono (by assumption) (by first | (simp [size_ext, grow]; done) | (simp [size_ext, grow]; omega))))))) ?_; intro v' ys d hown hfar hsz; simp only [Nat.zero_add, List.nil_append] at hown; obtain ⟨A2, c2, rfl, -, -⟩ := ownsRow_form hown; have HO := Lib.hid hown; clear hown hfar hsz))
            all_goals
              go_wp2
              refine bodyPost_ret (v := .tuple #[.agg #[.int .i64 (x0.toNat : Int), .int .i64 (x1.toNat : Int), .slice A2 (m - 4) c2], .int .i64 0]) (by simp [results, Try.results16, go_sem]) rfl ⟨.slice A2 (m - 4) c2, by rw [H.out.1, H.out.2.1, H.out.2.2.1], ?_, ?_⟩
              · (repeat (first | exact Below.refl _ _ | exact Nat.le_refl _ | (refine below_ext ?_ (by first | (simp [size_ext, grow]; done) | (simp [size_ext, grow]; omega)) _ _) | (refine Below.setCell ?_ (by first | (simp [size_ext, grow]; done) | (simp [size_ext, grow]; omega)) _) | (refine Below.alloc ?_ (by first | (simp [size_ext, grow]; done) | (simp [size_ext, grow]; omega)) _) | refine Below.drew ?_ | refine below_drewN ?_ _ | (refine Below.trans ?_ (Below.mono (by assumption) (by first | (simp [size_ext, grow]; done) | (simp [size_ext, grow]; omega))))))
              · rw [H.out.2.2.2, HT.out]
                exact own_base (own_swap HO.out (by simp) (by simp)) (by simp only [World.size_alloc]; omega)
end Go.Proofs.Ytjnahbiagfghgaa
