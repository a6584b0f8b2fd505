/- The reference's rows: in, with, without. -/
import Derived.Test.YtoilghhclpgfaaaDoorP13
namespace Go.Proofs.YtoilghhclpgfaaaDoor
open Go.RowKit
set_option linter.unusedSimpArgs false
set_option linter.unusedVariables false
set_option maxHeartbeats 1000000 in
theorem in_any (A : Option Addr) (n c : Nat) (L : List Int) (x : Int) (w : World) (B : Nat) (hB : B ≤ w.heap.size) (hA : At w B A (ints L)) (hn : n = L.length) (hl : n ≤ 1000000) :
    Calls Tryd.prog 35 #[.slice A n c, .int .i64 x] w fun e w' => e = .returned (.bool (decide (x ∈ L))) ∧ w = w' := by
  have HA := Lib.hid hA
  have HN := Lib.hid hn
  have HB := Lib.hid hB
  clear hA hn hB
  go_enter Tryd.func35, Tryd.ntmps35
  go_wp2_with fail
  go_loop [5] (fun i => ∃ k : Nat, k ≤ n ∧ i = .int .i64 k ∧ ∀ i, i < k → L.getD i 0 ≠ x) (fun i => n - (intOf i).toNat)
  case atStart => exact ⟨0, Nat.zero_le _, rfl, fun i hi => absurd hi (Nat.not_lt_zero i)⟩
  case round =>
    obtain ⟨k, hk, rfl, hp⟩ := hrel
    have HP := Lib.hid hp
    clear hp
    by_cases hlt : k < n
    · have HK := Lib.hid (show k < L.length by have := HN.out; omega)
      obtain ⟨b, o, rfl, hbB, hcells⟩ := At.int HA.out HK.out
      have g0 := hcells k HK.out
      obtain ⟨y, hy⟩ : ∃ y, L.getD k 0 = y := ⟨_, rfl⟩
      rw [hy] at g0
      have HY := Lib.hid hy
      have hbz : b < w.heap.size := by have := HB.out; omega
      clear hy hcells
      by_cases hxy : y = x
      · have HIN := Lib.hid (show x ∈ L by rw [← hxy, ← HY.out, List.getD_eq_getElem?_getD, List.getElem?_eq_getElem HK.out]; exact List.getElem_mem HK.out)
        have e1 : (y == x) = true := by simpa using hxy
        clear hxy
        go_wp2_with fail
        go_ret
        exact ⟨ret_bool (by have := HIN.out; simp [this]), rfl⟩
      · have HNX := Lib.hid (show L.getD k 0 ≠ x by rw [HY.out]; exact hxy)
        have e1 : (y == x) = false := by simpa using hxy
        clear hxy
        go_wp2_with fail
        go_round
        case rel => exact ⟨k + 1, by omega, by go_num, upto_succ HP.out HNX.out⟩
        case measure => simp [intOf]; omega
    · obtain rfl : k = n := by omega
      have HNO := Lib.hid (show x ∉ L by
        intro hm
        obtain ⟨i, hi, he⟩ := List.mem_iff_getElem.1 hm
        refine HP.out i (by have := HN.out; omega) ?_
        rw [List.getD_eq_getElem?_getD, List.getElem?_eq_getElem hi]
        exact he)
      go_wp2_with fail
      go_ret
      exact ⟨ret_bool (by have := HNO.out; simp [this]), rfl⟩
def wStep (x : Int) (st : List Int × Bool) (y : Int) : List Int × Bool := if (!st.2 && decide (x < y)) = true then (st.1 ++ [x] ++ [y], true) else (st.1 ++ [y], st.2)
def wTo (L : List Int) (x : Int) (k : Nat) : List Int × Bool := (L.take k).foldl (wStep x) ([], false)
def withL (L : List Int) (x : Int) : List Int := if (wTo L x L.length).2 = true then (wTo L x L.length).1 else (wTo L x L.length).1 ++ [x]
theorem wTo_succ {L : List Int} {x : Int} {k : Nat} (hk : k < L.length) : wTo L x (k + 1) = wStep x (wTo L x k) (L.getD k 0) := by
  unfold wTo
  rw [List.take_succ_eq_append_getElem hk, List.foldl_append]
  simp [List.getD_eq_getElem?_getD, List.getElem?_eq_getElem hk]
set_option maxRecDepth 100000 in
set_option maxHeartbeats 2000000 in
theorem with_any (A : Option Addr) (n c : Nat) (L : List Int) (x : Int) (W : World) (B : Nat) (hB : B ≤ W.heap.size) (hA : At W B A (ints L)) (hn : n = L.length) (hl : n ≤ 1000000) :
    Calls Tryd.prog 36 #[.slice A n c, .int .i64 x] W (RowP (withL L x) W) := by
  have HA := Lib.hid hA
  have HN := Lib.hid hn
  have HB := Lib.hid hB
  clear hA hn hB
  go_enter Tryd.func36, Tryd.ntmps36
  go_wp2_with fail
  go_loopw [7, 5, 6] (fun i v dn wr => ∃ (k m c2 : Nat) (A2 : Option Addr) (T : List Int) (d : Bool), k ≤ n ∧ i = .int .i64 k ∧ v = .slice A2 m c2 ∧ dn = .bool d ∧ wTo L x k = (T, d) ∧ m = T.length ∧ m ≤ 2 * k ∧ Below W.heap.size W wr ∧ wr.ownsRow W.heap.size 3 1 (.slice A2 m c2) m (ints T)) (fun i _ _ _ => n - (intOf i).toNat)
  case atStart => exact ⟨0, 0, 0, none, [], false, Nat.zero_le _, rfl, rfl, rfl, rfl, rfl, Nat.le_refl _, Below.refl _ _, own_nil _ _ _ _⟩
  case round =>
    obtain ⟨k, m, c2, A2, T, d, hk, rfl, rfl, rfl, hT, hm, hmk, hbl, hown⟩ := hrel
    have HT := Lib.hid hT
    have HM := Lib.hid hm
    have HBL := Lib.hid hbl
    have HOW := Lib.hid hown
    have hszr := hbl.size
    clear hT hm hbl hown
    by_cases hlt : k < n
    · have HK := Lib.hid (show k < L.length by have := HN.out; omega)
      obtain ⟨b, o, rfl, hbB, hcells⟩ := At.int (HA.out.keep (HBL.out.mono HB.out)) HK.out
      have g0 := hcells k HK.out
      obtain ⟨y, hy⟩ : ∃ y, L.getD k 0 = y := ⟨_, rfl⟩
      rw [hy] at g0
      have HS := Lib.hid (show wTo L x (k + 1) = wStep x (T, d) y by rw [wTo_succ HK.out, HT.out, hy])
      have hbz : b < wr.heap.size := by have := HB.out; omega
      have hbW : b < W.heap.size := by have := HB.out; omega
      have jj0 : (0 : Int) ≤ (k : Int) := by omega
      have jj1 : (k : Int) < (n : Int) := by omega
      clear hy hcells
      cases d
      · by_cases hxy : x < y
        · have d1 : decide (x < y) = true := by simpa using hxy
          have HS2 := Lib.hid (show wTo L x (k + 1) = (T ++ [x] ++ [y], true) by rw [HS.out]; unfold wStep; simp [hxy])
          clear hxy
          go_upto_region 7 with (fail)
          go_cut [5] (fun s5 wx => ∃ (A3 : Option Addr) (c3 : Nat) (w7 : World), w7 = wx ∧ s5 = .slice A3 (m + 1) c3 ∧ Below W.heap.size W w7 ∧ w7.ownsRow W.heap.size 3 1 (.slice A3 (m + 1) c3) (m + 1) (ints (T ++ [x])))
          case first =>
            go_wp2_with (at_builtin; refine wpList_appv W rfl (.tmp 24) (.tmp 26) 22 rfl 3 Tryd.underlying22 (.int .i64 0) 1 8 info3 rfl (by decide) (by decide) (.slice A2 m c2) m (ints T) rfl (by exact own_below HOW.out (by (repeat (first | exact Below.refl _ _ | exact Nat.le_refl _ | (refine below_ext ?_ (by first | (simp [size_ext, grow]; done) | (simp [size_ext, grow]; omega) | omega) _ _) | (refine Below.setCell ?_ (by first | (simp [size_ext, grow]; done) | (simp [size_ext, grow]; omega) | omega) _) | (refine Below.alloc ?_ (by first | (simp [size_ext, grow]; done) | (simp [size_ext, grow]; omega) | omega) _) | refine Below.drew ?_ | refine below_drewN ?_ _ | (refine Below.trans ?_ (Below.mono (by assumption) (by first | (simp [size_ext, grow]; done) | (simp [size_ext, grow]; omega) | omega))))))) (wr.heap.size + 1) (some ⟨wr.heap.size, 0, none⟩) 1 1 [.int .i64 x] rfl rfl (by omega) (by exact At.newN _ _ _ _ _ rfl rfl) (by intro u hu; simp at hu; rw [hu]; rfl) (by have := HBL.out; (repeat (first | exact Below.refl _ _ | exact Nat.le_refl _ | (refine below_ext ?_ (by first | (simp [size_ext, grow]; done) | (simp [size_ext, grow]; omega) | omega) _ _) | (refine Below.setCell ?_ (by first | (simp [size_ext, grow]; done) | (simp [size_ext, grow]; omega) | omega) _) | (refine Below.alloc ?_ (by first | (simp [size_ext, grow]; done) | (simp [size_ext, grow]; omega) | omega) _) | refine Below.drew ?_ | refine below_drewN ?_ _ | (refine Below.trans ?_ (Below.mono (by assumption) (by first | (simp [size_ext, grow]; done) | (simp [size_ext, grow]; omega) | omega)))))) ?_; intro A3 c3 w7 ho3 hc3 hb3 hg3; have HO3 := Lib.hid ho3; have HB3 := Lib.hid hb3; clear ho3 hc3 hb3 hg3)
            go_meet
            exact ⟨A3, c3, w7, rfl, rfl, HB3.out, by rw [ints_snoc]; exact HO3.out⟩
          obtain ⟨A3, c3, w7, hw7, rfl, hb3, ho3⟩ := hcut
          rw [← hw7]
          have HO3 := Lib.hid ho3
          have HB3 := Lib.hid hb3
          have G0 := (hb3.cell (p := ⟨b, o + k, none⟩) hbW).trans ((HBL.out.cell (p := ⟨b, o + k, none⟩) hbW).symm.trans g0)
          have hsz7 := hb3.size
          have hbz7 : b < w7.heap.size := by omega
          clear ho3 hb3 hw7 g0 hbz
          go_wp2_with (at_builtin; refine wpList_appv W rfl (.tmp 28) (.tmp 33) 22 rfl 3 Tryd.underlying22 (.int .i64 0) 1 8 info3 rfl (by decide) (by decide) (.slice A3 (m + 1) c3) (m + 1) (ints (T ++ [x])) rfl (by exact own_below HO3.out (by (repeat (first | exact Below.refl _ _ | exact Nat.le_refl _ | (refine below_ext ?_ (by first | (simp [size_ext, grow]; done) | (simp [size_ext, grow]; omega) | omega) _ _) | (refine Below.setCell ?_ (by first | (simp [size_ext, grow]; done) | (simp [size_ext, grow]; omega) | omega) _) | (refine Below.alloc ?_ (by first | (simp [size_ext, grow]; done) | (simp [size_ext, grow]; omega) | omega) _) | refine Below.drew ?_ | refine below_drewN ?_ _ | (refine Below.trans ?_ (Below.mono (by assumption) (by first | (simp [size_ext, grow]; done) | (simp [size_ext, grow]; omega) | omega))))))) (w7.heap.size + 1) (some ⟨w7.heap.size, 0, none⟩) 1 1 [.int .i64 y] rfl rfl (by omega) (by exact At.newN _ _ _ _ _ rfl rfl) (by intro u hu; simp at hu; rw [hu]; rfl) (by have := HB3.out; (repeat (first | exact Below.refl _ _ | exact Nat.le_refl _ | (refine below_ext ?_ (by first | (simp [size_ext, grow]; done) | (simp [size_ext, grow]; omega) | omega) _ _) | (refine Below.setCell ?_ (by first | (simp [size_ext, grow]; done) | (simp [size_ext, grow]; omega) | omega) _) | (refine Below.alloc ?_ (by first | (simp [size_ext, grow]; done) | (simp [size_ext, grow]; omega) | omega) _) | refine Below.drew ?_ | refine below_drewN ?_ _ | (refine Below.trans ?_ (Below.mono (by assumption) (by first | (simp [size_ext, grow]; done) | (simp [size_ext, grow]; omega) | omega)))))) ?_; intro A4 c4 w8 ho4 hc4 hb4 hg4; have HO4 := Lib.hid ho4; have HB4 := Lib.hid hb4; clear ho4 hc4 hb4 hg4)
          go_roundw
          case rel => exact ⟨k + 1, m + 1 + 1, c4, A4, _, _, by omega, by go_num, rfl, rfl, HS2.out, by simp only [List.length_append, List.length_singleton]; rw [← HM.out], by omega, HB4.out, by rw [ints_snoc]; exact HO4.out⟩
          case measure => simp [intOf]; omega
        · have d1 : decide (x < y) = false := by simpa using hxy
          have HS2 := Lib.hid (show wTo L x (k + 1) = (T ++ [y], false) by rw [HS.out]; unfold wStep; simp [hxy])
          clear hxy
          go_wp2_with (at_builtin; refine wpList_appv W rfl (.tmp 28) (.tmp 33) 22 rfl 3 Tryd.underlying22 (.int .i64 0) 1 8 info3 rfl (by decide) (by decide) (.slice A2 m c2) m (ints T) rfl (by exact own_below HOW.out (by (repeat (first | exact Below.refl _ _ | exact Nat.le_refl _ | (refine below_ext ?_ (by first | (simp [size_ext, grow]; done) | (simp [size_ext, grow]; omega) | omega) _ _) | (refine Below.setCell ?_ (by first | (simp [size_ext, grow]; done) | (simp [size_ext, grow]; omega) | omega) _) | (refine Below.alloc ?_ (by first | (simp [size_ext, grow]; done) | (simp [size_ext, grow]; omega) | omega) _) | refine Below.drew ?_ | refine below_drewN ?_ _ | (refine Below.trans ?_ (Below.mono (by assumption) (by first | (simp [size_ext, grow]; done) | (simp [size_ext, grow]; omega) | omega))))))) (wr.heap.size + 1) (some ⟨wr.heap.size, 0, none⟩) 1 1 [.int .i64 y] rfl rfl (by omega) (by exact At.newN _ _ _ _ _ rfl rfl) (by intro u hu; simp at hu; rw [hu]; rfl) (by have := HBL.out; (repeat (first | exact Below.refl _ _ | exact Nat.le_refl _ | (refine below_ext ?_ (by first | (simp [size_ext, grow]; done) | (simp [size_ext, grow]; omega) | omega) _ _) | (refine Below.setCell ?_ (by first | (simp [size_ext, grow]; done) | (simp [size_ext, grow]; omega) | omega) _) | (refine Below.alloc ?_ (by first | (simp [size_ext, grow]; done) | (simp [size_ext, grow]; omega) | omega) _) | refine Below.drew ?_ | refine below_drewN ?_ _ | (refine Below.trans ?_ (Below.mono (by assumption) (by first | (simp [size_ext, grow]; done) | (simp [size_ext, grow]; omega) | omega)))))) ?_; intro A4 c4 w8 ho4 hc4 hb4 hg4; have HO4 := Lib.hid ho4; have HB4 := Lib.hid hb4; clear ho4 hc4 hb4 hg4)
          go_roundw
          case rel => exact ⟨k + 1, m + 1, c4, A4, _, _, by omega, by go_num, rfl, rfl, HS2.out, by simp only [List.length_append, List.length_singleton]; rw [← HM.out], by omega, HB4.out, by rw [ints_snoc]; exact HO4.out⟩
          case measure => simp [intOf]; omega
      · have HS2 := Lib.hid (show wTo L x (k + 1) = (T ++ [y], true) by rw [HS.out]; unfold wStep; simp)
        go_wp2_with (at_builtin; refine wpList_appv W rfl (.tmp 28) (.tmp 33) 22 rfl 3 Tryd.underlying22 (.int .i64 0) 1 8 info3 rfl (by decide) (by decide) (.slice A2 m c2) m (ints T) rfl (by exact own_below HOW.out (by (repeat (first | exact Below.refl _ _ | exact Nat.le_refl _ | (refine below_ext ?_ (by first | (simp [size_ext, grow]; done) | (simp [size_ext, grow]; omega) | omega) _ _) | (refine Below.setCell ?_ (by first | (simp [size_ext, grow]; done) | (simp [size_ext, grow]; omega) | omega) _) | (refine Below.alloc ?_ (by first | (simp [size_ext, grow]; done) | (simp [size_ext, grow]; omega) | omega) _) | refine Below.drew ?_ | refine below_drewN ?_ _ | (refine Below.trans ?_ (Below.mono (by assumption) (by first | (simp [size_ext, grow]; done) | (simp [size_ext, grow]; omega) | omega))))))) (wr.heap.size + 1) (some ⟨wr.heap.size, 0, none⟩) 1 1 [.int .i64 y] rfl rfl (by omega) (by exact At.newN _ _ _ _ _ rfl rfl) (by intro u hu; simp at hu; rw [hu]; rfl) (by have := HBL.out; (repeat (first | exact Below.refl _ _ | exact Nat.le_refl _ | (refine below_ext ?_ (by first | (simp [size_ext, grow]; done) | (simp [size_ext, grow]; omega) | omega) _ _) | (refine Below.setCell ?_ (by first | (simp [size_ext, grow]; done) | (simp [size_ext, grow]; omega) | omega) _) | (refine Below.alloc ?_ (by first | (simp [size_ext, grow]; done) | (simp [size_ext, grow]; omega) | omega) _) | refine Below.drew ?_ | refine below_drewN ?_ _ | (refine Below.trans ?_ (Below.mono (by assumption) (by first | (simp [size_ext, grow]; done) | (simp [size_ext, grow]; omega) | omega)))))) ?_; intro A4 c4 w8 ho4 hc4 hb4 hg4; have HO4 := Lib.hid ho4; have HB4 := Lib.hid hb4; clear ho4 hc4 hb4 hg4)
        go_roundw
        case rel => exact ⟨k + 1, m + 1, c4, A4, _, _, by omega, by go_num, rfl, rfl, HS2.out, by simp only [List.length_append, List.length_singleton]; rw [← HM.out], by omega, HB4.out, by rw [ints_snoc]; exact HO4.out⟩
        case measure => simp [intOf]; omega
    · obtain rfl : k = n := by omega
      have HTT := Lib.hid (show wTo L x L.length = (T, d) by rw [← HN.out]; exact HT.out)
      cases d
      · have HW := Lib.hid (show withL L x = T ++ [x] by unfold withL; rw [HTT.out]; rfl)
        go_wp2_with (at_builtin; refine wpList_appv W rfl (.tmp 37) (.tmp 39) 22 rfl 3 Tryd.underlying22 (.int .i64 0) 1 8 info3 rfl (by decide) (by decide) (.slice A2 m c2) m (ints T) rfl (by exact own_below HOW.out (by (repeat (first | exact Below.refl _ _ | exact Nat.le_refl _ | (refine below_ext ?_ (by first | (simp [size_ext, grow]; done) | (simp [size_ext, grow]; omega) | omega) _ _) | (refine Below.setCell ?_ (by first | (simp [size_ext, grow]; done) | (simp [size_ext, grow]; omega) | omega) _) | (refine Below.alloc ?_ (by first | (simp [size_ext, grow]; done) | (simp [size_ext, grow]; omega) | omega) _) | refine Below.drew ?_ | refine below_drewN ?_ _ | (refine Below.trans ?_ (Below.mono (by assumption) (by first | (simp [size_ext, grow]; done) | (simp [size_ext, grow]; omega) | omega))))))) (wr.heap.size + 1) (some ⟨wr.heap.size, 0, none⟩) 1 1 [.int .i64 x] rfl rfl (by omega) (by exact At.newN _ _ _ _ _ rfl rfl) (by intro u hu; simp at hu; rw [hu]; rfl) (by have := HBL.out; (repeat (first | exact Below.refl _ _ | exact Nat.le_refl _ | (refine below_ext ?_ (by first | (simp [size_ext, grow]; done) | (simp [size_ext, grow]; omega) | omega) _ _) | (refine Below.setCell ?_ (by first | (simp [size_ext, grow]; done) | (simp [size_ext, grow]; omega) | omega) _) | (refine Below.alloc ?_ (by first | (simp [size_ext, grow]; done) | (simp [size_ext, grow]; omega) | omega) _) | refine Below.drew ?_ | refine below_drewN ?_ _ | (refine Below.trans ?_ (Below.mono (by assumption) (by first | (simp [size_ext, grow]; done) | (simp [size_ext, grow]; omega) | omega)))))) ?_; intro A4 c4 w8 ho4 hc4 hb4 hg4; have HO4 := Lib.hid ho4; have HB4 := Lib.hid hb4; clear ho4 hc4 hb4 hg4)
        go_ret
        rw [HW.out]
        exact ⟨A4, c4, by rw [List.length_append, List.length_singleton, ← HM.out]; rfl, HB4.out, At.of_own (by rw [ints_snoc]; exact HO4.out), by rw [List.length_append, List.length_singleton, ← HM.out]; exact own_le_cap HO4.out, own_basis HO4.out⟩
      · have HW := Lib.hid (show withL L x = T by unfold withL; rw [HTT.out]; rfl)
        go_wp2_with fail
        go_ret
        rw [HW.out]
        exact ⟨A2, c2, by rw [← HM.out]; rfl, HBL.out, At.of_own HOW.out, by rw [← HM.out]; exact own_le_cap HOW.out, own_basis HOW.out⟩
theorem filt_snoc {L : List Int} {k : Nat} (hk : k < L.length) (f : Int → Bool) : (L.take (k + 1)).filter f = if f (L.getD k 0) = true then (L.take k).filter f ++ [L.getD k 0] else (L.take k).filter f := by
  rw [List.take_succ_eq_append_getElem hk, List.filter_append]
  have e : L.getD k 0 = L[k] := by simp [List.getD_eq_getElem?_getD, List.getElem?_eq_getElem hk]
  rw [e]
  by_cases h : f L[k] = true
  · rw [if_pos h]; simp [h]
  · rw [if_neg h]; simp [h]
set_option maxRecDepth 100000 in
set_option maxHeartbeats 2000000 in
theorem without_any (A : Option Addr) (n c : Nat) (L : List Int) (x : Int) (W : World) (B : Nat) (hB : B ≤ W.heap.size) (hA : At W B A (ints L)) (hn : n = L.length) (hl : n ≤ 1000000) :
    Calls Tryd.prog 37 #[.slice A n c, .int .i64 x] W (RowP (L.filter fun y => !(y == x)) W) := by
  have HA := Lib.hid hA
  have HN := Lib.hid hn
  have HB := Lib.hid hB
  clear hA hn hB
  go_enter Tryd.func37, Tryd.ntmps37
  go_wp2_with fail
  go_loopw [6, 5] (fun i v wr => ∃ (k m c2 : Nat) (A2 : Option Addr) (T : List Int), k ≤ n ∧ i = .int .i64 k ∧ v = .slice A2 m c2 ∧ T = (L.take k).filter (fun y => !(y == x)) ∧ m = T.length ∧ m ≤ k ∧ Below W.heap.size W wr ∧ wr.ownsRow W.heap.size 3 1 (.slice A2 m c2) m (ints T)) (fun i _ _ => n - (intOf i).toNat)
  case atStart => exact ⟨0, 0, 0, none, [], Nat.zero_le _, rfl, rfl, rfl, rfl, Nat.le_refl _, Below.refl _ _, own_nil _ _ _ _⟩
  case round =>
    obtain ⟨k, m, c2, A2, T, hk, rfl, rfl, hT, hm, hmk, hbl, hown⟩ := hrel
    have HT := Lib.hid hT
    have HM := Lib.hid hm
    have HBL := Lib.hid hbl
    have HOW := Lib.hid hown
    have hszr := hbl.size
    clear hT hm hbl hown
    by_cases hlt : k < n
    · have HK := Lib.hid (show k < L.length by have := HN.out; omega)
      obtain ⟨b, o, rfl, hbB, hcells⟩ := At.int (HA.out.keep (HBL.out.mono HB.out)) HK.out
      have g0 := hcells k HK.out
      have HF := Lib.hid (filt_snoc HK.out (fun y => !(y == x)))
      obtain ⟨y, hy⟩ : ∃ y, L.getD k 0 = y := ⟨_, rfl⟩
      rw [hy] at g0 HF
      have hbz : b < wr.heap.size := by have := HB.out; omega
      clear hy hcells
      by_cases hxy : y = x
      · have e1 : (y != x) = false := by simpa using hxy
        have HS2 := Lib.hid (show T = (L.take (k + 1)).filter (fun y => !(y == x)) by rw [HF.out, if_neg (by simp [hxy]), ← HT.out])
        clear hxy
        go_wp2_with fail
        go_roundw
        case rel => exact ⟨k + 1, m, c2, A2, T, by omega, by go_num, rfl, HS2.out, HM.out, by omega, HBL.out, HOW.out⟩
        case measure => simp [intOf]; omega
      · have e1 : (y != x) = true := by simpa using hxy
        have HS2 := Lib.hid (show T ++ [y] = (L.take (k + 1)).filter (fun y => !(y == x)) by rw [HF.out, if_pos (by simp [hxy]), ← HT.out])
        clear hxy
        go_wp2_with (at_builtin; refine wpList_appv W rfl (.tmp 19) (.tmp 24) 22 rfl 3 Tryd.underlying22 (.int .i64 0) 1 8 info3 rfl (by decide) (by decide) (.slice A2 m c2) m (ints T) rfl (by exact own_below HOW.out (by (repeat (first | exact Below.refl _ _ | exact Nat.le_refl _ | (refine below_ext ?_ (by first | (simp [size_ext, grow]; done) | (simp [size_ext, grow]; omega) | omega) _ _) | (refine Below.setCell ?_ (by first | (simp [size_ext, grow]; done) | (simp [size_ext, grow]; omega) | omega) _) | (refine Below.alloc ?_ (by first | (simp [size_ext, grow]; done) | (simp [size_ext, grow]; omega) | omega) _) | refine Below.drew ?_ | refine below_drewN ?_ _ | (refine Below.trans ?_ (Below.mono (by assumption) (by first | (simp [size_ext, grow]; done) | (simp [size_ext, grow]; omega) | omega))))))) (wr.heap.size + 1) (some ⟨wr.heap.size, 0, none⟩) 1 1 [.int .i64 y] rfl rfl (by omega) (by exact At.newN _ _ _ _ _ rfl rfl) (by intro u hu; simp at hu; rw [hu]; rfl) (by have := HBL.out; (repeat (first | exact Below.refl _ _ | exact Nat.le_refl _ | (refine below_ext ?_ (by first | (simp [size_ext, grow]; done) | (simp [size_ext, grow]; omega) | omega) _ _) | (refine Below.setCell ?_ (by first | (simp [size_ext, grow]; done) | (simp [size_ext, grow]; omega) | omega) _) | (refine Below.alloc ?_ (by first | (simp [size_ext, grow]; done) | (simp [size_ext, grow]; omega) | omega) _) | refine Below.drew ?_ | refine below_drewN ?_ _ | (refine Below.trans ?_ (Below.mono (by assumption) (by first | (simp [size_ext, grow]; done) | (simp [size_ext, grow]; omega) | omega)))))) ?_; intro A4 c4 w8 ho4 hc4 hb4 hg4; have HO4 := Lib.hid ho4; have HB4 := Lib.hid hb4; clear ho4 hc4 hb4 hg4)
        go_roundw
        case rel => exact ⟨k + 1, m + 1, c4, A4, _, by omega, by go_num, rfl, HS2.out, by simp only [List.length_append, List.length_singleton]; rw [← HM.out], by omega, HB4.out, by rw [ints_snoc]; exact HO4.out⟩
        case measure => simp [intOf]; omega
    · obtain rfl : k = n := by omega
      have HW := Lib.hid (show (L.filter fun y => !(y == x)) = T by rw [HT.out, List.take_of_length_le (by have := HN.out; omega)])
      go_wp2_with fail
      go_ret
      rw [HW.out]
      exact ⟨A2, c2, by rw [← HM.out]; rfl, HBL.out, At.of_own HOW.out, by rw [← HM.out]; exact own_le_cap HOW.out, own_basis HOW.out⟩
end Go.Proofs.YtoilghhclpgfaaaDoor
