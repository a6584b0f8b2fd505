/- The page's example; PoolRanges. -/
import Derived.Test.YtoilghhclpgfaaaDoorP8
namespace Go.Proofs.YtoilghhclpgfaaaDoor
open Go.RowKit
set_option linter.unusedSimpArgs false
set_option linter.unusedVariables false
theorem TabAt.turned {w w' : World} {l bm : Nat} (h : TabAt w) (ht : Two l bm w w') (h1 : 0 < l) (h2 : 0 < bm) : TabAt w' := h.kept (ht.block 0 h.lt (by omega) (by omega))
set_option maxRecDepth 100000 in
set_option maxHeartbeats 2000000 in
theorem awake_any (w : World) (hT : TabAt w) : Calls Tryd.prog 11 #[] w fun e w' => e = .returned (.bool true) ∧ Below w.heap.size w w' := by
  have HT := Lib.hid hT
  have hw0 := hT.lt
  clear hT
  go_enter Tryd.func11, Tryd.ntmps11
  go_wp2_with fail
  refine (new_any 10 3 (some ⟨w.heap.size, 0, none⟩) 1 1 [0] _ ((At.newN w #[.int .i64 0] 3 (ints [0]) _ rfl rfl).more (by simp)) rfl (by omega)).mono ?_
  rintro e w1 ⟨hb, ⟨hno, _⟩ | ⟨hok, p, ⟨b0, s0, fw, ow, left, af, ao, cf, co⟩, rfl, hp, haf, hao, hpa, hfr, -⟩⟩
  · exact absurd hno (by decide)
  · obtain rfl : b0 = 10 := hfr.hb
    obtain rfl : s0 = 3 := hfr.hs
    have HINV := Lib.hid (Inv.fresh hfr (by decide))
    have hs1 : Sound ⟨10, 3, fw, ow, left, af, ao, cf, co⟩ := ⟨by simp only; omega, by simp only; omega, by simp only; omega⟩
    have HS := Lib.hid hs1
    have hb1 : Below w.heap.size w w1 := ((Below.refl _ w).alloc (Nat.le_refl _) _).trans (hb.mono (by simp))
    have HB1 := Lib.hid hb1
    have HT1 := Lib.hid (HT.out.keep hb1)
    have HPA := Lib.hid hpa
    have hpw : w.heap.size ≤ p := by simp at hp; omega
    have haw : w.heap.size ≤ af := by simp at haf; omega
    have hp0 : 0 < p := by omega
    have ha0 : 0 < af := by omega
    have hfn : fw.length = 1 := by have := hpa.free.n; simp [PoolS.nw] at this; omega
    have bits0 : ∀ j, bitW fw j = (decide (j < 3) && !decide ((j : Int) ∈ [(0 : Int)])) := fun j => by have h1 := hfr.own j; have h2 := hfr.free; simp only at h1 h2; rw [h2]; exact h1
    have b00 : bitW fw 0 = false := by rw [bits0]; rfl
    have b01 : bitW fw 1 = true := by rw [bits0]; rfl
    have b02 : bitW fw 2 = true := by rw [bits0]; rfl
    have bov : ∀ j, 3 ≤ j → bitW fw j = false := fun j hj => by rw [bits0]; simp; omega
    have o1 : bitW ow 1 = true := by rw [hfr.own 1]; rfl
    have hw0' := hpa.free.wide
    simp only at hw0'
    have L1 := Lib.hid (lowO_eq hw0' b01 (fun j hj => by obtain rfl : j = 0 := (by omega); exact b00))
    have i1 : 1 / 64 < fw.length := by rw [hfn]; decide
    have i2 : 2 / 64 < (setW fw 1 false).length := by rw [setW_len, hfn]; decide
    have w1' := setW_wide hw0' 1 false
    have w2' := setW_wide w1' 2 false
    have c1 : ∀ j, bitW (setW fw 1 false) j = if j = 1 then false else bitW fw j := bit_setW hw0' i1 false
    have c2 : ∀ j, bitW (setW (setW fw 1 false) 2 false) j = if j = 2 then false else bitW (setW fw 1 false) j := bit_setW w1' i2 false
    have L2 := Lib.hid (lowO_eq w1' (i := 2) (by rw [c1, if_neg (by decide)]; exact b02) (fun j hj => by
      rw [c1]
      by_cases e : j = 1
      · rw [if_pos e]
      · rw [if_neg e]; obtain rfl : j = 0 := (by omega); exact b00))
    have L3 := Lib.hid (lowO_eq_none w2' (fun j => by
      rw [c2, c1]
      by_cases e2 : j = 2
      · rw [if_pos e2]
      · rw [if_neg e2]
        by_cases e1 : j = 1
        · rw [if_pos e1]
        · rw [if_neg e1]
          by_cases e0 : j = 0
          · rw [e0]; exact b00
          · exact bov j (by omega)))
    have i3 : 1 / 64 < (setW (setW fw 1 false) 2 false).length := by rw [setW_len, setW_len, hfn]; decide
    have w3' := setW_wide w2' 1 true
    have c3 : ∀ j, bitW (setW (setW (setW fw 1 false) 2 false) 1 true) j = if j = 1 then true else bitW (setW (setW fw 1 false) 2 false) j := bit_setW w2' i3 true
    have L4 := Lib.hid (lowO_eq w3' (i := 1) (by rw [c3, if_pos rfl]) (fun j hj => by
      obtain rfl : j = 0 := by omega
      rw [c3, if_neg (by decide), c2, if_neg (by decide), c1, if_neg (by decide)]; exact b00))
    have G1 := Lib.hid (show gvE (leased (leased ⟨10, 3, fw, ow, left, af, ao, cf, co⟩ 1) 2) 11 = 0 by
      have h1 : hasB (leased (leased ⟨10, 3, fw, ow, left, af, ao, cf, co⟩ 1) 2) 11 = true := by
        unfold hasB leased
        simp only
        rw [show ((11 : Int) - 10).toNat = 1 from rfl, o1]; rfl
      have h2 : freeB (leased (leased ⟨10, 3, fw, ow, left, af, ao, cf, co⟩ 1) 2) 11 = false := by
        unfold freeB leased
        simp only
        rw [show ((11 : Int) - 10).toNat = 1 from rfl, c2, if_neg (by decide), c1, if_pos rfl]
      unfold gvE
      rw [h1, h2]; rfl)
    have hl0 : left = 2 := by have := hfr.left; simpa using this
    subst hl0
    clear hb hok hp haf hao hpa hfr b00 b01 b02 bov o1 i1 i2 w1' w2' c1 c2 i3 w3' c3 bits0 hb1 hs1 hw0' hfn
    go_wp2_with fail
    refine (Take_yes p _ 1 w1 HPA.out HS.out HT1.out L1.out (by simp only; omega)).mono ?_
    rintro e w2 ⟨rfl, hp2, ht2⟩
    have HT2 := Lib.hid (HT1.out.turned ht2 hp0 ha0)
    have HP2 := Lib.hid hp2
    have HTW2 := Lib.hid ht2
    clear hp2 ht2
    go_wp2_with fail
    refine (Take_yes p (leased ⟨10, 3, fw, ow, 2, af, ao, cf, co⟩ 1) 2 w2 HP2.out ⟨HS.out.b1, HS.out.b2, HS.out.s⟩ HT2.out L2.out (by simp [leased])).mono ?_
    rintro e w3 ⟨rfl, hp3, ht3⟩
    have HT3 := Lib.hid (HT2.out.turned ht3 hp0 ha0)
    have HP3 := Lib.hid hp3
    have HTW3 := Lib.hid (HTW2.out.trans ht3)
    clear hp3 ht3 HT2 HP2 HTW2
    go_wp2_with fail
    refine (Take_no p (leased (leased ⟨10, 3, fw, ow, 2, af, ao, cf, co⟩ 1) 2) w3 HP3.out ⟨HS.out.b1, HS.out.b2, HS.out.s⟩ HT3.out L3.out).mono ?_
    rintro e w4 ⟨rfl, hb⟩
    have HT4 := Lib.hid (HT3.out.keep hb)
    have HP4 := Lib.hid (HP3.out.keep hb)
    have HTW4 := Lib.hid (HTW3.out.trans (Two.of_below hb))
    clear hb HT3 HP3 HTW3
    go_wp2_with fail
    refine (Give_yes p (leased (leased ⟨10, 3, fw, ow, 2, af, ao, cf, co⟩ 1) 2) 11 1 w4 HP4.out ⟨HS.out.b1, HS.out.b2, HS.out.s⟩ G1.out rfl (by simp [leased])).mono ?_
    rintro e w5 ⟨rfl, hp5, ht5⟩
    have HT5 := Lib.hid (HT4.out.turned ht5 hp0 ha0)
    have HP5 := Lib.hid hp5
    have HTW5 := Lib.hid (HTW4.out.trans ht5)
    clear hp5 ht5 HT4 HP4 HTW4
    go_wp2_with fail
    refine (Take_yes p (given (leased (leased ⟨10, 3, fw, ow, 2, af, ao, cf, co⟩ 1) 2) 1) 1 w5 HP5.out ⟨HS.out.b1, HS.out.b2, HS.out.s⟩ HT5.out L4.out (by simp [leased, given])).mono ?_
    rintro e w6 ⟨rfl, hp6, ht6⟩
    have HTW6 := Lib.hid (HTW5.out.trans ht6)
    clear hp6 ht6 HT5 HP5 HTW5
    go_wp2_with fail
    go_ret
    exact ⟨rfl, HB1.out.trans (HTW6.out.below HB1.out.size hpw haw)⟩
end Go.Proofs.YtoilghhclpgfaaaDoor
