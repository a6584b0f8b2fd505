/- OptsEnds: its walk. -/
import Derived.Test.YtbdkapmiioiikaaH23
namespace Go.Proofs.Ytbdkapmiioiikaa
open Go.ChangeShapes Go.WideShapes Go.ChangeAt Go.RowKit Go.Joins Go.Deep
set_option linter.unusedSimpArgs false
set_option linter.unusedVariables false
set_option maxRecDepth 100000 in
set_option maxHeartbeats 2000000 in
theorem ends_any (more : Nat) (b : Bool) (w : World) (hm : more < 256) : Calls Try.prog 7 #[.int .u8 (more : Int), .bool b] w fun e w' => e = .returned (.bool true) ∧ Below w.heap.size w w' := by
  obtain ⟨i0, hi, hz0, hz1, hz2⟩ := info_parts infoU8
  have HI := Lib.hid (And.intro hi (And.intro hz0 (And.intro hz1 hz2)))
  clear hi hz0 hz1 hz2
  obtain ⟨i1, hi, hz0, hz1, hz2⟩ := info_parts infoOpt
  have HJ := Lib.hid (And.intro hi (And.intro hz0 (And.intro hz1 hz2)))
  clear hi hz0 hz1 hz2
  go_enter Try.func7, Try.ntmps7
  go_upto_if 18 with (fail)
  obtain ⟨k, hk⟩ : ∃ k : Nat, (more : Int) % 3 = (k : Int) := ⟨more % 3, by omega⟩
  rw [hk]
  have k3 : k < 3 := by omega
  clear hk
  have w1 : IntKind.i64.wrap ((210 : Int) + (k : Int)) = (210 : Int) + (k : Int) := IntWalk.i64_in _ (by omega)
  go_cut [6, 7] (fun v6 v7 wx => ∃ W0 : World, W0 = wx ∧ EndS w v6 v7 W0)
  case first =>
    cases b
    · by_cases hk2 : k = 2
      · have k2 : ((k : Int) == 2) = true := by simp; omega
        have HK := Lib.hid hk2
        clear hk2
        go_wp2_with (at_make; go_loud (refine wpList_make_full _ rfl (.tmp 39) (.tmp 39) 22 rfl w.heap.size 36 i1 (.agg #[.int .i64 0, .slice none 0 0]) 2 Try.underlying22 HJ.out.1 HJ.out.2.1 HJ.out.2.2.1 .i64 .i64 _ _ (63 + k) rfl rfl (by omega) (by omega) (by rw [HJ.out.2.2.2]; omega) (by unfold maxLen; omega) (by simp) ?_); intro w' ho hg; have HO := Lib.hid ho; have HG := Lib.hid hg; clear ho hg)
        go_meet
        exact ⟨_, rfl, List.replicate (63 + k) e0, some ⟨w.heap.size, 0, none⟩, 63 + k, 63 + k, 3, rfl, rfl, by simp, (Below.refl _ w).grown HG.out (Nat.le_refl _) (fun q e => by cases e), ⟨by rw [← made_two, List.length_replicate]; exact HO.out, fun e he => by rw [List.eq_of_mem_replicate he]; exact own_nil _ _ _ _⟩, by rw [List.map_replicate]; have h := endW_rep k k3; rw [if_pos HK.out] at h; exact h⟩
      · have k2 : ((k : Int) == 2) = false := by simp; omega
        go_wp2_with (at_make; go_loud (refine wpList_make_full _ rfl (.tmp 39) (.tmp 39) 22 rfl w.heap.size 36 i1 (.agg #[.int .i64 0, .slice none 0 0]) 2 Try.underlying22 HJ.out.1 HJ.out.2.1 HJ.out.2.2.1 .i64 .i64 _ _ (63 + k) rfl rfl (by omega) (by omega) (by rw [HJ.out.2.2.2]; omega) (by unfold maxLen; omega) (by simp) ?_); intro w' ho hg; have HO := Lib.hid ho; have HG := Lib.hid hg; clear ho hg)
        go_meet
        exact ⟨_, rfl, List.replicate (63 + k) e0, some ⟨w.heap.size, 0, none⟩, 63 + k, 63 + k, 0, rfl, rfl, by simp, (Below.refl _ w).grown HG.out (Nat.le_refl _) (fun q e => by cases e), ⟨by rw [← made_two, List.length_replicate]; exact HO.out, fun e he => by rw [List.eq_of_mem_replicate he]; exact own_nil _ _ _ _⟩, by rw [List.map_replicate]; have h := endW_rep k k3; rw [if_neg hk2] at h; exact h⟩
    · go_wp2_with fail
      go_loopw [8, 6] (fun i v wr => ∃ (j c : Nat) (A : Option Addr) (E : List Ent), j ≤ 5 ∧ i = .int .i64 j ∧ v = .slice A j c ∧ j = E.length ∧ Below w.heap.size w wr ∧ OwnOpts wr w.heap.size (.slice A j c) E ∧ E.map Ent.o = longL j) (fun i _ _ => 5 - (intOf i).toNat)
      case atStart => exact ⟨0, 0, none, [], by omega, rfl, rfl, rfl, Below.refl _ _, OwnOpts.nil _ _, rfl⟩
      case round =>
        obtain ⟨j, c, A, E, hj, rfl, rfl, hjE, hb, ho, hE⟩ := hrel
        have HN := Lib.hid hjE
        have HBW := Lib.hid hb
        have HO := Lib.hid ho
        have HE := Lib.hid hE
        have hsz := hb.size
        clear hjE hb ho hE
        by_cases hlt : j < 5
        · clear w1
          go_wp2_with (first | (at_make; (refine wpList_make_full _ rfl (.const (.int .i64 253)) (.const (.int .i64 253)) 23 rfl w.heap.size 5 i0 (.int .u8 0) 1 Try.underlying23 HI.out.1 HI.out.2.1 HI.out.2.2.1 .i64 .i64 _ _ (253) rfl rfl (by omega) (by omega) (by rw [HI.out.2.2.2]; omega) (by unfold maxLen; omega) hsz ?_); intro w' ho hg; rw [made_zs] at ho; have HO1 := Lib.hid ho; have HBW1 := Lib.hid (HBW.out.grown hg hsz (fun q e => by cases e)); have HOB := Lib.hid (HO.out.stays hg (fun r e => by cases e)); have HOW := Lib.hid (show w'.ownsRow w.heap.size 36 2 (.slice A j c) j (cellsE E) by have h := HOB.out.1; rw [← HN.out] at h; exact h); have hsz1 := HBW1.out.size; clear ho hg) | (at_builtin; go_loud (refine wpList_appv w rfl (.tmp 23) (.tmp 27) 22 rfl 36 Try.underlying22 (.agg #[.int .i64 0, .slice none 0 0]) 2 32 infoOpt rfl (by decide) (by decide) (.slice A j c) j (cellsE E) rfl (own_below HOW.out (by (repeat (first | exact Below.refl _ _ | exact Nat.le_refl _ | (refine below_ext ?_ (by first | (simp [size_ext, grow]; done) | (simp [size_ext, grow]; omega) | omega) _ _) | (refine Below.setCell ?_ (by first | (simp [size_ext, grow]; done) | (simp [size_ext, grow]; omega) | omega) _) | (refine Below.alloc ?_ (by first | (simp [size_ext, grow]; done) | (simp [size_ext, grow]; omega) | omega) _) | refine Below.drew ?_ | refine below_drewN ?_ _ | (refine Below.trans ?_ (Below.mono (by assumption) (by first | (simp [size_ext, grow]; done) | (simp [size_ext, grow]; omega) | omega))))))) (w'.heap.size + 1) (some ⟨w'.heap.size, 0, none⟩) 1 1 [.int .i64 (j : Int), .slice (some ⟨wr.heap.size, 0, none⟩) (253) (253)] rfl rfl (by omega) (At.newN _ _ _ _ _ (by simp) rfl) (by intro u hu; simp at hu; rcases hu with rfl | rfl <;> rfl) (by have := HBW1.out; (repeat (first | exact Below.refl _ _ | exact Nat.le_refl _ | (refine below_ext ?_ (by first | (simp [size_ext, grow]; done) | (simp [size_ext, grow]; omega) | omega) _ _) | (refine Below.setCell ?_ (by first | (simp [size_ext, grow]; done) | (simp [size_ext, grow]; omega) | omega) _) | (refine Below.alloc ?_ (by first | (simp [size_ext, grow]; done) | (simp [size_ext, grow]; omega) | omega) _) | refine Below.drew ?_ | refine below_drewN ?_ _ | (refine Below.trans ?_ (Below.mono (by assumption) (by first | (simp [size_ext, grow]; done) | (simp [size_ext, grow]; omega) | omega)))))) ?_); intro A3 c3 w3 ho3 hc3 hb3 hg3; have HO3 := Lib.hid ho3; have HB3 := Lib.hid hb3; have HG3 := Lib.hid hg3; clear ho3 hc3 hb3 hg3))
          have HOE := Lib.hid (OwnOpts.pushed (tt := (j : Int)) (dd := zs (253)) (A2 := some ⟨wr.heap.size, 0, none⟩) (c2 := 253) (HOB.out.below (Below.alloc (Below.refl _ w') (Nat.le_refl _) _)) (by rw [zs_len]; exact own_below HO1.out (Below.alloc (Below.refl _ w') (Nat.le_refl _) _)) (by rw [zs_len, ← HN.out]; exact HO3.out) HG3.out)
          go_roundw
          case rel => exact ⟨j + 1, c3, A3, E ++ [⟨(j : Int), zs 253, some ⟨wr.heap.size, 0, none⟩, 253⟩], by omega, by go_num, rfl, by simp [← HN.out], HB3.out, HOE.out, by rw [List.map_append, HE.out, longL_succ]; rfl⟩
          case measure => simp [intOf]; omega
        · obtain rfl : j = 5 := by omega
          by_cases hk2 : k = 2
          · have k2 : ((k : Int) == 2) = true := by simp; omega
            have HK := Lib.hid hk2
            clear hk2
            go_wp2_with (first | (at_make; (refine wpList_make_full _ rfl (.tmp 31) (.tmp 31) 23 rfl w.heap.size 5 i0 (.int .u8 0) 1 Try.underlying23 HI.out.1 HI.out.2.1 HI.out.2.2.1 .i64 .i64 _ _ (210 + k) rfl rfl (by omega) (by omega) (by rw [HI.out.2.2.2]; omega) (by unfold maxLen; omega) hsz ?_); intro w' ho hg; rw [made_zs] at ho; have HO1 := Lib.hid ho; have HBW1 := Lib.hid (HBW.out.grown hg hsz (fun q e => by cases e)); have HOB := Lib.hid (HO.out.stays hg (fun r e => by cases e)); have HOW := Lib.hid (show w'.ownsRow w.heap.size 36 2 (.slice A 5 c) 5 (cellsE E) by have h := HOB.out.1; rw [← HN.out] at h; exact h); have hsz1 := HBW1.out.size; clear ho hg) | (at_builtin; go_loud (refine wpList_appv w rfl (.tmp 29) (.tmp 34) 22 rfl 36 Try.underlying22 (.agg #[.int .i64 0, .slice none 0 0]) 2 32 infoOpt rfl (by decide) (by decide) (.slice A 5 c) 5 (cellsE E) rfl (own_below HOW.out (by (repeat (first | exact Below.refl _ _ | exact Nat.le_refl _ | (refine below_ext ?_ (by first | (simp [size_ext, grow]; done) | (simp [size_ext, grow]; omega) | omega) _ _) | (refine Below.setCell ?_ (by first | (simp [size_ext, grow]; done) | (simp [size_ext, grow]; omega) | omega) _) | (refine Below.alloc ?_ (by first | (simp [size_ext, grow]; done) | (simp [size_ext, grow]; omega) | omega) _) | refine Below.drew ?_ | refine below_drewN ?_ _ | (refine Below.trans ?_ (Below.mono (by assumption) (by first | (simp [size_ext, grow]; done) | (simp [size_ext, grow]; omega) | omega))))))) (w'.heap.size + 1) (some ⟨w'.heap.size, 0, none⟩) 1 1 [.int .i64 0, .slice (some ⟨wr.heap.size, 0, none⟩) (210 + k) (210 + k)] rfl rfl (by omega) (At.newN _ _ _ _ _ (by simp) rfl) (by intro u hu; simp at hu; rcases hu with rfl | rfl <;> rfl) (by have := HBW1.out; (repeat (first | exact Below.refl _ _ | exact Nat.le_refl _ | (refine below_ext ?_ (by first | (simp [size_ext, grow]; done) | (simp [size_ext, grow]; omega) | omega) _ _) | (refine Below.setCell ?_ (by first | (simp [size_ext, grow]; done) | (simp [size_ext, grow]; omega) | omega) _) | (refine Below.alloc ?_ (by first | (simp [size_ext, grow]; done) | (simp [size_ext, grow]; omega) | omega) _) | refine Below.drew ?_ | refine below_drewN ?_ _ | (refine Below.trans ?_ (Below.mono (by assumption) (by first | (simp [size_ext, grow]; done) | (simp [size_ext, grow]; omega) | omega)))))) ?_); intro A3 c3 w3 ho3 hc3 hb3 hg3; have HO3 := Lib.hid ho3; have HB3 := Lib.hid hb3; have HG3 := Lib.hid hg3; clear ho3 hc3 hb3 hg3))
            have HOE := Lib.hid (OwnOpts.pushed (tt := 0) (dd := zs (210 + k)) (A2 := some ⟨wr.heap.size, 0, none⟩) (c2 := 210 + k) (HOB.out.below (Below.alloc (Below.refl _ w') (Nat.le_refl _) _)) (by rw [zs_len]; exact own_below HO1.out (Below.alloc (Below.refl _ w') (Nat.le_refl _) _)) (by rw [zs_len, ← HN.out]; exact HO3.out) HG3.out)
            go_meet
            exact ⟨_, rfl, E ++ [⟨0, zs (210 + k), some ⟨wr.heap.size, 0, none⟩, 210 + k⟩], A3, 6, c3, 2, rfl, rfl, by simp [← HN.out], HB3.out, HOE.out, by have h := endW_zs k k3; rw [if_pos HK.out] at h; rw [List.map_append, HE.out]; exact h⟩
          · have k2 : ((k : Int) == 2) = false := by simp; omega
            have HK := Lib.hid hk2
            clear hk2
            go_wp2_with (first | (at_make; (refine wpList_make_full _ rfl (.tmp 31) (.tmp 31) 23 rfl w.heap.size 5 i0 (.int .u8 0) 1 Try.underlying23 HI.out.1 HI.out.2.1 HI.out.2.2.1 .i64 .i64 _ _ (210 + k) rfl rfl (by omega) (by omega) (by rw [HI.out.2.2.2]; omega) (by unfold maxLen; omega) hsz ?_); intro w' ho hg; rw [made_zs] at ho; have HO1 := Lib.hid ho; have HBW1 := Lib.hid (HBW.out.grown hg hsz (fun q e => by cases e)); have HOB := Lib.hid (HO.out.stays hg (fun r e => by cases e)); have HOW := Lib.hid (show w'.ownsRow w.heap.size 36 2 (.slice A 5 c) 5 (cellsE E) by have h := HOB.out.1; rw [← HN.out] at h; exact h); have hsz1 := HBW1.out.size; clear ho hg) | (at_builtin; go_loud (refine wpList_appv w rfl (.tmp 29) (.tmp 34) 22 rfl 36 Try.underlying22 (.agg #[.int .i64 0, .slice none 0 0]) 2 32 infoOpt rfl (by decide) (by decide) (.slice A 5 c) 5 (cellsE E) rfl (own_below HOW.out (by (repeat (first | exact Below.refl _ _ | exact Nat.le_refl _ | (refine below_ext ?_ (by first | (simp [size_ext, grow]; done) | (simp [size_ext, grow]; omega) | omega) _ _) | (refine Below.setCell ?_ (by first | (simp [size_ext, grow]; done) | (simp [size_ext, grow]; omega) | omega) _) | (refine Below.alloc ?_ (by first | (simp [size_ext, grow]; done) | (simp [size_ext, grow]; omega) | omega) _) | refine Below.drew ?_ | refine below_drewN ?_ _ | (refine Below.trans ?_ (Below.mono (by assumption) (by first | (simp [size_ext, grow]; done) | (simp [size_ext, grow]; omega) | omega))))))) (w'.heap.size + 1) (some ⟨w'.heap.size, 0, none⟩) 1 1 [.int .i64 0, .slice (some ⟨wr.heap.size, 0, none⟩) (210 + k) (210 + k)] rfl rfl (by omega) (At.newN _ _ _ _ _ (by simp) rfl) (by intro u hu; simp at hu; rcases hu with rfl | rfl <;> rfl) (by have := HBW1.out; (repeat (first | exact Below.refl _ _ | exact Nat.le_refl _ | (refine below_ext ?_ (by first | (simp [size_ext, grow]; done) | (simp [size_ext, grow]; omega) | omega) _ _) | (refine Below.setCell ?_ (by first | (simp [size_ext, grow]; done) | (simp [size_ext, grow]; omega) | omega) _) | (refine Below.alloc ?_ (by first | (simp [size_ext, grow]; done) | (simp [size_ext, grow]; omega) | omega) _) | refine Below.drew ?_ | refine below_drewN ?_ _ | (refine Below.trans ?_ (Below.mono (by assumption) (by first | (simp [size_ext, grow]; done) | (simp [size_ext, grow]; omega) | omega)))))) ?_); intro A3 c3 w3 ho3 hc3 hb3 hg3; have HO3 := Lib.hid ho3; have HB3 := Lib.hid hb3; have HG3 := Lib.hid hg3; clear ho3 hc3 hb3 hg3))
            have HOE := Lib.hid (OwnOpts.pushed (tt := 0) (dd := zs (210 + k)) (A2 := some ⟨wr.heap.size, 0, none⟩) (c2 := 210 + k) (HOB.out.below (Below.alloc (Below.refl _ w') (Nat.le_refl _) _)) (by rw [zs_len]; exact own_below HO1.out (Below.alloc (Below.refl _ w') (Nat.le_refl _) _)) (by rw [zs_len, ← HN.out]; exact HO3.out) HG3.out)
            go_meet
            exact ⟨_, rfl, E ++ [⟨0, zs (210 + k), some ⟨wr.heap.size, 0, none⟩, 210 + k⟩], A3, 6, c3, 0, rfl, rfl, by simp [← HN.out], HB3.out, HOE.out, by have h := endW_zs k k3; rw [if_neg HK.out] at h; rw [List.map_append, HE.out]; exact h⟩
  case rest =>
    obtain ⟨W0, rfl, E, A, n, c, want, rfl, rfl, hn, hb, ho, hE⟩ := hcut
    have HN := Lib.hid hn
    have HBW := Lib.hid hb
    have HO := Lib.hid ho
    have HW := Lib.hid hE
    have hsz := hb.size
    have hn65 : n ≤ 65 := by have := hE.2.1; rw [List.length_map] at this; omega
    clear hn hb ho hE w1
    go_wp2_with fail
    rcases HW.out.2.2 with ⟨rfl, g1, g2⟩ | ⟨hw0, g1, g2⟩
    · have G := Lib.hid (And.intro g1 g2)
      clear g1 g2
      obtain ⟨yn, hyn⟩ : ∃ yn, (encs (E.map Ent.o)).length = yn := ⟨_, rfl⟩
      have HYN := Lib.hid hyn
      clear hyn
      refine (enc_any A n c E _ W0.heap.size (Nat.le_refl _) HO.out.at HN.out).mono ?_
      rintro e w1 h1
      obtain ⟨A2, c2, rfl, hb, ho, hc2⟩ := h1.get G.out.1 HYN.out
      clear h1
      obtain ⟨xs2, dr2, rfl⟩ := ext_of hb
      clear hb
      have HO2 := Lib.hid ho
      clear ho
      go_wp2_with fail
      refine (awake_any _).mono ?_
      rintro e w1 ⟨rfl, hb⟩
      obtain ⟨xs3, dr3, rfl⟩ := ext_of hb
      clear hb
      go_wp2_with fail
      have hnn := HN.out
      clear HN
      subst hnn
      obtain ⟨W3, hW3⟩ : ∃ W3, W3 = ext (ext W0 xs2 dr2) xs3 dr3 := ⟨_, rfl⟩
      have HBW3 := Lib.hid (show Below w.heap.size w W3 by rw [hW3]; have := HBW.out; (repeat (first | exact Below.refl _ _ | exact Nat.le_refl _ | (refine below_ext ?_ (by first | (simp [size_ext, grow]; done) | (simp [size_ext, grow]; omega) | omega) _ _) | (refine Below.setCell ?_ (by first | (simp [size_ext, grow]; done) | (simp [size_ext, grow]; omega) | omega) _) | (refine Below.alloc ?_ (by first | (simp [size_ext, grow]; done) | (simp [size_ext, grow]; omega) | omega) _) | refine Below.drew ?_ | refine below_drewN ?_ _ | (refine Below.trans ?_ (Below.mono (by assumption) (by first | (simp [size_ext, grow]; done) | (simp [size_ext, grow]; omega) | omega))))))
      have HE := Lib.hid (show OptsAt W3 W3.heap.size A E by rw [hW3]; exact OptsAt.move HO.out.at (by (repeat (first | exact Below.refl _ _ | exact Nat.le_refl _ | (refine below_ext ?_ (by first | (simp [size_ext, grow]; done) | (simp [size_ext, grow]; omega) | omega) _ _) | (refine Below.setCell ?_ (by first | (simp [size_ext, grow]; done) | (simp [size_ext, grow]; omega) | omega) _) | (refine Below.alloc ?_ (by first | (simp [size_ext, grow]; done) | (simp [size_ext, grow]; omega) | omega) _) | refine Below.drew ?_ | refine below_drewN ?_ _ | (refine Below.trans ?_ (Below.mono (by assumption) (by first | (simp [size_ext, grow]; done) | (simp [size_ext, grow]; omega) | omega)))))) (by simp [go_sem]))
      have hsz3 := HBW3.out.size
      have HB := Lib.hid (Nat.le_refl W3.heap.size)
      rw [← hW3]
      clear hW3 HBW HO hsz
      go_loopw [12, 11] (fun i v wr => ∃ (k n c : Nat) (A : Option Addr), k ≤ E.length ∧ i = .int .i64 k ∧ v = .slice A n c ∧ n ≤ c ∧ n ≤ 255 * k ∧ n = (encs ((E.map Ent.o).take k)).length ∧ Below W3.heap.size W3 wr ∧ wr.ownsRow W3.heap.size 5 1 (.slice A n c) n ((encs ((E.map Ent.o).take k)).map bv)) (fun i _ _ => E.length - (intOf i).toNat)
      case atStart => exact ⟨0, 0, 0, none, Nat.zero_le _, rfl, rfl, Nat.le_refl _, by omega, rfl, Below.refl _ _, own_nil _ _ _ _⟩
      case round =>
        obtain ⟨k, n, c', A', hk, rfl, rfl, hnc, hn5, hn, hb, ho⟩ := hrel
        have HN := Lib.hid (And.intro hn hnc)
        have HBW := Lib.hid hb
        have HO := Lib.hid ho
        have hsz := hb.size
        clear hn hnc hb ho
        by_cases hlt : k < E.length
        · obtain ⟨b, o, rfl, hbB, hx, hy⟩ := (HE.out.keep (HBW.out.mono HB.out)).get hlt
          obtain ⟨hd, hdc⟩ := (HE.out.keep (HBW.out.mono HB.out)).2 E[k] (List.getElem_mem hlt)
          have HM := Lib.hid (map_o E k hlt)
          have HK := Lib.hid (show k < (E.map Ent.o).length by simpa using hlt)
          obtain ⟨⟨t, d, a, c2⟩, he⟩ : ∃ e, E[k] = e := ⟨_, rfl⟩
          rw [he] at hx hy hd hdc HM
          simp only [Ent.v] at hy hd hdc HM
          dsimp only at hx
          have HD := Lib.hid hd
          have HDC := Lib.hid hdc
          clear he hd hdc
          have HOK := Lib.hid (show okO (t, d) = true by have := List.all_eq_true.1 HW.out.1 _ (List.getElem_mem HK.out); rw [HM.out] at this; exact this)
          have hin : inB t 0 255 = true := by have := HOK.out; unfold okO at this; simp at this; exact this.1
          have h253 : d.length ≤ 253 := by have := HOK.out; unfold okO at this; simp at this; exact this.2
          obtain ⟨x, hx1, hx2⟩ := byteOf hin
          have HX2 := Lib.hid hx2
          subst hx1
          obtain ⟨y, hy1⟩ : ∃ y : UInt8, (d.length : Int) + 2 = (y.toNat : Int) := ⟨UInt8.ofNat (d.length + 2), by simp; omega⟩
          have HY := Lib.hid hy1
          have z1 : b < wr.heap.size := by have := HB.out; omega
          have x1 : ((x.toNat : Nat) : Int) < 256 := by have := x.toNat_lt; omega
          have y1 : ((y.toNat : Nat) : Int) < 256 := by have := y.toNat_lt; omega
          have i1 : IntKind.i64.wrap ((d.length : Int) + 2) = (d.length : Int) + 2 := IntWalk.i64_in _ (by omega)
          have u1 : IntKind.u8.wrap (x.toNat : Int) = (x.toNat : Int) := wrapU8 x
          have u2 : IntKind.u8.wrap (y.toNat : Int) = (y.toNat : Int) := wrapU8 y
          have j1 : IntKind.i64.wrap (y.toNat : Int) = (y.toNat : Int) := IntWalk.i64_in _ (by omega)
          have hn64 : n ≤ 255 * 64 := by omega
          have jj1 : (k : Int) < (E.length : Int) := by omega
          have jj0 : (0 : Int) ≤ (k : Int) := by omega
          have hbw : b < W3.heap.size := by have := HB.out; omega
          have HXY := Lib.hid (And.intro hx hy)
          have HNEW := Lib.hid (At.newN wr #[.int .u8 (x.toNat : Int), .int .u8 (y.toNat : Int)] 5 [bv x, bv y] wr.heap.size rfl rfl)
          have HDW := Lib.hid (show At wr W3.heap.size a (d.map bv) from HD.out)
          clear hx2 hin hbB
          go_wp2_with fail
          go_region_held3 (fun w' => w'.cell? ⟨b, o + k * 2, none⟩ = some (.int .i64 (x.toNat : Int)) ∧ w'.cell? ⟨b, o + k * 2 + 1, none⟩ = some (.slice a d.length c2)) (first | (go_keep; done) | (go_simp; done) | (simp [go_sem]; done)) ((refine step_appv W3 rfl (.tmp 70) (.tmp 85) 23 rfl 5 Try.underlying23 (.int .u8 0) 1 1 infoU8 rfl (by decide) (by decide) (.slice A' n c') n ((encs ((E.map Ent.o).take k)).map bv) rfl (by exact own_below HO.out (by (repeat (first | exact Below.refl _ _ | exact Nat.le_refl _ | (refine below_ext ?_ (by first | (simp [size_ext, grow]; done) | (simp [size_ext, grow]; omega) | omega) _ _) | (refine Below.setCell ?_ (by first | (simp [size_ext, grow]; done) | (simp [size_ext, grow]; omega) | omega) _) | (refine Below.alloc ?_ (by first | (simp [size_ext, grow]; done) | (simp [size_ext, grow]; omega) | omega) _) | refine Below.drew ?_ | refine below_drewN ?_ _ | (refine Below.trans ?_ (Below.mono (by assumption) (by first | (simp [size_ext, grow]; done) | (simp [size_ext, grow]; omega) | omega))))))) (wr.heap.size + 1) (some ⟨wr.heap.size, 0, none⟩) 2 2 [bv x, bv y] rfl rfl (by omega) (by exact HNEW.out.keep (by (repeat (first | exact Below.refl _ _ | exact Nat.le_refl _ | (refine below_ext ?_ (by first | (simp [size_ext, grow]; done) | (simp [size_ext, grow]; omega) | omega) _ _) | (refine Below.setCell ?_ (by first | (simp [size_ext, grow]; done) | (simp [size_ext, grow]; omega) | omega) _) | (refine Below.alloc ?_ (by first | (simp [size_ext, grow]; done) | (simp [size_ext, grow]; omega) | omega) _) | refine Below.drew ?_ | refine below_drewN ?_ _ | (refine Below.trans ?_ (Below.mono (by assumption) (by first | (simp [size_ext, grow]; done) | (simp [size_ext, grow]; omega) | omega))))))) (by intro u hu; simp at hu; rcases hu with rfl | rfl <;> rfl) (by have := HBW.out; (repeat (first | exact Below.refl _ _ | exact Nat.le_refl _ | (refine below_ext ?_ (by first | (simp [size_ext, grow]; done) | (simp [size_ext, grow]; omega) | omega) _ _) | (refine Below.setCell ?_ (by first | (simp [size_ext, grow]; done) | (simp [size_ext, grow]; omega) | omega) _) | (refine Below.alloc ?_ (by first | (simp [size_ext, grow]; done) | (simp [size_ext, grow]; omega) | omega) _) | refine Below.drew ?_ | refine below_drewN ?_ _ | (refine Below.trans ?_ (Below.mono (by assumption) (by first | (simp [size_ext, grow]; done) | (simp [size_ext, grow]; omega) | omega)))))) ?_; intro A1 c1 w1 ho1 hc1 hb1 hg1; have q0 : w1.cell? ⟨b, o + k * 2, none⟩ = some (.int .i64 (x.toNat : Int)) := (hb1.cell (p := ⟨b, _, none⟩) hbw).trans ((HBW.out.cell (p := ⟨b, _, none⟩) hbw).symm.trans HXY.out.1); have q1 : w1.cell? ⟨b, o + k * 2 + 1, none⟩ = some (.slice a d.length c2) := (hb1.cell (p := ⟨b, _, none⟩) hbw).trans ((HBW.out.cell (p := ⟨b, _, none⟩) hbw).symm.trans HXY.out.2); have z2 : b < w1.heap.size := (by have := hb1.size; omega); have HO1 := Lib.hid ho1; have HB1 := Lib.hid hb1; have HG1 := Lib.hid hg1; clear ho1 hc1 hb1 hg1))
          go_wp2_with (at_builtin; go_loud (refine wpList_appv W3 rfl (.tmp 87) (.tmp 92) 23 rfl 5 Try.underlying23 (.int .u8 0) 1 1 infoU8 rfl (by decide) (by decide) (.slice A1 (n + 2) c1) (n + 2) ((encs ((E.map Ent.o).take k)).map bv ++ [bv x, bv y]) rfl (by exact own_below HO1.out (by (repeat (first | exact Below.refl _ _ | exact Nat.le_refl _ | (refine below_ext ?_ (by first | (simp [size_ext, grow]; done) | (simp [size_ext, grow]; omega) | omega) _ _) | (refine Below.setCell ?_ (by first | (simp [size_ext, grow]; done) | (simp [size_ext, grow]; omega) | omega) _) | (refine Below.alloc ?_ (by first | (simp [size_ext, grow]; done) | (simp [size_ext, grow]; omega) | omega) _) | refine Below.drew ?_ | refine below_drewN ?_ _ | (refine Below.trans ?_ (Below.mono (by assumption) (by first | (simp [size_ext, grow]; done) | (simp [size_ext, grow]; omega) | omega))))))) W3.heap.size a d.length c2 (d.map bv) rfl (by simp) (by omega) (by exact At.two HDW.out HBW.out HB1.out HB.out) (bv_all _) (by have := HB1.out; (repeat (first | exact Below.refl _ _ | exact Nat.le_refl _ | (refine below_ext ?_ (by first | (simp [size_ext, grow]; done) | (simp [size_ext, grow]; omega) | omega) _ _) | (refine Below.setCell ?_ (by first | (simp [size_ext, grow]; done) | (simp [size_ext, grow]; omega) | omega) _) | (refine Below.alloc ?_ (by first | (simp [size_ext, grow]; done) | (simp [size_ext, grow]; omega) | omega) _) | refine Below.drew ?_ | refine below_drewN ?_ _ | (refine Below.trans ?_ (Below.mono (by assumption) (by first | (simp [size_ext, grow]; done) | (simp [size_ext, grow]; omega) | omega)))))) ?_); intro A3 c3 w3 ho3 hc3 hb3 hg3; have HO3 := Lib.hid ho3; have HB3 := Lib.hid hb3; have HC3 := Lib.hid hc3; clear ho3 hc3 hb3 hg3)
          go_roundw
          case rel => exact ⟨k + 1, n + 2 + d.length, _, _, by omega, by go_num, rfl, HC3.out, by omega, by rw [encs_take HK.out, HM.out, List.length_append, ← HN.out.1]; simp [encO]; omega, HB3.out, by
            rw [encs_take HK.out, HM.out, List.map_append]
            have e : (encO ((x.toNat : Int), d)).map bv = [bv x, bv y] ++ d.map bv := by
              simp only [encO, List.map_cons]
              rw [show UInt8.ofNat (x.toNat : Int).toNat = x from HX2.out, show UInt8.ofNat (d.length + 2) = y from by apply UInt8.toNat.inj; have := HY.out; simp; omega]
              rfl
            rw [e, ← List.append_assoc]
            exact HO3.out⟩
          case measure => simp [intOf]; omega
        · obtain rfl : k = E.length := by omega
          have HT := Lib.hid (show (E.map Ent.o).take E.length = E.map Ent.o from List.take_of_length_le (by simp))
          have HL := Lib.hid (show n = (encs (E.map Ent.o)).length by have := HN.out; rw [HT.out] at this; exact this.1)
          have HO2 := Lib.hid (show At wr wr.heap.size A' ((encs (E.map Ent.o)).map bv) by have h := HO.out; rw [HT.out] at h; exact At.of_own h)
          have hnc := HN.out.2
          go_wp2_with fail
          refine (dec_any A' n c' (encs (E.map Ent.o)) _ _ (Nat.le_refl _) HO2.out HL.out hnc).mono ?_
          rintro e w1 h1
          obtain ⟨E7, A7, n7, c7, rfl, hb, ho, he, hne, hc7, hl7⟩ := h1.get G.out.2
          clear h1
          obtain ⟨xs7, dr7, rfl⟩ := ext_of hb
          clear hb
          have HO7 := Lib.hid ho
          have HE7 := Lib.hid he
          have HN7 := Lib.hid hne
          clear ho he hne
          go_wp2_with fail
          refine (same_ref A7 A n7 E.length c7 c E7 E _ _ (Nat.le_refl _) HO7.out.at (HE.out.move (by have := HBW.out; (repeat (first | exact Below.refl _ _ | exact Nat.le_refl _ | (refine below_ext ?_ (by first | (simp [size_ext, grow]; done) | (simp [size_ext, grow]; omega) | omega) _ _) | (refine Below.setCell ?_ (by first | (simp [size_ext, grow]; done) | (simp [size_ext, grow]; omega) | omega) _) | (refine Below.alloc ?_ (by first | (simp [size_ext, grow]; done) | (simp [size_ext, grow]; omega) | omega) _) | refine Below.drew ?_ | refine below_drewN ?_ _ | (refine Below.trans ?_ (Below.mono (by assumption) (by first | (simp [size_ext, grow]; done) | (simp [size_ext, grow]; omega) | omega)))))) (by simp [size_ext, grow]; omega)) HN7.out rfl (by omega)).mono ?_
          rw [HE7.out, same_self]
          rintro e w1 ⟨rfl, hb⟩
          obtain ⟨xs8, dr8, rfl⟩ := ext_of hb
          clear hb
          go_wp2_with fail
          go_ret
          exact ⟨rfl, by have h3 := HBW3.out; have h4 := h3.trans (HBW.out.mono hsz3); have h5 := h4.size; (repeat (first | exact Below.refl _ _ | exact Nat.le_refl _ | (refine below_ext ?_ (by first | (simp [size_ext, grow]; done) | (simp [size_ext, grow]; omega) | omega) _ _) | (refine Below.setCell ?_ (by first | (simp [size_ext, grow]; done) | (simp [size_ext, grow]; omega) | omega) _) | (refine Below.alloc ?_ (by first | (simp [size_ext, grow]; done) | (simp [size_ext, grow]; omega) | omega) _) | refine Below.drew ?_ | refine below_drewN ?_ _ | (refine Below.trans ?_ (Below.mono (by assumption) (by first | (simp [size_ext, grow]; done) | (simp [size_ext, grow]; omega) | omega)))))⟩
    · have G := Lib.hid (And.intro g1 g2)
      have x1 : (want != want) = false := by simp
      have x2 : (want != 0) = true := by simpa using hw0
      have HW0 := Lib.hid hw0
      clear g1 g2 hw0
      refine (enc_any A n c E _ W0.heap.size (Nat.le_refl _) HO.out.at HN.out).mono ?_
      rintro e w1 h1
      obtain ⟨A2, c2, rfl, hb, ho, hc2⟩ := h1.get G.out.1 (rfl : ([] : List UInt8).length = 0)
      clear h1
      obtain ⟨xs2, dr2, rfl⟩ := ext_of hb
      clear hb
      have HO2 := Lib.hid ho
      clear ho
      go_wp2_with fail
      refine (awake_any _).mono ?_
      rintro e w1 ⟨rfl, hb⟩
      obtain ⟨xs3, dr3, rfl⟩ := ext_of hb
      clear hb
      go_wp2_with fail
      have hnn := HN.out
      clear HN
      subst hnn
      obtain ⟨W3, hW3⟩ : ∃ W3, W3 = ext (ext W0 xs2 dr2) xs3 dr3 := ⟨_, rfl⟩
      have HBW3 := Lib.hid (show Below w.heap.size w W3 by rw [hW3]; have := HBW.out; (repeat (first | exact Below.refl _ _ | exact Nat.le_refl _ | (refine below_ext ?_ (by first | (simp [size_ext, grow]; done) | (simp [size_ext, grow]; omega) | omega) _ _) | (refine Below.setCell ?_ (by first | (simp [size_ext, grow]; done) | (simp [size_ext, grow]; omega) | omega) _) | (refine Below.alloc ?_ (by first | (simp [size_ext, grow]; done) | (simp [size_ext, grow]; omega) | omega) _) | refine Below.drew ?_ | refine below_drewN ?_ _ | (refine Below.trans ?_ (Below.mono (by assumption) (by first | (simp [size_ext, grow]; done) | (simp [size_ext, grow]; omega) | omega))))))
      have HE := Lib.hid (show OptsAt W3 W3.heap.size A E by rw [hW3]; exact OptsAt.move HO.out.at (by (repeat (first | exact Below.refl _ _ | exact Nat.le_refl _ | (refine below_ext ?_ (by first | (simp [size_ext, grow]; done) | (simp [size_ext, grow]; omega) | omega) _ _) | (refine Below.setCell ?_ (by first | (simp [size_ext, grow]; done) | (simp [size_ext, grow]; omega) | omega) _) | (refine Below.alloc ?_ (by first | (simp [size_ext, grow]; done) | (simp [size_ext, grow]; omega) | omega) _) | refine Below.drew ?_ | refine below_drewN ?_ _ | (refine Below.trans ?_ (Below.mono (by assumption) (by first | (simp [size_ext, grow]; done) | (simp [size_ext, grow]; omega) | omega)))))) (by simp [go_sem]))
      have hsz3 := HBW3.out.size
      have HB := Lib.hid (Nat.le_refl W3.heap.size)
      rw [← hW3]
      clear hW3 HBW HO hsz
      go_loopw [12, 11] (fun i v wr => ∃ (k n c : Nat) (A : Option Addr), k ≤ E.length ∧ i = .int .i64 k ∧ v = .slice A n c ∧ n ≤ c ∧ n ≤ 255 * k ∧ n = (encs ((E.map Ent.o).take k)).length ∧ Below W3.heap.size W3 wr ∧ wr.ownsRow W3.heap.size 5 1 (.slice A n c) n ((encs ((E.map Ent.o).take k)).map bv)) (fun i _ _ => E.length - (intOf i).toNat)
      case atStart => exact ⟨0, 0, 0, none, Nat.zero_le _, rfl, rfl, Nat.le_refl _, by omega, rfl, Below.refl _ _, own_nil _ _ _ _⟩
      case round =>
        obtain ⟨k, n, c', A', hk, rfl, rfl, hnc, hn5, hn, hb, ho⟩ := hrel
        have HN := Lib.hid (And.intro hn hnc)
        have HBW := Lib.hid hb
        have HO := Lib.hid ho
        have hsz := hb.size
        clear hn hnc hb ho
        by_cases hlt : k < E.length
        · obtain ⟨b, o, rfl, hbB, hx, hy⟩ := (HE.out.keep (HBW.out.mono HB.out)).get hlt
          obtain ⟨hd, hdc⟩ := (HE.out.keep (HBW.out.mono HB.out)).2 E[k] (List.getElem_mem hlt)
          have HM := Lib.hid (map_o E k hlt)
          have HK := Lib.hid (show k < (E.map Ent.o).length by simpa using hlt)
          obtain ⟨⟨t, d, a, c2⟩, he⟩ : ∃ e, E[k] = e := ⟨_, rfl⟩
          rw [he] at hx hy hd hdc HM
          simp only [Ent.v] at hy hd hdc HM
          dsimp only at hx
          have HD := Lib.hid hd
          have HDC := Lib.hid hdc
          clear he hd hdc
          have HOK := Lib.hid (show okO (t, d) = true by have := List.all_eq_true.1 HW.out.1 _ (List.getElem_mem HK.out); rw [HM.out] at this; exact this)
          have hin : inB t 0 255 = true := by have := HOK.out; unfold okO at this; simp at this; exact this.1
          have h253 : d.length ≤ 253 := by have := HOK.out; unfold okO at this; simp at this; exact this.2
          obtain ⟨x, hx1, hx2⟩ := byteOf hin
          have HX2 := Lib.hid hx2
          subst hx1
          obtain ⟨y, hy1⟩ : ∃ y : UInt8, (d.length : Int) + 2 = (y.toNat : Int) := ⟨UInt8.ofNat (d.length + 2), by simp; omega⟩
          have HY := Lib.hid hy1
          have z1 : b < wr.heap.size := by have := HB.out; omega
          have x1 : ((x.toNat : Nat) : Int) < 256 := by have := x.toNat_lt; omega
          have y1 : ((y.toNat : Nat) : Int) < 256 := by have := y.toNat_lt; omega
          have i1 : IntKind.i64.wrap ((d.length : Int) + 2) = (d.length : Int) + 2 := IntWalk.i64_in _ (by omega)
          have u1 : IntKind.u8.wrap (x.toNat : Int) = (x.toNat : Int) := wrapU8 x
          have u2 : IntKind.u8.wrap (y.toNat : Int) = (y.toNat : Int) := wrapU8 y
          have j1 : IntKind.i64.wrap (y.toNat : Int) = (y.toNat : Int) := IntWalk.i64_in _ (by omega)
          have hn64 : n ≤ 255 * 64 := by omega
          have jj1 : (k : Int) < (E.length : Int) := by omega
          have jj0 : (0 : Int) ≤ (k : Int) := by omega
          have hbw : b < W3.heap.size := by have := HB.out; omega
          have HXY := Lib.hid (And.intro hx hy)
          have HNEW := Lib.hid (At.newN wr #[.int .u8 (x.toNat : Int), .int .u8 (y.toNat : Int)] 5 [bv x, bv y] wr.heap.size rfl rfl)
          have HDW := Lib.hid (show At wr W3.heap.size a (d.map bv) from HD.out)
          clear hx2 hin hbB
          go_wp2_with fail
          go_region_held3 (fun w' => w'.cell? ⟨b, o + k * 2, none⟩ = some (.int .i64 (x.toNat : Int)) ∧ w'.cell? ⟨b, o + k * 2 + 1, none⟩ = some (.slice a d.length c2)) (first | (go_keep; done) | (go_simp; done) | (simp [go_sem]; done)) ((refine step_appv W3 rfl (.tmp 70) (.tmp 85) 23 rfl 5 Try.underlying23 (.int .u8 0) 1 1 infoU8 rfl (by decide) (by decide) (.slice A' n c') n ((encs ((E.map Ent.o).take k)).map bv) rfl (by exact own_below HO.out (by (repeat (first | exact Below.refl _ _ | exact Nat.le_refl _ | (refine below_ext ?_ (by first | (simp [size_ext, grow]; done) | (simp [size_ext, grow]; omega) | omega) _ _) | (refine Below.setCell ?_ (by first | (simp [size_ext, grow]; done) | (simp [size_ext, grow]; omega) | omega) _) | (refine Below.alloc ?_ (by first | (simp [size_ext, grow]; done) | (simp [size_ext, grow]; omega) | omega) _) | refine Below.drew ?_ | refine below_drewN ?_ _ | (refine Below.trans ?_ (Below.mono (by assumption) (by first | (simp [size_ext, grow]; done) | (simp [size_ext, grow]; omega) | omega))))))) (wr.heap.size + 1) (some ⟨wr.heap.size, 0, none⟩) 2 2 [bv x, bv y] rfl rfl (by omega) (by exact HNEW.out.keep (by (repeat (first | exact Below.refl _ _ | exact Nat.le_refl _ | (refine below_ext ?_ (by first | (simp [size_ext, grow]; done) | (simp [size_ext, grow]; omega) | omega) _ _) | (refine Below.setCell ?_ (by first | (simp [size_ext, grow]; done) | (simp [size_ext, grow]; omega) | omega) _) | (refine Below.alloc ?_ (by first | (simp [size_ext, grow]; done) | (simp [size_ext, grow]; omega) | omega) _) | refine Below.drew ?_ | refine below_drewN ?_ _ | (refine Below.trans ?_ (Below.mono (by assumption) (by first | (simp [size_ext, grow]; done) | (simp [size_ext, grow]; omega) | omega))))))) (by intro u hu; simp at hu; rcases hu with rfl | rfl <;> rfl) (by have := HBW.out; (repeat (first | exact Below.refl _ _ | exact Nat.le_refl _ | (refine below_ext ?_ (by first | (simp [size_ext, grow]; done) | (simp [size_ext, grow]; omega) | omega) _ _) | (refine Below.setCell ?_ (by first | (simp [size_ext, grow]; done) | (simp [size_ext, grow]; omega) | omega) _) | (refine Below.alloc ?_ (by first | (simp [size_ext, grow]; done) | (simp [size_ext, grow]; omega) | omega) _) | refine Below.drew ?_ | refine below_drewN ?_ _ | (refine Below.trans ?_ (Below.mono (by assumption) (by first | (simp [size_ext, grow]; done) | (simp [size_ext, grow]; omega) | omega)))))) ?_; intro A1 c1 w1 ho1 hc1 hb1 hg1; have q0 : w1.cell? ⟨b, o + k * 2, none⟩ = some (.int .i64 (x.toNat : Int)) := (hb1.cell (p := ⟨b, _, none⟩) hbw).trans ((HBW.out.cell (p := ⟨b, _, none⟩) hbw).symm.trans HXY.out.1); have q1 : w1.cell? ⟨b, o + k * 2 + 1, none⟩ = some (.slice a d.length c2) := (hb1.cell (p := ⟨b, _, none⟩) hbw).trans ((HBW.out.cell (p := ⟨b, _, none⟩) hbw).symm.trans HXY.out.2); have z2 : b < w1.heap.size := (by have := hb1.size; omega); have HO1 := Lib.hid ho1; have HB1 := Lib.hid hb1; have HG1 := Lib.hid hg1; clear ho1 hc1 hb1 hg1))
          go_wp2_with (at_builtin; go_loud (refine wpList_appv W3 rfl (.tmp 87) (.tmp 92) 23 rfl 5 Try.underlying23 (.int .u8 0) 1 1 infoU8 rfl (by decide) (by decide) (.slice A1 (n + 2) c1) (n + 2) ((encs ((E.map Ent.o).take k)).map bv ++ [bv x, bv y]) rfl (by exact own_below HO1.out (by (repeat (first | exact Below.refl _ _ | exact Nat.le_refl _ | (refine below_ext ?_ (by first | (simp [size_ext, grow]; done) | (simp [size_ext, grow]; omega) | omega) _ _) | (refine Below.setCell ?_ (by first | (simp [size_ext, grow]; done) | (simp [size_ext, grow]; omega) | omega) _) | (refine Below.alloc ?_ (by first | (simp [size_ext, grow]; done) | (simp [size_ext, grow]; omega) | omega) _) | refine Below.drew ?_ | refine below_drewN ?_ _ | (refine Below.trans ?_ (Below.mono (by assumption) (by first | (simp [size_ext, grow]; done) | (simp [size_ext, grow]; omega) | omega))))))) W3.heap.size a d.length c2 (d.map bv) rfl (by simp) (by omega) (by exact At.two HDW.out HBW.out HB1.out HB.out) (bv_all _) (by have := HB1.out; (repeat (first | exact Below.refl _ _ | exact Nat.le_refl _ | (refine below_ext ?_ (by first | (simp [size_ext, grow]; done) | (simp [size_ext, grow]; omega) | omega) _ _) | (refine Below.setCell ?_ (by first | (simp [size_ext, grow]; done) | (simp [size_ext, grow]; omega) | omega) _) | (refine Below.alloc ?_ (by first | (simp [size_ext, grow]; done) | (simp [size_ext, grow]; omega) | omega) _) | refine Below.drew ?_ | refine below_drewN ?_ _ | (refine Below.trans ?_ (Below.mono (by assumption) (by first | (simp [size_ext, grow]; done) | (simp [size_ext, grow]; omega) | omega)))))) ?_); intro A3 c3 w3 ho3 hc3 hb3 hg3; have HO3 := Lib.hid ho3; have HB3 := Lib.hid hb3; have HC3 := Lib.hid hc3; clear ho3 hc3 hb3 hg3)
          go_roundw
          case rel => exact ⟨k + 1, n + 2 + d.length, _, _, by omega, by go_num, rfl, HC3.out, by omega, by rw [encs_take HK.out, HM.out, List.length_append, ← HN.out.1]; simp [encO]; omega, HB3.out, by
            rw [encs_take HK.out, HM.out, List.map_append]
            have e : (encO ((x.toNat : Int), d)).map bv = [bv x, bv y] ++ d.map bv := by
              simp only [encO, List.map_cons]
              rw [show UInt8.ofNat (x.toNat : Int).toNat = x from HX2.out, show UInt8.ofNat (d.length + 2) = y from by apply UInt8.toNat.inj; have := HY.out; simp; omega]
              rfl
            rw [e, ← List.append_assoc]
            exact HO3.out⟩
          case measure => simp [intOf]; omega
        · obtain rfl : k = E.length := by omega
          have HT := Lib.hid (show (E.map Ent.o).take E.length = E.map Ent.o from List.take_of_length_le (by simp))
          have HL := Lib.hid (show n = (encs (E.map Ent.o)).length by have := HN.out; rw [HT.out] at this; exact this.1)
          have HO2 := Lib.hid (show At wr wr.heap.size A' ((encs (E.map Ent.o)).map bv) by have h := HO.out; rw [HT.out] at h; exact At.of_own h)
          have hnc := HN.out.2
          go_wp2_with fail
          refine (dec_any A' n c' (encs (E.map Ent.o)) _ _ (Nat.le_refl _) HO2.out HL.out hnc).mono ?_
          rintro e w1 h1
          obtain ⟨E7, A7, n7, c7, rfl, hb, ho, he, hne, hc7, hl7⟩ := h1.get G.out.2
          clear h1
          obtain ⟨xs7, dr7, rfl⟩ := ext_of hb
          clear hb
          have HO7 := Lib.hid ho
          have HE7 := Lib.hid he
          have HN7 := Lib.hid hne
          clear ho he hne
          go_wp2_with fail
          go_ret
          exact ⟨rfl, by have h3 := HBW3.out; have h4 := h3.trans (HBW.out.mono hsz3); have h5 := h4.size; (repeat (first | exact Below.refl _ _ | exact Nat.le_refl _ | (refine below_ext ?_ (by first | (simp [size_ext, grow]; done) | (simp [size_ext, grow]; omega) | omega) _ _) | (refine Below.setCell ?_ (by first | (simp [size_ext, grow]; done) | (simp [size_ext, grow]; omega) | omega) _) | (refine Below.alloc ?_ (by first | (simp [size_ext, grow]; done) | (simp [size_ext, grow]; omega) | omega) _) | refine Below.drew ?_ | refine below_drewN ?_ _ | (refine Below.trans ?_ (Below.mono (by assumption) (by first | (simp [size_ext, grow]; done) | (simp [size_ext, grow]; omega) | omega)))))⟩
theorem optsEnds_calls {H : Type} (enc : TypeId × Value → H) (W : World) (base : Nat) (v0 v1 : Value) (d0 d1 : DataW H) (p0 p1 : List MemPlace)
    (o0 : Value.okWide Try.prog W .any base 5 v0) (o1 : Value.okWide Try.prog W .any base 4 v1)
    (h0 : DataW.Trod enc Try.prog W 0 (fun _ => true) true 5 v0 d0 p0) (h1 : DataW.Trod enc Try.prog W 0 (fun _ => true) true 4 v1 d1 p1) :
    Calls Try.prog 7 #[v0, v1] W fun e W' => e = .returned (.bool true) ∧ Below W.heap.size W W' := by
  obtain ⟨i0, rfl, rfl, rfl, w0⟩ := open_int Try.underlying5 o0 h0
  obtain ⟨b, rfl, rfl, rfl⟩ := open_bool Try.underlying4 o1 h1
  have b0 : 0 ≤ i0 ∧ i0 ≤ 255 := by simpa [Lit.wf, IntKind.min, IntKind.max, IntKind.signed, IntKind.bits] using w0
  obtain ⟨j0, rfl⟩ := Int.eq_ofNat_of_zero_le b0.1
  exact ends_any j0 b W (by omega)
end Go.Proofs.Ytbdkapmiioiikaa
