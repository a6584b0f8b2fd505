/- OptsOwn: its walk. -/
import Derived.Test.YtbdkapmiioiikaaH25
namespace Go.Proofs.Ytbdkapmiioiikaa
open Go.ChangeShapes Go.WideShapes Go.ChangeAt Go.RowKit Go.Joins Go.Deep
set_option linter.unusedSimpArgs false
set_option linter.unusedVariables false
set_option maxRecDepth 100000 in
set_option maxHeartbeats 2000000 in
theorem own_any (A : Option Addr) (n c : Nat) (E : List Ent) (typ x : Int) (w : World) (hE : OptsAt w w.heap.size A E) (hn : n = E.length) (hn2 : (n : Int) ≤ 9223372036854775807) (hd : ∀ e ∈ E, (e.d.length : Int) ≤ 9223372036854775807) :
    Calls Try.prog 8 #[.slice A n c, .int .i64 typ, .int .u8 x] w fun e w' => e = .returned (.bool true) ∧ Below w.heap.size w w' := by
  have HE := Lib.hid hE
  have HN := Lib.hid hn
  have HD := Lib.hid hd
  clear hE hn hd
  go_enter Try.func8, Try.ntmps8
  go_wp2_with fail
  refine (few_any A n c E _ _ (Nat.le_refl _) HE.out HN.out hn2 HD.out).mono ?_
  rintro e W1 ⟨A1, n1, c1, rfl, hb1, ho, hn⟩
  have HA1 := Lib.hid (few_at HE.out (Nat.le_refl _) hb1 ho)
  have hl1 : n1 ≤ 70 := by rw [hn]; exact few_len _
  have HN1 := Lib.hid hn
  have HB1 := Lib.hid hb1
  have z1 := hb1.size
  have HDT := Lib.hid (few_data E)
  clear hn ho hb1
  generalize fewE E = F at HA1 HN1 HDT
  go_wp2_with fail
  obtain ⟨⟨y, ye⟩, hR⟩ : ∃ R, encR (F.map Ent.o) = R := ⟨_, rfl⟩
  obtain ⟨yn, hyn⟩ : ∃ n, y.length = n := ⟨_, rfl⟩
  have HR := Lib.hid hR
  have HYN := Lib.hid hyn
  clear hR hyn
  refine (enc_any A1 n1 c1 F _ _ (Nat.le_refl _) HA1.out HN1.out).mono ?_
  rintro e W2 h1
  obtain ⟨A2, c2, rfl, hb2, ho2, hc2⟩ := h1.get HR.out HYN.out
  clear h1
  have HO2 := Lib.hid ho2
  have HB2 := Lib.hid hb2
  have z2 := hb2.size
  clear hb2 ho2
  by_cases hye : ye = 0
  · subst hye
    have HBK := Lib.hid (back_enc HR.out)
    have q1 : ∀ W : World, At W W2.heap.size A2 (y.map bv) → (convert 23 9 (.slice A2 yn c2)).run Try.prog W = .ok (.string ⟨y.toArray⟩) W := fun W h => run_str Try.underlying23 Try.underlying5 Try.underlying9 HYN.out.symm h
    have h2 := At.of_own HO2.out
    go_wp2_with fail
    have H2 := Lib.hid h2
    clear h2
    refine (dec_any A2 yn c2 y _ _ (Nat.le_refl _) H2.out HYN.out.symm hc2).mono ?_
    rintro e W3 h1
    obtain ⟨E3, A3, n3, c3, rfl, hb3, ho3, he3, hne3, hc3, hl3⟩ := h1.get HBK.out
    clear h1
    have HO3 := Lib.hid ho3
    have HE3 := Lib.hid he3
    have HN3 := Lib.hid hne3
    have HB3 := Lib.hid hb3
    have z3 := hb3.size
    clear hb3 ho3 he3 hne3
    go_wp2_with fail
    refine (find_any A3 n3 c3 typ E3 _ _ (Nat.le_refl _) HO3.out.at HN3.out (by omega) (fun e he => by have := same_data HE3.out HDT.out e he; omega)).mono ?_
    rintro e W4 ⟨⟨t4, d4, a4, c4⟩, rfl, hb4, -, hc4, hf4, ho4⟩
    have hd4 : d4.length ≤ 260 := by have h := findN_len (typ := typ) (same_data HE3.out HDT.out); rw [← hf4] at h; exact h
    clear hf4
    have HO4 := Lib.hid (ho4 rfl)
    have HB4 := Lib.hid hb4
    have z4 := hb4.size
    clear hb4 ho4
    simp only [Ent.v] at HO4 hc4 ⊢
    obtain ⟨n4, hn4⟩ : ∃ n, d4.length = n := ⟨_, rfl⟩
    rw [hn4] at hc4 hd4 HO4 ⊢
    have HS4 := Lib.hid (show SoftRow W4 W3.heap.size (.slice a4 n4 c4) n4 from ⟨_, HO4.out⟩)
    clear hn4 HO4
    go_wp2_with fail
    refine (rdec_any A2 yn c2 y _ W2.heap.size (by simp; omega) (H2.out.keep (by have h3 := HB3.out; have h4 := h3.trans (HB4.out.mono z3); (repeat (first | exact Below.refl _ _ | exact Nat.le_refl _ | (refine below_ext ?_ (by first | (simp [size_ext, grow]; done) | (simp [size_ext, grow]; omega) | omega) _ _) | (refine Below.setCell ?_ (by first | (simp [size_ext, grow]; done) | (simp [size_ext, grow]; omega) | omega) _) | (refine Below.alloc ?_ (by first | (simp [size_ext, grow]; done) | (simp [size_ext, grow]; omega) | omega) _) | refine Below.drew ?_ | refine below_drewN ?_ _ | (refine Below.trans ?_ (Below.mono (by assumption) (by first | (simp [size_ext, grow]; done) | (simp [size_ext, grow]; omega) | omega))))))) HYN.out.symm hc2).mono ?_
    rintro e W5 h1
    obtain ⟨E5, A5, n5, c5, rfl, hb5, ho5, he5, hne5, hc5, hl5⟩ := h1.get HBK.out
    clear h1
    have HO5 := Lib.hid ho5
    have HE5 := Lib.hid he5
    have HN5 := Lib.hid hne5
    have HB5 := Lib.hid hb5
    have z5 := hb5.size
    simp only [World.size_alloc] at z5
    clear hb5 ho5 he5 hne5
    have HP5 := Lib.hid (show W5.heap[W4.heap.size]? = some (.cells #[.int .i64 t4, .slice a4 n4 c4] 36 (0, 0)) from (HB5.out.block _ (by simp)).trans (heap_alloc_new W4 _))
    have HL4 := Lib.hid HS4.out.lt
    have HB45 := Lib.hid (show Below W4.heap.size W4 W5 from ((Below.refl _ W4).alloc (Nat.le_refl _) _).trans (HB5.out.mono (by simp)))
    have HB35 := Lib.hid (HB4.out.trans (HB45.out.mono z4))
    have HS5 := Lib.hid (show SoftRow W5 W3.heap.size (.slice a4 n4 c4) n4 by obtain ⟨xs, h⟩ := HS4.out; exact ⟨xs, own_below h HB45.out⟩)
    have HO35 := Lib.hid (HO3.out.below HB35.out)
    have HL3 := Lib.hid (show ∀ e ∈ E3, ∀ g, e.v.ownBlock = some g → g < W3.heap.size from fun e he g hg => own_lt (HO3.out.2 e he) hg)
    have zz4 : W4.heap.size ≤ W5.heap.size := by omega
    have HBW5 := Lib.hid (show Below w.heap.size w W5 from HB1.out.trans ((HB2.out.trans ((HB3.out.trans (HB35.out.mono z3)).mono z2)).mono z1))
    have HBW15 := Lib.hid (show Below W1.heap.size W1 W5 from HB2.out.trans ((HB3.out.trans (HB35.out.mono z3)).mono z2))
    have HBW25 := Lib.hid (show Below W2.heap.size W2 W5 from HB3.out.trans (HB35.out.mono z3))
    clear q1
    go_wp2_with fail
    go_loopw [16] (fun i wr => ∃ k : Nat, k ≤ n4 ∧ i = .int .i64 k ∧ Mid W3.heap.size W4.heap.size W5 wr ∧ SoftRow wr W3.heap.size (.slice a4 n4 c4) n4) (fun i _ => n4 - (intOf i).toNat)
    case atStart => exact ⟨0, Nat.zero_le _, rfl, Mid.refl _ _ _, HS5.out⟩
    case round =>
      obtain ⟨k, hk, rfl, hm, hs⟩ := hrel
      have HM := Lib.hid hm
      have HS := Lib.hid hs
      have hz := hm.size
      have p1 : wr.cell? ⟨W4.heap.size, 1, none⟩ = some (.slice a4 n4 c4) := (cell_of_row wr _ 1 _ _ (0, 0) ((hm.high _ (Nat.le_refl _)).trans HP5.out)).trans rfl
      clear hm hs
      have pz : W4.heap.size < wr.heap.size := by omega
      have HZ := Lib.hid hz
      clear hz
      by_cases hlt : k < n4
      · obtain ⟨g, u, rfl, hg1, hg2, hc, hf, hcur⟩ := HS.out.at hlt
        have HG := Lib.hid (And.intro hg1 hcur)
        clear hg1 hcur
        go_wp2
        go_roundw
        case rel => exact ⟨k + 1, by omega, by go_num, HM.out.store HG.out.1 (HL4.out _ rfl) _, HS.out.store _ _ _⟩
        case measure => simp [intOf]; omega
      · obtain rfl : k = n4 := by omega
        have HBM := Lib.hid (show Below W3.heap.size W3 wr from HB35.out.trans HM.out.below)
        obtain ⟨W6, hW6⟩ : ∃ W6, W6 = wr := ⟨_, rfl⟩
        rw [← hW6] at HM HS HZ HBM pz p1 ⊢
        clear hW6
        have HO56 := Lib.hid (HO5.out.high HM.out (by simp))
        have hz36 : W3.heap.size ≤ W6.heap.size := HBM.out.size
        go_wp2_with fail
        clear p1
        refine (same_ref A3 A5 n3 n5 c3 c5 E3 E5 _ _ (Nat.le_refl _) ((HO3.out.at.keep HBM.out).more hz36) HO56.out.at HN3.out HN5.out (by omega)).mono ?_
        rw [HE3.out, HE5.out, same_self]
        rintro e W7 ⟨rfl, hb7⟩
        have z7 := hb7.size
        have HB7 := Lib.hid hb7
        clear hb7
        have HBM7 := Lib.hid (show Below W3.heap.size W3 W7 from HBM.out.trans (HB7.out.mono hz36))
        have HO57 := Lib.hid (HO56.out.below HB7.out)
        have HS7 := Lib.hid (show Sof W7 W2.heap.size (.slice A3 n3 c3) E3 from Sof.of (HO3.out.below HBM7.out))
        go_wp2_with fail
        go_loopw [17] (fun i wr => ∃ k : Nat, k ≤ n3 ∧ i = .int .i64 k ∧ Mid W2.heap.size W3.heap.size W7 wr ∧ Sof wr W2.heap.size (.slice A3 n3 c3) E3) (fun i _ => n3 - (intOf i).toNat)
        case atStart => exact ⟨0, Nat.zero_le _, rfl, Mid.refl _ _ _, HS7.out⟩
        case round =>
          obtain ⟨k, hk, rfl, hm, hs⟩ := hrel
          have HM8 := Lib.hid hm
          have HS8 := Lib.hid hs
          clear hm hs
          obtain ⟨W8, hW8⟩ : ∃ W8, W8 = wr := ⟨_, rfl⟩
          rw [← hW8] at HM8 HS8 ⊢
          clear hW8
          by_cases hlt : k < n3
          · have HK := Lib.hid (show k < E3.length by rw [← HN3.out]; exact hlt)
            go_wp2_with fail
            go_loopw [18] (fun i wr => ∃ j : Nat, j ≤ (E3[k]'HK.out).d.length ∧ i = .int .i64 j ∧ Mid W2.heap.size W3.heap.size W7 wr ∧ Sof wr W2.heap.size (.slice A3 n3 c3) E3) (fun i _ => (E3[k]'HK.out).d.length - (intOf i).toNat)
            case atStart => exact ⟨0, Nat.zero_le _, rfl, HM8.out, HS8.out⟩
            case round =>
              obtain ⟨j, hj, rfl, hm, hs⟩ := hrel
              have HM9 := Lib.hid hm
              have HS9 := Lib.hid hs
              obtain ⟨b, o, rfl, hb, -, hc1⟩ := row_get (At.of_own (show wr.ownsRow W2.heap.size 36 2 (.slice A3 n3 c3) n3 (cellsE E3) by have h := hs.1; rw [← HN3.out] at h; exact h)) HK.out
              have HSR := Lib.hid (hs.2 _ (List.getElem_mem HK.out))
              have HLT := Lib.hid (HL3.out _ (List.getElem_mem HK.out))
              clear hm hs
              have hd260 := same_data HE3.out HDT.out _ (List.getElem_mem HK.out)
              obtain ⟨⟨te, de, ae, ce⟩, he⟩ : ∃ e, E3[k]'HK.out = e := ⟨_, rfl⟩
              rw [he] at hc1 HSR HLT hd260 hj
              simp only [Ent.v] at hc1 HSR HLT hd260 hj
              have HEQ := Lib.hid he
              clear he
              obtain ⟨ne, hne⟩ : ∃ n, de.length = n := ⟨_, rfl⟩
              rw [hne] at hc1 HSR HLT hd260 hj
              have HNE := Lib.hid hne
              clear hne
              by_cases hjl : j < ne
              · obtain ⟨g, u, rfl, hg1, hg2, hc, hf, hcur⟩ := HSR.out.at hjl
                have HG := Lib.hid (And.intro hg1 hcur)
                clear hg1 hcur
                go_wp2
                go_roundw
                case rel => exact ⟨j + 1, by rw [HEQ.out]; have := HNE.out; simp only; omega, by go_num, HM9.out.store HG.out.1 (HLT.out _ rfl) _, HS9.out.store HG.out.2 _⟩
                case measure => rw [HEQ.out]; have := HNE.out; simp [intOf]; omega
              · obtain rfl : j = ne := by omega
                go_wp2
                go_roundw
                case rel => exact ⟨k + 1, by omega, by go_num, HM9.out, HS9.out⟩
                case measure => simp [intOf]; omega
          · obtain rfl : k = n3 := by omega
            have z8 := HM8.out.size
            have HW68 := Lib.hid (show Below W2.heap.size W6 W8 from (HB7.out.mono (by omega)).trans HM8.out.below)
            have HW58 := Lib.hid (show Below W2.heap.size W5 W8 from (HM.out.below.mono z3).trans HW68.out)
            have HW28 := Lib.hid (show Below W2.heap.size W2 W8 from HBW25.out.trans HW58.out)
            have HW18 := Lib.hid (show Below W1.heap.size W1 W8 from HBW15.out.trans (HW58.out.mono z2))
            have HW08 := Lib.hid (show Below w.heap.size w W8 from HBW5.out.trans (HW58.out.mono (by omega)))
            have HO58 := Lib.hid (HO57.out.high HM8.out (by simp; omega))
            have q1 : ∀ W : World, At W W2.heap.size A2 (y.map bv) → (convert 23 9 (.slice A2 yn c2)).run Try.prog W = .ok (.string ⟨y.toArray⟩) W := fun W h => run_str Try.underlying23 Try.underlying5 Try.underlying9 HYN.out.symm h
            have g2 : At W8 W2.heap.size A2 (y.map bv) := H2.out.keep HW28.out
            go_wp2_with fail
            clear q1 g2
            refine (same_ref A1 A5 n1 n5 c1 c5 F E5 _ _ (Nat.le_refl _) ((HA1.out.keep HW18.out).more (by omega)) HO58.out.at HN1.out HN5.out (by omega)).mono ?_
            rw [HE5.out, same_self]
            rintro e w1 ⟨rfl, hb⟩
            obtain ⟨xs9, dr9, rfl⟩ := ext_of hb
            clear hb
            go_wp2_with fail
            refine (awake_any _).mono ?_
            rintro e w1 ⟨rfl, hb⟩
            obtain ⟨xs10, dr10, rfl⟩ := ext_of hb
            clear hb
            go_wp2_with fail
            go_ret
            exact ⟨rfl, by have h1 := HW08.out; have h2 := h1.size; (repeat (first | exact Below.refl _ _ | exact Nat.le_refl _ | (refine below_ext ?_ (by first | (simp [size_ext, grow]; done) | (simp [size_ext, grow]; omega) | omega) _ _) | (refine Below.setCell ?_ (by first | (simp [size_ext, grow]; done) | (simp [size_ext, grow]; omega) | omega) _) | (refine Below.alloc ?_ (by first | (simp [size_ext, grow]; done) | (simp [size_ext, grow]; omega) | omega) _) | refine Below.drew ?_ | refine below_drewN ?_ _ | (refine Below.trans ?_ (Below.mono (by assumption) (by first | (simp [size_ext, grow]; done) | (simp [size_ext, grow]; omega) | omega)))))⟩
  · have y0 := encR_err HR.out hye
    have yn0 : yn = 0 := by rw [← HYN.out, y0]; rfl
    subst yn0
    clear y0
    have x1 : (ye == 0) = false := by simpa using hye
    have x2 : (ye != 0) = true := by simpa using hye
    go_wp2_with fail
    refine (awake_any _).mono ?_
    rintro e w1 ⟨rfl, hb⟩
    obtain ⟨xs3, dr3, rfl⟩ := ext_of hb
    clear hb
    go_wp2_with fail
    go_ret
    exact ⟨rfl, by have h1 := HB1.out; have h2 := h1.trans (HB2.out.mono z1); have h3 := h2.size; (repeat (first | exact Below.refl _ _ | exact Nat.le_refl _ | (refine below_ext ?_ (by first | (simp [size_ext, grow]; done) | (simp [size_ext, grow]; omega) | omega) _ _) | (refine Below.setCell ?_ (by first | (simp [size_ext, grow]; done) | (simp [size_ext, grow]; omega) | omega) _) | (refine Below.alloc ?_ (by first | (simp [size_ext, grow]; done) | (simp [size_ext, grow]; omega) | omega) _) | refine Below.drew ?_ | refine below_drewN ?_ _ | (refine Below.trans ?_ (Below.mono (by assumption) (by first | (simp [size_ext, grow]; done) | (simp [size_ext, grow]; omega) | omega)))))⟩
theorem optsOwn_calls {H : Type} (enc : TypeId × Value → H) (W : World) (base : Nat) (v0 v1 v2 : Value) (d0 d1 d2 : DataW H) (p0 p1 p2 : List MemPlace)
    (o0 : Value.okWide Try.prog W .any base 22 v0) (o1 : Value.okWide Try.prog W .any base 3 v1) (o2 : Value.okWide Try.prog W .any base 5 v2)
    (h0 : DataW.Trod enc Try.prog W 0 (fun _ => true) true 22 v0 d0 p0) (h1 : DataW.Trod enc Try.prog W 0 (fun _ => true) true 3 v1 d1 p1) (h2 : DataW.Trod enc Try.prog W 0 (fun _ => true) true 5 v2 d2 p2) :
    Calls Try.prog 8 #[v0, v1, v2] W fun e W' => e = .returned (.bool true) ∧ Below W.heap.size W W' := by
  obtain ⟨A, n, c, E, rfl, hE, hn, hc, hl, hd⟩ := open_opts_arg o0 h0
  obtain ⟨i1, rfl, rfl, rfl, w1⟩ := open_int Try.underlying3 o1 h1
  obtain ⟨i2, rfl, rfl, rfl, w2⟩ := open_int Try.underlying5 o2 h2
  exact own_any A n c E i1 i2 W hE hn hl hd
end Go.Proofs.Ytbdkapmiioiikaa
