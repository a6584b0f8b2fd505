/- NegoOwn: its walk. -/
import Derived.Test.YtlkijhcgiilmhaaN32
import Derived.Test.YtlkijhcgiilmhaaMI
namespace Go.Proofs.Ytlkijhcgiilmhaa
open Go.ChangeShapes Go.WideShapes Go.ChangeAt Go.RowKit Go.Joins Go.Deep
set_option linter.unusedSimpArgs false
set_option linter.unusedVariables false
theorem RowsP.get {L : List Opt} {w w' : World} {x : Ending} (h : RowsP L w x w') :
    ∃ (E : List Ent) (A : Option Addr) (n c : Nat), x = .returned (.slice A n c) ∧ E.map Ent.o = L ∧ n = E.length ∧ n ≤ c ∧ Below w.heap.size w w' ∧ OwnOpts w' w.heap.size (.slice A n c) E := by
  obtain ⟨E, A, c, rfl, he, hb, ho⟩ := h
  obtain ⟨_, _, hq, hc, -⟩ := ownsRow_form ho.1
  simp only [Value.slice.injEq] at hq
  obtain ⟨-, -, rfl⟩ := hq
  have : E.length = L.length := by rw [← he, List.length_map]
  exact ⟨E, A, L.length, c, rfl, he, this.symm, by omega, hb, ho⟩
theorem OwnOpts.lts {W : World} {base : Nat} {v : Value} {E : List Ent} (h : OwnOpts W base v E) : (∀ g, v.ownBlock = some g → g < W.heap.size) ∧ ∀ e ∈ E, ∀ g, e.v.ownBlock = some g → g < W.heap.size :=
  ⟨fun g hg => own_lt h.1 hg, fun e he g hg => own_lt (h.2 e he) hg⟩
set_option maxRecDepth 100000 in
set_option maxHeartbeats 4000000 in
theorem own_walk (A A' A'' : Option Addr) (n c n' c' n'' c'' : Nat) (code : Int) (R : List Rl) (E' E'' : List Ent) (w : World) (hR : RulesAt w w.heap.size A R) (hn : n = R.length) (hc : n ≤ c) (hl : (n : Int) ≤ 9223372036854775807)
    (hE' : OptsAt w w.heap.size A' E') (hn' : n' = E'.length) (hl' : (n' : Int) ≤ 9223372036854775807) (hd' : ∀ e ∈ E', (e.d.length : Int) ≤ 9223372036854775807)
    (hE'' : OptsAt w w.heap.size A'' E'') (hn'' : n'' = E''.length) (hl'' : (n'' : Int) ≤ 9223372036854775807) (hd'' : ∀ e ∈ E'', (e.d.length : Int) ≤ 9223372036854775807) :
    Calls Try.prog 8 #[.slice A n c, .slice A' n' c', .slice A'' n'' c'', .int .i64 code] w fun x w' => x = .returned (.bool true) ∧ Below w.heap.size w w' := by
  have HR := Lib.hid (hR.take 18)
  have HN := Lib.hid (show min n 18 = (R.take 18).length by rw [List.length_take]; omega)
  obtain ⟨m, hm⟩ : ∃ m, min n 18 = m := ⟨_, rfl⟩
  have hm18 : m ≤ 18 := by omega
  rw [hm] at HN
  have HM := Lib.hid hm
  generalize R.take 18 = R1 at HR HN
  have HE' := Lib.hid hE'
  have HN' := Lib.hid hn'
  have HD' := Lib.hid hd'
  have HE'' := Lib.hid hE''
  have HN'' := Lib.hid hn''
  have HD'' := Lib.hid hd''
  clear hR hn hE' hn' hd' hm hE'' hn'' hd''
  go_enter Try.func8, Try.ntmps8
  go_wp2_with fail
  refine (rules_any A n c _ hc hl).mono ?_
  rw [HM.out]
  rintro e W1 ⟨rfl, rfl⟩
  go_wp2_with fail
  refine (few_any A' n' c' E' _ _ (Nat.le_refl _) HE'.out HN'.out hl' HD'.out).mono ?_
  rintro e W2 h1
  obtain ⟨A2, n2, c2, rfl, hb, hcut⟩ := h1.get (HE'.out) (Nat.le_refl _)
  have HB2 := Lib.hid hb
  have hz2 := hb.size
  have HC2 := Lib.hid hcut.opts
  have HN2 := Lib.hid hcut.len
  have HD2 := Lib.hid hcut.data
  have hl2 := hcut.le
  have hc2 := hcut.cap
  clear h1 hb hcut
  go_wp2_with fail
  refine (few_any A'' n'' c'' E'' _ w.heap.size hz2 (HE''.out.keep HB2.out) HN''.out hl'' HD''.out).mono ?_
  rintro e W3 h1
  obtain ⟨A3, n3, c3, rfl, hb, hcut⟩ := h1.get (HE''.out.keep HB2.out) (hz2)
  have HB3 := Lib.hid hb
  have hz3 := hb.size
  have HC3 := Lib.hid hcut.opts
  have HN3 := Lib.hid hcut.len
  have HD3 := Lib.hid hcut.data
  have hl3 := hcut.le
  have hc3 := hcut.cap
  clear h1 hb hcut
  generalize fewE E' = F2 at HC2 HN2 HD2
  generalize fewE E'' = F3 at HC3 HN3 HD3
  obtain ⟨L, hL⟩ : ∃ L, F2.map Ent.o = L := ⟨_, rfl⟩
  obtain ⟨O, hO⟩ : ∃ L, F3.map Ent.o = L := ⟨_, rfl⟩
  have HL := Lib.hid hL
  have HO := Lib.hid hO
  clear hL hO
  have HC2' := Lib.hid ((HC2.out.keep HB3.out).more hz3)
  have HBW3 := Lib.hid (HB2.out.trans (HB3.out.mono hz2))
  have hzw3 : w.heap.size ≤ W3.heap.size := by omega
  clear HC2
  go_wp2_with fail
  refine (copy_any A2 n2 c2 F2 _ _ (Nat.le_refl _) HC2'.out HN2.out (by omega) (by intro e he; have := HD2.out e he; omega)).mono ?_
  rw [HL.out]
  rintro e W4 h1
  obtain ⟨E4, A4, n4, c4, rfl, he, hn4, hc4, hb, ho⟩ := h1.get
  have HE4 := Lib.hid he
  have HN4 := Lib.hid hn4
  have HB4 := Lib.hid hb
  have HO4 := Lib.hid ho.at
  have hz4 := hb.size
  clear h1 he hn4 hb ho
  go_wp2_with fail
  refine (copy_any A3 n3 c3 F3 _ W3.heap.size hz4 (HC3.out.keep HB4.out) HN3.out (by omega) (by intro e he; have := HD3.out e he; omega)).mono ?_
  rw [HO.out]
  rintro e W5 h1
  obtain ⟨E5, A5, n5, c5, rfl, he, hn5, hc5, hb, ho⟩ := h1.get
  have HE5 := Lib.hid he
  have HN5 := Lib.hid hn5
  have HB5 := Lib.hid hb
  have HO5 := Lib.hid ho.at
  have hz5 := hb.size
  clear h1 he hn5 hb ho
  have HB35 := Lib.hid (HB4.out.trans (HB5.out.mono hz4))
  have hz35 : W3.heap.size ≤ W5.heap.size := by omega
  have HC25 := Lib.hid ((HC2'.out.keep HB35.out).more hz35)
  have HC35 := Lib.hid ((HC3.out.keep HB35.out).more hz35)
  have HO45 := Lib.hid ((HO4.out.keep HB5.out).more hz5)
  have HBW5 := Lib.hid (HBW3.out.trans (HB35.out.mono hzw3))
  have hzw5 : w.heap.size ≤ W5.heap.size := by omega
  go_wp2_with fail
  refine (answer_any A A2 m c n2 c2 0 3 R1 F2 L HL.out _ _ (Nat.le_refl _) ((HR.out.keep HBW5.out).more hzw5) HN.out (by omega) HC25.out HN2.out hc2 (by omega) HD2.out).mono ?_
  rintro e W6 ⟨E6, A6, n6, c6, rfl, he, hn6, hb, ho⟩
  have HN6 := Lib.hid (show n6 = E6.length by rw [hn6, ← he, List.length_map])
  have HB6 := Lib.hid hb
  have HO6 := Lib.hid ho
  have HL6 := Lib.hid ho.lts
  have hz6 := hb.size
  clear he hn6 hb ho
  go_wp2_with fail
  refine (learn_any A3 A2 n3 n2 c3 c2 code F3 F2 _ _ hz6 (HC35.out.keep HB6.out) (HC25.out.keep HB6.out) HN3.out HN2.out hc2 (by omega) (by omega) HD3.out HD2.out).mono ?_
  rintro e W7 h1
  obtain ⟨E7, A7, n7, c7, rfl, -, hn7, -, hb, ho⟩ := h1.get
  have HN7 := Lib.hid hn7
  have HB7 := Lib.hid hb
  have HO7 := Lib.hid ho
  have HL7 := Lib.hid ho.lts
  have hz7 := hb.size
  clear h1 hn7 hb ho
  have hn6m : (n6 : Int) ≤ 9223372036854775807 := by
    obtain ⟨_, _, hq, hc, hm⟩ := ownsRow_form HO6.out.1
    unfold maxLen at hm
    have := HN6.out
    omega
  have hn7m : (n7 : Int) ≤ 9223372036854775807 := by
    obtain ⟨_, _, hq, hc, hm⟩ := ownsRow_form HO7.out.1
    unfold maxLen at hm
    have := HN7.out
    omega
  have HS6 := Lib.hid ((SofT.of HO6.out).below HB7.out)
  go_wp2_with fail
  have HNX := HN6
  have HLX := HL6
  go_loopw [15] (fun i wr => ∃ k : Nat, k ≤ n6 ∧ i = .int .i64 k ∧ Mid W5.heap.size W6.heap.size W7 wr ∧ SofT wr W5.heap.size A6 E6) (fun i _ => n6 - (intOf i).toNat)
  case atStart => exact ⟨0, Nat.zero_le _, rfl, Mid.refl _ _ _, HS6.out⟩
  case round =>
    obtain ⟨k, hk, rfl, hm, hs⟩ := hrel
    have HM := Lib.hid hm
    have HS := Lib.hid hs
    clear hm hs
    obtain ⟨W8, hW8⟩ : ∃ W8, W8 = wr := ⟨_, rfl⟩
    rw [← hW8] at HM HS ⊢
    clear hW8
    by_cases hlt : k < n6
    · have HK := Lib.hid (show k < (E6).length by have := HNX.out; omega)
      go_wp2_with fail
      go_loopw [16] (fun i wr => ∃ j : Nat, j ≤ ((E6)[k]'HK.out).d.length ∧ i = .int .i64 j ∧ Mid W5.heap.size W6.heap.size W7 wr ∧ SofT wr W5.heap.size A6 E6) (fun i _ => ((E6)[k]'HK.out).d.length - (intOf i).toNat)
      case atStart => exact ⟨0, Nat.zero_le _, rfl, HM.out, HS.out⟩
      case round =>
        obtain ⟨j, hj, rfl, hm, hs⟩ := hrel
        have HM9 := Lib.hid hm
        have HS9 := Lib.hid hs
        obtain ⟨b, u, rfl, hb1, hb2, hc0, hc1, hf0, hcur⟩ := hs.get HK.out
        have HSR := Lib.hid (hs.data _ (List.getElem_mem HK.out))
        have HLT := Lib.hid (HLX.out.2 _ (List.getElem_mem HK.out))
        have HLR := Lib.hid HLX.out.1
        have HB := Lib.hid (And.intro hb1 hcur)
        clear hm hs hb1 hcur
        have hdd := HSR.out.le
        obtain ⟨⟨te, de, ae, ce⟩, he⟩ : ∃ e, (E6)[k]'HK.out = e := ⟨_, rfl⟩
        rw [he] at hc1 HSR HLT hdd hj
        simp only [Ent.v] at hc1 HSR HLT hdd hj
        have HEQ := Lib.hid he
        clear he
        obtain ⟨ne, hne⟩ : ∃ n, de.length = n := ⟨_, rfl⟩
        rw [hne] at hc1 HSR HLT hdd hj
        have HNE := Lib.hid hne
        clear hne
        by_cases hjl : j < ne
        · obtain ⟨g, x, rfl, hg1, hg2, hc, hf, hcur⟩ := HSR.out.at hjl
          have HG := Lib.hid (And.intro hg1 hcur)
          clear hg1 hcur
          obtain ⟨y, hy⟩ := xor_byte x 255 (by decide)
          have HY := Lib.hid (show Value.int .u8 (bits .xor .u8 (x.toNat : Int) 255) = bv y from hy)
          have hkk : (k : Int) < (n6 : Int) := by omega
          clear hy
          go_wp2
          rw [HY.out]
          go_roundw
          case rel => exact ⟨j + 1, by rw [HEQ.out]; have := HNE.out; simp only; omega, by go_num, HM9.out.store HG.out.1 (HLT.out _ rfl) _, HS9.out.byte HG.out.2 _⟩
          case measure => rw [HEQ.out]; have := HNE.out; simp [intOf]; omega
        · obtain rfl : j = ne := by omega
          go_wp2
          go_roundw
          case rel => exact ⟨k + 1, by omega, by go_num, HM9.out.store HB.out.1 (HLR.out _ rfl) _, HS9.out.typ HB.out.2 _ _⟩
          case measure => simp [intOf]; omega
    · obtain rfl : n6 = k := by omega
      obtain ⟨W9, hW9⟩ : ∃ W9, W9 = W8 := ⟨_, rfl⟩
      rw [← hW9] at HM HS ⊢
      clear hW9 HS
      have hz9 := HM.out.size
      have HM1 := HM
      clear HM
      have HO9 := Lib.hid (HO7.out.high HM1.out (Nat.le_refl _))
      have HS7 := Lib.hid (SofT.of HO9.out)
      have HNX := HN7
      have HLX := Lib.hid HO9.out.lts
      have HB59 := Lib.hid (HB6.out.trans ((HB7.out.mono hz6).trans HM1.out.below))
      go_wp2_with fail
      go_loopw [17] (fun i wr => ∃ k : Nat, k ≤ n7 ∧ i = .int .i64 k ∧ Mid W6.heap.size W9.heap.size W9 wr ∧ SofT wr W6.heap.size A7 E7) (fun i _ => n7 - (intOf i).toNat)
      case atStart => exact ⟨0, Nat.zero_le _, rfl, Mid.refl _ _ _, HS7.out⟩
      case round =>
        obtain ⟨k, hk, rfl, hm, hs⟩ := hrel
        have HM := Lib.hid hm
        have HS := Lib.hid hs
        clear hm hs
        obtain ⟨W8, hW8⟩ : ∃ W8, W8 = wr := ⟨_, rfl⟩
        rw [← hW8] at HM HS ⊢
        clear hW8
        by_cases hlt : k < n7
        · have HK := Lib.hid (show k < (E7).length by have := HNX.out; omega)
          go_wp2_with fail
          go_loopw [18] (fun i wr => ∃ j : Nat, j ≤ ((E7)[k]'HK.out).d.length ∧ i = .int .i64 j ∧ Mid W6.heap.size W9.heap.size W9 wr ∧ SofT wr W6.heap.size A7 E7) (fun i _ => ((E7)[k]'HK.out).d.length - (intOf i).toNat)
          case atStart => exact ⟨0, Nat.zero_le _, rfl, HM.out, HS.out⟩
          case round =>
            obtain ⟨j, hj, rfl, hm, hs⟩ := hrel
            have HM9 := Lib.hid hm
            have HS9 := Lib.hid hs
            obtain ⟨b, u, rfl, hb1, hb2, hc0, hc1, hf0, hcur⟩ := hs.get HK.out
            have HSR := Lib.hid (hs.data _ (List.getElem_mem HK.out))
            have HLT := Lib.hid (HLX.out.2 _ (List.getElem_mem HK.out))
            have HLR := Lib.hid HLX.out.1
            have HB := Lib.hid (And.intro hb1 hcur)
            clear hm hs hb1 hcur
            have hdd := HSR.out.le
            obtain ⟨⟨te, de, ae, ce⟩, he⟩ : ∃ e, (E7)[k]'HK.out = e := ⟨_, rfl⟩
            rw [he] at hc1 HSR HLT hdd hj
            simp only [Ent.v] at hc1 HSR HLT hdd hj
            have HEQ := Lib.hid he
            clear he
            obtain ⟨ne, hne⟩ : ∃ n, de.length = n := ⟨_, rfl⟩
            rw [hne] at hc1 HSR HLT hdd hj
            have HNE := Lib.hid hne
            clear hne
            by_cases hjl : j < ne
            · obtain ⟨g, x, rfl, hg1, hg2, hc, hf, hcur⟩ := HSR.out.at hjl
              have HG := Lib.hid (And.intro hg1 hcur)
              clear hg1 hcur
              obtain ⟨y, hy⟩ := xor_byte x 255 (by decide)
              have HY := Lib.hid (show Value.int .u8 (bits .xor .u8 (x.toNat : Int) 255) = bv y from hy)
              have hkk : (k : Int) < (n7 : Int) := by omega
              clear hy
              go_wp2
              rw [HY.out]
              go_roundw
              case rel => exact ⟨j + 1, by rw [HEQ.out]; have := HNE.out; simp only; omega, by go_num, HM9.out.store HG.out.1 (HLT.out _ rfl) _, HS9.out.byte HG.out.2 _⟩
              case measure => rw [HEQ.out]; have := HNE.out; simp [intOf]; omega
            · obtain rfl : j = ne := by omega
              go_wp2
              go_roundw
              case rel => exact ⟨k + 1, by omega, by go_num, HM9.out.store HB.out.1 (HLR.out _ rfl) _, HS9.out.typ HB.out.2 _ _⟩
              case measure => simp [intOf]; omega
        · obtain rfl : n7 = k := by omega
          have hz8 := HM.out.size
          have HBF := Lib.hid (HB59.out.trans (HM.out.below.mono hz6))
          have hzF : W5.heap.size ≤ W8.heap.size := by omega
          go_wp2_with fail
          refine (same_ref A2 A4 n2 n4 c2 c4 F2 E4 _ _ hzF (HC25.out.keep HBF.out) (HO45.out.keep HBF.out) HN2.out HN4.out (by omega)).mono ?_
          rw [HE4.out, HL.out, sameB_self]
          rintro e W10 ⟨rfl, hb⟩
          have HBG := Lib.hid (HBF.out.trans (hb.mono hzF))
          have hzG : W5.heap.size ≤ W10.heap.size := by have := hb.size; omega
          clear hb
          go_wp2_with fail
          refine (same_ref A3 A5 n3 n5 c3 c5 F3 E5 _ _ hzG (HC35.out.keep HBG.out) ((HO5.out).keep HBG.out) HN3.out HN5.out (by omega)).mono ?_
          rw [HE5.out, HO.out, sameB_self]
          rintro e W11 ⟨rfl, hb⟩
          have HBH := Lib.hid (HBG.out.trans (hb.mono hzG))
          clear hb
          go_wp2_with fail
          refine (awake_any _).mono ?_
          rintro e w1 ⟨rfl, hb⟩; obtain ⟨xs, d, rfl⟩ := ext_of hb; clear hb
          go_wp2_with fail
          go_ret
          exact ⟨rfl, by have h := HBW5.out.trans (HBH.out.mono hzw5); have := h.size; (repeat (first | exact Below.refl _ _ | exact Nat.le_refl _ | (refine below_ext ?_ (by first | (simp [size_ext, grow]; done) | (simp [size_ext, grow]; omega) | omega) _ _) | (refine Below.setCell ?_ (by first | (simp [size_ext, grow]; done) | (simp [size_ext, grow]; omega) | omega) _) | (refine Below.alloc ?_ (by first | (simp [size_ext, grow]; done) | (simp [size_ext, grow]; omega) | omega) _) | refine Below.drew ?_ | refine below_drewN ?_ _ | (refine Below.trans ?_ (Below.mono (by assumption) (by first | (simp [size_ext, grow]; done) | (simp [size_ext, grow]; omega) | omega)))))⟩
theorem negoOwn_calls {H : Type} (enc : TypeId × Value → H) (W : World) (base : Nat) (v0 v1 v2 v3 : Value) (d0 d1 d2 d3 : DataW H) (p0 p1 p2 p3 : List MemPlace)
    (o0 : Value.okWide Try.prog W .any base 22 v0) (o1 : Value.okWide Try.prog W .any base 23 v1) (o2 : Value.okWide Try.prog W .any base 23 v2) (o3 : Value.okWide Try.prog W .any base 3 v3)
    (h0 : DataW.Trod enc Try.prog W 0 (fun _ => true) true 22 v0 d0 p0) (h1 : DataW.Trod enc Try.prog W 0 (fun _ => true) true 23 v1 d1 p1) (h2 : DataW.Trod enc Try.prog W 0 (fun _ => true) true 23 v2 d2 p2) (h3 : DataW.Trod enc Try.prog W 0 (fun _ => true) true 3 v3 d3 p3) :
    Calls Try.prog 8 #[v0, v1, v2, v3] W fun e W' => e = .returned (.bool true) ∧ Below W.heap.size W W' := by
  obtain ⟨A, n, c, R, rfl, hR, hn, hc, hl⟩ := open_rules o0 h0
  obtain ⟨A', n', c', E', rfl, hE', hn', hc', hl', hd'⟩ := open_opts_arg o1 h1
  obtain ⟨A'', n'', c'', E'', rfl, hE'', hn'', hc'', hl'', hd''⟩ := open_opts_arg o2 h2
  obtain ⟨i3, rfl, rfl, rfl, w3⟩ := open_int Try.underlying3 o3 h3
  exact own_walk A A' A'' n c n' c' n'' c'' i3 R E' E'' W hR hn hc hl hE' hn' hl' hd' hE'' hn'' hl'' hd''
end Go.Proofs.Ytlkijhcgiilmhaa
