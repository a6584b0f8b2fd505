/- NegoHelped: its walk. -/
import Derived.Test.YtlkijhcgiilmhaaN35
import Derived.Test.YtlkijhcgiilmhaaN28
import Derived.Deep.QuietTactic
import Derived.BigQuiet
namespace Go.Proofs.Ytlkijhcgiilmhaa
open Go.ChangeShapes Go.WideShapes Go.ChangeAt Go.RowKit Go.Joins Go.Deep
set_option linter.unusedSimpArgs false
set_option linter.unusedVariables false
def ints (l : List Opt) : List Value := l.map fun o => .int .i64 o.1
/-- What is known of the options behind so many questions. -/
def helpP (R : List Rl) : Nat → List Opt → Prop
  | 0, L => apartL L
  | 1, L => (apartL L ∧ ∀ o ∈ L, looseB R o = false) ∨ ∀ m : Int, (answerO R L m (m + 3)).1 = 2
  | 2, L => ∀ m : Int, (answerO R L m (m + 3)).1 = 2
  | _, _ => False
theorem infoInt : (Try.prog.info? 3).map (fun i => (i.zero, i.size, i.bytes)) = some (some (.int .i64 0), 1, 8) := by kernel_rfl
theorem short_of {D : Nat} {E : List Ent} (h : short D (E.map Ent.o)) (hD : D ≤ 1000) : ∀ e ∈ E, e.d.length ≤ 1000000 := by
  intro e he
  have := h e.o (List.mem_map_of_mem he)
  simp only [Ent.o] at this
  omega
theorem ints_one (l : List Opt) : ∀ u ∈ ints l, u.oneCell' = true := by
  intro u hu
  obtain ⟨x, _, rfl⟩ := List.mem_map.1 hu
  rfl
theorem helpP_le {R : List Rl} {L : List Opt} {k : Nat} (h : helpP R k L) : k ≤ 2 := by
  match k, h with
  | 0, _ => omega
  | 1, _ => omega
  | 2, _ => omega
theorem helpP_step {R : List Rl} {L : List Opt} {k : Nat} (hR : areB R = true) (h : helpP R k L) (n : Int) : (answerO R L n (n + 3)).1 = 2 ∨ ((followO L (answerO R L n (n + 3)).1 (answerO R L n (n + 3)).2).2 = true ∧ helpP R (k + 1) (followO L (answerO R L n (n + 3)).1 (answerO R L n (n + 3)).2).1) := by
  by_cases h2 : (answerO R L n (n + 3)).1 = 2
  · exact .inl h2
  · right
    match k, h with
    | 0, h =>
      by_cases hf : ∀ o ∈ L, looseB R o = false
      · obtain ⟨e, ok, hm⟩ := helped_nak hR h hf h2
        rw [e]
        exact ⟨ok, .inr hm⟩
      · obtain ⟨e, ok, ha, hf⟩ := helped_rej (n := n) hR h hf
        rw [e]
        exact ⟨ok, .inl ⟨ha, hf⟩⟩
    | 1, h =>
      rcases h with ⟨ha, hf⟩ | hm
      · obtain ⟨e, ok, hm⟩ := helped_nak hR ha hf h2
        rw [e]
        exact ⟨ok, hm⟩
      · exact absurd (hm n) h2
    | 2, h => exact absurd (h n) h2
theorem apart_take {L : List Opt} {k : Nat} (h : apartL (L.take k)) (hk : k < L.length) (hn : ∀ q (hq : q < k), (L[q]'(by omega)).1 ≠ L[k].1) : apartL (L.take (k + 1)) := by
  unfold apartL at *
  rw [List.take_succ_eq_append_getElem hk, List.pairwise_append]
  refine ⟨h, List.pairwise_singleton _ _, fun a ha b hb => ?_⟩
  simp only [List.mem_singleton] at hb
  subst hb
  obtain ⟨q, hq, rfl⟩ := List.mem_take_iff_getElem.1 ha
  exact hn q (by omega)
set_option maxRecDepth 100000 in
set_option maxHeartbeats 4000000 in
theorem helped_walk (A A' : Option Addr) (n c n' c' : Nat) (naks : Nat) (R : List Rl) (E' : List Ent) (w : World) (hna : naks < 256) (hR : RulesAt w w.heap.size A R) (hn : n = R.length) (hc : n ≤ c) (hl : (n : Int) ≤ 9223372036854775807)
    (hE' : OptsAt w w.heap.size A' E') (hn' : n' = E'.length) (hl' : (n' : Int) ≤ 9223372036854775807) (hd' : ∀ e ∈ E', (e.d.length : Int) ≤ 9223372036854775807) :
    Calls Try.prog 6 #[.slice A n c, .slice A' n' c', .int .u8 (naks : Int)] w fun x w' => x = .returned (.bool true) ∧ Below w.heap.size w w' := by
  have HR := Lib.hid (hR.take 18)
  have HN := Lib.hid (show min n 18 = (R.take 18).length by rw [List.length_take]; omega)
  obtain ⟨m, hm⟩ : ∃ m, min n 18 = m := ⟨_, rfl⟩
  have hm18 : m ≤ 18 := by omega
  rw [hm] at HN
  have HM := Lib.hid hm
  generalize R.take 18 = R1 at HR HN
  have HE' := Lib.hid hE'
  have HN' := Lib.hid hn'
  have HD' := Lib.hid hd'
  clear hR hn hE' hn' hd' hm
  go_enter Try.func6, Try.ntmps6
  go_wp2_with fail
  refine (rules_any A n c _ hc hl).mono ?_
  rw [HM.out]
  rintro e W1 ⟨rfl, rfl⟩
  go_wp2_with fail
  refine (few_any A' n' c' E' _ _ (Nat.le_refl _) HE'.out HN'.out hl' HD'.out).mono ?_
  rintro e W2 h1
  obtain ⟨A2, n2, c2, rfl, hb, hcut⟩ := h1.get (HE'.out) (Nat.le_refl _)
  have HB2 := Lib.hid hb
  have hz2 := hb.size
  have HC2 := Lib.hid hcut.opts
  have HN2 := Lib.hid hcut.len
  have HD2 := Lib.hid hcut.data
  have hl2 := hcut.le
  have hc2 := hcut.cap
  clear h1 hb hcut
  have HSH := Lib.hid (show short 20 ((fewE E').map Ent.o) from fun o ho => by
    obtain ⟨e, he, rfl⟩ := List.mem_map.1 ho
    exact few_data E' e he)
  generalize fewE E' = F2 at HC2 HN2 HD2 HSH
  obtain ⟨L, hL⟩ : ∃ L, F2.map Ent.o = L := ⟨_, rfl⟩
  have HL := Lib.hid hL
  have HLN := Lib.hid (show L.length = n2 by rw [← hL, List.length_map]; exact HN2.out.symm)
  rw [hL] at HSH
  clear hL
  obtain ⟨b, hb⟩ : ∃ b, areB R1 = b := ⟨_, rfl⟩
  have HAR := Lib.hid hb
  clear hb
  go_wp2_with fail
  refine (are_ref A m c R1 _ _ hz2 (HR.out.keep HB2.out) HN.out (by omega)).mono ?_
  rw [HAR.out]
  rintro e W3 ⟨rfl, hb⟩
  have HB3 := Lib.hid hb
  have HBW3 := Lib.hid (HB2.out.trans (hb.mono hz2))
  have hz3 := hb.size
  have hzw3 := HBW3.out.size
  clear hb
  cases b
  · go_wp2_with fail
    refine (awake_any _).mono ?_
    rintro e w1 ⟨rfl, hb⟩; obtain ⟨xs9, d9, rfl⟩ := ext_of hb; clear hb
    go_wp2_with fail
    go_ret
    exact ⟨rfl, by have := HBW3.out; exact bel⟩
  · by_cases hlen : 20 < n2 + m
    · have hlen2 : (20 : Int) < (n2 : Int) + (m : Int) := by omega
      go_wp2_with fail
      refine (awake_any _).mono ?_
      rintro e w1 ⟨rfl, hb⟩; obtain ⟨xs9, d9, rfl⟩ := ext_of hb; clear hb
      go_wp2_with fail
      go_ret
      exact ⟨rfl, by have := HBW3.out; exact bel⟩
    · have hlen2 : (n2 : Int) + (m : Int) ≤ 20 := by omega
      have HO3 := Lib.hid ((HC2.out.keep HB3.out).more hz3)
      go_wp2_with fail
      go_loopw [7, 8] (fun v i wr => ∃ (k c : Nat) (A : Option Addr), k ≤ n2 ∧ i = .int .i64 k ∧ v = .slice A k c ∧ wr.ownsRow W3.heap.size 3 1 (.slice A k c) k (ints (L.take k)) ∧ apartL (L.take k) ∧ Below W3.heap.size W3 wr) (fun _ i _ => n2 - (intOf i).toNat)
      case atStart => exact ⟨0, 0, none, Nat.zero_le _, rfl, rfl, own_nil _ _ _ _, by unfold apartL; simp, Below.refl _ _⟩
      case round =>
        obtain ⟨k, ks, As, hk, rfl, rfl, hown, hap, hbl⟩ := hrel
        have HOWN := Lib.hid hown
        have HAP := Lib.hid hap
        have HBL := Lib.hid hbl
        have hsz := hbl.size
        clear hown hap hbl
        by_cases hlt : k < n2
        · have HK := Lib.hid (show k < F2.length by have := HN2.out; omega)
          have HKL := Lib.hid (show k < L.length by have := HLN.out; omega)
          obtain ⟨b, o, rfl, hbB, hx, -⟩ := (HO3.out.keep HBL.out).get HK.out
          have HEQ := Lib.hid (show L[k]'HKL.out = (F2[k]'HK.out).o by simp only [← HL.out, List.getElem_map])
          obtain ⟨t, ht⟩ : ∃ t, (F2[k]'HK.out).t = t := ⟨_, rfl⟩
          have HT := Lib.hid (show (L[k]'HKL.out).1 = t by rw [HEQ.out]; exact ht)
          rw [ht] at hx
          clear ht
          have hbz : b < wr.heap.size := by omega
          have kk0 : (0 : Int) ≤ (k : Int) := by omega
          have kk1 : (k : Int) < (n2 : Int) := by omega
          obtain ⟨wo, hwo⟩ : ∃ wo : World, wo = wr := ⟨_, rfl⟩
          rw [← hwo] at HBL hsz HOWN hx hbz ⊢
          clear hwo
          have HX := Lib.hid hx
          clear hx
          go_wp2_with fail
          go_loopw [9] (fun j wr => ∃ q : Nat, q ≤ k ∧ j = .int .i64 q ∧ (∀ q' (h : q' < q) (h2 : q' < L.length), (L[q']'h2).1 ≠ t) ∧ Below wo.heap.size wo wr) (fun j _ => k - (intOf j).toNat)
          case atStart => exact ⟨0, Nat.zero_le _, rfl, fun q' h => absurd h (Nat.not_lt_zero _), Below.refl _ _⟩
          case round =>
            obtain ⟨q, hq, rfl, hne, hbi⟩ := hrel
            have HNE := Lib.hid hne
            have HBI := Lib.hid hbi
            have hszi := hbi.size
            have hx := (hbi.cell (p := ⟨b, o + k * 2, none⟩) hbz).trans HX.out
            have hbzr : b < wr.heap.size := by omega
            clear hne hbi
            by_cases hqk : q < k
            · have HQL := Lib.hid (show q < L.length by have := HLN.out; omega)
              have hown2 := own_below HOWN.out HBI.out
              obtain ⟨g, og, rfl, hg, hcells⟩ := (At.of_own hown2).get (by simp [ints]; have := HLN.out; omega)
              have hs := hcells q (.int .i64 (L[q]'HQL.out).1) (by unfold ints; rw [List.getElem?_map, List.getElem?_take, if_pos hqk, List.getElem?_eq_getElem HQL.out]; rfl)
              obtain ⟨s, hs2⟩ : ∃ s, (L[q]'HQL.out).1 = s := ⟨_, rfl⟩
              have HS := Lib.hid hs2
              rw [hs2] at hs
              clear hs2 hown2 hcells
              have qq0 : (0 : Int) ≤ (q : Int) := by omega
              have qq1 : (q : Int) < (k : Int) := by omega
              cases he : (s == t)
              · have he2 : s ≠ t := by simpa using he
                go_upto_region 11 with (fail)
                go_quiet (fail)
                go_wp2_with fail
                go_roundw
                case rel => exact ⟨q + 1, by omega, by go_num, fun q' h h2 => by
                  rcases Nat.lt_or_ge q' q with h3 | h3
                  · exact HNE.out q' h3 h2
                  · obtain rfl : q' = q := by omega
                    rw [HS.out]; exact he2, by have := HBI.out; exact bel⟩
                case measure => simp [intOf]; omega
              · go_upto_region 11 with (fail)
                go_quiet (fail)
                go_wp2_with fail
                refine (awake_any _).mono ?_
                rintro e w1 ⟨rfl, hb⟩; obtain ⟨xs9, d9, rfl⟩ := ext_of hb; clear hb
                go_wp2_with fail
                go_ret
                exact ⟨rfl, by have h := HBW3.out.trans ((HBL.out.trans (HBI.out.mono hsz)).mono hzw3); have := h.size; exact bel⟩
            · obtain rfl : q = k := by omega
              have HOW2 := Lib.hid (own_below HOWN.out HBI.out)
              have hsz2 : W3.heap.size ≤ wr.heap.size := by omega
              have HBL2 := Lib.hid (HBL.out.trans (HBI.out.mono hsz))
              have HTK := Lib.hid (show ints (L.take (q + 1)) = ints (L.take q) ++ [.int .i64 t] by unfold ints; rw [List.take_succ_eq_append_getElem HKL.out, List.map_append, List.map_cons, List.map_nil, HT.out])
              have HAP2 := Lib.hid (apart_take HAP.out HKL.out (fun q' h => by rw [HT.out]; exact HNE.out q' h (by have := HKL.out; omega)))
              go_wp2_with (at_builtin; refine wpList_appv W3 rfl (.tmp 55) (.tmp 61) 45 rfl 3 Try.underlying45 (.int .i64 0) 1 8 infoInt rfl (by decide) (by decide) (.slice As q ks) q (ints (L.take q)) rfl (by exact own_below HOW2.out (by exact bel)) (wr.heap.size + 1) (some ⟨wr.heap.size, 0, none⟩) 1 1 [.int .i64 t] rfl rfl (by omega) (by exact At.newN _ _ _ _ _ rfl rfl) (by intro u hu; simp at hu; subst hu; rfl) (by have := HBL2.out; exact bel) ?_; intro A4 c4 w3 ho3 hc3 hb3 hg3; have HO4 := Lib.hid ho3; have HB4 := Lib.hid hb3; clear ho3 hc3 hb3 hg3)
              go_roundw
              case rel => exact ⟨q + 1, c4, A4, by omega, by go_num, rfl, by rw [HTK.out]; exact HO4.out, HAP2.out, HB4.out⟩
              case measure => simp [intOf]; omega
        · obtain rfl : n2 = k := by omega
          have HAPL := Lib.hid (show apartL L by have h := HAP.out; rwa [List.take_of_length_le (by have := HLN.out; omega)] at h)
          have HBL2 := Lib.hid (HBW3.out.trans (HBL.out.mono hzw3))
          have HOL2 := Lib.hid ((HO3.out.keep HBL.out).more hsz)
          have cv : IntKind.i64.wrap (naks : Int) = (naks : Int) := IntWalk.i64_in _ (by omega)
          have na0 : (0 : Int) ≤ (naks : Int) := by omega
          have na1 : (naks : Int) < 256 := by omega
          obtain ⟨wo, hwo⟩ : ∃ wo : World, wo = wr := ⟨_, rfl⟩
          rw [← hwo] at HBL2 HOL2 ⊢
          clear hwo HBL hsz HOWN
          have hsz := HBL2.out.size
          go_wp2_with fail
          go_loopw [1, 11] (fun v i wr => ∃ (k kn kc : Nat) (A : Option Addr) (E : List Ent), i = .int .i64 k ∧ v = .slice A kn kc ∧ kn = E.length ∧ kn ≤ kc ∧ kn + 18 ≤ 38 * 2 ^ k ∧ short 20 (E.map Ent.o) ∧ helpP R1 k (E.map Ent.o) ∧ Below wo.heap.size wo wr ∧ OptsAt wr wr.heap.size A E) (fun _ i _ => 3 - (intOf i).toNat)
          case atStart => exact ⟨0, n2, c2, A2, F2, rfl, rfl, HN2.out, hc2, by omega, by rw [HL.out]; exact HSH.out, by rw [HL.out]; exact HAPL.out, Below.refl _ _, HOL2.out⟩
          case round =>
            obtain ⟨k, kn, kc, A5, E5, rfl, rfl, hkn, hkc, hkb, hsh, hhp, hbl, hat⟩ := hrel
            have hk2 := helpP_le hhp
            have hkn2 : kn ≤ 134 := by
              have : 2 ^ k ≤ 2 ^ 2 := Nat.pow_le_pow_right (by omega) hk2
              omega
            have HST := Lib.hid (helpP_step HAR.out hhp (naks : Int))
            have HKN := Lib.hid hkn
            have HKC := Lib.hid hkc
            have HKB := Lib.hid hkb
            have HSHK := Lib.hid hsh
            have HDK := Lib.hid (short_of hsh (by omega))
            have HASH := Lib.hid (answer_short (R := R1) (naks := (naks : Int)) (most := (naks : Int) + 3) HAR.out (by omega : 4 ≤ 20) hsh)
            have HAL := Lib.hid (answer_len2 (R := R1) (L := E5.map Ent.o) (naks := (naks : Int)) (most := (naks : Int) + 3))
            have HBL5 := Lib.hid hbl
            have HAT := Lib.hid hat
            have hszr := hbl.size
            clear hhp hkn hkc hkb hsh hbl hat
            obtain ⟨L5, hL5⟩ : ∃ L, E5.map Ent.o = L := ⟨_, rfl⟩
            have HL5 := Lib.hid hL5
            have HLN5 := Lib.hid (show L5.length = kn by rw [← hL5, List.length_map]; exact HKN.out.symm)
            rw [hL5] at HST HSHK HASH HAL
            clear hL5
            have kk1 : (k : Int) < 3 := by omega
            go_wp2_with fail
            refine (answer_any A A5 m c kn kc naks ((naks : Int) + 3) R1 E5 L5 HL5.out _ _ (Nat.le_refl _) ((HR.out.keep (HBL2.out.trans (HBL5.out.mono hsz))).more (by omega)) HN.out (by omega) HAT.out HKN.out HKC.out (by omega) HDK.out).mono ?_
            obtain ⟨⟨co, Y⟩, hY⟩ : ∃ Y, answerO R1 L5 (naks : Int) ((naks : Int) + 3) = Y := ⟨_, rfl⟩
            rw [hY] at HST HASH HAL
            rw [hY]
            clear hY
            obtain ⟨ny, hny⟩ : ∃ ny, Y.length = ny := ⟨_, rfl⟩
            have hyl : ny ≤ kn + m := by have h1 := HAL.out; simp only at h1; have h2 := HLN5.out; have h3 := HN.out; omega
            have HNY := Lib.hid hny
            clear hny
            rintro e W6 h1
            obtain ⟨E6, A6, c6, rfl, he, hn6, hc6, hb, ho⟩ := h1.get HNY.out
            have HE6 := Lib.hid he
            have HN6 := Lib.hid hn6
            have HB6 := Lib.hid hb
            have HO6 := Lib.hid ho.at
            have HC6 := Lib.hid hc6
            have hz6 := hb.size
            have HBW6 := Lib.hid (HBL2.out.trans ((HBL5.out.trans (hb.mono hszr)).mono hsz))
            clear h1 he hn6 hb ho hc6
            by_cases hco : co = 2
            · subst hco
              go_wp2_with fail
              refine (awake_any _).mono ?_
              rintro e w1 ⟨rfl, hb⟩; obtain ⟨xs9, d9, rfl⟩ := ext_of hb; clear hb
              go_wp2_with fail
              go_ret
              exact ⟨rfl, by have h := HBW6.out; have := h.size; exact bel⟩
            · have hco2 : (co == 2) = false := by simpa using hco
              have HST2 := Lib.hid (HST.out.resolve_left hco)
              go_wp2_with fail
              refine (follow_any A5 A6 kn ny kc c6 co E5 E6 _ _ (Nat.le_refl _) ((HAT.out.keep HB6.out).more hz6) HO6.out HKN.out HN6.out HC6.out (by omega) (by omega) HDK.out (short_of (by rw [HE6.out]; exact HASH.out) (by omega))).mono ?_
              rw [HL5.out, HE6.out]
              have HFS := Lib.hid (follow_short (code := co) HSHK.out HASH.out)
              have HFL := Lib.hid (follow_len L5 Y co)
              obtain ⟨⟨Z, bo⟩, hZ⟩ : ∃ Z, followO L5 co Y = Z := ⟨_, rfl⟩
              have hst := HST2.out
              try simp only at hst
              rw [hZ] at hst HFS HFL
              rw [hZ]
              clear hZ HST HST2
              obtain ⟨hbo, hhp⟩ := hst
              try simp only at hbo
              subst hbo
              have HHP := Lib.hid hhp
              clear hhp
              rintro e W7 ⟨E7, A7, n7, c7, rfl, he, hn7, hc7, hb, ho⟩
              have HE7 := Lib.hid he
              have HN7 := Lib.hid hn7
              have HC7 := Lib.hid hc7
              have HB7 := Lib.hid hb
              have HO7 := Lib.hid ho
              have hz7 := hb.size
              clear he hn7 hb ho hc7
              go_wp2_with fail
              go_roundw
              case rel => exact ⟨k + 1, n7, c7, A7, E7, by go_num, rfl, HN7.out, HC7.out, by
                have h1 := HFL.out
                have h2 := HLN5.out
                have h3 := HNY.out
                have h4 := HN7.out
                have h5 := congrArg List.length HE7.out
                rw [List.length_map] at h5
                have h6 := HKB.out
                rw [Nat.pow_succ]
                try simp only at h1 h5
                omega, by rw [HE7.out]; exact HFS.out, by rw [HE7.out]; exact HHP.out, HBL5.out.trans ((HB6.out.trans (HB7.out.mono hz6)).mono hszr), HO7.out⟩
              case measure => simp [intOf]; omega
theorem negoHelped_calls {H : Type} (enc : TypeId × Value → H) (W : World) (base : Nat) (v0 v1 v2 : Value) (d0 d1 d2 : DataW H) (p0 p1 p2 : List MemPlace)
    (o0 : Value.okWide Try.prog W .any base 22 v0) (o1 : Value.okWide Try.prog W .any base 23 v1) (o2 : Value.okWide Try.prog W .any base 5 v2)
    (h0 : DataW.Trod enc Try.prog W 0 (fun _ => true) true 22 v0 d0 p0) (h1 : DataW.Trod enc Try.prog W 0 (fun _ => true) true 23 v1 d1 p1) (h2 : DataW.Trod enc Try.prog W 0 (fun _ => true) true 5 v2 d2 p2) :
    Calls Try.prog 6 #[v0, v1, v2] W fun e W' => e = .returned (.bool true) ∧ Below W.heap.size W W' := by
  obtain ⟨A, n, c, R, rfl, hR, hn, hc, hl⟩ := open_rules o0 h0
  obtain ⟨A', n', c', E', rfl, hE', hn', hc', hl', hd'⟩ := open_opts_arg o1 h1
  obtain ⟨i2, rfl, rfl, rfl, w2⟩ := open_int Try.underlying5 o2 h2
  have b2 : 0 ≤ i2 ∧ i2 ≤ 255 := by simpa [Lit.wf, IntKind.min, IntKind.max, IntKind.signed, IntKind.bits] using w2
  obtain ⟨j2, rfl⟩ := Int.eq_ofNat_of_zero_le b2.1
  exact helped_walk A A' n c n' c' j2 R E' W (by omega) hR hn hc hl hE' hn' hl' hd'
end Go.Proofs.Ytlkijhcgiilmhaa
