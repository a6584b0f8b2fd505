/- The reference's Is and Encode. -/
import Derived.Test.YtbdkapmiioiikaaH12
namespace Go.Proofs.Ytbdkapmiioiikaa
open Go.RowKit
set_option linter.unusedSimpArgs false
set_option linter.unusedVariables false
theorem is_ref (t : Int) (A : Option Addr) (n c : Nat) (d : List UInt8) (w : World) (hn : n = d.length) : Calls Try.prog 27 #[.agg #[.int .i64 t, .slice A n c]] w fun x w' => x = .returned (.bool (okO (t, d))) ∧ Below w.heap.size w w' := by
  by_cases h1 : 0 ≤ t
  · by_cases h2 : t ≤ 255
    · by_cases h3 : n ≤ 253
      · have HR := Lib.hid (show okO (t, d) = true by unfold okO inB; simp; omega)
        have k3 : decide ((n : Int) ≤ 253) = true := by simp; omega
        clear hn
        go_enter Try.func27, Try.ntmps27
        go_wp2
        go_ret
        exact ⟨by rw [HR.out]; rfl, by (repeat (first | exact Below.refl _ _ | exact Nat.le_refl _ | (refine below_ext ?_ (by first | (simp [size_ext, grow]; done) | (simp [size_ext, grow]; omega) | omega) _ _) | (refine Below.setCell ?_ (by first | (simp [size_ext, grow]; done) | (simp [size_ext, grow]; omega) | omega) _) | (refine Below.alloc ?_ (by first | (simp [size_ext, grow]; done) | (simp [size_ext, grow]; omega) | omega) _) | refine Below.drew ?_ | refine below_drewN ?_ _ | (refine Below.trans ?_ (Below.mono (by assumption) (by first | (simp [size_ext, grow]; done) | (simp [size_ext, grow]; omega) | omega)))))⟩
      · have HR := Lib.hid (show okO (t, d) = false by unfold okO inB; simp; omega)
        have k3 : decide ((n : Int) ≤ 253) = false := by simp; omega
        have k4 : decide (n ≤ 253) = false := by simp; omega
        clear hn h3
        go_enter Try.func27, Try.ntmps27
        go_wp2
        go_ret
        exact ⟨by rw [HR.out]; rfl, by (repeat (first | exact Below.refl _ _ | exact Nat.le_refl _ | (refine below_ext ?_ (by first | (simp [size_ext, grow]; done) | (simp [size_ext, grow]; omega) | omega) _ _) | (refine Below.setCell ?_ (by first | (simp [size_ext, grow]; done) | (simp [size_ext, grow]; omega) | omega) _) | (refine Below.alloc ?_ (by first | (simp [size_ext, grow]; done) | (simp [size_ext, grow]; omega) | omega) _) | refine Below.drew ?_ | refine below_drewN ?_ _ | (refine Below.trans ?_ (Below.mono (by assumption) (by first | (simp [size_ext, grow]; done) | (simp [size_ext, grow]; omega) | omega)))))⟩
    · have HR := Lib.hid (show okO (t, d) = false by unfold okO inB; simp; omega)
      have k3 : decide (t ≤ 255) = false := by simp; omega
      clear hn h2
      go_enter Try.func27, Try.ntmps27
      go_wp2
      go_ret
      exact ⟨by rw [HR.out]; rfl, by (repeat (first | exact Below.refl _ _ | exact Nat.le_refl _ | (refine below_ext ?_ (by first | (simp [size_ext, grow]; done) | (simp [size_ext, grow]; omega) | omega) _ _) | (refine Below.setCell ?_ (by first | (simp [size_ext, grow]; done) | (simp [size_ext, grow]; omega) | omega) _) | (refine Below.alloc ?_ (by first | (simp [size_ext, grow]; done) | (simp [size_ext, grow]; omega) | omega) _) | refine Below.drew ?_ | refine below_drewN ?_ _ | (refine Below.trans ?_ (Below.mono (by assumption) (by first | (simp [size_ext, grow]; done) | (simp [size_ext, grow]; omega) | omega)))))⟩
  · have HR := Lib.hid (show okO (t, d) = false by unfold okO inB; simp; omega)
    have k3 : decide (0 ≤ t) = false := by simp; omega
    clear hn h1
    go_enter Try.func27, Try.ntmps27
    go_wp2
    go_ret
    exact ⟨by rw [HR.out]; rfl, by (repeat (first | exact Below.refl _ _ | exact Nat.le_refl _ | (refine below_ext ?_ (by first | (simp [size_ext, grow]; done) | (simp [size_ext, grow]; omega) | omega) _ _) | (refine Below.setCell ?_ (by first | (simp [size_ext, grow]; done) | (simp [size_ext, grow]; omega) | omega) _) | (refine Below.alloc ?_ (by first | (simp [size_ext, grow]; done) | (simp [size_ext, grow]; omega) | omega) _) | refine Below.drew ?_ | refine below_drewN ?_ _ | (refine Below.trans ?_ (Below.mono (by assumption) (by first | (simp [size_ext, grow]; done) | (simp [size_ext, grow]; omega) | omega)))))⟩
theorem At.two {w wr w1 : World} {B : Nat} {A : Option Addr} {xs : List Value} (h : At wr B A xs) (h1 : Below w.heap.size w wr) (h2 : Below w.heap.size w w1) (hB : B ≤ w.heap.size) : At w1 B A xs := by
  rcases h with h | ⟨b, o, e, hb, hc⟩
  · exact .inl h
  · exact .inr ⟨b, o, e, hb, fun j u hu => (h2.cell (p := ⟨b, o + j, none⟩) (by simp; omega)).trans ((h1.cell (p := ⟨b, o + j, none⟩) (by simp; omega)).symm.trans (hc j u hu))⟩
set_option maxRecDepth 100000 in
set_option maxHeartbeats 4000000 in
theorem renc_in (A : Option Addr) (c : Nat) (E : List Ent) (w : World) (B : Nat) (hB : B ≤ w.heap.size) (hE : OptsAt w B A E) (hl : E.length ≤ 64) :
    Calls Try.prog 13 #[.slice A E.length c] w (EncP w (E.map Ent.o)) := by
  have HE := Lib.hid hE
  have HB := Lib.hid hB
  clear hE hB
  go_enter Try.func13, Try.ntmps13
  go_wp2
  go_loopw [4] (fun i wr => ∃ (k : Nat), k ≤ E.length ∧ i = .int .i64 k ∧ ((E.map Ent.o).take k).all okO = true ∧ Below w.heap.size w wr) (fun i _ => E.length - (intOf i).toNat)
  case atStart => exact ⟨0, Nat.zero_le _, rfl, rfl, Below.refl _ _⟩
  case round =>
    obtain ⟨k, hk, rfl, hall, hb⟩ := hrel
    have HALL := Lib.hid hall
    have HBW := Lib.hid hb
    have hsz := hb.size
    clear hall hb
    by_cases hlt : k < E.length
    · obtain ⟨b, o, rfl, hbB, hx, hy⟩ := (HE.out.keep (HBW.out.mono HB.out)).get hlt
      obtain ⟨hd, hdc⟩ := (HE.out.keep (HBW.out.mono HB.out)).2 E[k] (List.getElem_mem hlt)
      have HM := Lib.hid (map_o E k hlt)
      have HK := Lib.hid (show k < (E.map Ent.o).length by simpa using hlt)
      obtain ⟨⟨t, d, a, c2⟩, he⟩ : ∃ e, E[k] = e := ⟨_, rfl⟩
      rw [he] at hx hy hd hdc HM
      simp only [Ent.v] at hy hd hdc HM
      dsimp only at hx
      have HD := Lib.hid hd
      have HDC := Lib.hid hdc
      clear he hd hdc
      cases ho : okO (t, d)
      · have HX := Lib.hid (show (E.map Ent.o).all okO = false from all_not HK.out (by rw [HM.out]; exact ho))
        have HR := Lib.hid (show encR (E.map Ent.o) = ([], 80) by unfold encR; rw [if_neg (by rw [List.length_map]; omega), if_neg (by rw [HX.out]; simp)])
        go_wp2_with (go_at_call 27; refine (is_ref t a d.length c2 d _ rfl).mono ?_; rw [ho]; rintro e w1 ⟨rfl, hb⟩; obtain ⟨xs, dd, rfl⟩ := ext_of hb; clear hb)
        go_ret2
        exact ⟨.slice none 0 0, by rw [HR.out]; rfl, by have := HBW.out; (repeat (first | exact Below.refl _ _ | exact Nat.le_refl _ | (refine below_ext ?_ (by first | (simp [size_ext, grow]; done) | (simp [size_ext, grow]; omega) | omega) _ _) | (refine Below.setCell ?_ (by first | (simp [size_ext, grow]; done) | (simp [size_ext, grow]; omega) | omega) _) | (refine Below.alloc ?_ (by first | (simp [size_ext, grow]; done) | (simp [size_ext, grow]; omega) | omega) _) | refine Below.drew ?_ | refine below_drewN ?_ _ | (refine Below.trans ?_ (Below.mono (by assumption) (by first | (simp [size_ext, grow]; done) | (simp [size_ext, grow]; omega) | omega))))), by rw [HR.out]; exact own_nil _ _ _ _⟩
      · go_wp2_with (go_at_call 27; refine (is_ref t a d.length c2 d _ rfl).mono ?_; rw [ho]; rintro e w1 ⟨rfl, hb⟩; obtain ⟨xs, dd, rfl⟩ := ext_of hb; clear hb)
        go_roundw
        case rel => exact ⟨k + 1, by omega, by go_num, all_take HK.out HALL.out (by rw [HM.out]; exact ho), by have := HBW.out; (repeat (first | exact Below.refl _ _ | exact Nat.le_refl _ | (refine below_ext ?_ (by first | (simp [size_ext, grow]; done) | (simp [size_ext, grow]; omega) | omega) _ _) | (refine Below.setCell ?_ (by first | (simp [size_ext, grow]; done) | (simp [size_ext, grow]; omega) | omega) _) | (refine Below.alloc ?_ (by first | (simp [size_ext, grow]; done) | (simp [size_ext, grow]; omega) | omega) _) | refine Below.drew ?_ | refine below_drewN ?_ _ | (refine Below.trans ?_ (Below.mono (by assumption) (by first | (simp [size_ext, grow]; done) | (simp [size_ext, grow]; omega) | omega)))))⟩
        case measure => simp [intOf]; omega
    · obtain rfl : k = E.length := by omega
      have HALL2 := Lib.hid (show (E.map Ent.o).all okO = true by have := HALL.out; rwa [List.take_of_length_le (by simp)] at this)
      obtain ⟨w0, hw0⟩ : ∃ w0, w0 = wr := ⟨_, rfl⟩
      rw [← hw0] at HBW hsz ⊢
      clear hw0
      go_wp2
      go_loopw [6, 5] (fun i v wr => ∃ (k n c : Nat) (A : Option Addr), k ≤ E.length ∧ i = .int .i64 k ∧ v = .slice A n c ∧ n ≤ c ∧ n ≤ 255 * k ∧ n = (encs ((E.map Ent.o).take k)).length ∧ Below w.heap.size w wr ∧ wr.ownsRow w.heap.size 5 1 (.slice A n c) n ((encs ((E.map Ent.o).take k)).map bv)) (fun i _ _ => E.length - (intOf i).toNat)
      case atStart => exact ⟨0, 0, 0, none, Nat.zero_le _, rfl, rfl, Nat.le_refl _, by omega, rfl, HBW.out, own_nil _ _ _ _⟩
      case round =>
        obtain ⟨k, n, c', A', hk, rfl, rfl, hnc, hn5, hn, hb, ho⟩ := hrel
        have HN := Lib.hid (And.intro hn hnc)
        have HBW := Lib.hid hb
        have HO := Lib.hid ho
        have hsz := hb.size
        clear hn hnc hb ho
        by_cases hlt : k < E.length
        · obtain ⟨b, o, rfl, hbB, hx, hy⟩ := (HE.out.keep (HBW.out.mono HB.out)).get hlt
          obtain ⟨hd, hdc⟩ := (HE.out.keep (HBW.out.mono HB.out)).2 E[k] (List.getElem_mem hlt)
          have HM := Lib.hid (map_o E k hlt)
          have HK := Lib.hid (show k < (E.map Ent.o).length by simpa using hlt)
          obtain ⟨⟨t, d, a, c2⟩, he⟩ : ∃ e, E[k] = e := ⟨_, rfl⟩
          rw [he] at hx hy hd hdc HM
          simp only [Ent.v] at hy hd hdc HM
          dsimp only at hx
          have HD := Lib.hid hd
          have HDC := Lib.hid hdc
          clear he hd hdc
          have HOK := Lib.hid (show okO (t, d) = true by have := List.all_eq_true.1 HALL2.out _ (List.getElem_mem HK.out); rw [HM.out] at this; exact this)
          have hin : inB t 0 255 = true := by have := HOK.out; unfold okO at this; simp at this; exact this.1
          have h253 : d.length ≤ 253 := by have := HOK.out; unfold okO at this; simp at this; exact this.2
          obtain ⟨x, hx1, hx2⟩ := byteOf hin
          have HX2 := Lib.hid hx2
          subst hx1
          obtain ⟨y, hy1⟩ : ∃ y : UInt8, (d.length : Int) + 2 = (y.toNat : Int) := ⟨UInt8.ofNat (d.length + 2), by simp; omega⟩
          have HY := Lib.hid hy1
          have z1 : b < wr.heap.size := by have := HB.out; omega
          have x1 : ((x.toNat : Nat) : Int) < 256 := by have := x.toNat_lt; omega
          have y1 : ((y.toNat : Nat) : Int) < 256 := by have := y.toNat_lt; omega
          have i1 : IntKind.i64.wrap ((d.length : Int) + 2) = (d.length : Int) + 2 := IntWalk.i64_in _ (by omega)
          have u1 : IntKind.u8.wrap (x.toNat : Int) = (x.toNat : Int) := wrapU8 x
          have u2 : IntKind.u8.wrap (y.toNat : Int) = (y.toNat : Int) := wrapU8 y
          have j1 : IntKind.i64.wrap (y.toNat : Int) = (y.toNat : Int) := IntWalk.i64_in _ (by omega)
          have hn64 : n ≤ 255 * 64 := by omega
          have jj1 : (k : Int) < (E.length : Int) := by omega
          have jj0 : (0 : Int) ≤ (k : Int) := by omega
          have hbw : b < w.heap.size := by have := HB.out; omega
          have HXY := Lib.hid (And.intro hx hy)
          have HNEW := Lib.hid (At.newN wr #[.int .u8 (x.toNat : Int), .int .u8 (y.toNat : Int)] 5 [bv x, bv y] wr.heap.size rfl rfl)
          have HDW := Lib.hid (show At wr B a (d.map bv) from HD.out)
          clear hx2 hin hbB
          go_wp2_with fail
          go_region_held3 (fun w' => w'.cell? ⟨b, o + k * 2, none⟩ = some (.int .i64 (x.toNat : Int)) ∧ w'.cell? ⟨b, o + k * 2 + 1, none⟩ = some (.slice a d.length c2)) (first | (go_keep; done) | (go_simp; done) | (simp [go_sem]; done)) ((refine step_appv w rfl (.tmp 28) (.tmp 43) 23 rfl 5 Try.underlying23 (.int .u8 0) 1 1 infoU8 rfl (by decide) (by decide) (.slice A' n c') n ((encs ((E.map Ent.o).take k)).map bv) rfl (by exact own_below HO.out (by (repeat (first | exact Below.refl _ _ | exact Nat.le_refl _ | (refine below_ext ?_ (by first | (simp [size_ext, grow]; done) | (simp [size_ext, grow]; omega) | omega) _ _) | (refine Below.setCell ?_ (by first | (simp [size_ext, grow]; done) | (simp [size_ext, grow]; omega) | omega) _) | (refine Below.alloc ?_ (by first | (simp [size_ext, grow]; done) | (simp [size_ext, grow]; omega) | omega) _) | refine Below.drew ?_ | refine below_drewN ?_ _ | (refine Below.trans ?_ (Below.mono (by assumption) (by first | (simp [size_ext, grow]; done) | (simp [size_ext, grow]; omega) | omega))))))) (wr.heap.size + 1) (some ⟨wr.heap.size, 0, none⟩) 2 2 [bv x, bv y] rfl rfl (by omega) (by exact HNEW.out.keep (by (repeat (first | exact Below.refl _ _ | exact Nat.le_refl _ | (refine below_ext ?_ (by first | (simp [size_ext, grow]; done) | (simp [size_ext, grow]; omega) | omega) _ _) | (refine Below.setCell ?_ (by first | (simp [size_ext, grow]; done) | (simp [size_ext, grow]; omega) | omega) _) | (refine Below.alloc ?_ (by first | (simp [size_ext, grow]; done) | (simp [size_ext, grow]; omega) | omega) _) | refine Below.drew ?_ | refine below_drewN ?_ _ | (refine Below.trans ?_ (Below.mono (by assumption) (by first | (simp [size_ext, grow]; done) | (simp [size_ext, grow]; omega) | omega))))))) (by intro u hu; simp at hu; rcases hu with rfl | rfl <;> rfl) (by have := HBW.out; (repeat (first | exact Below.refl _ _ | exact Nat.le_refl _ | (refine below_ext ?_ (by first | (simp [size_ext, grow]; done) | (simp [size_ext, grow]; omega) | omega) _ _) | (refine Below.setCell ?_ (by first | (simp [size_ext, grow]; done) | (simp [size_ext, grow]; omega) | omega) _) | (refine Below.alloc ?_ (by first | (simp [size_ext, grow]; done) | (simp [size_ext, grow]; omega) | omega) _) | refine Below.drew ?_ | refine below_drewN ?_ _ | (refine Below.trans ?_ (Below.mono (by assumption) (by first | (simp [size_ext, grow]; done) | (simp [size_ext, grow]; omega) | omega)))))) ?_; intro A1 c1 w1 ho1 hc1 hb1 hg1; have q0 : w1.cell? ⟨b, o + k * 2, none⟩ = some (.int .i64 (x.toNat : Int)) := (hb1.cell (p := ⟨b, _, none⟩) hbw).trans ((HBW.out.cell (p := ⟨b, _, none⟩) hbw).symm.trans HXY.out.1); have q1 : w1.cell? ⟨b, o + k * 2 + 1, none⟩ = some (.slice a d.length c2) := (hb1.cell (p := ⟨b, _, none⟩) hbw).trans ((HBW.out.cell (p := ⟨b, _, none⟩) hbw).symm.trans HXY.out.2); have z2 : b < w1.heap.size := (by have := hb1.size; omega); have HO1 := Lib.hid ho1; have HB1 := Lib.hid hb1; have HG1 := Lib.hid hg1; clear ho1 hc1 hb1 hg1))
          go_wp2_with (at_builtin; go_loud (refine wpList_appv w rfl (.tmp 45) (.tmp 50) 23 rfl 5 Try.underlying23 (.int .u8 0) 1 1 infoU8 rfl (by decide) (by decide) (.slice A1 (n + 2) c1) (n + 2) ((encs ((E.map Ent.o).take k)).map bv ++ [bv x, bv y]) rfl (by exact own_below HO1.out (by (repeat (first | exact Below.refl _ _ | exact Nat.le_refl _ | (refine below_ext ?_ (by first | (simp [size_ext, grow]; done) | (simp [size_ext, grow]; omega) | omega) _ _) | (refine Below.setCell ?_ (by first | (simp [size_ext, grow]; done) | (simp [size_ext, grow]; omega) | omega) _) | (refine Below.alloc ?_ (by first | (simp [size_ext, grow]; done) | (simp [size_ext, grow]; omega) | omega) _) | refine Below.drew ?_ | refine below_drewN ?_ _ | (refine Below.trans ?_ (Below.mono (by assumption) (by first | (simp [size_ext, grow]; done) | (simp [size_ext, grow]; omega) | omega))))))) B a d.length c2 (d.map bv) rfl (by simp) (by omega) (by exact At.two HDW.out HBW.out HB1.out HB.out) (bv_all _) (by have := HB1.out; (repeat (first | exact Below.refl _ _ | exact Nat.le_refl _ | (refine below_ext ?_ (by first | (simp [size_ext, grow]; done) | (simp [size_ext, grow]; omega) | omega) _ _) | (refine Below.setCell ?_ (by first | (simp [size_ext, grow]; done) | (simp [size_ext, grow]; omega) | omega) _) | (refine Below.alloc ?_ (by first | (simp [size_ext, grow]; done) | (simp [size_ext, grow]; omega) | omega) _) | refine Below.drew ?_ | refine below_drewN ?_ _ | (refine Below.trans ?_ (Below.mono (by assumption) (by first | (simp [size_ext, grow]; done) | (simp [size_ext, grow]; omega) | omega)))))) ?_); intro A3 c3 w3 ho3 hc3 hb3 hg3; have HO3 := Lib.hid ho3; have HB3 := Lib.hid hb3; have HC3 := Lib.hid hc3; clear ho3 hc3 hb3 hg3)
          go_roundw
          case rel => exact ⟨k + 1, n + 2 + d.length, _, _, by omega, by go_num, rfl, HC3.out, by omega, by rw [encs_take HK.out, HM.out, List.length_append, ← HN.out.1]; simp [encO]; omega, HB3.out, by
            rw [encs_take HK.out, HM.out, List.map_append]
            have e : (encO ((x.toNat : Int), d)).map bv = [bv x, bv y] ++ d.map bv := by
              simp only [encO, List.map_cons]
              rw [show UInt8.ofNat (x.toNat : Int).toNat = x from HX2.out, show UInt8.ofNat (d.length + 2) = y from by apply UInt8.toNat.inj; have := HY.out; simp; omega]
              rfl
            rw [e, ← List.append_assoc]
            exact HO3.out⟩
          case measure => simp [intOf]; omega
        · obtain rfl : k = E.length := by omega
          have HT := Lib.hid (show (E.map Ent.o).take E.length = E.map Ent.o from List.take_of_length_le (by simp))
          have HL := Lib.hid (show n = (encs (E.map Ent.o)).length by have := HN.out; rw [HT.out] at this; exact this.1)
          have HEN := Lib.hid (show encR (E.map Ent.o) = if 1488 < n then ([], 2) else (encs (E.map Ent.o), 0) by unfold encR; rw [if_neg (by rw [List.length_map]; omega), if_pos HALL2.out, ← HL.out])
          by_cases hbig : 1488 < n
          · go_wp2
            go_ret2
            exact ⟨.slice none 0 0, by rw [HEN.out, if_pos hbig]; rfl, HBW.out, by rw [HEN.out, if_pos hbig]; exact own_nil _ _ _ _⟩
          · go_wp2
            go_ret2
            refine ⟨.slice A' n c', by rw [HEN.out, if_neg hbig]; rfl, HBW.out, ?_⟩
            rw [HEN.out, if_neg hbig]
            have := HO.out
            rw [HT.out] at this
            have e := HL.out
            simp only
            rw [← e]
            exact this
end Go.Proofs.Ytbdkapmiioiikaa
