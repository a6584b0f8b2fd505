/- The reference's Copy; options whose types and data are written over. -/
import Derived.Test.YtlkijhcgiilmhaaN28
import Derived.Deep.RegionHeld3
namespace Go.Proofs.Ytlkijhcgiilmhaa
open Go.RowKit
set_option linter.unusedSimpArgs false
set_option linter.unusedVariables false
set_option maxHeartbeats 1000000 in
theorem copy_any (A : Option Addr) (n c : Nat) (E : List Ent) (w : World) (B : Nat) (hB : B ≤ w.heap.size) (hA : OptsAt w B A E) (hn : n = E.length) (hl : n ≤ 1000000) (hd : ∀ e ∈ E, e.d.length ≤ 400000000) :
    Calls Try.prog 22 #[.slice A n c] w (RowsP (E.map Ent.o) w) := by
  have HA := Lib.hid hA
  have HN := Lib.hid hn
  have HB := Lib.hid hB
  have HD := Lib.hid hd
  clear hA hn hB hd
  go_enter Try.func22, Try.ntmps22
  go_wp2_with fail
  go_loopw [4, 3] (fun i v wr => ∃ (k c2 : Nat) (A2 : Option Addr) (E2 : List Ent), k ≤ n ∧ i = .int .i64 k ∧ v = .slice A2 k c2 ∧ E2.map Ent.o = (E.take k).map Ent.o ∧ Below w.heap.size w wr ∧ OwnOpts wr w.heap.size (.slice A2 k c2) E2) (fun i _ _ => n - (intOf i).toNat)
  case atStart => exact ⟨0, 0, none, [], Nat.zero_le _, rfl, rfl, rfl, Below.refl _ _, OwnOpts.nil _ _⟩
  case round =>
    obtain ⟨k, c2, A2, E2, hk, rfl, rfl, hE2, hbl, hown⟩ := hrel
    have HE2 := Lib.hid hE2
    have HBL := Lib.hid hbl
    have HOW := Lib.hid hown
    have hszr := hbl.size
    have HL2 := Lib.hid (show E2.length = k by have := congrArg List.length hE2; simp at this; have h2 := HN.out; omega)
    clear hE2 hbl hown
    by_cases hlt : k < n
    · have HK := Lib.hid (show k < E.length by have := HN.out; omega)
      obtain ⟨b, o, rfl, hbB, hx, hy⟩ := (HA.out.keep (HBL.out.mono HB.out)).get HK.out
      have HTK := Lib.hid (ent_take HK.out)
      obtain ⟨e0, he0, hmem⟩ : ∃ e0, E[k]'HK.out = e0 ∧ e0 ∈ E := ⟨_, rfl, List.getElem_mem _⟩
      rw [he0] at hx hy HTK
      have hat := (HA.out.keep (HBL.out.mono HB.out)).2 e0 hmem
      have hdl := HD.out e0 hmem
      obtain ⟨t, d, a, ce⟩ := e0
      have hbz : b < wr.heap.size := by have := HB.out; omega
      have jj0 : (0 : Int) ≤ (k : Int) := by omega
      have jj1 : (k : Int) < (n : Int) := by omega
      have HAT := Lib.hid hat
      have HOK := Lib.hid (show wr.ownsRow w.heap.size 42 2 (.slice A2 k c2) k (cellsE E2) by have h := HOW.out.1; rwa [HL2.out] at h)
      unfold Ent.v at hy
      simp only at hx hy hdl hat
      clear hat he0 hmem
      have zw : b < w.heap.size := by have := HB.out; omega
      go_upto_region 5 with (fail)
      go_region_held3 (fun w' => w'.cell? ⟨b, o + k * 2, none⟩ = some (.int .i64 t) ∧ w'.cell? ⟨b, o + k * 2 + 1, none⟩ = some (.slice a d.length ce)) (first | (go_keep; done) | (go_simp; done) | (simp [go_sem]; done)) (first | ((refine step_appv wr rfl (.tmp 17) (.tmp 22) 40 rfl 5 Try.underlying40 (.int .u8 0) 1 1 infoU8 rfl (by decide) (by decide) (.slice (some ⟨wr.heap.size, 0, none⟩) 0 0) 0 [] rfl (by exact own_empty wr wr.heap.size 5 1 (Nat.le_refl _)) B a d.length ce (d.map bv) rfl (by simp) (by omega) (by exact HAT.out.1.keep (by have := HB.out; (repeat (first | exact Below.refl _ _ | exact Nat.le_refl _ | (refine below_ext ?_ (by first | (simp [size_ext, grow]; done) | (simp [size_ext, grow]; omega) | omega) _ _) | (refine Below.setCell ?_ (by first | (simp [size_ext, grow]; done) | (simp [size_ext, grow]; omega) | omega) _) | (refine Below.alloc ?_ (by first | (simp [size_ext, grow]; done) | (simp [size_ext, grow]; omega) | omega) _) | refine Below.drew ?_ | refine below_drewN ?_ _ | (refine Below.trans ?_ (Below.mono (by assumption) (by first | (simp [size_ext, grow]; done) | (simp [size_ext, grow]; omega) | omega))))))) (bv_all _) (by (repeat (first | exact Below.refl _ _ | exact Nat.le_refl _ | (refine below_ext ?_ (by first | (simp [size_ext, grow]; done) | (simp [size_ext, grow]; omega) | omega) _ _) | (refine Below.setCell ?_ (by first | (simp [size_ext, grow]; done) | (simp [size_ext, grow]; omega) | omega) _) | (refine Below.alloc ?_ (by first | (simp [size_ext, grow]; done) | (simp [size_ext, grow]; omega) | omega) _) | refine Below.drew ?_ | refine below_drewN ?_ _ | (refine Below.trans ?_ (Below.mono (by assumption) (by first | (simp [size_ext, grow]; done) | (simp [size_ext, grow]; omega) | omega)))))) ?_); intro A1 c1 w1 ho1 hc1 hb1 hg1; clear hg1; have q0 : w1.cell? ⟨b, o + k * 2, none⟩ = some (.int .i64 t) := (hb1.cell (p := ⟨b, _, none⟩) hbz).trans hx; have q1 : w1.cell? ⟨b, o + k * 2 + 1, none⟩ = some (.slice a d.length ce) := (hb1.cell (p := ⟨b, _, none⟩) hbz).trans hy; simp only [Nat.zero_add, List.nil_append] at ho1; have HO1 := Lib.hid ho1; have HB1 := Lib.hid hb1; have HNEW := Lib.hid (At.newN w1 #[.int .i64 t, .slice A1 d.length c1] 42 [.int .i64 t, .slice A1 d.length c1] w1.heap.size rfl rfl); have HOB := Lib.hid (own_below HOK.out hb1); have HBW1 := Lib.hid (HBL.out.trans (hb1.mono hszr)); clear ho1 hc1 hb1) | ((refine step_appv w rfl (.tmp 11) (.tmp 25) 23 rfl 42 Try.underlying23 (.agg #[.int .i64 0, .slice none 0 0]) 2 32 infoOpt rfl (by decide) (by decide) (.slice A2 k c2) k (cellsE E2) rfl (by exact own_below HOB.out (by (repeat (first | exact Below.refl _ _ | exact Nat.le_refl _ | (refine below_ext ?_ (by first | (simp [size_ext, grow]; done) | (simp [size_ext, grow]; omega) | omega) _ _) | (refine Below.setCell ?_ (by first | (simp [size_ext, grow]; done) | (simp [size_ext, grow]; omega) | omega) _) | (refine Below.alloc ?_ (by first | (simp [size_ext, grow]; done) | (simp [size_ext, grow]; omega) | omega) _) | refine Below.drew ?_ | refine below_drewN ?_ _ | (refine Below.trans ?_ (Below.mono (by assumption) (by first | (simp [size_ext, grow]; done) | (simp [size_ext, grow]; omega) | omega))))))) (w1.heap.size + 1) (some ⟨w1.heap.size, 0, none⟩) 1 1 [.int .i64 t, .slice A1 d.length c1] rfl rfl (by omega) (by exact HNEW.out) (by intro u hu; simp at hu; rcases hu with rfl | rfl <;> rfl) (by have := HBW1.out; have := this.size; (repeat (first | exact Below.refl _ _ | exact Nat.le_refl _ | (refine below_ext ?_ (by first | (simp [size_ext, grow]; done) | (simp [size_ext, grow]; omega) | omega) _ _) | (refine Below.setCell ?_ (by first | (simp [size_ext, grow]; done) | (simp [size_ext, grow]; omega) | omega) _) | (refine Below.alloc ?_ (by first | (simp [size_ext, grow]; done) | (simp [size_ext, grow]; omega) | omega) _) | refine Below.drew ?_ | refine below_drewN ?_ _ | (refine Below.trans ?_ (Below.mono (by assumption) (by first | (simp [size_ext, grow]; done) | (simp [size_ext, grow]; omega) | omega)))))) ?_); intro A3 c3 w3 ho3 hc3 hb3 hg3; have q3 : w3.cell? ⟨b, o + k * 2, none⟩ = some (.int .i64 t) := (hb3.cell (p := ⟨b, _, none⟩) zw).trans ((HBL.out.cell (p := ⟨b, _, none⟩) zw).symm.trans hx); have q4 : w3.cell? ⟨b, o + k * 2 + 1, none⟩ = some (.slice a d.length ce) := (hb3.cell (p := ⟨b, _, none⟩) zw).trans ((HBL.out.cell (p := ⟨b, _, none⟩) zw).symm.trans hy); have HO3 := Lib.hid ho3; have HB3 := Lib.hid hb3; have HG3 := Lib.hid hg3; clear ho3 hc3 hb3 hg3))
      all_goals
        have HOE := Lib.hid (OwnOpts.pushed (tt := t) (dd := d) (A2 := A1) (c2 := c1) (HOW.out.below (HB1.out.trans (Below.alloc (Below.refl _ w1) HB1.out.size _))) (by have h := own_base HO1.out hszr; exact own_below h (Below.alloc (Below.refl _ w1) (Nat.le_refl _) _)) (by rw [HL2.out]; exact HO3.out) HG3.out)
        go_wp2_with fail
        go_roundw
        case rel => exact ⟨k + 1, c3, A3, _, by omega, by go_num, rfl, by rw [List.map_append, HE2.out, HTK.out]; rfl, HB3.out, HOE.out⟩
        case measure => simp [intOf]; omega
    · obtain rfl : k = n := by omega
      go_wp2_with fail
      go_ret
      have h := HE2.out
      rw [HN.out, List.take_length] at h
      have hlen : (E.map Ent.o).length = k := by rw [List.length_map]; exact HN.out.symm
      refine ⟨E2, A2, c2, ?_, h, HBL.out, ?_⟩
      · rw [hlen]; rfl
      · rw [hlen]; exact HOW.out
end Go.Proofs.Ytlkijhcgiilmhaa
