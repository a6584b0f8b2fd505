/- The reference's Decode at any bytes; cut; Few. -/
import Derived.Test.YtbdkapmiioiikaaH14
namespace Go.Proofs.Ytbdkapmiioiikaa
open Go.RowKit
set_option linter.unusedSimpArgs false
set_option linter.unusedVariables false
theorem rdec_any (A : Option Addr) (N c : Nat) (l : List UInt8) (w : World) (B : Nat) (hB : B ≤ w.heap.size) (hA : At w B A (l.map bv)) (hn : N = l.length) (hc : N ≤ c) :
    Calls Try.prog 15 #[.slice A N c] w (DecP w l) := by
  by_cases hl : N ≤ 1488
  · exact rdec_in A N c l w B hB hA hn hc hl
  · have HR := Lib.hid (show decR l = ([], 2) by unfold decR; rw [if_pos (by omega)])
    have h9 : 1488 < N := by omega
    clear hA hB hn hc hl
    go_enter Try.func15, Try.ntmps15
    go_wp2
    go_ret2
    exact ⟨[], .slice none 0 0, by rw [HR.out]; rfl, Below.refl _ _, OwnOpts.nil _ _, by rw [HR.out]; rfl⟩
theorem cut_any (A : Option Addr) (len c : Nat) (w : World) (hlc : len ≤ c) (hl : (len : Int) ≤ 9223372036854775807) :
    Calls Try.prog 11 #[.slice A len c] w fun e w' => e = .returned (.slice A (min len 1500) c) ∧ w = w' := by
  have ha : Option.map (fun x : Addr => x.add 0) A = A := by cases A <;> simp [Addr.add]
  by_cases h : 1500 < len
  · have hm := Lib.hid (show min len 1500 = 1500 by omega)
    have hc : (1500 : Int) ≤ (c : Int) := by omega
    go_enter Try.func11, Try.ntmps11
    go_wp2
    go_ret
    exact ⟨by rw [hm.out]; rfl, rfl⟩
  · have hm := Lib.hid (show min len 1500 = len by omega)
    have hc : (len : Int) ≤ (c : Int) := by omega
    go_enter Try.func11, Try.ntmps11
    go_wp2
    go_ret
    exact ⟨by rw [hm.out]; rfl, rfl⟩
/-- An option that is cut. -/
def Ent.few (e : Ent) : Ent := ⟨e.t, e.d.take 260, e.a, e.c⟩
def fewE (E : List Ent) : List Ent := (E.take 70).map Ent.few
def FewP (w : World) (E : List Ent) (x : Ending) (w' : World) : Prop :=
  ∃ A n c, x = .returned (.slice A n c) ∧ Below w.heap.size w w' ∧ w'.ownsRow w.heap.size 36 2 (.slice A n c) n (cellsE (fewE E)) ∧ n = (fewE E).length
theorem fewE_succ {E : List Ent} {k : Nat} (hk : k < E.length) : ((E.take (k + 1)).map Ent.few) = ((E.take k).map Ent.few) ++ [E[k].few] := by
  rw [List.take_succ_eq_append_getElem hk, List.map_append]; rfl
theorem cells_few (E : List Ent) (e : Ent) : cellsE (E ++ [e.few]) = cellsE E ++ [.int .i64 e.t, .slice e.a (min 260 e.d.length) e.c] := by
  rw [cellsE_snoc]; simp [Ent.few, Ent.v]
set_option maxRecDepth 100000 in
set_option maxHeartbeats 4000000 in
theorem few_any (A : Option Addr) (N c : Nat) (E : List Ent) (w : World) (B : Nat) (hB : B ≤ w.heap.size) (hE : OptsAt w B A E) (hn : N = E.length) (hl : (N : Int) ≤ 9223372036854775807) (hd : ∀ e ∈ E, (e.d.length : Int) ≤ 9223372036854775807) :
    Calls Try.prog 10 #[.slice A N c] w (FewP w E) := by
  subst hn
  have HE := Lib.hid hE
  have HB := Lib.hid hB
  have HD := Lib.hid hd
  clear hE hB hd
  go_enter Try.func10, Try.ntmps10
  go_wp2
  go_loopw [4, 3] (fun i v wr => ∃ (k c' : Nat) (A' : Option Addr), k ≤ E.length ∧ k ≤ 70 ∧ i = .int .i64 k ∧ v = .slice A' k c' ∧ Below w.heap.size w wr ∧ wr.ownsRow w.heap.size 36 2 (.slice A' k c') k (cellsE ((E.take k).map Ent.few))) (fun i _ _ => E.length - (intOf i).toNat)
  case atStart => exact ⟨0, 0, none, Nat.zero_le _, by omega, rfl, rfl, Below.refl _ _, own_nil _ _ _ _⟩
  case round =>
    obtain ⟨k, c', A', hk, hk7, rfl, rfl, hb, ho⟩ := hrel
    have HBW := Lib.hid hb
    have HO := Lib.hid ho
    have hsz := hb.size
    clear hb ho
    by_cases hlt : k < E.length
    · by_cases h7 : k < 70
      · obtain ⟨b, o, rfl, hbB, hx, hy⟩ := (HE.out.keep (HBW.out.mono HB.out)).get hlt
        obtain ⟨hd, hdc⟩ := (HE.out.keep (HBW.out.mono HB.out)).2 E[k] (List.getElem_mem hlt)
        have hdl := HD.out E[k] (List.getElem_mem hlt)
        have HK := Lib.hid (fewE_succ hlt)
        obtain ⟨⟨t, d, a, c2⟩, he⟩ : ∃ e, E[k] = e := ⟨_, rfl⟩
        rw [he] at hx hy hd hdc HK hdl
        simp only [Ent.v] at hy hd hdc hdl
        dsimp only at hx
        clear he hd
        have ha : Option.map (fun x : Addr => x.add 0) a = a := by cases a <;> simp [Addr.add]
        by_cases h260 : 260 < d.length
        · go_wp2_with (at_builtin; go_loud (refine wpList_appv w rfl (.tmp 28) (.tmp 30) 22 rfl 36 Try.underlying22 (.agg #[.int .i64 0, .slice none 0 0]) 2 32 infoOpt rfl (by decide) (by decide) (.slice A' k c') k (cellsE ((E.take k).map Ent.few)) rfl (own_below HO.out (by (repeat (first | exact Below.refl _ _ | exact Nat.le_refl _ | (refine below_ext ?_ (by first | (simp [size_ext, grow]; done) | (simp [size_ext, grow]; omega) | omega) _ _) | (refine Below.setCell ?_ (by first | (simp [size_ext, grow]; done) | (simp [size_ext, grow]; omega) | omega) _) | (refine Below.alloc ?_ (by first | (simp [size_ext, grow]; done) | (simp [size_ext, grow]; omega) | omega) _) | refine Below.drew ?_ | refine below_drewN ?_ _ | (refine Below.trans ?_ (Below.mono (by assumption) (by first | (simp [size_ext, grow]; done) | (simp [size_ext, grow]; omega) | omega))))))) (wr.heap.size + 1 + 1) (some ⟨wr.heap.size + 1, 0, none⟩) 1 1 [.int .i64 t, .slice a 260 c2] rfl rfl (by omega) (At.newN _ _ _ _ _ (by simp) rfl) (by intro u hu; simp at hu; rcases hu with rfl | rfl <;> rfl) (by have := HBW.out; (repeat (first | exact Below.refl _ _ | exact Nat.le_refl _ | (refine below_ext ?_ (by first | (simp [size_ext, grow]; done) | (simp [size_ext, grow]; omega) | omega) _ _) | (refine Below.setCell ?_ (by first | (simp [size_ext, grow]; done) | (simp [size_ext, grow]; omega) | omega) _) | (refine Below.alloc ?_ (by first | (simp [size_ext, grow]; done) | (simp [size_ext, grow]; omega) | omega) _) | refine Below.drew ?_ | refine below_drewN ?_ _ | (refine Below.trans ?_ (Below.mono (by assumption) (by first | (simp [size_ext, grow]; done) | (simp [size_ext, grow]; omega) | omega)))))) ?_); intro A3 c3 w3 ho3 hc3 hb3 hg3; have HO3 := Lib.hid ho3; have HB3 := Lib.hid hb3; clear ho3 hc3 hb3 hg3)
          go_roundw
          case rel => exact ⟨k + 1, c3, A3, by omega, by omega, by go_num, rfl, HB3.out, by rw [HK.out, cells_few, show min 260 d.length = 260 by omega]; exact HO3.out⟩
          case measure => simp [intOf]; omega
        · go_wp2_with (at_builtin; go_loud (refine wpList_appv w rfl (.tmp 28) (.tmp 30) 22 rfl 36 Try.underlying22 (.agg #[.int .i64 0, .slice none 0 0]) 2 32 infoOpt rfl (by decide) (by decide) (.slice A' k c') k (cellsE ((E.take k).map Ent.few)) rfl (own_below HO.out (by (repeat (first | exact Below.refl _ _ | exact Nat.le_refl _ | (refine below_ext ?_ (by first | (simp [size_ext, grow]; done) | (simp [size_ext, grow]; omega) | omega) _ _) | (refine Below.setCell ?_ (by first | (simp [size_ext, grow]; done) | (simp [size_ext, grow]; omega) | omega) _) | (refine Below.alloc ?_ (by first | (simp [size_ext, grow]; done) | (simp [size_ext, grow]; omega) | omega) _) | refine Below.drew ?_ | refine below_drewN ?_ _ | (refine Below.trans ?_ (Below.mono (by assumption) (by first | (simp [size_ext, grow]; done) | (simp [size_ext, grow]; omega) | omega))))))) (wr.heap.size + 1 + 1) (some ⟨wr.heap.size + 1, 0, none⟩) 1 1 [.int .i64 t, .slice a d.length c2] rfl rfl (by omega) (At.newN _ _ _ _ _ (by simp) rfl) (by intro u hu; simp at hu; rcases hu with rfl | rfl <;> rfl) (by have := HBW.out; (repeat (first | exact Below.refl _ _ | exact Nat.le_refl _ | (refine below_ext ?_ (by first | (simp [size_ext, grow]; done) | (simp [size_ext, grow]; omega) | omega) _ _) | (refine Below.setCell ?_ (by first | (simp [size_ext, grow]; done) | (simp [size_ext, grow]; omega) | omega) _) | (refine Below.alloc ?_ (by first | (simp [size_ext, grow]; done) | (simp [size_ext, grow]; omega) | omega) _) | refine Below.drew ?_ | refine below_drewN ?_ _ | (refine Below.trans ?_ (Below.mono (by assumption) (by first | (simp [size_ext, grow]; done) | (simp [size_ext, grow]; omega) | omega)))))) ?_); intro A3 c3 w3 ho3 hc3 hb3 hg3; have HO3 := Lib.hid ho3; have HB3 := Lib.hid hb3; clear ho3 hc3 hb3 hg3)
          go_roundw
          case rel => exact ⟨k + 1, c3, A3, by omega, by omega, by go_num, rfl, HB3.out, by rw [HK.out, cells_few, show min 260 d.length = d.length by omega]; exact HO3.out⟩
          case measure => simp [intOf]; omega
      · obtain rfl : k = 70 := by omega
        have hkk : decide ((70 : Int) < (E.length : Int)) = true := by simp; omega
        go_wp2
        go_ret
        exact ⟨A', 70, c', rfl, HBW.out, HO.out, by simp [fewE]; omega⟩
    · obtain rfl : k = E.length := by omega
      have HT := Lib.hid (show fewE E = (E.take E.length).map Ent.few by unfold fewE; rw [List.take_of_length_le (by omega), List.take_of_length_le (by omega)])
      go_wp2
      go_ret
      exact ⟨A', E.length, c', rfl, HBW.out, by rw [HT.out]; exact HO.out, by rw [HT.out]; simp⟩
end Go.Proofs.Ytbdkapmiioiikaa
