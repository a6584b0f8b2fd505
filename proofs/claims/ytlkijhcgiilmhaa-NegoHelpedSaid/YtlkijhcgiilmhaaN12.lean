/- Opts: options that are cut. -/
import Derived.Test.YtlkijhcgiilmhaaN11
namespace Go.Proofs.Ytlkijhcgiilmhaa
open Go.RowKit
set_option linter.unusedSimpArgs false
set_option linter.unusedVariables false
/-- An option that is cut. -/
def Ent.few (e : Ent) : Ent := ⟨e.t, e.d.take 20, e.a, e.c⟩
def fewE (E : List Ent) : List Ent := (E.take 20).map Ent.few
def FewP (w : World) (E : List Ent) (x : Ending) (w' : World) : Prop :=
  ∃ A n c, x = .returned (.slice A n c) ∧ Below w.heap.size w w' ∧ w'.ownsRow w.heap.size 42 2 (.slice A n c) n (cellsE (fewE E)) ∧ n = (fewE E).length
theorem fewE_succ {E : List Ent} {k : Nat} (hk : k < E.length) : ((E.take (k + 1)).map Ent.few) = ((E.take k).map Ent.few) ++ [E[k].few] := by
  rw [List.take_succ_eq_append_getElem hk, List.map_append]; rfl
theorem cells_few (E : List Ent) (e : Ent) : cellsE (E ++ [e.few]) = cellsE E ++ [.int .i64 e.t, .slice e.a (min 20 e.d.length) e.c] := by
  rw [cellsE_snoc]; simp [Ent.few, Ent.v]
theorem few_len (E : List Ent) : (fewE E).length ≤ 20 := by simp only [fewE, List.length_map, List.length_take]; omega
theorem few_data (E : List Ent) : ∀ e ∈ fewE E, e.d.length ≤ 20 := by
  intro e he
  simp only [fewE, List.mem_map] at he
  obtain ⟨x, hx, rfl⟩ := he
  simp only [Ent.few, List.length_take]; omega
theorem few_at {w w' : World} {B : Nat} {A0 A : Option Addr} {E : List Ent} {n c base : Nat} (h : OptsAt w B A0 E) (hB : B ≤ w.heap.size) (hb : Below w.heap.size w w')
    (ho : w'.ownsRow base 42 2 (.slice A n c) n (cellsE (fewE E))) : OptsAt w' w'.heap.size A (fewE E) := by
  refine ⟨At.of_own ho, fun e he => ?_⟩
  simp only [fewE, List.mem_map] at he
  obtain ⟨x, hx, rfl⟩ := he
  obtain ⟨h1, h2⟩ := h.2 x (List.mem_of_mem_take hx)
  refine ⟨?_, ?_⟩
  · simp only [Ent.few, List.map_take]
    exact (h1.keep (hb.mono hB)).more (by have := hb.size; omega) |>.take 20
  · simp only [Ent.few, List.length_take]; omega
set_option maxRecDepth 100000 in
set_option maxHeartbeats 4000000 in
theorem few_any (A : Option Addr) (N c : Nat) (E : List Ent) (w : World) (B : Nat) (hB : B ≤ w.heap.size) (hE : OptsAt w B A E) (hn : N = E.length) (hl : (N : Int) ≤ 9223372036854775807) (hd : ∀ e ∈ E, (e.d.length : Int) ≤ 9223372036854775807) :
    Calls Try.prog 10 #[.slice A N c] w (FewP w E) := by
  subst hn
  have HE := Lib.hid hE
  have HB := Lib.hid hB
  have HD := Lib.hid hd
  clear hE hB hd
  go_enter Try.func10, Try.ntmps10
  go_wp2
  go_loopw [4, 3] (fun i v wr => ∃ (k c' : Nat) (A' : Option Addr), k ≤ E.length ∧ k ≤ 20 ∧ i = .int .i64 k ∧ v = .slice A' k c' ∧ Below w.heap.size w wr ∧ wr.ownsRow w.heap.size 42 2 (.slice A' k c') k (cellsE ((E.take k).map Ent.few))) (fun i _ _ => E.length - (intOf i).toNat)
  case atStart => exact ⟨0, 0, none, Nat.zero_le _, by omega, rfl, rfl, Below.refl _ _, own_nil _ _ _ _⟩
  case round =>
    obtain ⟨k, c', A', hk, hk7, rfl, rfl, hb, ho⟩ := hrel
    have HBW := Lib.hid hb
    have HO := Lib.hid ho
    have hsz := hb.size
    clear hb ho
    by_cases hlt : k < E.length
    · by_cases h7 : k < 20
      · obtain ⟨b, o, rfl, hbB, hx, hy⟩ := (HE.out.keep (HBW.out.mono HB.out)).get hlt
        obtain ⟨hd, hdc⟩ := (HE.out.keep (HBW.out.mono HB.out)).2 E[k] (List.getElem_mem hlt)
        have hdl := HD.out E[k] (List.getElem_mem hlt)
        have HK := Lib.hid (fewE_succ hlt)
        obtain ⟨⟨t, d, a, c2⟩, he⟩ : ∃ e, E[k] = e := ⟨_, rfl⟩
        rw [he] at hx hy hd hdc HK hdl
        simp only [Ent.v] at hy hd hdc hdl
        dsimp only at hx
        clear he hd
        have ha : Option.map (fun x : Addr => x.add 0) a = a := by cases a <;> simp [Addr.add]
        have jj0 : (0 : Int) ≤ (k : Int) := by omega
        have jj1 : (k : Int) < (E.length : Int) := by omega
        have jj2 : (d.length : Int) ≤ (c2 : Int) := by omega
        have hbz : b < wr.heap.size := by have := HB.out; omega
        have hbw : b < w.heap.size := by have := HB.out; omega
        have HXY := Lib.hid (And.intro hx hy)
        by_cases h20 : 20 < d.length
        · have HNEW := Lib.hid (At.newN wr #[.int .i64 t, .slice a 20 c2] 42 [.int .i64 t, .slice a 20 c2] wr.heap.size rfl rfl)
          have jj3 : (20 : Int) ≤ (c2 : Int) := by omega
          have jj4 : (20 : Int) < (d.length : Int) := by omega
          go_wp2_with fail
          go_region_held3 (fun w' => w'.cell? ⟨b, o + k * 2, none⟩ = some (.int .i64 t) ∧ w'.cell? ⟨b, o + k * 2 + 1, none⟩ = some (.slice a d.length c2)) (first | (go_keep; done) | (go_simp; done) | (simp [go_sem]; done)) ((refine step_appv w rfl (.tmp 15) (.tmp 35) 23 rfl 42 Try.underlying23 (.agg #[.int .i64 0, .slice none 0 0]) 2 32 infoOpt rfl (by decide) (by decide) (.slice A' k c') k (cellsE ((E.take k).map Ent.few)) rfl (by exact own_below HO.out (by exact bel)) (wr.heap.size + 1) (some ⟨wr.heap.size, 0, none⟩) 1 1 [.int .i64 t, .slice a 20 c2] rfl rfl (by omega) (by exact HNEW.out.keep (by exact bel)) (by intro u hu; simp at hu; rcases hu with rfl | rfl <;> rfl) (by have := HBW.out; exact bel) ?_; intro A3 c3 w3 ho3 hc3 hb3 hg3; have q0 : w3.cell? ⟨b, o + k * 2, none⟩ = some (.int .i64 t) := (hb3.cell (p := ⟨b, _, none⟩) hbw).trans ((HBW.out.cell (p := ⟨b, _, none⟩) hbw).symm.trans HXY.out.1); have q1 : w3.cell? ⟨b, o + k * 2 + 1, none⟩ = some (.slice a d.length c2) := (hb3.cell (p := ⟨b, _, none⟩) hbw).trans ((HBW.out.cell (p := ⟨b, _, none⟩) hbw).symm.trans HXY.out.2); have HO3 := Lib.hid ho3; have HB3 := Lib.hid hb3; clear ho3 hc3 hb3 hg3))
          go_wp2_with fail
          go_roundw
          case rel => exact ⟨k + 1, c3, A3, by omega, by omega, by go_num, rfl, HB3.out, by rw [HK.out, cells_few, show min 20 d.length = 20 by omega]; exact HO3.out⟩
          case measure => simp [intOf]; omega
        · have jj5 : (0 : Int) ≤ (d.length : Int) := by omega
          have jj4 : (if (20 : Int) < (d.length : Int) then (20 : Int) else (d.length : Int)) = (d.length : Int) := by rw [if_neg (by omega)]
          have jj6 : (if 20 < d.length then (20 : Int) else (d.length : Int)) = (d.length : Int) := by rw [if_neg (by omega)]
          clear h20
          have h20 : d.length ≤ 20 := by have := jj6; (by_cases h : 20 < d.length; (rw [if_pos h] at this; omega); omega)
          have HNEW := Lib.hid (At.newN wr #[.int .i64 t, .slice a d.length c2] 42 [.int .i64 t, .slice a d.length c2] wr.heap.size rfl rfl)
          go_wp2_with fail
          go_region_held3 (fun w' => w'.cell? ⟨b, o + k * 2, none⟩ = some (.int .i64 t) ∧ w'.cell? ⟨b, o + k * 2 + 1, none⟩ = some (.slice a d.length c2)) (first | (go_keep; done) | (go_simp; done) | (simp [go_sem]; done)) ((refine step_appv w rfl (.tmp 15) (.tmp 35) 23 rfl 42 Try.underlying23 (.agg #[.int .i64 0, .slice none 0 0]) 2 32 infoOpt rfl (by decide) (by decide) (.slice A' k c') k (cellsE ((E.take k).map Ent.few)) rfl (by exact own_below HO.out (by exact bel)) (wr.heap.size + 1) (some ⟨wr.heap.size, 0, none⟩) 1 1 [.int .i64 t, .slice a d.length c2] rfl rfl (by omega) (by exact HNEW.out.keep (by exact bel)) (by intro u hu; simp at hu; rcases hu with rfl | rfl <;> rfl) (by have := HBW.out; exact bel) ?_; intro A3 c3 w3 ho3 hc3 hb3 hg3; have q0 : w3.cell? ⟨b, o + k * 2, none⟩ = some (.int .i64 t) := (hb3.cell (p := ⟨b, _, none⟩) hbw).trans ((HBW.out.cell (p := ⟨b, _, none⟩) hbw).symm.trans HXY.out.1); have q1 : w3.cell? ⟨b, o + k * 2 + 1, none⟩ = some (.slice a d.length c2) := (hb3.cell (p := ⟨b, _, none⟩) hbw).trans ((HBW.out.cell (p := ⟨b, _, none⟩) hbw).symm.trans HXY.out.2); have HO3 := Lib.hid ho3; have HB3 := Lib.hid hb3; clear ho3 hc3 hb3 hg3))
          go_wp2_with fail
          go_roundw
          case rel => exact ⟨k + 1, c3, A3, by omega, by omega, by go_num, rfl, HB3.out, by rw [HK.out, cells_few, show min 20 d.length = d.length by omega]; exact HO3.out⟩
          case measure => simp [intOf]; omega
      · obtain rfl : k = 20 := by omega
        have hkk : decide ((20 : Int) < (E.length : Int)) = true := by simp; omega
        go_wp2
        go_ret
        exact ⟨A', 20, c', rfl, HBW.out, HO.out, by simp [fewE]; omega⟩
    · obtain rfl : k = E.length := by omega
      have HT := Lib.hid (show fewE E = (E.take E.length).map Ent.few by unfold fewE; rw [List.take_of_length_le (by omega), List.take_of_length_le (by omega)])
      go_wp2
      go_ret
      exact ⟨A', E.length, c', rfl, HBW.out, by rw [HT.out]; exact HO.out, by rw [HT.out]; simp⟩
end Go.Proofs.Ytlkijhcgiilmhaa
