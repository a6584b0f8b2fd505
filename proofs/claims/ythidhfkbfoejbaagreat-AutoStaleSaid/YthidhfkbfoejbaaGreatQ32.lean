/- Options that are not more, nor longer, than are looked at. -/
import Derived.Test.YthidhfkbfoejbaaGreatA
namespace Go.Proofs.YthidhfkbfoejbaaGreat
open Go.RowKit
set_option linter.unusedSimpArgs false
set_option linter.unusedVariables false
set_option linter.ambiguousOpen false
/-- An option that is cut. -/
def Ent.lit (e : Ent) : Ent := ⟨e.t, e.d.take 260, e.a, e.c⟩
def litE (E : List Ent) : List Ent := (E.take 70).map Ent.lit
def LitP (w : World) (E : List Ent) (x : Ending) (w' : World) : Prop :=
  ∃ A n c, x = .returned (.slice A n c) ∧ Below w.heap.size w w' ∧ w'.ownsRow w.heap.size 57 2 (.slice A n c) n (cellsE (litE E)) ∧ n = (litE E).length
theorem litE_succ {E : List Ent} {k : Nat} (hk : k < E.length) : ((E.take (k + 1)).map Ent.lit) = ((E.take k).map Ent.lit) ++ [E[k].lit] := by
  rw [List.take_succ_eq_append_getElem hk, List.map_append]; rfl
theorem cells_lit (E : List Ent) (e : Ent) : cellsE (E ++ [e.lit]) = cellsE E ++ [.int .i64 e.t, .slice e.a (min 260 e.d.length) e.c] := by
  rw [cellsE_snoc]; simp [Ent.lit, Ent.v]
set_option maxRecDepth 100000 in
set_option maxHeartbeats 4000000 in
theorem lit_any (A : Option Addr) (N c : Nat) (E : List Ent) (w : World) (B : Nat) (hB : B ≤ w.heap.size) (hE : OptsAt w B A E) (hn : N = E.length) (hl : (N : Int) ≤ 9223372036854775807) (hd : ∀ e ∈ E, (e.d.length : Int) ≤ 9223372036854775807) :
    Calls Tryz.prog 28 #[.slice A N c] w (LitP w E) := by
  subst hn
  have HE := Lib.hid hE
  have HB := Lib.hid hB
  have HD := Lib.hid hd
  clear hE hB hd
  go_enter Tryz.func28, Tryz.ntmps28
  go_wp2
  go_loopw [4, 3] (fun i v wr => ∃ (k c' : Nat) (A' : Option Addr), k ≤ E.length ∧ k ≤ 70 ∧ i = .int .i64 k ∧ v = .slice A' k c' ∧ Below w.heap.size w wr ∧ wr.ownsRow w.heap.size 57 2 (.slice A' k c') k (cellsE ((E.take k).map Ent.lit))) (fun i _ _ => E.length - (intOf i).toNat)
  case atStart => exact ⟨0, 0, none, Nat.zero_le _, by omega, rfl, rfl, Below.refl _ _, own_nil _ _ _ _⟩
  case round =>
    obtain ⟨k, c', A', hk, hk7, rfl, rfl, hb, ho⟩ := hrel
    have HBW := Lib.hid hb
    have HO := Lib.hid ho
    have hsz := hb.size
    clear hb ho
    by_cases hlt : k < E.length
    · by_cases h7 : k < 70
      · obtain ⟨b, o, rfl, hbB, hx, hy⟩ := (HE.out.keep (HBW.out.mono HB.out)).get hlt
        obtain ⟨hd, hdc⟩ := (HE.out.keep (HBW.out.mono HB.out)).2 E[k] (List.getElem_mem hlt)
        have hdl := HD.out E[k] (List.getElem_mem hlt)
        have HK := Lib.hid (litE_succ hlt)
        obtain ⟨⟨t, d, a, c2⟩, he⟩ : ∃ e, E[k] = e := ⟨_, rfl⟩
        rw [he] at hx hy hd hdc HK hdl
        simp only [Ent.v] at hy hd hdc hdl
        dsimp only at hx
        clear he hd
        have ha : Option.map (fun x : Addr => x.add 0) a = a := by cases a <;> simp [Addr.add]
        by_cases h260 : 260 < d.length
        · go_wp2_with (at_builtin; go_loud (refine wpList_appv w rfl (.tmp 28) (.tmp 30) 26 rfl 57 Tryz.underlying26 (.agg #[.int .i64 0, .slice none 0 0]) 2 32 infoOpt rfl (by decide) (by decide) (.slice A' k c') k (cellsE ((E.take k).map Ent.lit)) rfl (own_below HO.out (by exact bel)) (wr.heap.size + 1 + 1) (some ⟨wr.heap.size + 1, 0, none⟩) 1 1 [.int .i64 t, .slice a 260 c2] rfl rfl (by omega) (At.newN _ _ _ _ _ (by simp) rfl) (by intro u hu; simp at hu; rcases hu with rfl | rfl <;> rfl) (by have := HBW.out; exact bel) ?_); intro A3 c3 w3 ho3 hc3 hb3 hg3; have HO3 := Lib.hid ho3; have HB3 := Lib.hid hb3; clear ho3 hc3 hb3 hg3)
          go_roundw
          case rel => exact ⟨k + 1, c3, A3, by omega, by omega, by go_num, rfl, HB3.out, by rw [HK.out, cells_lit, show min 260 d.length = 260 by omega]; exact HO3.out⟩
          case measure => simp [intOf]; omega
        · go_wp2_with (at_builtin; go_loud (refine wpList_appv w rfl (.tmp 28) (.tmp 30) 26 rfl 57 Tryz.underlying26 (.agg #[.int .i64 0, .slice none 0 0]) 2 32 infoOpt rfl (by decide) (by decide) (.slice A' k c') k (cellsE ((E.take k).map Ent.lit)) rfl (own_below HO.out (by exact bel)) (wr.heap.size + 1 + 1) (some ⟨wr.heap.size + 1, 0, none⟩) 1 1 [.int .i64 t, .slice a d.length c2] rfl rfl (by omega) (At.newN _ _ _ _ _ (by simp) rfl) (by intro u hu; simp at hu; rcases hu with rfl | rfl <;> rfl) (by have := HBW.out; exact bel) ?_); intro A3 c3 w3 ho3 hc3 hb3 hg3; have HO3 := Lib.hid ho3; have HB3 := Lib.hid hb3; clear ho3 hc3 hb3 hg3)
          go_roundw
          case rel => exact ⟨k + 1, c3, A3, by omega, by omega, by go_num, rfl, HB3.out, by rw [HK.out, cells_lit, show min 260 d.length = d.length by omega]; exact HO3.out⟩
          case measure => simp [intOf]; omega
      · obtain rfl : k = 70 := by omega
        have hkk : decide ((70 : Int) < (E.length : Int)) = true := by simp; omega
        go_wp2
        go_ret
        exact ⟨A', 70, c', rfl, HBW.out, HO.out, by simp [litE]; omega⟩
    · obtain rfl : k = E.length := by omega
      have HT := Lib.hid (show litE E = (E.take E.length).map Ent.lit by unfold litE; rw [List.take_of_length_le (by omega), List.take_of_length_le (by omega)])
      go_wp2
      go_ret
      exact ⟨A', E.length, c', rfl, HBW.out, by rw [HT.out]; exact HO.out, by rw [HT.out]; simp⟩
/-- What Few tells can be read. -/
theorem lit_at {w w' : World} {B : Nat} {A0 A : Option Addr} {E : List Ent} {n c base : Nat} (h : OptsAt w B A0 E) (hB : B ≤ w.heap.size) (hb : Below w.heap.size w w')
    (ho : w'.ownsRow base 57 2 (.slice A n c) n (cellsE (litE E))) : OptsAt w' w'.heap.size A (litE E) := by
  refine ⟨At.of_own ho, fun e he => ?_⟩
  simp only [litE, List.mem_map] at he
  obtain ⟨x, hx, rfl⟩ := he
  obtain ⟨h1, h2⟩ := h.2 x (List.mem_of_mem_take hx)
  refine ⟨?_, ?_⟩
  · simp only [Ent.lit, List.map_take]
    exact (h1.keep (hb.mono hB)).more (by have := hb.size; omega) |>.take 260
  · simp only [Ent.lit, List.length_take]; omega
theorem lit_len (E : List Ent) : (litE E).length ≤ 70 := by simp only [litE, List.length_map, List.length_take]; omega
theorem lit_data (E : List Ent) : ∀ e ∈ litE E, e.d.length ≤ 260 := by
  intro e he
  simp only [litE, List.mem_map] at he
  obtain ⟨x, hx, rfl⟩ := he
  simp only [Ent.lit, List.length_take]; omega
end Go.Proofs.YthidhfkbfoejbaaGreat
