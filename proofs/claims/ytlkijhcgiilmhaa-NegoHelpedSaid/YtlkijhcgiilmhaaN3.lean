/- nego.owns: options in memory of their own. -/
import Derived.Test.YtlkijhcgiilmhaaN2
namespace Go.Proofs.Ytlkijhcgiilmhaa
open Go.RowKit
set_option linter.unusedSimpArgs false
set_option linter.unusedVariables false
theorem OwnOpts.pushed {W W2 : World} {base : Nat} {v v3 : Value} {E : List Ent} {tt : Int} {A2 : Option Addr} {dd : List UInt8} {c2 : Nat} (h : OwnOpts W base v E)
    (h2 : W.ownsRow base 5 1 (.slice A2 dd.length c2) dd.length (dd.map bv)) (h3 : W2.ownsRow base 42 2 v3 (E.length + 1) (cellsE E ++ [.int .i64 tt, .slice A2 dd.length c2]))
    (hg : W.grownBy W2 v.ownBlock) : OwnOpts W2 base v3 (E ++ [⟨tt, dd, A2, c2⟩]) := by
  have hr : ∀ r, v.ownBlock = some r → r < base ∨ (∃ o : Obj, W.heap[r]? = some o ∧ o.isCells = false) ∨ (∃ cur e', W.heap[r]? = some (.cells cur e' (0, 0)) ∧ e' ≠ 5) := fun r e => by
    obtain ⟨cur, hc⟩ := own_type h.1 e
    exact .inr (.inr ⟨cur, 42, hc, by decide⟩)
  refine ⟨by rw [cellsE_snoc]; simpa [Ent.v] using h3, fun e he => ?_⟩
  rcases List.mem_append.1 he with he | he
  · exact own_stays (h.2 e he) hg hr
  · simp only [List.mem_singleton] at he
    subst he
    exact own_stays h2 hg hr
/-- Options told: a row of one's own, with their data. -/
def RowsP (L : List (Int × List UInt8)) (w : World) (x : Ending) (w' : World) : Prop :=
  ∃ (E : List Ent) (A : Option Addr) (c : Nat), x = .returned (.slice A L.length c) ∧ E.map Ent.o = L ∧ Below w.heap.size w w' ∧ OwnOpts w' w.heap.size (.slice A L.length c) E
theorem ent_take {E : List Ent} {k : Nat} (hk : k < E.length) : (E.take (k + 1)).map Ent.o = (E.take k).map Ent.o ++ [E[k].o] := by rw [List.take_succ_eq_append_getElem hk, List.map_append]; rfl
set_option maxHeartbeats 1000000 in
theorem owns_any (A : Option Addr) (n c : Nat) (E : List Ent) (w : World) (B : Nat) (hB : B ≤ w.heap.size) (hA : OptsAt w B A E) (hn : n = E.length) (hl : n ≤ 1000000) (hd : ∀ e ∈ E, e.d.length ≤ 400000000) :
    Calls Try.prog 25 #[.slice A n c] w (RowsP (E.map Ent.o) w) := by
  have HA := Lib.hid hA
  have HN := Lib.hid hn
  have HB := Lib.hid hB
  have HD := Lib.hid hd
  clear hA hn hB hd
  go_enter Try.func25, Try.ntmps25
  go_wp2_with fail
  go_loopw [8, 3] (fun i v wr => ∃ (k c2 : Nat) (A2 : Option Addr) (E2 : List Ent), k ≤ n ∧ i = .int .i64 k ∧ v = .slice A2 k c2 ∧ E2.map Ent.o = (E.take k).map Ent.o ∧ Below w.heap.size w wr ∧ OwnOpts wr w.heap.size (.slice A2 k c2) E2) (fun i _ _ => n - (intOf i).toNat)
  case atStart => exact ⟨0, 0, none, [], Nat.zero_le _, rfl, rfl, rfl, Below.refl _ _, OwnOpts.nil _ _⟩
  case round =>
    obtain ⟨k, c2, A2, E2, hk, rfl, rfl, hE2, hbl, hown⟩ := hrel
    have HE2 := Lib.hid hE2
    have HBL := Lib.hid hbl
    have HOW := Lib.hid hown
    have hszr := hbl.size
    have HL2 := Lib.hid (show E2.length = k by have := congrArg List.length hE2; simp at this; have h2 := HN.out; omega)
    clear hE2 hbl hown
    by_cases hlt : k < n
    · have HK := Lib.hid (show k < E.length by have := HN.out; omega)
      obtain ⟨b, o, rfl, hbB, hx, hy⟩ := (HA.out.keep (HBL.out.mono HB.out)).get HK.out
      have HTK := Lib.hid (ent_take HK.out)
      obtain ⟨e0, he0, hmem⟩ : ∃ e0, E[k]'HK.out = e0 ∧ e0 ∈ E := ⟨_, rfl, List.getElem_mem _⟩
      rw [he0] at hx hy HTK
      have hat := (HA.out.keep (HBL.out.mono HB.out)).2 e0 hmem
      have hdl := HD.out e0 hmem
      obtain ⟨t, d, a, ce⟩ := e0
      have hbz : b < wr.heap.size := by have := HB.out; omega
      have jj0 : (0 : Int) ≤ (k : Int) := by omega
      have jj1 : (k : Int) < (n : Int) := by omega
      have HAT := Lib.hid hat
      unfold Ent.v at hy
      simp only at hx hy hdl hat
      clear hat he0 hmem
      go_wp2_with fail
      refine (own_any t a d.length ce d _ B (by have := HB.out; simp; omega) (HAT.out.1.keep (by have := HB.out; exact bel)) rfl hdl HAT.out.2).mono ?_
      rintro e w2 ⟨A3, c3, rfl, hb, ho⟩
      have HB2 := Lib.hid (show Below wr.heap.size wr w2 from Below.trans (by exact bel) (hb.mono (by simp)))
      have HO2 := Lib.hid (own_base (base' := w.heap.size) ho (by simp; omega))
      have HOK := Lib.hid (show wr.ownsRow w.heap.size 42 2 (.slice A2 k c2) k (cellsE E2) by have h := HOW.out.1; rwa [HL2.out] at h)
      have hsz2 := HB2.out.size
      clear hb ho
      go_wp2_with (at_builtin; refine wpList_appv w rfl (.tmp 12) (.tmp 15) 23 rfl 42 Try.underlying23 (.agg #[.int .i64 0, .slice none 0 0]) 2 32 infoOpt rfl (by decide) (by decide) (.slice A2 k c2) k (cellsE E2) rfl (by exact own_below HOK.out (by have := HB2.out; exact bel)) (w2.heap.size + 1) (some ⟨w2.heap.size, 0, none⟩) 1 1 [.int .i64 t, .slice A3 d.length c3] rfl rfl (by omega) (by exact At.newN _ _ _ _ _ rfl rfl) (by intro u hu; simp at hu; rcases hu with rfl | rfl <;> rfl) (by have h1 := HBL.out; have h2 := HB2.out; exact bel) ?_; intro A4 c4 w3 ho3 hc3 hb3 hg3; have HO3 := Lib.hid ho3; have HB3 := Lib.hid hb3; have HG3 := Lib.hid hg3; clear ho3 hc3 hb3 hg3)
      have HOE := Lib.hid (OwnOpts.pushed (tt := t) (dd := d) (A2 := A3) (c2 := c3) (HOW.out.below (HB2.out.trans (Below.alloc (Below.refl _ w2) hsz2 _))) (own_below HO2.out (Below.alloc (Below.refl _ w2) (Nat.le_refl _) _)) (by rw [HL2.out]; exact HO3.out) HG3.out)
      go_roundw
      case rel => exact ⟨k + 1, c4, A4, _, by omega, by go_num, rfl, by rw [List.map_append, HE2.out, HTK.out]; rfl, HB3.out, HOE.out⟩
      case measure => simp [intOf]; omega
    · obtain rfl : k = n := by omega
      go_wp2_with fail
      go_ret
      have h := HE2.out
      rw [HN.out, List.take_length] at h
      have hlen : (E.map Ent.o).length = k := by rw [List.length_map]; exact HN.out.symm
      refine ⟨E2, A2, c2, ?_, h, HBL.out, ?_⟩
      · rw [hlen]; rfl
      · rw [hlen]; exact HOW.out
end Go.Proofs.Ytlkijhcgiilmhaa
