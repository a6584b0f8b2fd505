/- opts.Find, and the reference's. -/
import Derived.Test.YtbdkapmiioiikaaH9
namespace Go.Proofs.Ytbdkapmiioiikaa
open Go.RowKit
set_option linter.unusedSimpArgs false
set_option linter.unusedVariables false
def findO (L : List (Int × List UInt8)) (typ : Int) : Option (Int × List UInt8) := L.find? fun o => o.1 == typ
def findN (L : List (Int × List UInt8)) (typ : Int) : Int × List UInt8 := (findO L typ).getD (0, [])
theorem find_step {L : List (Int × List UInt8)} {k : Nat} {typ : Int} (hk : k < L.length) : findO (L.drop k) typ = if (L[k].1 == typ) = true then some L[k] else findO (L.drop (k + 1)) typ := by
  unfold findO
  rw [List.drop_eq_getElem_cons hk, List.find?_cons]
  cases h : (L[k].1 == typ) <;> simp
def FindP (own : Bool) (w : World) (L : List (Int × List UInt8)) (typ : Int) (x : Ending) (w' : World) : Prop :=
  ∃ e : Ent, x = .returned (.tuple #[.agg #[.int .i64 e.t, e.v], .bool (findO L typ).isSome]) ∧ Below w.heap.size w w' ∧ At w' w'.heap.size e.a (e.d.map bv) ∧ e.d.length ≤ e.c ∧ e.o = findN L typ ∧ (own = true → w'.ownsRow w.heap.size 5 1 e.v e.d.length (e.d.map bv))
set_option maxRecDepth 100000 in
set_option maxHeartbeats 4000000 in
theorem find_any (A : Option Addr) (n k0 : Nat) (typ : Int) (E : List Ent) (w : World) (B : Nat) (hB : B ≤ w.heap.size) (hE : OptsAt w B A E) (hn : n = E.length) (hl : n ≤ 1000000) (hd : ∀ e ∈ E, e.d.length ≤ 400000000) :
    Calls Try.prog 23 #[.slice A n k0, .int .i64 typ] w (FindP true w (E.map Ent.o) typ) := by
  subst hn
  have HE := Lib.hid hE
  have HB := Lib.hid hB
  have H4 := Lib.hid hd
  clear hE hB hd
  go_enter Try.func23, Try.ntmps23
  go_wp2
  go_loopw [10] (fun i wr => ∃ k : Nat, k ≤ E.length ∧ i = .int .i64 k ∧ findO ((E.map Ent.o).drop k) typ = findO (E.map Ent.o) typ ∧ Below w.heap.size w wr ∧ wr.heap[w.heap.size]? = some (.cells #[.int .i64 0, .slice none 0 0] 36 (0, 0))) (fun i _ => E.length - (intOf i).toNat)
  case atStart => exact ⟨0, Nat.zero_le _, rfl, rfl, by (repeat (first | exact Below.refl _ _ | exact Nat.le_refl _ | (refine below_ext ?_ (by first | (simp [size_ext, grow]; done) | (simp [size_ext, grow]; omega) | omega) _ _) | (refine Below.setCell ?_ (by first | (simp [size_ext, grow]; done) | (simp [size_ext, grow]; omega) | omega) _) | (refine Below.alloc ?_ (by first | (simp [size_ext, grow]; done) | (simp [size_ext, grow]; omega) | omega) _) | refine Below.drew ?_ | refine below_drewN ?_ _ | (refine Below.trans ?_ (Below.mono (by assumption) (by first | (simp [size_ext, grow]; done) | (simp [size_ext, grow]; omega) | omega))))), by (repeat (first | ((refine heap_alloc_at _ _ _ ?_); (simp [go_sem]; done)) | ((refine (heap_ext _ _ _ _ ?_).trans ?_); (focus (simp [go_sem]; done))) | ((refine (heap_alloc_past _ _ _ ?_).trans ?_); (focus (simp [go_sem]; done)))))⟩
  case round =>
    obtain ⟨k, hk, rfl, ht, hbw, hr⟩ := hrel
    have HT := Lib.hid ht
    have HBW := Lib.hid hbw
    have hsz := hbw.size
    have r0 : wr.cell? ⟨w.heap.size, 0, none⟩ = some (.int .i64 0) := (cell_of_row wr _ 0 _ _ (0, 0) hr).trans rfl
    have r1 : wr.cell? ⟨w.heap.size, 1, none⟩ = some (.slice none 0 0) := (cell_of_row wr _ 1 _ _ (0, 0) hr).trans rfl
    have rf0 : wr.frozen? ⟨w.heap.size, 0, none⟩ = false := frozen_of_row wr _ 0 _ _ hr
    have rf1 : wr.frozen? ⟨w.heap.size, 1, none⟩ = false := frozen_of_row wr _ 1 _ _ hr
    have hrz : w.heap.size < wr.heap.size := lt_of_block hr
    have HRR := Lib.hid hr
    clear ht hbw hr
    by_cases hlt : k < E.length
    · have HD4 := Lib.hid (H4.out E[k] (List.getElem_mem hlt))
      obtain ⟨b, o, rfl, hb, hx, hy⟩ := (HE.out.keep (HBW.out.mono HB.out)).get hlt
      obtain ⟨hd, hdc⟩ := (HE.out.keep (HBW.out.mono HB.out)).2 E[k] (List.getElem_mem hlt)
      have HM := Lib.hid (map_o E k hlt)
      have HK := Lib.hid (show k < (E.map Ent.o).length by simpa using hlt)
      obtain ⟨⟨t, d, a, c⟩, he⟩ : ∃ e, E[k] = e := ⟨_, rfl⟩
      rw [he] at hx hy hd hdc HM
      simp only [Ent.v] at hy hd hdc HM
      dsimp only at hx
      have HD := Lib.hid hd
      have HDC := Lib.hid hdc
      have ENTK := Lib.hid he
      clear he hd hdc
      have z1 : b < wr.heap.size := by have := HB.out; omega
      cases ho : (t == typ)
      · have HN := Lib.hid (show findO ((E.map Ent.o).drop (k + 1)) typ = findO (E.map Ent.o) typ by rw [← HT.out, find_step HK.out, if_neg (by rw [HM.out]; simp only [ho]; simp)])
        go_wp2
        go_roundw
        case rel => exact ⟨k + 1, by omega, by go_num, HN.out, by have := HBW.out; (repeat (first | exact Below.refl _ _ | exact Nat.le_refl _ | (refine below_ext ?_ (by first | (simp [size_ext, grow]; done) | (simp [size_ext, grow]; omega) | omega) _ _) | (refine Below.setCell ?_ (by first | (simp [size_ext, grow]; done) | (simp [size_ext, grow]; omega) | omega) _) | (refine Below.alloc ?_ (by first | (simp [size_ext, grow]; done) | (simp [size_ext, grow]; omega) | omega) _) | refine Below.drew ?_ | refine below_drewN ?_ _ | (refine Below.trans ?_ (Below.mono (by assumption) (by first | (simp [size_ext, grow]; done) | (simp [size_ext, grow]; omega) | omega))))), by exact (Below.heap_alloc wr _ _ hrz).trans HRR.out⟩
        case measure => simp [intOf]; omega
      · obtain rfl : t = typ := by simpa using ho
        have HF := Lib.hid (show findO (E.map Ent.o) t = some (t, d) by rw [← HT.out, find_step HK.out, if_pos (by rw [HM.out]; simp only [ho]), HM.out])
        go_wp2_with (go_at_call 31; go_loud (refine (clone_any a d.length c d _ B (by have := HB.out; first | (simp; omega) | omega) (by have := HB.out; exact HD.out.keep (by (repeat (first | exact Below.refl _ _ | exact Nat.le_refl _ | (refine below_ext ?_ (by first | (simp [size_ext, grow]; done) | (simp [size_ext, grow]; omega) | omega) _ _) | (refine Below.setCell ?_ (by first | (simp [size_ext, grow]; done) | (simp [size_ext, grow]; omega) | omega) _) | (refine Below.alloc ?_ (by first | (simp [size_ext, grow]; done) | (simp [size_ext, grow]; omega) | omega) _) | refine Below.drew ?_ | refine below_drewN ?_ _ | (refine Below.trans ?_ (Below.mono (by assumption) (by first | (simp [size_ext, grow]; done) | (simp [size_ext, grow]; omega) | omega))))))) rfl (by have := HD4.out; rw [show E[k] = _ from ENTK.out] at this; exact this) HDC.out).mono ?_); rintro e w1 ⟨v, rfl, hb, ho⟩; obtain ⟨xs, dd, rfl⟩ := ext_of hb; clear hb; obtain ⟨A2, c2, rfl, hc2, -⟩ := ownsRow_form ho; have HO := Lib.hid ho; have HC2 := Lib.hid hc2; clear ho hc2)
        have fin : ∀ (W : World), Below w.heap.size w W → W.ownsRow w.heap.size 5 1 (.slice A2 d.length c2) d.length (d.map bv) → FindP true w (E.map Ent.o) t (.returned (.tuple #[.agg #[.int .i64 t, .slice A2 d.length c2], .bool true])) W := fun W hb ho =>
          ⟨⟨t, d, A2, c2⟩, by rw [HF.out]; rfl, hb, At.of_own ho, HC2.out, by unfold findN; rw [HF.out]; rfl, fun _ => ho⟩
        have FIN := Lib.hid fin
        clear fin
        have hrz2 : w.heap.size < wr.heap.size + 1 := by omega
        refine bodyPost_ret (v := .tuple #[.agg #[.int .i64 t, .slice A2 d.length c2], .bool true]) (by simp [results, Try.results23, go_sem, hrz, hrz2, r0, r1]) rfl (FIN.out _ (by have := HBW.out; (repeat (first | exact Below.refl _ _ | exact Nat.le_refl _ | (refine below_ext ?_ (by first | (simp [size_ext, grow]; done) | (simp [size_ext, grow]; omega) | omega) _ _) | (refine Below.setCell ?_ (by first | (simp [size_ext, grow]; done) | (simp [size_ext, grow]; omega) | omega) _) | (refine Below.alloc ?_ (by first | (simp [size_ext, grow]; done) | (simp [size_ext, grow]; omega) | omega) _) | refine Below.drew ?_ | refine below_drewN ?_ _ | (refine Below.trans ?_ (Below.mono (by assumption) (by first | (simp [size_ext, grow]; done) | (simp [size_ext, grow]; omega) | omega)))))) ?_)
        exact own_base (own_swap HO.out (by simp) (Nat.le_refl _)) (by simp; omega)
    · have HF := Lib.hid (show findO (E.map Ent.o) typ = none by rw [← HT.out, List.drop_eq_nil_of_le (by simp; omega)]; rfl)
      go_wp2
      refine bodyPost_ret (v := .tuple #[.agg #[.int .i64 0, .slice none 0 0], .bool false]) (by simp [results, Try.results23, go_sem, r0, r1]) rfl ⟨⟨0, [], none, 0⟩, by rw [HF.out]; rfl, by have := HBW.out; (repeat (first | exact Below.refl _ _ | exact Nat.le_refl _ | (refine below_ext ?_ (by first | (simp [size_ext, grow]; done) | (simp [size_ext, grow]; omega) | omega) _ _) | (refine Below.setCell ?_ (by first | (simp [size_ext, grow]; done) | (simp [size_ext, grow]; omega) | omega) _) | (refine Below.alloc ?_ (by first | (simp [size_ext, grow]; done) | (simp [size_ext, grow]; omega) | omega) _) | refine Below.drew ?_ | refine below_drewN ?_ _ | (refine Below.trans ?_ (Below.mono (by assumption) (by first | (simp [size_ext, grow]; done) | (simp [size_ext, grow]; omega) | omega))))), At.nil _ _ _, Nat.le_refl _, by unfold findN; rw [HF.out]; rfl, fun _ => own_nil _ _ _ _⟩
end Go.Proofs.Ytbdkapmiioiikaa
