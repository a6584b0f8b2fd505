/- The reference's Find. -/
import Derived.Test.YtbdkapmiioiikaaH10
namespace Go.Proofs.Ytbdkapmiioiikaa
open Go.RowKit
set_option linter.unusedSimpArgs false
set_option linter.unusedVariables false
set_option maxRecDepth 100000 in
set_option maxHeartbeats 4000000 in
theorem find_ref (A : Option Addr) (n k0 : Nat) (typ : Int) (E : List Ent) (w : World) (B : Nat) (hB : B ≤ w.heap.size) (hE : OptsAt w B A E) (hn : n = E.length) (hl : n ≤ 1000000) :
    Calls Try.prog 24 #[.slice A n k0, .int .i64 typ] w (FindP false w (E.map Ent.o) typ) := by
  subst hn
  have HE := Lib.hid hE
  have HB := Lib.hid hB
  clear hE hB
  go_enter Try.func24, Try.ntmps24
  go_wp2
  go_loop [6] (fun i => ∃ k : Nat, k ≤ E.length ∧ i = .int .i64 k ∧ findO ((E.map Ent.o).drop k) typ = findO (E.map Ent.o) typ) (fun i => E.length - (intOf i).toNat)
  case atStart => exact ⟨0, Nat.zero_le _, rfl, rfl⟩
  case round =>
    obtain ⟨k, hk, rfl, ht⟩ := hrel
    have HT := Lib.hid ht
    clear ht
    by_cases hlt : k < E.length
    · obtain ⟨b, o, rfl, hb, hx, hy⟩ := HE.out.get hlt
      obtain ⟨hd, hdc⟩ := HE.out.2 E[k] (List.getElem_mem hlt)
      have HM := Lib.hid (map_o E k hlt)
      have HK := Lib.hid (show k < (E.map Ent.o).length by simpa using hlt)
      obtain ⟨⟨t, d, a, c⟩, he⟩ : ∃ e, E[k] = e := ⟨_, rfl⟩
      rw [he] at hx hy hd hdc HM
      simp only [Ent.v] at hy hd hdc HM
      dsimp only at hx
      have HD := Lib.hid hd
      have HDC := Lib.hid hdc
      have ENTK := Lib.hid he
      clear he hd hdc
      have z1 : b < w.heap.size := by have := HB.out; omega
      cases ho : (t == typ)
      · have HN := Lib.hid (show findO ((E.map Ent.o).drop (k + 1)) typ = findO (E.map Ent.o) typ by rw [← HT.out, find_step HK.out, if_neg (by rw [HM.out]; simp only [ho]; simp)])
        go_wp2
        go_round
        case rel => exact ⟨k + 1, by omega, by go_num, HN.out⟩
        case measure => simp [intOf]; omega
      · obtain rfl : t = typ := by simpa using ho
        have HF := Lib.hid (show findO (E.map Ent.o) t = some (t, d) by rw [← HT.out, find_step HK.out, if_pos (by rw [HM.out]; simp only [ho]), HM.out])
        go_wp2
        refine bodyPost_ret (v := .tuple #[.agg #[.int .i64 t, .slice a d.length c], .bool true]) (by simp [results, Try.results24, go_sem]) rfl ⟨⟨t, d, a, c⟩, by rw [HF.out]; rfl, by (repeat (first | exact Below.refl _ _ | exact Nat.le_refl _ | (refine below_ext ?_ (by first | (simp [size_ext, grow]; done) | (simp [size_ext, grow]; omega) | omega) _ _) | (refine Below.setCell ?_ (by first | (simp [size_ext, grow]; done) | (simp [size_ext, grow]; omega) | omega) _) | (refine Below.alloc ?_ (by first | (simp [size_ext, grow]; done) | (simp [size_ext, grow]; omega) | omega) _) | refine Below.drew ?_ | refine below_drewN ?_ _ | (refine Below.trans ?_ (Below.mono (by assumption) (by first | (simp [size_ext, grow]; done) | (simp [size_ext, grow]; omega) | omega))))), ?_, HDC.out, by unfold findN; rw [HF.out]; rfl, fun h => by cases h⟩
        have := HB.out
        exact HD.out.move (by (repeat (first | exact Below.refl _ _ | exact Nat.le_refl _ | (refine below_ext ?_ (by first | (simp [size_ext, grow]; done) | (simp [size_ext, grow]; omega) | omega) _ _) | (refine Below.setCell ?_ (by first | (simp [size_ext, grow]; done) | (simp [size_ext, grow]; omega) | omega) _) | (refine Below.alloc ?_ (by first | (simp [size_ext, grow]; done) | (simp [size_ext, grow]; omega) | omega) _) | refine Below.drew ?_ | refine below_drewN ?_ _ | (refine Below.trans ?_ (Below.mono (by assumption) (by first | (simp [size_ext, grow]; done) | (simp [size_ext, grow]; omega) | omega)))))) (by simp; omega)
    · have HF := Lib.hid (show findO (E.map Ent.o) typ = none by rw [← HT.out, List.drop_eq_nil_of_le (by simp; omega)]; rfl)
      go_wp2
      refine bodyPost_ret (v := .tuple #[.agg #[.int .i64 0, .slice none 0 0], .bool false]) (by simp [results, Try.results24, go_sem]) rfl ⟨⟨0, [], none, 0⟩, by rw [HF.out]; rfl, by (repeat (first | exact Below.refl _ _ | exact Nat.le_refl _ | (refine below_ext ?_ (by first | (simp [size_ext, grow]; done) | (simp [size_ext, grow]; omega) | omega) _ _) | (refine Below.setCell ?_ (by first | (simp [size_ext, grow]; done) | (simp [size_ext, grow]; omega) | omega) _) | (refine Below.alloc ?_ (by first | (simp [size_ext, grow]; done) | (simp [size_ext, grow]; omega) | omega) _) | refine Below.drew ?_ | refine below_drewN ?_ _ | (refine Below.trans ?_ (Below.mono (by assumption) (by first | (simp [size_ext, grow]; done) | (simp [size_ext, grow]; omega) | omega))))), At.nil _ _ _, Nat.le_refl _, by unfold findN; rw [HF.out]; rfl, fun _ => own_nil _ _ _ _⟩
end Go.Proofs.Ytbdkapmiioiikaa
