/- The law's own example. -/
import Derived.Test.YtbdkapmiioiikaaH15
namespace Go.Proofs.Ytbdkapmiioiikaa
open Go.RowKit
set_option linter.unusedSimpArgs false
set_option linter.unusedVariables false
theorem OptsAt.one {w : World} {B : Nat} {b o : Nat} {t : Int} {d : List UInt8} {a : Option Addr} {c : Nat} (hb : b < B) (h0 : w.cell? ⟨b, o, none⟩ = some (.int .i64 t)) (h1 : w.cell? ⟨b, o + 1, none⟩ = some (.slice a d.length c)) (hd : At w B a (d.map bv)) (hc : d.length ≤ c) :
    OptsAt w B (some ⟨b, o, none⟩) [⟨t, d, a, c⟩] := by
  refine ⟨.inr ⟨b, o, rfl, hb, fun j u hu => ?_⟩, fun e he => ?_⟩
  · match j with
    | 0 => simp [cellsE] at hu; subst hu; exact h0
    | 1 => simp [cellsE, Ent.v] at hu; subst hu; exact h1
    | j + 2 => simp [cellsE] at hu
  · simp only [List.mem_singleton] at he
    subst he
    exact ⟨hd, hc⟩
set_option maxRecDepth 100000 in
set_option maxHeartbeats 4000000 in
theorem awake_any (w : World) : Calls Try.prog 17 #[] w fun e w' => e = .returned (.bool true) ∧ Below w.heap.size w w' := by
  have m1 : makeB 1 2 1492 = true := by decide
  have m2 : makeO true 1 2 1492 = (1, [5, 212]) := by decide
  have e1 : encR [((1 : Int), [5, 212])] = ([1, 4, 5, 212], 0) := by decide
  have d1 : decR [1, 4, 5, 212] = ([((1 : Int), [5, 212])], 0) := by decide
  have n1 : numN [5, 212] = 1492 := by decide
  have n2 : numB [5, 212] = true := by decide
  have M := Lib.hid (And.intro m1 m2)
  have E1 := Lib.hid e1
  have D1 := Lib.hid d1
  have N1 := Lib.hid (And.intro n1 n2)
  clear m1 m2 e1 d1 n1 n2
  go_enter Try.func17, Try.ntmps17
  go_wp2_with fail
  refine (make_any 1 2 1492 _ (by omega)).mono ?_
  rintro e w1 ⟨⟨t, d, a, c⟩, rfl, hb, ho, he⟩
  rw [M.out.1, M.out.2] at he
  simp only [Ent.o, Prod.mk.injEq] at he
  obtain ⟨rfl, rfl⟩ := he
  rw [M.out.1]
  obtain ⟨xs1, dr1, rfl⟩ := ext_of hb
  clear hb
  simp only [Ent.v] at ho ⊢
  have hac := (ownsRow_form ho)
  obtain ⟨_, _, hac, hc2, -⟩ := hac
  simp only [Value.slice.injEq] at hac
  obtain ⟨rfl, -, rfl⟩ := hac
  have HO := Lib.hid (At.of_own ho)
  clear ho
  go_wp2_with fail
  refine (enc_any _ _ _ [⟨1, [5, 212], a, c⟩] _ _ (Nat.le_refl _) (OptsAt.one (by simp [go_sem]) (by simp [go_sem]) (by simp [go_sem]) (HO.out.move (by (repeat (first | exact Below.refl _ _ | exact Nat.le_refl _ | (refine below_ext ?_ (by first | (simp [size_ext, grow]; done) | (simp [size_ext, grow]; omega) | omega) _ _) | (refine Below.setCell ?_ (by first | (simp [size_ext, grow]; done) | (simp [size_ext, grow]; omega) | omega) _) | (refine Below.alloc ?_ (by first | (simp [size_ext, grow]; done) | (simp [size_ext, grow]; omega) | omega) _) | refine Below.drew ?_ | refine below_drewN ?_ _ | (refine Below.trans ?_ (Below.mono (by assumption) (by first | (simp [size_ext, grow]; done) | (simp [size_ext, grow]; omega) | omega)))))) (by simp [go_sem])) hc2) rfl).mono ?_
  rintro e w1 ⟨v, rfl, hb, ho⟩
  rw [show ([⟨1, [5, 212], a, c⟩] : List Ent).map Ent.o = [(1, [5, 212])] from rfl, E1.out] at ho ⊢
  obtain ⟨xs2, dr2, rfl⟩ := ext_of hb
  clear hb
  obtain ⟨A2, c2, rfl, hc22, -⟩ := ownsRow_form ho
  have HO2 := Lib.hid (At.of_own ho)
  clear ho
  go_wp2_with fail
  refine (dec_any A2 4 c2 [1, 4, 5, 212] _ _ (Nat.le_refl _) (HO2.out) rfl hc22).mono ?_
  rintro e w1 ⟨E3, v3, rfl, hb, ho, he⟩
  rw [D1.out] at he ⊢
  obtain ⟨xs3, dr3, rfl⟩ := ext_of hb
  clear hb
  obtain ⟨A3, c3, rfl, hc33, -⟩ := ownsRow_form ho.1
  have hE3 : E3.length = 1 := by have := congrArg List.length he; simpa using this
  rw [hE3]
  clear ho he hE3
  go_wp2_with fail
  refine (number_any 1 a 2 c [5, 212] _ _ (Nat.le_refl _) (HO.out.move (by (repeat (first | exact Below.refl _ _ | exact Nat.le_refl _ | (refine below_ext ?_ (by first | (simp [size_ext, grow]; done) | (simp [size_ext, grow]; omega) | omega) _ _) | (refine Below.setCell ?_ (by first | (simp [size_ext, grow]; done) | (simp [size_ext, grow]; omega) | omega) _) | (refine Below.alloc ?_ (by first | (simp [size_ext, grow]; done) | (simp [size_ext, grow]; omega) | omega) _) | refine Below.drew ?_ | refine below_drewN ?_ _ | (refine Below.trans ?_ (Below.mono (by assumption) (by first | (simp [size_ext, grow]; done) | (simp [size_ext, grow]; omega) | omega)))))) (by simp [go_sem])) rfl (by omega) hc2).mono ?_
  rw [N1.out.1, N1.out.2]
  rintro e w1 ⟨rfl, hb⟩
  obtain ⟨xs4, dr4, rfl⟩ := ext_of hb
  clear hb
  obtain ⟨L1, hL1⟩ : ∃ L : List UInt8, L = [1, 4, 5, 212] := ⟨_, rfl⟩
  have HL1 := Lib.hid hL1
  have hA1 := HO2.out
  rw [← hL1] at hA1
  simp only [size_ext, World.size_alloc, grow_succ] at hA1
  clear hL1
  have q1 : ∀ W : World, At W (grow (grow w.heap.size xs1) xs2 + 1 + 1) A2 (L1.map bv) → (convert 23 9 (.slice A2 4 c2)).run Try.prog W = .ok (.string ⟨#[1, 4, 5, 212]⟩) W := fun W h => run_str (l := [1, 4, 5, 212]) Try.underlying23 Try.underlying5 Try.underlying9 rfl (HL1.out ▸ h)
  have m3 : makeE true = 0 := rfl
  go_wp2_with fail
  go_ret
  exact ⟨rfl, by (repeat (first | exact Below.refl _ _ | exact Nat.le_refl _ | (refine below_ext ?_ (by first | (simp [size_ext, grow]; done) | (simp [size_ext, grow]; omega) | omega) _ _) | (refine Below.setCell ?_ (by first | (simp [size_ext, grow]; done) | (simp [size_ext, grow]; omega) | omega) _) | (refine Below.alloc ?_ (by first | (simp [size_ext, grow]; done) | (simp [size_ext, grow]; omega) | omega) _) | refine Below.drew ?_ | refine below_drewN ?_ _ | (refine Below.trans ?_ (Below.mono (by assumption) (by first | (simp [size_ext, grow]; done) | (simp [size_ext, grow]; omega) | omega)))))⟩
end Go.Proofs.Ytbdkapmiioiikaa
