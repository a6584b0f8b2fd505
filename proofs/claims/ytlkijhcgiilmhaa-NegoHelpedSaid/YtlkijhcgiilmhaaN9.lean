/- The reference's Same. -/
import Derived.Test.YtlkijhcgiilmhaaN8
namespace Go.Proofs.Ytlkijhcgiilmhaa
open Go.RowKit
set_option linter.unusedSimpArgs false
set_option linter.unusedVariables false
def sameB (a b : List Opt) : Bool := decide (a = b)
theorem sameB_self (a : List Opt) : sameB a a = true := by unfold sameB; simp
theorem map_o (E : List Ent) (k : Nat) (h : k < E.length) : (E.map Ent.o)[k]'(by simpa using h) = E[k].o := by simp
theorem take_same {a b : List Opt} {k : Nat} (h : a.take k = b.take k) (h1 : k < a.length) (h2 : k < b.length) (he : a[k] = b[k]) : a.take (k + 1) = b.take (k + 1) := by
  rw [List.take_succ_eq_append_getElem h1, List.take_succ_eq_append_getElem h2, h, he]
theorem same_not {a b : List Opt} {k : Nat} (h1 : k < a.length) (h2 : k < b.length) (he : a[k] ≠ b[k]) : sameB a b = false := by
  unfold sameB
  apply decide_eq_false
  intro e
  subst e
  exact he rfl
set_option maxRecDepth 100000 in
set_option maxHeartbeats 4000000 in
theorem same_ref (A1 A2 : Option Addr) (n1 n2 k1 k2 : Nat) (E1 E2 : List Ent) (w : World) (B : Nat) (hB : B ≤ w.heap.size) (h1 : OptsAt w B A1 E1) (h2 : OptsAt w B A2 E2) (hn1 : n1 = E1.length) (hn2 : n2 = E2.length) (hl : n1 ≤ 1000000) :
    Calls Try.prog 14 #[.slice A1 n1 k1, .slice A2 n2 k2] w fun x w' => x = .returned (.bool (sameB (E1.map Ent.o) (E2.map Ent.o))) ∧ Below w.heap.size w w' := by
  subst hn1
  subst hn2
  have HE1 := Lib.hid h1
  have HE2 := Lib.hid h2
  have HB := Lib.hid hB
  clear h1 h2 hB
  by_cases hlen : E1.length = E2.length
  · have e6 : ((E1.length : Int) != (E2.length : Int)) = false := by simp; omega
    have HL := Lib.hid hlen
    have hl2 : E2.length ≤ 1000000 := by omega
    clear hlen
    go_enter Try.func14, Try.ntmps14
    go_wp2
    go_loopw [5] (fun i wr => ∃ k : Nat, k ≤ E1.length ∧ i = .int .i64 k ∧ (E1.map Ent.o).take k = (E2.map Ent.o).take k ∧ Below w.heap.size w wr) (fun i _ => E1.length - (intOf i).toNat)
    case atStart => exact ⟨0, Nat.zero_le _, rfl, rfl, Below.refl _ _⟩
    case round =>
      obtain ⟨k, hk, rfl, ht, hb⟩ := hrel
      have HT := Lib.hid ht
      have HBW := Lib.hid hb
      have hsz := hb.size
      clear ht hb
      by_cases hlt : k < E1.length
      · have hlt2 : k < E2.length := by have := HL.out; omega
        have HK := Lib.hid (show k < (E1.map Ent.o).length ∧ k < (E2.map Ent.o).length by simp; exact ⟨hlt, hlt2⟩)
        obtain ⟨b1, o1, rfl, hb1, hx1, hy1⟩ := (HE1.out.keep (HBW.out.mono HB.out)).get hlt
        obtain ⟨hd1, -⟩ := (HE1.out.keep (HBW.out.mono HB.out)).2 E1[k] (List.getElem_mem hlt)
        have HM1 := Lib.hid (map_o E1 k hlt)
        obtain ⟨⟨t1, d1, a1, c1⟩, he1⟩ : ∃ e, E1[k] = e := ⟨_, rfl⟩
        rw [he1] at hx1 hy1 hd1 HM1
        simp only [Ent.v] at hy1 hd1 HM1
        dsimp only at hx1
        clear he1
        obtain ⟨b2, o2, rfl, hb2, hx2, hy2⟩ := (HE2.out.keep (HBW.out.mono HB.out)).get hlt2
        obtain ⟨hd2, -⟩ := (HE2.out.keep (HBW.out.mono HB.out)).2 E2[k] (List.getElem_mem hlt2)
        have HM2 := Lib.hid (map_o E2 k hlt2)
        obtain ⟨⟨t2, d2, a2, c2⟩, he2⟩ : ∃ e, E2[k] = e := ⟨_, rfl⟩
        rw [he2] at hx2 hy2 hd2 HM2
        simp only [Ent.v] at hy2 hd2 HM2
        dsimp only at hx2
        clear he2
        have z1 : b1 < wr.heap.size := by have := HB.out; omega
        have z2 : b2 < wr.heap.size := by have := HB.out; omega
        have j1 : (k : Int) < (E1.length : Int) := by omega
        have j2 : (k : Int) < (E2.length : Int) := by omega
        have j0 : (0 : Int) ≤ (k : Int) := by omega
        clear hb1 hb2
        have q1 : ∀ n : Nat, (convert 40 9 (.slice a1 d1.length c1)).run Try.prog (wr.drewN n) = .ok (.string ⟨d1.toArray⟩) (wr.drewN n) := fun n => run_str Try.underlying40 Try.underlying5 Try.underlying9 rfl hd1
        have q2 : ∀ n : Nat, (convert 40 9 (.slice a2 d2.length c2)).run Try.prog (wr.drewN n) = .ok (.string ⟨d2.toArray⟩) (wr.drewN n) := fun n => run_str Try.underlying40 Try.underlying5 Try.underlying9 rfl hd2
        cases ht : (t1 == t2)
        · have ht2 : (t1 != t2) = true := by simp [bne, ht]
          have HR := Lib.hid (show sameB (E1.map Ent.o) (E2.map Ent.o) = false from same_not HK.out.1 HK.out.2 (by rw [HM1.out, HM2.out]; intro e; simp [Ent.o] at e; simp at ht; exact ht e.1))
          clear q1 q2 hd1 hd2
          go_upto_region 7 with (fail)
          go_quiet (fail)
          go_wp2_with fail
          go_ret
          exact ⟨by rw [HR.out]; rfl, by have := HBW.out; exact bel⟩
        · have ht2 : (t1 != t2) = false := by simp [bne, ht]
          cases hdd : (d1 == d2)
          · have hd3 : (d1 != d2) = true := by simp [bne, hdd]
            have HR := Lib.hid (show sameB (E1.map Ent.o) (E2.map Ent.o) = false from same_not HK.out.1 HK.out.2 (by rw [HM1.out, HM2.out]; intro e; simp [Ent.o] at e; simp at hdd; exact hdd e.2))
            go_upto_region 7 with (fail)
            go_quiet (fail)
            go_wp2_with fail
            go_ret
            exact ⟨by rw [HR.out]; rfl, by have := HBW.out; exact bel⟩
          · have hd3 : (d1 != d2) = false := by simp [bne, hdd]
            have HNX := Lib.hid (take_same HT.out HK.out.1 HK.out.2 (by rw [HM1.out, HM2.out]; simp [Ent.o]; simp at hdd ht; exact ⟨ht, hdd⟩))
            go_upto_region 7 with (fail)
            go_quiet (fail)
            go_wp2_with fail
            go_roundw
            case rel => exact ⟨k + 1, by omega, by go_num, HNX.out, by have := HBW.out; exact bel⟩
            case measure => simp [intOf]; omega
      · have HR := Lib.hid (show sameB (E1.map Ent.o) (E2.map Ent.o) = true by
          have := HT.out
          rw [List.take_of_length_le (by simp; omega), List.take_of_length_le (by simp; have := HL.out; omega)] at this
          unfold sameB; rw [this]; simp)
        go_wp2
        go_ret
        exact ⟨by rw [HR.out]; rfl, HBW.out⟩
  · have e6 : ((E1.length : Int) != (E2.length : Int)) = true := by simp; omega
    have HR := Lib.hid (show sameB (E1.map Ent.o) (E2.map Ent.o) = false by
      unfold sameB
      apply decide_eq_false
      intro e
      have := congrArg List.length e
      simp only [List.length_map] at this
      omega)
    clear hlen
    go_enter Try.func14, Try.ntmps14
    go_wp2
    go_ret
    exact ⟨by rw [HR.out]; rfl, Below.refl _ _⟩
end Go.Proofs.Ytlkijhcgiilmhaa
