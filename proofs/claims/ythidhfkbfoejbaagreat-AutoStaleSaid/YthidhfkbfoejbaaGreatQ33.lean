/- Two rows of packets that are the same, and two automata. -/
import Derived.Test.YthidhfkbfoejbaaGreatQ13
import Derived.Test.YthidhfkbfoejbaaGreatQ3
namespace Go.Proofs.YthidhfkbfoejbaaGreat
open Go.RowKit
set_option linter.unusedSimpArgs false
set_option linter.unusedVariables false
set_option linter.ambiguousOpen false
open Ne (Rl Opt RulesAt areB)
open Fs (av hasB)
def PksV (w : World) (B : Nat) (v : Value) (out : List Pk) : Prop := ∃ (A : Option Addr) (n c : Nat) (P : List Pe), v = .slice A n c ∧ PksAt w B A P ∧ n = P.length ∧ n ≤ c ∧ P.map Pe.o = out
theorem PksV.keep {w w' : World} {B : Nat} {v : Value} {l : List Pk} (h : PksV w B v l) (hb : Below B w w') : PksV w' B v l := by
  obtain ⟨A, n, c, P, rfl, h1, h2, h3, h4⟩ := h; exact ⟨A, n, c, P, rfl, h1.keep hb, h2, h3, h4⟩
theorem PksV.more {w : World} {B B' : Nat} {v : Value} {l : List Pk} (h : PksV w B v l) (hb : B ≤ B') : PksV w B' v l := by
  obtain ⟨A, n, c, P, rfl, h1, h2, h3, h4⟩ := h; exact ⟨A, n, c, P, rfl, h1.more hb, h2, h3, h4⟩
theorem PksO.v {w : World} {base : Nat} {v : Value} {out : List Pk} (h : PksO w base v out) : PksV w w.heap.size v out := by
  obtain ⟨P, hP, he⟩ := h
  obtain ⟨A, c, rfl, hc, -⟩ := ownsRow_form hP.1
  exact ⟨A, _, c, P, rfl, hP.at, rfl, hc, he⟩
theorem sameA_self (a : Au) : sameA a a = true := by simp [sameA, Op.sameB]
set_option maxRecDepth 100000 in
set_option maxHeartbeats 4000000 in
theorem sameAll_true (A1 A2 : Option Addr) (n1 n2 c1 c2 : Nat) (P1 P2 : List Pe) (w : World) (B : Nat) (hB : B ≤ w.heap.size) (h1 : PksAt w B A1 P1) (h2 : PksAt w B A2 P2) (hn1 : n1 = P1.length) (hn2 : n2 = P2.length) (he : P1.map Pe.o = P2.map Pe.o) (hl : n1 ≤ 1000000) :
    Calls Tryz.prog 14 #[.slice A1 n1 c1, .slice A2 n2 c2] w fun x w' => x = .returned (.bool true) ∧ Below w.heap.size w w' := by
  have HLL := Lib.hid (show n2 = n1 by have := congrArg List.length he; simp only [List.length_map] at this; omega)
  have hll := HLL.out
  subst hll
  have H1 := Lib.hid h1
  have H2 := Lib.hid h2
  have HN1 := Lib.hid hn1
  have HN2 := Lib.hid hn2
  have HE := Lib.hid he
  have HB := Lib.hid hB
  clear h1 h2 hn1 hn2 he hB HLL
  go_enter Tryz.func14, Tryz.ntmps14
  go_wp2_with fail
  go_loopw [5] (fun i wr => ∃ k : Nat, k ≤ n2 ∧ i = .int .i64 k ∧ Below w.heap.size w wr) (fun i _ => n2 - (intOf i).toNat)
  case atStart => exact ⟨0, Nat.zero_le _, rfl, Below.refl _ _⟩
  case round =>
    obtain ⟨k, hk, rfl, hbl⟩ := hrel
    have HBL := Lib.hid hbl
    have hszr := hbl.size
    clear hbl
    by_cases hlt : k < n2
    · have HK1 := Lib.hid (show k < P1.length by have := HN1.out; omega)
      have HK2 := Lib.hid (show k < P2.length by have := HN2.out; omega)
      obtain ⟨b1, o1, rfl, hb1, x0, x1, x2⟩ := (H1.out.keep (HBL.out.mono HB.out)).get HK1.out
      obtain ⟨b2, o2, rfl, hb2, y0, y1, y2⟩ := (H2.out.keep (HBL.out.mono HB.out)).get HK2.out
      have hat1 := H1.out.2 _ (List.getElem_mem HK1.out)
      have hat2 := H2.out.2 _ (List.getElem_mem HK2.out)
      have heq : (P1[k]'HK1.out).o = (P2[k]'HK2.out).o := by
        have h3 : (P1.map Pe.o)[k]? = (P2.map Pe.o)[k]? := by rw [HE.out]
        rw [List.getElem?_map, List.getElem?_map, List.getElem?_eq_getElem HK1.out, List.getElem?_eq_getElem HK2.out] at h3
        simpa using h3
      obtain ⟨⟨co, id, d, a, c⟩, he1⟩ : ∃ e, P1[k]'HK1.out = e := ⟨_, rfl⟩
      obtain ⟨⟨co', id', d', a', c'⟩, he2⟩ : ∃ e, P2[k]'HK2.out = e := ⟨_, rfl⟩
      rw [he1] at x0 x1 x2 hat1 heq
      rw [he2] at y0 y1 y2 hat2 heq
      simp only [Pe.o, Pk.mk.injEq] at heq
      obtain ⟨rfl, rfl, rfl⟩ := heq
      unfold Pe.v at x2 y2
      simp only at x0 x1 x2 y0 y1 y2 hat1 hat2
      have HA1 := Lib.hid hat1
      have HA2 := Lib.hid hat2
      clear hat1 hat2 he1 he2
      have z1 : b1 < wr.heap.size := by have := HB.out; omega
      have z2 : b2 < wr.heap.size := by have := HB.out; omega
      have kk0 : (0 : Int) ≤ (k : Int) := by omega
      have kk1 : (k : Int) < (n2 : Int) := by omega
      go_wp2_with fail
      go_region_held3 (fun w' => w'.cell? ⟨b1, o1 + k * 3, none⟩ = some (.int .i64 co) ∧ w'.cell? ⟨b1, o1 + k * 3 + 1, none⟩ = some (.int .i64 id) ∧ w'.cell? ⟨b1, o1 + k * 3 + 2, none⟩ = some (.slice a d.length c) ∧ w'.cell? ⟨b2, o2 + k * 3, none⟩ = some (.int .i64 co) ∧ w'.cell? ⟨b2, o2 + k * 3 + 1, none⟩ = some (.int .i64 id) ∧ w'.cell? ⟨b2, o2 + k * 3 + 2, none⟩ = some (.slice a' d.length c')) (first | (go_keep; done) | (go_simp; done) | (simp [go_sem]; done)) ((go_at_call 39; go_must (refine (Cp.same_true co id a a' d.length c c' d _ B (by have := HB.out; first | omega | (simp; omega)) ((HA1.out.1.keep (HBL.out.mono HB.out)).keep (by exact bel)) ((HA2.out.1.keep (HBL.out.mono HB.out)).keep (by exact bel)) rfl).mono ?_); rintro e w2 ⟨rfl, hb⟩; obtain ⟨xs2, d2, rfl⟩ := ext_of hb; clear hb))
      all_goals
        go_wp2_with fail
        go_roundw
        case rel => exact ⟨k + 1, by omega, by go_num, by have := HBL.out; exact bel⟩
        case measure => simp [intOf]; omega
    · obtain rfl : k = n2 := by omega
      go_wp2_with fail
      go_ret
      exact ⟨rfl, HBL.out⟩
end Go.Proofs.YthidhfkbfoejbaaGreat
