/- The page's example. -/
import Derived.Test.YtlkijhcgiilmhaaN25
namespace Go.Proofs.Ytlkijhcgiilmhaa
open Go.RowKit
set_option linter.unusedSimpArgs false
set_option linter.unusedVariables false
def mruR : Rl := ⟨1, 2, 2, 128, 1492, 1492, false⟩
theorem mru_any (w : World) : Calls Try.prog 32 #[] w fun x w' => x = .returned mruR.v ∧ Below w.heap.size w w' := by
  go_enter Try.func32, Try.ntmps32
  go_wp2_with fail
  refine bodyPost_ret (v := mruR.v) (by simp [results, Try.results32, go_sem, mruR, Rl.v]) rfl ⟨rfl, by exact bel⟩
theorem ans1 : answerO [mruR] [(1, [5, 220])] 0 5 = (3, [(1, [5, 212])]) := by decide +kernel
theorem ans2 : answerO [mruR] [(9, [])] 0 5 = (4, [(9, [])]) := by decide +kernel
theorem ans3 : answerO [mruR] [(1, [5, 212])] 0 5 = (2, [(1, [5, 212])]) := by decide +kernel
theorem lrn1 : learnO [(1, [5, 220])] 3 [(1, [5, 212])] = ([(1, [5, 212])], true) := by decide +kernel
theorem are1 : areB [mruR] = true := by decide +kernel
theorem calls_world {P : Program} {k : Nat} {args : Array Value} {Q : Ending → World → Prop} {w : World} (S : World → Prop) (hS : S w) (h : ∀ W, S W → Calls P k args W Q) : Calls P k args w Q := h w hS
theorem opts_one {w : World} {B : Nat} {b o : Nat} {t : Int} {d : List UInt8} {a : Option Addr} {c : Nat} (hb : b < B) (h0 : w.cell? ⟨b, o, none⟩ = some (.int .i64 t)) (h1 : w.cell? ⟨b, o + 1, none⟩ = some (.slice a d.length c)) (hd : At w B a (d.map bv)) (hc : d.length ≤ c) :
    OptsAt w B (some ⟨b, o, none⟩) [⟨t, d, a, c⟩] := by
  refine ⟨.inr ⟨b, o, rfl, hb, fun j u hu => ?_⟩, fun e he => ?_⟩
  · match j with
    | 0 => simp [cellsE] at hu; subst hu; exact h0
    | 1 => simp [cellsE, Ent.v] at hu; subst hu; exact h1
    | j + 2 => simp [cellsE] at hu
  · simp only [List.mem_singleton] at he
    subst he
    exact ⟨hd, hc⟩
theorem rules_one {W : World} {X B : Nat} (h : W.heap[X]? = some (.cells #[.int .i64 1, .int .i64 2, .int .i64 2, .int .i64 128, .int .i64 1492, .int .i64 1492, .bool false] 39 (0, 0))) (hB : X < B) : RulesAt W B (some ⟨X, 0, none⟩) [mruR] := by
  obtain ⟨g0, g1, g2, g3, g4, g5, g6, g7⟩ := seven (r := mruR) h
  refine ⟨.inr ⟨X, 0, rfl, hB, fun k hk => ?_⟩, fun r hr => ?_⟩
  · obtain rfl : k = 0 := by simpa using hk
    exact ⟨g0, g1, g2, g3, g4, g5, g6⟩
  · simp only [List.mem_singleton] at hr
    subst hr
    simp [wf64, mruR]
theorem at_two {w : World} {B X : Nat} {x y : UInt8} {T : TypeId} (h : w.heap[X]? = some (.cells #[bv x, bv y] T (0, 0))) (hB : X < B) : At w B (some ⟨X, 0, none⟩) ([x, y].map bv) := by
  refine .inr ⟨X, 0, rfl, hB, fun j u hu => ?_⟩
  rw [Nat.zero_add, cell_of_row w X j _ _ _ h]
  match j with
  | 0 => exact hu
  | 1 => exact hu
  | j + 2 => simp at hu
theorem RowsI.get {code : Int} {L : List Opt} {w w' : World} {x : Ending} (h : RowsI code L w x w') {n : Nat} (hn : L.length = n) :
    ∃ (E : List Ent) (A : Option Addr) (c : Nat), x = .returned (.tuple #[.int .i64 code, .slice A n c]) ∧ E.map Ent.o = L ∧ n = E.length ∧ n ≤ c ∧ Below w.heap.size w w' ∧ OwnOpts w' w.heap.size (.slice A n c) E := by
  obtain ⟨E, A, n', c, rfl, he, hn', hb, ho⟩ := h
  obtain rfl : n' = n := by omega
  obtain ⟨_, _, hq, hc, -⟩ := ownsRow_form ho.1
  cases hq
  have : E.length = L.length := by rw [← he, List.length_map]
  exact ⟨E, A, c, rfl, he, by omega, by omega, hb, ho⟩
theorem one_ent {E : List Ent} {t : Int} {d : List UInt8} (h : E.map Ent.o = [(t, d)]) : ∃ a c, E = [⟨t, d, a, c⟩] := by
  match E, h with
  | [e], h =>
    obtain ⟨t', d', a, c⟩ := e
    simp only [List.map_cons, List.map_nil, Ent.o, List.cons.injEq, Prod.mk.injEq, and_true] at h
    obtain ⟨rfl, rfl⟩ := h
    exact ⟨a, c, rfl⟩
set_option maxRecDepth 100000 in
set_option maxHeartbeats 4000000 in
theorem awake_any (w : World) : Calls Try.prog 16 #[] w fun e w' => e = .returned (.bool true) ∧ Below w.heap.size w w' := by
  go_enter Try.func16, Try.ntmps16
  go_wp2_with fail
  refine (mru_any _).mono ?_
  rintro e w1 ⟨rfl, hb⟩; obtain ⟨xs, d, rfl⟩ := ext_of hb; clear hb
  unfold mruR Rl.v
  go_wp2_with fail
  obtain ⟨X, hX⟩ : ∃ X, grow w.heap.size xs = X := ⟨_, rfl⟩
  have hXw : w.heap.size ≤ X := by rw [← hX]; exact le_grow_1_0 _ _
  have HX := Lib.hid hX
  rw [hX]
  clear hX
  refine calls_world (fun W => RulesAt W (X + 1) (some ⟨X, 0, none⟩) [mruR] ∧ OptsAt W W.heap.size (some ⟨X + 1 + 1, 0, none⟩) [⟨1, [5, 220], some ⟨X + 1, 0, none⟩, 2⟩] ∧ Below w.heap.size w W ∧ W.heap.size = X + 3) ⟨rules_one (by have h := HX.out; subst h; (repeat (first | ((refine heap_alloc_at _ _ _ ?_); (simp [go_sem]; done)) | ((refine (heap_ext _ _ _ _ ?_).trans ?_); (focus (simp [go_sem]; done))) | ((refine (heap_alloc_past _ _ _ ?_).trans ?_); (focus (simp [go_sem]; done)))))) (by omega), opts_one (by have h := HX.out; subst h; simp [go_sem]) (by have h := HX.out; subst h; simp [go_sem]) (by have h := HX.out; subst h; simp [go_sem]) (at_two (T := 5) (by have h := HX.out; subst h; (repeat (first | ((refine heap_alloc_at _ _ _ ?_); (simp [go_sem]; done)) | ((refine (heap_ext _ _ _ _ ?_).trans ?_); (focus (simp [go_sem]; done))) | ((refine (heap_alloc_past _ _ _ ?_).trans ?_); (focus (simp [go_sem]; done)))))) (by have h := HX.out; subst h; simp [go_sem])) (by decide), by have h := HX.out; exact bel, by have h := HX.out; subst h; simp [go_sem]⟩ ?_
  rintro W1 ⟨hr, ho, hb, hs⟩
  have HR := Lib.hid hr
  have HB1 := Lib.hid hb
  have hs1 : X + 3 ≤ W1.heap.size := by omega
  clear hr hb hs
  refine (answer_any _ _ 1 1 1 1 0 5 [mruR] _ [(1, [5, 220])] rfl _ _ (Nat.le_refl _) (HR.out.more (by omega)) rfl (by omega) ho rfl (by omega) (by omega) (by intro e he; simp at he; subst he; simp)).mono ?_
  clear ho
  rw [ans1]
  rintro e W2 h1
  obtain ⟨E2, A2, c2, rfl, he, hn, hcc, hb, ho⟩ := h1.get rfl
  obtain ⟨a2, k2, rfl⟩ := one_ent he
  have HO2 := Lib.hid ho.at
  have HCC2 := Lib.hid hcc
  have HBW2 := Lib.hid hb
  have hz2 := hb.size
  clear h1 he hn hb ho hcc
  have HB2 := Lib.hid (HB1.out.trans (HBW2.out.mono (by have := HB1.out.size; omega)))
  have HR2 := Lib.hid (HR.out.keep (HBW2.out.mono (by omega)))
  go_wp2_with fail
  refine (answer_any _ _ 1 1 1 1 0 5 [mruR] [⟨9, [], none, 0⟩] [(9, [])] rfl _ (W2.heap.size + 1) (by simp) ((HR2.out.keep (by exact bel)).more (by omega)) rfl (by omega) (opts_one (by omega) (by simp [go_sem]) (by simp [go_sem]) (At.nil _ _ _) (by simp)) rfl (by omega) (by omega) (by intro e he; simp at he; subst he; simp)).mono ?_
  rw [ans2]
  rintro e W3 h1
  obtain ⟨E3, A3, c3, rfl, -, -, -, hb, -⟩ := h1.get rfl
  have HBW3 := Lib.hid (show Below W2.heap.size W2 W3 from Below.trans (by exact bel) (hb.mono (by simp)))
  have hz3 := HBW3.out.size
  clear h1 hb
  have HB3 := Lib.hid (HB2.out.trans (HBW3.out.mono (by have := HB2.out.size; omega)))
  have HR3 := Lib.hid (HR2.out.keep (HBW3.out.mono (by omega)))
  have HO3 := Lib.hid (HO2.out.keep HBW3.out)
  go_wp2_with fail
  refine (answer_any _ _ 1 1 1 _ 0 5 [mruR] _ [(1, [5, 212])] rfl _ W2.heap.size hz3 (HR3.out.more (by omega)) rfl (by omega) HO3.out rfl HCC2.out (by omega) (by intro e he; simp at he; subst he; simp)).mono ?_
  rw [ans3]
  rintro e W4 h1
  obtain ⟨E4, A4, c4, rfl, -, -, -, hb, -⟩ := h1.get rfl
  have HBW4 := Lib.hid hb
  have hz4 := hb.size
  clear h1 hb
  have HB4 := Lib.hid (HB3.out.trans (HBW4.out.mono (by have := HB3.out.size; omega)))
  have HR4 := Lib.hid (HR3.out.keep (HBW4.out.mono (by omega)))
  have HO4 := Lib.hid (HO3.out.keep (HBW4.out.mono hz3))
  go_wp2_with fail
  refine (learn_any _ _ 1 1 1 c2 3 [⟨1, [5, 220], some ⟨W4.heap.size, 0, none⟩, 2⟩] [⟨1, [5, 212], a2, k2⟩] _ _ (Nat.le_refl _) (opts_one (by simp) (by simp [go_sem]) (by simp [go_sem]) (at_two (T := 5) (by (repeat (first | ((refine heap_alloc_at _ _ _ ?_); (simp [go_sem]; done)) | ((refine (heap_ext _ _ _ _ ?_).trans ?_); (focus (simp [go_sem]; done))) | ((refine (heap_alloc_past _ _ _ ?_).trans ?_); (focus (simp [go_sem]; done)))))) (by simp; omega)) (by simp)) ((HO4.out.keep (by exact bel)).more (by simp; omega)) rfl rfl HCC2.out (by omega) (by omega) (by intro e he; simp at he; subst he; simp) (by intro e he; simp at he; subst he; simp)).mono ?_
  simp only [List.map_cons, List.map_nil, Ent.o]
  rw [lrn1]
  rintro e W5 ⟨E5, A5, c5, rfl, he, hb, ho⟩
  have HBW5 := Lib.hid (show Below W4.heap.size W4 W5 from Below.trans (by exact bel) (hb.mono (by simp; omega)))
  have HE5 := Lib.hid he
  have HO5 := Lib.hid ho.at
  have hz5 := HBW5.out.size
  clear he hb ho
  have HB5 := Lib.hid (HB4.out.trans (HBW5.out.mono (by have := HB4.out.size; omega)))
  have HR5 := Lib.hid (HR4.out.keep (HBW5.out.mono (by omega)))
  have HOA := Lib.hid (HO4.out.keep (HBW5.out.mono (by omega)))
  obtain ⟨b, o, rfl, hbB, -, hy⟩ := HOA.out.get (k := 0) (by simp)
  simp only [Nat.zero_mul, Nat.add_zero, List.getElem_cons_zero, Ent.v, List.length_cons, List.length_nil, Nat.zero_add, Nat.reduceAdd] at hy
  have hAt := (HOA.out.2 _ (List.mem_singleton.2 rfl)).1
  simp only at hAt
  obtain ⟨L1, hL1⟩ : ∃ L : List UInt8, L = [5, 212] := ⟨_, rfl⟩
  rw [← hL1] at hAt
  have HL1 := Lib.hid hL1
  clear hL1
  have q1 : ∀ W : World, At W W2.heap.size a2 (L1.map bv) → (convert 40 9 (.slice a2 2 k2)).run Try.prog W = .ok (.string ⟨#[5, 212]⟩) W := fun W h => run_str (l := [5, 212]) Try.underlying40 Try.underlying5 Try.underlying9 rfl (HL1.out ▸ h)
  have hb5 : b < W5.heap.size := by omega
  go_wp2_with fail
  clear q1 hAt
  refine (same_ref A5 _ 1 1 c5 c2 E5 _ _ _ (Nat.le_refl _) HO5.out (HOA.out.more (by omega)) (by have h := congrArg List.length HE5.out; simp at h; exact h.symm) rfl (by omega)).mono ?_
  rw [HE5.out]
  simp only [List.map_cons, List.map_nil, Ent.o]
  rw [sameB_self]
  rintro e W6 ⟨rfl, hb6⟩
  have HB6 := Lib.hid (HB5.out.trans (hb6.mono (by have := HB5.out.size; omega)))
  have HR6 := Lib.hid (HR5.out.keep (hb6.mono (by omega)))
  have hz6 := hb6.size
  clear hb6
  go_wp2_with fail
  refine (check_any _ 1 1 [mruR] _ _ (Nat.le_refl _) (HR6.out.more (by omega)) rfl (by omega)).mono ?_
  rw [are1, chk_true]
  rintro e W7 ⟨rfl, hb7⟩
  have HB7 := Lib.hid (HB6.out.trans (hb7.mono (by have := HB6.out.size; omega)))
  clear hb7
  go_wp2_with fail
  go_ret
  exact ⟨rfl, HB7.out⟩
end Go.Proofs.Ytlkijhcgiilmhaa
