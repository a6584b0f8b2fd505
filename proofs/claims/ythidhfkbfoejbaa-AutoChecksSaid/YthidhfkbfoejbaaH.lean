/- Bundle H. -/
import Derived.Test.YthidhfkbfoejbaaA
import Derived.StillTailTactics
import Derived.OneCell
import Derived.Deep.RegionHeld3
namespace Go.Proofs.Ythidhfkbfoejbaa.Op
open Go.RowKit
set_option linter.unusedSimpArgs false
set_option linter.unusedVariables false
/-- One option off the head of bytes. -/
def cutOne : List UInt8 → Option ((Int × List UInt8) × List UInt8)
  | t :: n :: r => if 2 ≤ n.toNat ∧ n.toNat ≤ r.length + 2 then some (((t.toNat : Int), r.take (n.toNat - 2)), r.drop (n.toNat - 2)) else none
  | _ => none
theorem cutOne_cons (t n : UInt8) (r : List UInt8) : cutOne (t :: n :: r) = if 2 ≤ n.toNat ∧ n.toNat ≤ r.length + 2 then some (((t.toNat : Int), r.take (n.toNat - 2)), r.drop (n.toNat - 2)) else none := rfl
end Go.Proofs.Ythidhfkbfoejbaa.Op
namespace Go.Proofs.Ythidhfkbfoejbaa.Op
open Go.RowKit
attribute [local go_sem] Oper.semAt_some
set_option linter.unusedSimpArgs false
set_option linter.unusedVariables false
def decW : Nat → List UInt8 → List (Int × List UInt8) → List (Int × List UInt8) × Int
  | 0, _, acc => (acc, 0)
  | f + 1, l, acc => if l = [] then (acc, 0) else match cutOne l with
    | none => ([], 80)
    | some (o, r) => if acc.length = 64 then ([], 3) else decW f r (acc ++ [o])
def decR (l : List UInt8) : List (Int × List UInt8) × Int := if 1488 < l.length then ([], 2) else decW l.length l []
theorem decW_nil (f : Nat) (acc : List (Int × List UInt8)) : decW f [] acc = (acc, 0) := by cases f <;> simp [decW]
theorem cutOne_len {l : List UInt8} {o : Int × List UInt8} {r : List UInt8} (h : cutOne l = some (o, r)) : r.length + 2 ≤ l.length := by
  unfold cutOne at h
  split at h
  · split at h
    · simp only [Option.some.injEq, Prod.mk.injEq] at h
      rw [← h.2, List.length_drop]
      simp only [List.length_cons]; omega
    · cases h
  · cases h
theorem decW_step {f : Nat} {l : List UInt8} {acc : List (Int × List UInt8)} {o : Int × List UInt8} {r : List UInt8} (hf : l.length ≤ f) (hc : cutOne l = some (o, r)) (ha : acc.length ≠ 64) : ∃ f', r.length ≤ f' ∧ decW f l acc = decW f' r (acc ++ [o]) := by
  have := cutOne_len hc
  cases f with
  | zero => omega
  | succ f =>
    have h : l ≠ [] := by intro h; rw [h] at this; simp at this
    exact ⟨f, by omega, by simp [decW, h, hc, ha]⟩
end Go.Proofs.Ythidhfkbfoejbaa.Op
namespace Go.Proofs.Ythidhfkbfoejbaa.Op
open Go.RowKit
set_option linter.unusedSimpArgs false
set_option linter.unusedVariables false
theorem within_any (n lo hi : Int) (w : World) : Calls Try.prog 34 #[.int .i64 n, .int .i64 lo, .int .i64 hi] w fun e w' => e = .returned (.bool (inB n lo hi)) ∧ w = w' := by
  by_cases h1 : lo ≤ n <;> by_cases h2 : n ≤ hi
  all_goals
    go_enter Try.func34, Try.ntmps34
    go_wp2
    go_ret
    exact ⟨by simp [inB, h1, h2], rfl⟩
/-- An option that may be. -/
def okO (o : Int × List UInt8) : Bool := inB o.1 0 255 && decide (o.2.length ≤ 253)
def encO (o : Int × List UInt8) : List UInt8 := UInt8.ofNat o.1.toNat :: UInt8.ofNat (o.2.length + 2) :: o.2
def encs (L : List (Int × List UInt8)) : List UInt8 := L.flatMap encO
def encR (L : List (Int × List UInt8)) : List UInt8 × Int :=
  if 64 < L.length then ([], 3) else if L.all okO = true then (if 1488 < (encs L).length then ([], 2) else (encs L, 0)) else ([], 80)
/-- What Encode tells: bytes in memory of one's own. -/
def EncP (w : World) (L : List (Int × List UInt8)) (x : Ending) (w' : World) : Prop :=
  ∃ v, x = .returned (.tuple #[v, .int .i64 (encR L).2]) ∧ Below w.heap.size w w' ∧ w'.ownsRow w.heap.size 5 1 v (encR L).1.length ((encR L).1.map bv)
theorem encs_take {L : List (Int × List UInt8)} {k : Nat} (hk : k < L.length) : encs (L.take (k + 1)) = encs (L.take k) ++ encO L[k] := by
  unfold encs
  rw [List.take_succ_eq_append_getElem hk, List.flatMap_append]
  simp only [List.flatMap_cons, List.flatMap_nil, List.append_nil]
theorem all_take {L : List (Int × List UInt8)} {k : Nat} (hk : k < L.length) (h : (L.take k).all okO = true) (h2 : okO L[k] = true) : (L.take (k + 1)).all okO = true := by
  rw [List.take_succ_eq_append_getElem hk, List.all_append, h]; simp [h2]
theorem all_not {L : List (Int × List UInt8)} {k : Nat} (hk : k < L.length) (h2 : okO L[k] = false) : L.all okO = false := by
  rw [List.all_eq_false]
  exact ⟨L[k], List.getElem_mem hk, by rw [h2]; simp⟩
end Go.Proofs.Ythidhfkbfoejbaa.Op
namespace Go.Proofs.Ythidhfkbfoejbaa.Op
open Go.RowKit
set_option linter.unusedSimpArgs false
set_option linter.unusedVariables false
theorem byteOf {a : Int} (h : inB a 0 255 = true) : ∃ x : UInt8, a = (x.toNat : Int) ∧ UInt8.ofNat a.toNat = x := by
  simp only [inB, Bool.and_eq_true, decide_eq_true_eq] at h
  refine ⟨UInt8.ofNat a.toNat, ?_, rfl⟩
  have : (UInt8.ofNat a.toNat).toNat = a.toNat := by simp; omega
  omega
theorem wrapU8 (x : UInt8) : IntKind.u8.wrap (x.toNat : Int) = (x.toNat : Int) := by
  have := x.toNat_lt
  simp only [IntKind.wrap, IntKind.signed, IntKind.bits]
  simp
  omega
theorem map_o (E : List Ent) (k : Nat) (hk : k < E.length) : (E.map Ent.o)[k]'(by simpa using hk) = (E[k].t, E[k].d) := by simp [Ent.o]
theorem own_ne {w : World} {base size n : Nat} {v : Value} {xs : List Value} {T : Nat} {cs : Array Value} (h : w.ownsRow base 5 size v n xs) (hT : w.heap[T]? = some (.cells cs 59 (0, 0))) : ∀ g, v.ownBlock = some g → g ≠ T := by
  intro g hg e
  subst e
  obtain ⟨cur, hc⟩ := own_type h hg
  rw [hT] at hc
  simp at hc
set_option maxRecDepth 100000 in
set_option maxHeartbeats 4000000 in
theorem enc_in (A : Option Addr) (c : Nat) (E : List Ent) (w : World) (B : Nat) (hB : B ≤ w.heap.size) (hE : OptsAt w B A E) (hl : E.length ≤ 64) :
    Calls Try.prog 22 #[.slice A E.length c] w (EncP w (E.map Ent.o)) := by
  have HE := Lib.hid hE
  have HB := Lib.hid hB
  clear hE hB
  go_enter Try.func22, Try.ntmps22
  go_wp2
  go_loopw [12, 4] (fun i v wr => ∃ (k n c : Nat) (A : Option Addr), k ≤ E.length ∧ i = .int .i64 k ∧ v = .slice A n c ∧ n ≤ c ∧ n ≤ 255 * k ∧ n = (encs ((E.map Ent.o).take k)).length ∧ ((E.map Ent.o).take k).all okO = true ∧ Below w.heap.size w wr ∧ wr.ownsRow w.heap.size 5 1 (.slice A n c) n ((encs ((E.map Ent.o).take k)).map bv)) (fun i _ _ => E.length - (intOf i).toNat)
  case atStart => exact ⟨0, 0, 0, none, Nat.zero_le _, rfl, rfl, Nat.le_refl _, by omega, rfl, rfl, Below.refl _ _, own_nil _ _ _ _⟩
  case round =>
    obtain ⟨k, n, c', A', hk, rfl, rfl, hnc, hn5, hn, hall, hb, ho⟩ := hrel
    have HN := Lib.hid (And.intro hn (And.intro hall hnc))
    have HBW := Lib.hid hb
    have HO := Lib.hid ho
    have hsz := hb.size
    clear hn hall hnc hb ho
    by_cases hlt : k < E.length
    · obtain ⟨b, o, rfl, hbB, hc0, hc1⟩ := (HE.out.keep (HBW.out.mono HB.out)).get hlt
      obtain ⟨hd1, hd2⟩ := (HE.out.keep (HBW.out.mono HB.out)).2 E[k] (List.getElem_mem hlt)
      have HO1 := Lib.hid (map_o E k hlt)
      obtain ⟨⟨t, d, a, c2⟩, he⟩ : ∃ e, E[k] = e := ⟨_, rfl⟩
      rw [he] at hc0 hc1 hd1 hd2 HO1
      simp only [Ent.v] at hc1 hd1 hd2 HO1
      dsimp only at hc0
      have HD := Lib.hid (And.intro hd1 hd2)
      have hkl : k < (E.map Ent.o).length := by simpa using hlt
      have HKL := Lib.hid hkl
      have HDW := Lib.hid (show At w B a (d.map bv) by have := (HE.out.2 E[k] (List.getElem_mem hlt)).1; rw [he] at this; exact this)
      clear he hd1 hd2 hkl
      cases hw : inB t 0 255
      · go_wp2_with (go_at_call 34; refine (within_any _ _ _ _).mono ?_; rw [hw]; rintro e w1 ⟨rfl, rfl⟩)
        have HX := Lib.hid (show (E.map Ent.o).all okO = false from all_not HKL.out (by rw [HO1.out]; unfold okO; simp only [hw]; rfl))
        have HR := Lib.hid (show encR (E.map Ent.o) = ([], 80) by unfold encR; rw [if_neg (by rw [List.length_map]; omega), if_neg (by rw [HX.out]; simp)])
        go_ret2
        exact ⟨.slice none 0 0, by rw [HR.out]; rfl, by have := HBW.out; exact bel, by rw [HR.out]; exact own_nil _ _ _ _⟩
      · by_cases h253 : 253 < d.length
        · have HX := Lib.hid (show (E.map Ent.o).all okO = false from all_not HKL.out (by rw [HO1.out]; unfold okO; simp; omega))
          have HR := Lib.hid (show encR (E.map Ent.o) = ([], 80) by unfold encR; rw [if_neg (by rw [List.length_map]; omega), if_neg (by rw [HX.out]; simp)])
          go_wp2_with (go_at_call 34; refine (within_any _ _ _ _).mono ?_; rw [hw]; rintro e w1 ⟨rfl, rfl⟩)
          go_ret2
          exact ⟨.slice none 0 0, by rw [HR.out]; rfl, by have := HBW.out; exact bel, by rw [HR.out]; exact own_nil _ _ _ _⟩
        · obtain ⟨x, hx, hx2⟩ := byteOf hw
          have HOK := Lib.hid (show okO (t, d) = true by unfold okO; simp only [hw]; simp; omega)
          have HX2 := Lib.hid hx2
          subst hx
          obtain ⟨y, hy⟩ : ∃ y : UInt8, (d.length : Int) + 2 = (y.toNat : Int) := ⟨UInt8.ofNat (d.length + 2), by simp; omega⟩
          clear hx2
          go_wp2_with (go_at_call 34; refine (within_any _ _ _ _).mono ?_; rw [hw]; rintro e w1 ⟨rfl, rfl⟩)
          obtain ⟨wz, hwz⟩ : ∃ wz, wz = wr.alloc (.cells #[.int .i64 (x.toNat : Int), .slice a d.length c2] 59) := ⟨_, rfl⟩
          rw [← hwz]
          obtain ⟨T, hT⟩ : ∃ T, T = wr.heap.size := ⟨_, rfl⟩
          rw [← hT]
          have hTz : T < wz.heap.size := by rw [hwz, hT]; simp
          have z0 : wz.cell? ⟨T, 0, none⟩ = some (.int .i64 (x.toNat : Int)) := by rw [hwz, hT, cell_of_row _ _ 0 _ _ (0, 0) (heap_alloc_new wr _)]; rfl
          have z1 : wz.cell? ⟨T, 1, none⟩ = some (.slice a d.length c2) := by rw [hwz, hT, cell_of_row _ _ 1 _ _ (0, 0) (heap_alloc_new wr _)]; rfl
          have HTH := Lib.hid (show wz.heap[T]? = some (.cells #[.int .i64 (x.toNat : Int), .slice a d.length c2] 59 (0, 0)) by rw [hwz, hT]; exact heap_alloc_new wr _)
          have HBZ := Lib.hid (show Below w.heap.size w wz by rw [hwz]; exact HBW.out.alloc hsz _)
          have HOZ := Lib.hid (show wz.ownsRow w.heap.size 5 1 (.slice A' n c') n ((encs ((E.map Ent.o).take k)).map bv) by rw [hwz]; exact own_below HO.out ((Below.refl _ _).alloc (Nat.le_refl _) _))
          have HTB := Lib.hid (show ∀ g, (Value.slice A' n c').ownBlock = some g → g < T by intro g hg; rw [hT]; exact own_lt HO.out hg)
          have hszz := HBZ.out.size
          have HNEW := Lib.hid (At.newN wz #[.int .u8 (x.toNat : Int), .int .u8 (y.toNat : Int)] 5 [bv x, bv y] wz.heap.size rfl rfl)
          have x1 : ((x.toNat : Nat) : Int) < 256 := by have := x.toNat_lt; omega
          have y1 : ((y.toNat : Nat) : Int) < 256 := by have := y.toNat_lt; omega
          have i1 : IntKind.i64.wrap ((d.length : Int) + 2) = (d.length : Int) + 2 := IntWalk.i64_in _ (by omega)
          have u1 : IntKind.u8.wrap (x.toNat : Int) = (x.toNat : Int) := wrapU8 x
          have u2 : IntKind.u8.wrap (y.toNat : Int) = (y.toNat : Int) := wrapU8 y
          have j1 : IntKind.i64.wrap (y.toNat : Int) = (y.toNat : Int) := IntWalk.i64_in _ (by omega)
          have hd255 : d.length ≤ 253 := by omega
          have hn64 : n ≤ 255 * 64 := by omega
          have HY := Lib.hid hy
          clear hwz hT hc0 hc1
          go_region_held3 (fun w' => w'.cell? ⟨T, 0, none⟩ = some (.int .i64 (x.toNat : Int)) ∧ w'.cell? ⟨T, 1, none⟩ = some (.slice a d.length c2)) (first | (go_keep; done) | (go_simp; done) | (simp [go_sem]; done)) (first | (refine step_appv w rfl (.tmp 26) (.tmp 35) 29 rfl 5 Try.underlying29 (.int .u8 0) 1 1 infoU8 rfl (by decide) (by decide) (.slice A' n c') n ((encs ((E.map Ent.o).take k)).map bv) rfl (by exact own_below HOZ.out (by exact bel)) (wz.heap.size + 1) (some ⟨wz.heap.size, 0, none⟩) 2 2 [bv x, bv y] rfl rfl (by omega) (by exact HNEW.out.keep (by exact bel)) (by intro u hu; simp at hu; rcases hu with rfl | rfl <;> rfl) (by have := HBZ.out; exact bel) ?_; intro A1 c1 w1 ho1 hc1 hb1 hg1; have HT1 := Lib.hid (show w1.heap[T]? = some (.cells #[.int .i64 (x.toNat : Int), .slice a d.length c2] 59 (0, 0)) from (hg1.block T (by simp; omega) (fun e => by have := HTB.out T e.symm; omega)).trans (by exact (Below.heap_alloc wz _ T hTz).trans HTH.out)); have q0 : w1.cell? ⟨T, 0, none⟩ = some (.int .i64 (x.toNat : Int)) := (cell_of_row w1 T 0 _ _ (0, 0) HT1.out).trans rfl; have q1 : w1.cell? ⟨T, 1, none⟩ = some (.slice a d.length c2) := (cell_of_row w1 T 1 _ _ (0, 0) HT1.out).trans rfl; have HTN := Lib.hid (own_ne ho1 HT1.out); have HO1' := Lib.hid ho1; have HB1 := Lib.hid hb1; clear ho1 hc1 hb1 hg1) | (go_loud (refine step_appv w rfl (.tmp 36) (.tmp 38) 29 rfl 5 Try.underlying29 (.int .u8 0) 1 1 infoU8 rfl (by decide) (by decide) (.slice A1 (n + 2) c1) (n + 2) ((encs ((E.map Ent.o).take k)).map bv ++ [bv x, bv y]) rfl (by exact own_below HO1'.out (by exact bel)) B a d.length c2 (d.map bv) rfl (by simp) (by omega) (by have hq := HB1.out; have hqs := hq.size; have hqb := HB.out; exact HDW.out.keep (by exact bel)) (bv_all _) (by have := HB1.out; exact bel) ?_); intro A3 c3 w3 ho3 hc3 hb3 hg3; have HT3 := Lib.hid (show w3.heap[T]? = some (.cells #[.int .i64 (x.toNat : Int), .slice a d.length c2] 59 (0, 0)) from (hg3.block T (by exact lt_of_block HT1.out) (fun e => HTN.out T e.symm rfl)).trans (by exact HT1.out)); have q0 : w3.cell? ⟨T, 0, none⟩ = some (.int .i64 (x.toNat : Int)) := (cell_of_row w3 T 0 _ _ (0, 0) HT3.out).trans rfl; have q1 : w3.cell? ⟨T, 1, none⟩ = some (.slice a d.length c2) := (cell_of_row w3 T 1 _ _ (0, 0) HT3.out).trans rfl; have HO3 := Lib.hid ho3; have HB3 := Lib.hid hb3; have HC3 := Lib.hid hc3; clear ho3 hc3 hb3 hg3))
          go_wp2_with fail
          go_roundw
          case rel => exact ⟨k + 1, n + 2 + d.length, _, _, by omega, by go_num, rfl, HC3.out, by omega, by rw [encs_take HKL.out, HO1.out, List.length_append, ← HN.out.1]; simp [encO]; omega, all_take HKL.out HN.out.2.1 (by rw [HO1.out]; exact HOK.out), HB3.out, by
            rw [encs_take HKL.out, HO1.out, List.map_append]
            have e : (encO ((x.toNat : Int), d)).map bv = [bv x, bv y] ++ d.map bv := by
              simp only [encO, List.map_cons]
              rw [show UInt8.ofNat (x.toNat : Int).toNat = x from HX2.out, show UInt8.ofNat (d.length + 2) = y from by apply UInt8.toNat.inj; have := HY.out; simp; omega]
              rfl
            rw [e, ← List.append_assoc]
            exact HO3.out⟩
          case measure => simp [intOf]; omega
    · obtain rfl : k = E.length := by omega
      have HT := Lib.hid (show (E.map Ent.o).take E.length = E.map Ent.o from List.take_of_length_le (by simp))
      have HL := Lib.hid (show (E.map Ent.o).all okO = true ∧ n = (encs (E.map Ent.o)).length by have := HN.out; rw [HT.out] at this; exact ⟨this.2.1, this.1⟩)
      have HEN := Lib.hid (show encR (E.map Ent.o) = if 1488 < n then ([], 2) else (encs (E.map Ent.o), 0) by unfold encR; rw [if_neg (by rw [List.length_map]; omega), if_pos HL.out.1, ← HL.out.2])
      by_cases hbig : 1488 < n
      · go_wp2
        go_ret2
        exact ⟨.slice none 0 0, by rw [HEN.out, if_pos hbig]; rfl, HBW.out, by rw [HEN.out, if_pos hbig]; exact own_nil _ _ _ _⟩
      · go_wp2
        go_ret2
        refine ⟨.slice A' n c', by rw [HEN.out, if_neg hbig]; rfl, HBW.out, ?_⟩
        rw [HEN.out, if_neg hbig]
        have := HO.out
        rw [HT.out] at this
        have e := HL.out.2
        simp only
        rw [← e]
        exact this
theorem enc_any (A : Option Addr) (n c : Nat) (E : List Ent) (w : World) (B : Nat) (hB : B ≤ w.heap.size) (hE : OptsAt w B A E) (hn : n = E.length) :
    Calls Try.prog 22 #[.slice A n c] w (EncP w (E.map Ent.o)) := by
  subst hn
  by_cases hl : E.length ≤ 64
  · exact enc_in A c E w B hB hE hl
  · have HR := Lib.hid (show encR (E.map Ent.o) = ([], 3) by unfold encR; rw [if_pos (by rw [List.length_map]; omega)])
    have h : 64 < E.length := by omega
    clear hE hB hl
    go_enter Try.func22, Try.ntmps22
    go_wp2
    go_ret2
    exact ⟨.slice none 0 0, by rw [HR.out]; rfl, Below.refl _ _, by rw [HR.out]; exact own_nil _ _ _ _⟩
end Go.Proofs.Ythidhfkbfoejbaa.Op
namespace Go.Proofs.Ythidhfkbfoejbaa.Op
open Go.RowKit
set_option linter.unusedSimpArgs false
set_option linter.unusedVariables false
def oneB (a b : Int × List UInt8) : Bool := a.1 == b.1 && a.2 == b.2
set_option maxHeartbeats 1000000 in
theorem one_ref (t1 t2 : Int) (A1 A2 : Option Addr) (n1 n2 c1 c2 : Nat) (d1 d2 : List UInt8) (w : World) (B : Nat) (hB : B ≤ w.heap.size) (h1 : At w B A1 (d1.map bv)) (h2 : At w B A2 (d2.map bv)) (hn1 : n1 = d1.length) (hn2 : n2 = d2.length) :
    Calls Try.prog 38 #[.agg #[.int .i64 t1, .slice A1 n1 c1], .agg #[.int .i64 t2, .slice A2 n2 c2]] w fun x w' => x = .returned (.bool (oneB (t1, d1) (t2, d2))) ∧ Below w.heap.size w w' := by
  have q1 : ∀ W : World, At W B A1 (d1.map bv) → (convert 29 9 (.slice A1 n1 c1)).run Try.prog W = .ok (.string ⟨d1.toArray⟩) W := fun W h => run_str Try.underlying29 Try.underlying5 Try.underlying9 hn1 h
  have q2 : ∀ W : World, At W B A2 (d2.map bv) → (convert 29 9 (.slice A2 n2 c2)).run Try.prog W = .ok (.string ⟨d2.toArray⟩) W := fun W h => run_str Try.underlying29 Try.underlying5 Try.underlying9 hn2 h
  have g1 : At ((w.alloc (.cells #[.int .i64 t1, .slice A1 n1 c1] 59)).alloc (.cells #[.int .i64 t2, .slice A2 n2 c2] 59)) B A1 (d1.map bv) := h1.keep (by exact bel)
  have g2 : At ((w.alloc (.cells #[.int .i64 t1, .slice A1 n1 c1] 59)).alloc (.cells #[.int .i64 t2, .slice A2 n2 c2] 59)) B A2 (d2.map bv) := h2.keep (by exact bel)
  clear h1 h2 hn1 hn2 hB
  cases ht : (t1 == t2)
  · have HR := Lib.hid (show oneB (t1, d1) (t2, d2) = false by unfold oneB; simp only [ht, Bool.false_and])
    clear q1 q2 g1 g2
    go_enter Try.func38, Try.ntmps38
    go_wp2
    go_ret
    exact ⟨by rw [HR.out]; rfl, by exact bel⟩
  · cases hd : (d1 == d2)
    · have HR := Lib.hid (show oneB (t1, d1) (t2, d2) = false by unfold oneB; simp only [hd, Bool.and_false])
      go_enter Try.func38, Try.ntmps38
      go_wp2
      go_ret
      exact ⟨by rw [HR.out]; rfl, by exact bel⟩
    · have HR := Lib.hid (show oneB (t1, d1) (t2, d2) = true by unfold oneB; simp only [ht, hd, Bool.and_true])
      go_enter Try.func38, Try.ntmps38
      go_wp2
      go_ret
      exact ⟨by rw [HR.out]; rfl, by exact bel⟩
set_option maxHeartbeats 1000000 in
theorem one_any (t1 t2 : Int) (A1 A2 : Option Addr) (n1 n2 c1 c2 : Nat) (d1 d2 : List UInt8) (w : World) (B : Nat) (hB : B ≤ w.heap.size) (h1 : At w B A1 (d1.map bv)) (h2 : At w B A2 (d2.map bv)) (hn1 : n1 = d1.length) (hn2 : n2 = d2.length) :
    Calls Try.prog 40 #[.agg #[.int .i64 t1, .slice A1 n1 c1], .agg #[.int .i64 t2, .slice A2 n2 c2]] w fun x w' => x = .returned (.bool (oneB (t1, d1) (t2, d2))) ∧ Below w.heap.size w w' := by
  have q1 : ∀ W : World, At W B A1 (d1.map bv) → (convert 29 9 (.slice A1 n1 c1)).run Try.prog W = .ok (.string ⟨d1.toArray⟩) W := fun W h => run_str Try.underlying29 Try.underlying5 Try.underlying9 hn1 h
  have q2 : ∀ W : World, At W B A2 (d2.map bv) → (convert 29 9 (.slice A2 n2 c2)).run Try.prog W = .ok (.string ⟨d2.toArray⟩) W := fun W h => run_str Try.underlying29 Try.underlying5 Try.underlying9 hn2 h
  have g1 : At ((w.alloc (.cells #[.int .i64 t1, .slice A1 n1 c1] 59)).alloc (.cells #[.int .i64 t2, .slice A2 n2 c2] 59)) B A1 (d1.map bv) := h1.keep (by exact bel)
  have g2 : At ((w.alloc (.cells #[.int .i64 t1, .slice A1 n1 c1] 59)).alloc (.cells #[.int .i64 t2, .slice A2 n2 c2] 59)) B A2 (d2.map bv) := h2.keep (by exact bel)
  clear h1 h2 hn1 hn2 hB
  cases ht : (t1 == t2)
  · have HR := Lib.hid (show oneB (t1, d1) (t2, d2) = false by unfold oneB; simp only [ht, Bool.false_and])
    clear q1 q2 g1 g2
    go_enter Try.func40, Try.ntmps40
    go_wp2
    go_ret
    exact ⟨by rw [HR.out]; rfl, by exact bel⟩
  · cases hd : (d1 == d2)
    · have HR := Lib.hid (show oneB (t1, d1) (t2, d2) = false by unfold oneB; simp only [hd, Bool.and_false])
      go_enter Try.func40, Try.ntmps40
      go_wp2
      go_ret
      exact ⟨by rw [HR.out]; rfl, by exact bel⟩
    · have HR := Lib.hid (show oneB (t1, d1) (t2, d2) = true by unfold oneB; simp only [ht, hd, Bool.and_true])
      go_enter Try.func40, Try.ntmps40
      go_wp2
      go_ret
      exact ⟨by rw [HR.out]; rfl, by exact bel⟩
end Go.Proofs.Ythidhfkbfoejbaa.Op
namespace Go.Proofs.Ythidhfkbfoejbaa.Op
open Go.RowKit
set_option linter.unusedSimpArgs false
set_option linter.unusedVariables false
def sameB (a b : List (Int × List UInt8)) : Bool := decide (a = b)
theorem oneB_iff (a b : Int × List UInt8) : oneB a b = decide (a = b) := by
  obtain ⟨a1, a2⟩ := a
  obtain ⟨b1, b2⟩ := b
  unfold oneB
  rw [Bool.eq_iff_iff]
  simp
theorem take_same {a b : List (Int × List UInt8)} {k : Nat} (h : a.take k = b.take k) (h1 : k < a.length) (h2 : k < b.length) (he : oneB a[k] b[k] = true) : a.take (k + 1) = b.take (k + 1) := by
  rw [oneB_iff] at he
  rw [List.take_succ_eq_append_getElem h1, List.take_succ_eq_append_getElem h2, h, of_decide_eq_true he]
theorem same_not {a b : List (Int × List UInt8)} {k : Nat} (h1 : k < a.length) (h2 : k < b.length) (he : oneB a[k] b[k] = false) : sameB a b = false := by
  unfold sameB
  rw [oneB_iff] at he
  have he := of_decide_eq_false he
  apply decide_eq_false
  intro e
  subst e
  exact he rfl
set_option maxRecDepth 100000 in
set_option maxHeartbeats 4000000 in
theorem same_ref (A1 A2 : Option Addr) (n1 n2 k1 k2 : Nat) (E1 E2 : List Ent) (w : World) (B : Nat) (hB : B ≤ w.heap.size) (h1 : OptsAt w B A1 E1) (h2 : OptsAt w B A2 E2) (hn1 : n1 = E1.length) (hn2 : n2 = E2.length) (hl : n1 ≤ 1000000) :
    Calls Try.prog 26 #[.slice A1 n1 k1, .slice A2 n2 k2] w fun x w' => x = .returned (.bool (sameB (E1.map Ent.o) (E2.map Ent.o))) ∧ Below w.heap.size w w' := by
  subst hn1
  subst hn2
  have HE1 := Lib.hid h1
  have HE2 := Lib.hid h2
  have HB := Lib.hid hB
  clear h1 h2 hB
  by_cases hlen : E1.length = E2.length
  · have e6 : ((E1.length : Int) != (E2.length : Int)) = false := by simp; omega
    have HL := Lib.hid hlen
    have hl2 : E2.length ≤ 1000000 := by omega
    clear hlen
    go_enter Try.func26, Try.ntmps26
    go_wp2
    go_loopw [5] (fun i wr => ∃ k : Nat, k ≤ E1.length ∧ i = .int .i64 k ∧ (E1.map Ent.o).take k = (E2.map Ent.o).take k ∧ Below w.heap.size w wr) (fun i _ => E1.length - (intOf i).toNat)
    case atStart => exact ⟨0, Nat.zero_le _, rfl, rfl, Below.refl _ _⟩
    case round =>
      obtain ⟨k, hk, rfl, ht, hb⟩ := hrel
      have HT := Lib.hid ht
      have HBW := Lib.hid hb
      have hsz := hb.size
      clear ht hb
      by_cases hlt : k < E1.length
      · have hlt2 : k < E2.length := by have := HL.out; omega
        have HK := Lib.hid (show k < (E1.map Ent.o).length ∧ k < (E2.map Ent.o).length by simp; exact ⟨hlt, hlt2⟩)
        obtain ⟨b1, o1, rfl, hb1, hx1, hy1⟩ := (HE1.out.keep (HBW.out.mono HB.out)).get hlt
        obtain ⟨hd1, -⟩ := (HE1.out.keep (HBW.out.mono HB.out)).2 E1[k] (List.getElem_mem hlt)
        have HM1 := Lib.hid (map_o E1 k hlt)
        obtain ⟨⟨t1, d1, a1, c1⟩, he1⟩ : ∃ e, E1[k] = e := ⟨_, rfl⟩
        rw [he1] at hx1 hy1 hd1 HM1
        simp only [Ent.v] at hy1 hd1 HM1
        dsimp only at hx1
        have HD1 := Lib.hid hd1
        clear he1 hd1
        obtain ⟨b2, o2, rfl, hb2, hx2, hy2⟩ := (HE2.out.keep (HBW.out.mono HB.out)).get hlt2
        obtain ⟨hd2, -⟩ := (HE2.out.keep (HBW.out.mono HB.out)).2 E2[k] (List.getElem_mem hlt2)
        have HM2 := Lib.hid (map_o E2 k hlt2)
        obtain ⟨⟨t2, d2, a2, c2⟩, he2⟩ : ∃ e, E2[k] = e := ⟨_, rfl⟩
        rw [he2] at hx2 hy2 hd2 HM2
        simp only [Ent.v] at hy2 hd2 HM2
        dsimp only at hx2
        have HD2 := Lib.hid hd2
        clear he2 hd2
        have z1 : b1 < wr.heap.size := by have := HB.out; omega
        have z2 : b2 < wr.heap.size := by have := HB.out; omega
        have j1 : (k : Int) < (E1.length : Int) := by omega
        have j2 : (k : Int) < (E2.length : Int) := by omega
        have j0 : (0 : Int) ≤ (k : Int) := by omega
        clear hb1 hb2
        cases ho : oneB (t1, d1) (t2, d2)
        all_goals
          go_wp2_with fail
          go_region_held3 (fun w' => w'.cell? ⟨b1, o1 + k * 2, none⟩ = some (.int .i64 t1) ∧ w'.cell? ⟨b1, o1 + k * 2 + 1, none⟩ = some (.slice a1 d1.length c1) ∧ w'.cell? ⟨b2, o2 + k * 2, none⟩ = some (.int .i64 t2) ∧ w'.cell? ⟨b2, o2 + k * 2 + 1, none⟩ = some (.slice a2 d2.length c2)) (first | (go_keep; done) | (go_simp; done) | (simp [go_sem]; done)) ((go_at_call 38; go_loud (refine (one_ref t1 t2 a1 a2 d1.length d2.length c1 c2 d1 d2 _ B (by have := HB.out; first | (simp; omega) | omega) (by have := HB.out; exact HD1.out.keep (by exact bel)) (by have := HB.out; exact HD2.out.keep (by exact bel)) rfl rfl).mono ?_); rw [ho]; rintro e w1 ⟨rfl, hb⟩; obtain ⟨xs, d, rfl⟩ := ext_of hb; clear hb))
        · have HR := Lib.hid (show sameB (E1.map Ent.o) (E2.map Ent.o) = false from same_not HK.out.1 HK.out.2 (by rw [HM1.out, HM2.out]; exact ho))
          go_wp2
          go_ret
          exact ⟨by rw [HR.out]; rfl, by have := HBW.out; exact bel⟩
        · go_wp2
          go_roundw
          case rel => exact ⟨k + 1, by omega, by go_num, take_same HT.out HK.out.1 HK.out.2 (by rw [HM1.out, HM2.out]; exact ho), by have := HBW.out; exact bel⟩
          case measure => simp [intOf]; omega
      · have HR := Lib.hid (show sameB (E1.map Ent.o) (E2.map Ent.o) = true by
          have := HT.out
          rw [List.take_of_length_le (by simp; omega), List.take_of_length_le (by simp; have := HL.out; omega)] at this
          unfold sameB; rw [this]; simp)
        go_wp2
        go_ret
        exact ⟨by rw [HR.out]; rfl, HBW.out⟩
  · have e6 : ((E1.length : Int) != (E2.length : Int)) = true := by simp; omega
    have HR := Lib.hid (show sameB (E1.map Ent.o) (E2.map Ent.o) = false by
      unfold sameB
      apply decide_eq_false
      intro e
      have := congrArg List.length e
      simp only [List.length_map] at this
      omega)
    clear hlen
    go_enter Try.func26, Try.ntmps26
    go_wp2
    go_ret
    exact ⟨by rw [HR.out]; rfl, Below.refl _ _⟩
end Go.Proofs.Ythidhfkbfoejbaa.Op
namespace Go.Proofs.Ythidhfkbfoejbaa.Op
open Go.RowKit
set_option linter.unusedSimpArgs false
set_option linter.unusedVariables false
set_option maxRecDepth 100000 in
set_option maxHeartbeats 4000000 in
theorem eqf_any (A1 A2 : Option Addr) (n1 n2 k1 k2 : Nat) (E1 E2 : List Ent) (w : World) (B : Nat) (hB : B ≤ w.heap.size) (h1 : OptsAt w B A1 E1) (h2 : OptsAt w B A2 E2) (hn1 : n1 = E1.length) (hn2 : n2 = E2.length) (hl : n1 ≤ 1000000) :
    Calls Try.prog 39 #[.slice A1 n1 k1, .slice A2 n2 k2, .func (.func 40) #[] #[]] w fun x w' => x = .returned (.bool (sameB (E1.map Ent.o) (E2.map Ent.o))) ∧ Below w.heap.size w w' := by
  subst hn1
  subst hn2
  have HE1 := Lib.hid h1
  have HE2 := Lib.hid h2
  have HB := Lib.hid hB
  clear h1 h2 hB
  by_cases hlen : E1.length = E2.length
  · have e6 : ((E1.length : Int) != (E2.length : Int)) = false := by simp; omega
    have HL := Lib.hid hlen
    have hl2 : E2.length ≤ 1000000 := by omega
    clear hlen
    go_enter Try.func39, Try.ntmps39
    go_wp2
    go_loopw [17] (fun i wr => ∃ k : Nat, k ≤ E1.length ∧ i = .int .i64 k ∧ (E1.map Ent.o).take k = (E2.map Ent.o).take k ∧ Below w.heap.size w wr) (fun i _ => E1.length - (intOf i).toNat)
    case atStart => exact ⟨0, Nat.zero_le _, rfl, rfl, Below.refl _ _⟩
    case round =>
      obtain ⟨k, hk, rfl, ht, hb⟩ := hrel
      have HT := Lib.hid ht
      have HBW := Lib.hid hb
      have hsz := hb.size
      clear ht hb
      by_cases hlt : k < E1.length
      · have hlt2 : k < E2.length := by have := HL.out; omega
        have HK := Lib.hid (show k < (E1.map Ent.o).length ∧ k < (E2.map Ent.o).length by simp; exact ⟨hlt, hlt2⟩)
        obtain ⟨b1, o1, rfl, hb1, hx1, hy1⟩ := (HE1.out.keep (HBW.out.mono HB.out)).get hlt
        obtain ⟨hd1, -⟩ := (HE1.out.keep (HBW.out.mono HB.out)).2 E1[k] (List.getElem_mem hlt)
        have HM1 := Lib.hid (map_o E1 k hlt)
        obtain ⟨⟨t1, d1, a1, c1⟩, he1⟩ : ∃ e, E1[k] = e := ⟨_, rfl⟩
        rw [he1] at hx1 hy1 hd1 HM1
        simp only [Ent.v] at hy1 hd1 HM1
        dsimp only at hx1
        have HD1 := Lib.hid hd1
        clear he1 hd1
        obtain ⟨b2, o2, rfl, hb2, hx2, hy2⟩ := (HE2.out.keep (HBW.out.mono HB.out)).get hlt2
        obtain ⟨hd2, -⟩ := (HE2.out.keep (HBW.out.mono HB.out)).2 E2[k] (List.getElem_mem hlt2)
        have HM2 := Lib.hid (map_o E2 k hlt2)
        obtain ⟨⟨t2, d2, a2, c2⟩, he2⟩ : ∃ e, E2[k] = e := ⟨_, rfl⟩
        rw [he2] at hx2 hy2 hd2 HM2
        simp only [Ent.v] at hy2 hd2 HM2
        dsimp only at hx2
        have HD2 := Lib.hid hd2
        clear he2 hd2
        have z1 : b1 < wr.heap.size := by have := HB.out; omega
        have z2 : b2 < wr.heap.size := by have := HB.out; omega
        have j1 : (k : Int) < (E1.length : Int) := by omega
        have j2 : (k : Int) < (E2.length : Int) := by omega
        have j0 : (0 : Int) ≤ (k : Int) := by omega
        clear hb1 hb2
        cases ho : oneB (t1, d1) (t2, d2)
        all_goals
          go_wp2_with (go_at_call 40; go_loud (refine (one_any t1 t2 a1 a2 d1.length d2.length c1 c2 d1 d2 _ B (by have := HB.out; first | (simp; omega) | omega) (by have := HB.out; exact HD1.out.keep (by exact bel)) (by have := HB.out; exact HD2.out.keep (by exact bel)) rfl rfl).mono ?_); rw [ho]; rintro e w1 ⟨rfl, hb⟩; obtain ⟨xs, d, rfl⟩ := ext_of hb; clear hb)
        · have HR := Lib.hid (show sameB (E1.map Ent.o) (E2.map Ent.o) = false from same_not HK.out.1 HK.out.2 (by rw [HM1.out, HM2.out]; exact ho))
          go_ret
          exact ⟨by rw [HR.out]; rfl, by have := HBW.out; exact bel⟩
        · go_roundw
          case rel => exact ⟨k + 1, by omega, by go_num, take_same HT.out HK.out.1 HK.out.2 (by rw [HM1.out, HM2.out]; exact ho), by have := HBW.out; exact bel⟩
          case measure => simp [intOf]; omega
      · have HR := Lib.hid (show sameB (E1.map Ent.o) (E2.map Ent.o) = true by
          have := HT.out
          rw [List.take_of_length_le (by simp; omega), List.take_of_length_le (by simp; have := HL.out; omega)] at this
          unfold sameB; rw [this]; simp)
        go_wp2
        go_ret
        exact ⟨by rw [HR.out]; rfl, HBW.out⟩
  · have e6 : ((E1.length : Int) != (E2.length : Int)) = true := by simp; omega
    have HR := Lib.hid (show sameB (E1.map Ent.o) (E2.map Ent.o) = false by
      unfold sameB
      apply decide_eq_false
      intro e
      have := congrArg List.length e
      simp only [List.length_map] at this
      omega)
    clear hlen
    go_enter Try.func39, Try.ntmps39
    go_wp2
    go_ret
    exact ⟨by rw [HR.out]; rfl, Below.refl _ _⟩
theorem same_any (A1 A2 : Option Addr) (n1 n2 k1 k2 : Nat) (E1 E2 : List Ent) (w : World) (B : Nat) (hB : B ≤ w.heap.size) (h1 : OptsAt w B A1 E1) (h2 : OptsAt w B A2 E2) (hn1 : n1 = E1.length) (hn2 : n2 = E2.length) (hl : n1 ≤ 1000000) :
    Calls Try.prog 27 #[.slice A1 n1 k1, .slice A2 n2 k2] w fun x w' => x = .returned (.bool (sameB (E1.map Ent.o) (E2.map Ent.o))) ∧ Below w.heap.size w w' := by
  have HH := Lib.hid (And.intro hB (And.intro h1 (And.intro h2 (And.intro hn1 (And.intro hn2 hl)))))
  clear hB h1 h2 hn1 hn2 hl
  go_enter Try.func27, Try.ntmps27
  go_wp2_with (go_at_call 39; go_loud (refine (eqf_any A1 A2 n1 n2 k1 k2 E1 E2 _ B HH.out.1 HH.out.2.1 HH.out.2.2.1 HH.out.2.2.2.1 HH.out.2.2.2.2.1 HH.out.2.2.2.2.2).mono ?_); rintro e w1 ⟨rfl, hb⟩; obtain ⟨xs, d, rfl⟩ := ext_of hb; clear hb)
  go_ret
  exact ⟨rfl, by exact bel⟩
end Go.Proofs.Ythidhfkbfoejbaa.Op
namespace Go.Proofs.Ythidhfkbfoejbaa.Op
open Go.RowKit
set_option linter.unusedSimpArgs false
set_option linter.unusedVariables false
theorem is_ref (t : Int) (A : Option Addr) (n c : Nat) (d : List UInt8) (w : World) (hn : n = d.length) : Calls Try.prog 29 #[.agg #[.int .i64 t, .slice A n c]] w fun x w' => x = .returned (.bool (okO (t, d))) ∧ Below w.heap.size w w' := by
  by_cases h1 : 0 ≤ t
  · by_cases h2 : t ≤ 255
    · by_cases h3 : n ≤ 253
      · have HR := Lib.hid (show okO (t, d) = true by unfold okO inB; simp; omega)
        have k3 : decide ((n : Int) ≤ 253) = true := by simp; omega
        clear hn
        go_enter Try.func29, Try.ntmps29
        go_wp2
        go_ret
        exact ⟨by rw [HR.out]; rfl, by exact bel⟩
      · have HR := Lib.hid (show okO (t, d) = false by unfold okO inB; simp; omega)
        have k3 : decide ((n : Int) ≤ 253) = false := by simp; omega
        have k4 : decide (n ≤ 253) = false := by simp; omega
        clear hn h3
        go_enter Try.func29, Try.ntmps29
        go_wp2
        go_ret
        exact ⟨by rw [HR.out]; rfl, by exact bel⟩
    · have HR := Lib.hid (show okO (t, d) = false by unfold okO inB; simp; omega)
      have k3 : decide (t ≤ 255) = false := by simp; omega
      clear hn h2
      go_enter Try.func29, Try.ntmps29
      go_wp2
      go_ret
      exact ⟨by rw [HR.out]; rfl, by exact bel⟩
  · have HR := Lib.hid (show okO (t, d) = false by unfold okO inB; simp; omega)
    have k3 : decide (0 ≤ t) = false := by simp; omega
    clear hn h1
    go_enter Try.func29, Try.ntmps29
    go_wp2
    go_ret
    exact ⟨by rw [HR.out]; rfl, by exact bel⟩
theorem _root_.Go.Proofs.Ythidhfkbfoejbaa.At.two {w wr w1 : World} {B : Nat} {A : Option Addr} {xs : List Value} (h : At wr B A xs) (h1 : Below w.heap.size w wr) (h2 : Below w.heap.size w w1) (hB : B ≤ w.heap.size) : At w1 B A xs := by
  rcases h with h | ⟨b, o, e, hb, hc⟩
  · exact .inl h
  · exact .inr ⟨b, o, e, hb, fun j u hu => (h2.cell (p := ⟨b, o + j, none⟩) (by simp; omega)).trans ((h1.cell (p := ⟨b, o + j, none⟩) (by simp; omega)).symm.trans (hc j u hu))⟩
set_option maxRecDepth 100000 in
set_option maxHeartbeats 4000000 in
theorem renc_in (A : Option Addr) (c : Nat) (E : List Ent) (w : World) (B : Nat) (hB : B ≤ w.heap.size) (hE : OptsAt w B A E) (hl : E.length ≤ 64) :
    Calls Try.prog 18 #[.slice A E.length c] w (EncP w (E.map Ent.o)) := by
  have HE := Lib.hid hE
  have HB := Lib.hid hB
  clear hE hB
  go_enter Try.func18, Try.ntmps18
  go_wp2
  go_loopw [4] (fun i wr => ∃ (k : Nat), k ≤ E.length ∧ i = .int .i64 k ∧ ((E.map Ent.o).take k).all okO = true ∧ Below w.heap.size w wr) (fun i _ => E.length - (intOf i).toNat)
  case atStart => exact ⟨0, Nat.zero_le _, rfl, rfl, Below.refl _ _⟩
  case round =>
    obtain ⟨k, hk, rfl, hall, hb⟩ := hrel
    have HALL := Lib.hid hall
    have HBW := Lib.hid hb
    have hsz := hb.size
    clear hall hb
    by_cases hlt : k < E.length
    · obtain ⟨b, o, rfl, hbB, hx, hy⟩ := (HE.out.keep (HBW.out.mono HB.out)).get hlt
      obtain ⟨hd, hdc⟩ := (HE.out.keep (HBW.out.mono HB.out)).2 E[k] (List.getElem_mem hlt)
      have HM := Lib.hid (map_o E k hlt)
      have HK := Lib.hid (show k < (E.map Ent.o).length by simpa using hlt)
      obtain ⟨⟨t, d, a, c2⟩, he⟩ : ∃ e, E[k] = e := ⟨_, rfl⟩
      rw [he] at hx hy hd hdc HM
      simp only [Ent.v] at hy hd hdc HM
      dsimp only at hx
      have HD := Lib.hid hd
      have HDC := Lib.hid hdc
      clear he hd hdc
      cases ho : okO (t, d)
      · have HX := Lib.hid (show (E.map Ent.o).all okO = false from all_not HK.out (by rw [HM.out]; exact ho))
        have HR := Lib.hid (show encR (E.map Ent.o) = ([], 80) by unfold encR; rw [if_neg (by rw [List.length_map]; omega), if_neg (by rw [HX.out]; simp)])
        go_wp2_with (go_at_call 29; refine (is_ref t a d.length c2 d _ rfl).mono ?_; rw [ho]; rintro e w1 ⟨rfl, hb⟩; obtain ⟨xs, dd, rfl⟩ := ext_of hb; clear hb)
        go_ret2
        exact ⟨.slice none 0 0, by rw [HR.out]; rfl, by have := HBW.out; exact bel, by rw [HR.out]; exact own_nil _ _ _ _⟩
      · go_wp2_with (go_at_call 29; refine (is_ref t a d.length c2 d _ rfl).mono ?_; rw [ho]; rintro e w1 ⟨rfl, hb⟩; obtain ⟨xs, dd, rfl⟩ := ext_of hb; clear hb)
        go_roundw
        case rel => exact ⟨k + 1, by omega, by go_num, all_take HK.out HALL.out (by rw [HM.out]; exact ho), by have := HBW.out; exact bel⟩
        case measure => simp [intOf]; omega
    · obtain rfl : k = E.length := by omega
      have HALL2 := Lib.hid (show (E.map Ent.o).all okO = true by have := HALL.out; rwa [List.take_of_length_le (by simp)] at this)
      obtain ⟨w0, hw0⟩ : ∃ w0, w0 = wr := ⟨_, rfl⟩
      rw [← hw0] at HBW hsz ⊢
      clear hw0
      go_wp2
      go_loopw [6, 5] (fun i v wr => ∃ (k n c : Nat) (A : Option Addr), k ≤ E.length ∧ i = .int .i64 k ∧ v = .slice A n c ∧ n ≤ c ∧ n ≤ 255 * k ∧ n = (encs ((E.map Ent.o).take k)).length ∧ Below w.heap.size w wr ∧ wr.ownsRow w.heap.size 5 1 (.slice A n c) n ((encs ((E.map Ent.o).take k)).map bv)) (fun i _ _ => E.length - (intOf i).toNat)
      case atStart => exact ⟨0, 0, 0, none, Nat.zero_le _, rfl, rfl, Nat.le_refl _, by omega, rfl, HBW.out, own_nil _ _ _ _⟩
      case round =>
        obtain ⟨k, n, c', A', hk, rfl, rfl, hnc, hn5, hn, hb, ho⟩ := hrel
        have HN := Lib.hid (And.intro hn hnc)
        have HBW := Lib.hid hb
        have HO := Lib.hid ho
        have hsz := hb.size
        clear hn hnc hb ho
        by_cases hlt : k < E.length
        · obtain ⟨b, o, rfl, hbB, hx, hy⟩ := (HE.out.keep (HBW.out.mono HB.out)).get hlt
          obtain ⟨hd, hdc⟩ := (HE.out.keep (HBW.out.mono HB.out)).2 E[k] (List.getElem_mem hlt)
          have HM := Lib.hid (map_o E k hlt)
          have HK := Lib.hid (show k < (E.map Ent.o).length by simpa using hlt)
          obtain ⟨⟨t, d, a, c2⟩, he⟩ : ∃ e, E[k] = e := ⟨_, rfl⟩
          rw [he] at hx hy hd hdc HM
          simp only [Ent.v] at hy hd hdc HM
          dsimp only at hx
          have HD := Lib.hid hd
          have HDC := Lib.hid hdc
          clear he hd hdc
          have HOK := Lib.hid (show okO (t, d) = true by have := List.all_eq_true.1 HALL2.out _ (List.getElem_mem HK.out); rw [HM.out] at this; exact this)
          have hin : inB t 0 255 = true := by have := HOK.out; unfold okO at this; simp at this; exact this.1
          have h253 : d.length ≤ 253 := by have := HOK.out; unfold okO at this; simp at this; exact this.2
          obtain ⟨x, hx1, hx2⟩ := byteOf hin
          have HX2 := Lib.hid hx2
          subst hx1
          obtain ⟨y, hy1⟩ : ∃ y : UInt8, (d.length : Int) + 2 = (y.toNat : Int) := ⟨UInt8.ofNat (d.length + 2), by simp; omega⟩
          have HY := Lib.hid hy1
          have z1 : b < wr.heap.size := by have := HB.out; omega
          have x1 : ((x.toNat : Nat) : Int) < 256 := by have := x.toNat_lt; omega
          have y1 : ((y.toNat : Nat) : Int) < 256 := by have := y.toNat_lt; omega
          have i1 : IntKind.i64.wrap ((d.length : Int) + 2) = (d.length : Int) + 2 := IntWalk.i64_in _ (by omega)
          have u1 : IntKind.u8.wrap (x.toNat : Int) = (x.toNat : Int) := wrapU8 x
          have u2 : IntKind.u8.wrap (y.toNat : Int) = (y.toNat : Int) := wrapU8 y
          have j1 : IntKind.i64.wrap (y.toNat : Int) = (y.toNat : Int) := IntWalk.i64_in _ (by omega)
          have hn64 : n ≤ 255 * 64 := by omega
          have jj1 : (k : Int) < (E.length : Int) := by omega
          have jj0 : (0 : Int) ≤ (k : Int) := by omega
          have hbw : b < w.heap.size := by have := HB.out; omega
          have HXY := Lib.hid (And.intro hx hy)
          have HNEW := Lib.hid (At.newN wr #[.int .u8 (x.toNat : Int), .int .u8 (y.toNat : Int)] 5 [bv x, bv y] wr.heap.size rfl rfl)
          have HDW := Lib.hid (show At wr B a (d.map bv) from HD.out)
          clear hx2 hin hbB
          go_wp2_with fail
          go_region_held3 (fun w' => w'.cell? ⟨b, o + k * 2, none⟩ = some (.int .i64 (x.toNat : Int)) ∧ w'.cell? ⟨b, o + k * 2 + 1, none⟩ = some (.slice a d.length c2)) (first | (go_keep; done) | (go_simp; done) | (simp [go_sem]; done)) ((refine step_appv w rfl (.tmp 28) (.tmp 43) 29 rfl 5 Try.underlying29 (.int .u8 0) 1 1 infoU8 rfl (by decide) (by decide) (.slice A' n c') n ((encs ((E.map Ent.o).take k)).map bv) rfl (by exact own_below HO.out (by exact bel)) (wr.heap.size + 1) (some ⟨wr.heap.size, 0, none⟩) 2 2 [bv x, bv y] rfl rfl (by omega) (by exact HNEW.out.keep (by exact bel)) (by intro u hu; simp at hu; rcases hu with rfl | rfl <;> rfl) (by have := HBW.out; exact bel) ?_; intro A1 c1 w1 ho1 hc1 hb1 hg1; have q0 : w1.cell? ⟨b, o + k * 2, none⟩ = some (.int .i64 (x.toNat : Int)) := (hb1.cell (p := ⟨b, _, none⟩) hbw).trans ((HBW.out.cell (p := ⟨b, _, none⟩) hbw).symm.trans HXY.out.1); have q1 : w1.cell? ⟨b, o + k * 2 + 1, none⟩ = some (.slice a d.length c2) := (hb1.cell (p := ⟨b, _, none⟩) hbw).trans ((HBW.out.cell (p := ⟨b, _, none⟩) hbw).symm.trans HXY.out.2); have z2 : b < w1.heap.size := (by have := hb1.size; omega); have HO1 := Lib.hid ho1; have HB1 := Lib.hid hb1; have HG1 := Lib.hid hg1; clear ho1 hc1 hb1 hg1))
          go_wp2_with (at_builtin; go_loud (refine wpList_appv w rfl (.tmp 45) (.tmp 50) 29 rfl 5 Try.underlying29 (.int .u8 0) 1 1 infoU8 rfl (by decide) (by decide) (.slice A1 (n + 2) c1) (n + 2) ((encs ((E.map Ent.o).take k)).map bv ++ [bv x, bv y]) rfl (by exact own_below HO1.out (by exact bel)) B a d.length c2 (d.map bv) rfl (by simp) (by omega) (by exact At.two HDW.out HBW.out HB1.out HB.out) (bv_all _) (by have := HB1.out; exact bel) ?_); intro A3 c3 w3 ho3 hc3 hb3 hg3; have HO3 := Lib.hid ho3; have HB3 := Lib.hid hb3; have HC3 := Lib.hid hc3; clear ho3 hc3 hb3 hg3)
          go_roundw
          case rel => exact ⟨k + 1, n + 2 + d.length, _, _, by omega, by go_num, rfl, HC3.out, by omega, by rw [encs_take HK.out, HM.out, List.length_append, ← HN.out.1]; simp [encO]; omega, HB3.out, by
            rw [encs_take HK.out, HM.out, List.map_append]
            have e : (encO ((x.toNat : Int), d)).map bv = [bv x, bv y] ++ d.map bv := by
              simp only [encO, List.map_cons]
              rw [show UInt8.ofNat (x.toNat : Int).toNat = x from HX2.out, show UInt8.ofNat (d.length + 2) = y from by apply UInt8.toNat.inj; have := HY.out; simp; omega]
              rfl
            rw [e, ← List.append_assoc]
            exact HO3.out⟩
          case measure => simp [intOf]; omega
        · obtain rfl : k = E.length := by omega
          have HT := Lib.hid (show (E.map Ent.o).take E.length = E.map Ent.o from List.take_of_length_le (by simp))
          have HL := Lib.hid (show n = (encs (E.map Ent.o)).length by have := HN.out; rw [HT.out] at this; exact this.1)
          have HEN := Lib.hid (show encR (E.map Ent.o) = if 1488 < n then ([], 2) else (encs (E.map Ent.o), 0) by unfold encR; rw [if_neg (by rw [List.length_map]; omega), if_pos HALL2.out, ← HL.out])
          by_cases hbig : 1488 < n
          · go_wp2
            go_ret2
            exact ⟨.slice none 0 0, by rw [HEN.out, if_pos hbig]; rfl, HBW.out, by rw [HEN.out, if_pos hbig]; exact own_nil _ _ _ _⟩
          · go_wp2
            go_ret2
            refine ⟨.slice A' n c', by rw [HEN.out, if_neg hbig]; rfl, HBW.out, ?_⟩
            rw [HEN.out, if_neg hbig]
            have := HO.out
            rw [HT.out] at this
            have e := HL.out
            simp only
            rw [← e]
            exact this
end Go.Proofs.Ythidhfkbfoejbaa.Op
namespace Go.Proofs.Ythidhfkbfoejbaa.Op
open Go.RowKit
set_option linter.unusedSimpArgs false
set_option linter.unusedVariables false
theorem renc_any (A : Option Addr) (n c : Nat) (E : List Ent) (w : World) (B : Nat) (hB : B ≤ w.heap.size) (hE : OptsAt w B A E) (hn : n = E.length) :
    Calls Try.prog 18 #[.slice A n c] w (EncP w (E.map Ent.o)) := by
  subst hn
  by_cases hl : E.length ≤ 64
  · exact renc_in A c E w B hB hE hl
  · have HR := Lib.hid (show encR (E.map Ent.o) = ([], 3) by unfold encR; rw [if_pos (by rw [List.length_map]; omega)])
    have h : 64 < E.length := by omega
    clear hE hB hl
    go_enter Try.func18, Try.ntmps18
    go_wp2
    go_ret2
    exact ⟨.slice none 0 0, by rw [HR.out]; rfl, Below.refl _ _, by rw [HR.out]; exact own_nil _ _ _ _⟩
end Go.Proofs.Ythidhfkbfoejbaa.Op
namespace Go.Proofs.Ythidhfkbfoejbaa.Op
open Go.ChangeShapes Go.WideShapes Go.ChangeAt Go.RowKit Go.Joins Go.Deep
set_option linter.unusedSimpArgs false
set_option linter.unusedVariables false
theorem cutOne_enc {o : Int × List UInt8} (h : okO o = true) (r : List UInt8) : cutOne (encO o ++ r) = some (o, r) := by
  obtain ⟨t, d⟩ := o
  simp only [okO, inB, Bool.and_eq_true, decide_eq_true_eq] at h
  obtain ⟨⟨h1, h2⟩, h3⟩ := h
  have e1 : (UInt8.ofNat t.toNat).toNat = t.toNat := by simp; omega
  have e2 : (UInt8.ofNat (d.length + 2)).toNat = d.length + 2 := by simp; omega
  simp only [encO, List.cons_append]
  rw [cutOne_cons, e2, if_pos (by simp), e1]
  simp
  omega
theorem encs_cons (o : Int × List UInt8) (L : List (Int × List UInt8)) : encs (o :: L) = encO o ++ encs L := rfl
theorem decW_encs : ∀ (L : List (Int × List UInt8)) (f : Nat) (acc : List (Int × List UInt8)), L.all okO = true → (encs L).length ≤ f → acc.length + L.length ≤ 64 → decW f (encs L) acc = (acc ++ L, 0)
  | [], f, acc, _, _, _ => by simp [encs, decW_nil]
  | o :: L, f, acc, h, hf, hl => by
    simp only [List.all_cons, Bool.and_eq_true] at h
    have hc := cutOne_enc h.1 (encs L)
    rw [← encs_cons] at hc
    simp only [List.length_cons] at hl
    obtain ⟨f', hf', hd⟩ := decW_step (acc := acc) hf hc (by omega)
    rw [hd, decW_encs L f' (acc ++ [o]) h.2 hf' (by simp; omega)]
    simp
theorem back_enc {L : List (Int × List UInt8)} {x : List UInt8} (h : encR L = (x, 0)) : decR x = (L, 0) := by
  unfold encR at h
  split at h
  · simp at h
  · split at h
    · split at h
      · simp at h
      · rename_i h1 h2 h3
        simp only [Prod.mk.injEq, and_true] at h
        subst h
        unfold decR
        rw [if_neg h3, decW_encs L _ [] h2 (Nat.le_refl _) (by simp; omega)]
        rfl
    · simp at h
theorem cutOne_back {l : List UInt8} {o : Int × List UInt8} {r : List UInt8} (h : cutOne l = some (o, r)) : okO o = true ∧ l = encO o ++ r := by
  match l, h with
  | t :: n :: q, h =>
    rw [cutOne_cons] at h
    by_cases hh : 2 ≤ n.toNat ∧ n.toNat ≤ q.length + 2
    · rw [if_pos hh] at h
      simp only [Option.some.injEq, Prod.mk.injEq] at h
      obtain ⟨rfl, rfl⟩ := h
      have ht := t.toNat_lt
      have hn := n.toNat_lt
      have hl : (q.take (n.toNat - 2)).length = n.toNat - 2 := by rw [List.length_take]; omega
      refine ⟨?_, ?_⟩
      · unfold okO inB
        simp only [hl]
        simp
        omega
      · simp only [encO, hl, List.cons_append, List.take_append_drop]
        have e1 : UInt8.ofNat (t.toNat : Int).toNat = t := by simp
        have e2 : UInt8.ofNat (n.toNat - 2 + 2) = n := by rw [show n.toNat - 2 + 2 = n.toNat by omega]; simp
        rw [e1, e2]
    · rw [if_neg hh] at h; cases h
theorem decW_back : ∀ (f : Nat) (l : List UInt8) (acc Y : List (Int × List UInt8)), l.length ≤ f → acc.length ≤ 64 → decW f l acc = (Y, 0) → ∃ L, Y = acc ++ L ∧ encs L = l ∧ L.all okO = true ∧ Y.length ≤ 64
  | 0, l, acc, Y, hl, ha, h => by
    have : l = [] := List.eq_nil_of_length_eq_zero (by omega)
    subst this
    simp only [decW, Prod.mk.injEq, and_true] at h
    subst h
    exact ⟨[], by simp, rfl, rfl, ha⟩
  | f + 1, l, acc, Y, hl, ha, h => by
    unfold decW at h
    by_cases h0 : l = []
    · rw [if_pos h0] at h
      simp only [Prod.mk.injEq, and_true] at h
      subst h h0
      exact ⟨[], by simp, rfl, rfl, ha⟩
    · rw [if_neg h0] at h
      cases hc : cutOne l with
      | none => rw [hc] at h; simp at h
      | some x =>
        obtain ⟨o, r⟩ := x
        rw [hc] at h
        simp only at h
        by_cases h6 : acc.length = 64
        · rw [if_pos h6] at h; simp at h
        · rw [if_neg h6] at h
          obtain ⟨ok, hle⟩ := cutOne_back hc
          have := cutOne_len hc
          obtain ⟨L, h1, h2, h3, h4⟩ := decW_back f r (acc ++ [o]) Y (by omega) (by simp; omega) h
          refine ⟨o :: L, by rw [h1]; simp, by rw [encs_cons, h2, hle], by simp [ok]; simpa using h3, h4⟩
theorem back_dec {l : List UInt8} {Y : List (Int × List UInt8)} (h : decR l = (Y, 0)) : encR Y = (l, 0) := by
  unfold decR at h
  split at h
  · simp at h
  · rename_i h1
    obtain ⟨L, hL, h2, h3, h4⟩ := decW_back _ _ _ _ (Nat.le_refl _) (by simp) h
    obtain rfl : Y = L := hL
    unfold encR
    rw [if_neg (by omega), if_pos h3, h2, if_neg h1]
theorem decW_err : ∀ (f : Nat) (l : List UInt8) (acc Y : List (Int × List UInt8)) (e : Int), decW f l acc = (Y, e) → e ≠ 0 → Y = []
  | 0, l, acc, Y, e, h, he => by simp only [decW, Prod.mk.injEq] at h; omega
  | f + 1, l, acc, Y, e, h, he => by
    unfold decW at h
    by_cases h0 : l = []
    · rw [if_pos h0] at h; simp only [Prod.mk.injEq] at h; omega
    · rw [if_neg h0] at h
      cases hc : cutOne l with
      | none => rw [hc] at h; simp at h; exact h.1
      | some x =>
        obtain ⟨o, r⟩ := x
        rw [hc] at h
        simp only at h
        by_cases h6 : acc.length = 64
        · rw [if_pos h6] at h; simp at h; exact h.1
        · rw [if_neg h6] at h; exact decW_err f _ _ _ _ h he
theorem decR_err {l : List UInt8} {Y : List (Int × List UInt8)} {e : Int} (h : decR l = (Y, e)) (he : e ≠ 0) : Y = [] := by
  unfold decR at h
  split at h
  · simp at h; exact h.1
  · exact decW_err _ _ _ _ _ h he
end Go.Proofs.Ythidhfkbfoejbaa.Op
