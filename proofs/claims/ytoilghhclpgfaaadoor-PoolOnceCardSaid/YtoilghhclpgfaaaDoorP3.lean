/- A pool as it lies; New. -/
import Derived.Test.YtoilghhclpgfaaaDoorP2
import Derived.StillTailTactics
import Derived.Laws.CopyOwn
namespace Go.Proofs.YtoilghhclpgfaaaDoor
open Go.RowKit
set_option linter.unusedSimpArgs false
set_option linter.unusedVariables false
structure PoolS where
  b : Int
  s : Nat
  fw : List Nat
  ow : List Nat
  left : Int
  af : Nat
  ao : Nat
  cf : Nat
  co : Nat
def PoolS.nw (S : PoolS) : Nat := (S.s + 63) / 64
/-- A pool as it lies. -/
structure PoolAt (w : World) (p : Nat) (S : PoolS) : Prop where
  st : w.heap[p]? = some (.cells #[.int .i64 S.b, .int .i64 (S.s : Int), .slice (some ⟨S.af, 0, none⟩) S.nw S.cf, .slice (some ⟨S.ao, 0, none⟩) S.nw S.co, .int .i64 S.left, .bool true] 60 (0, 0))
  free : RowAt w (some ⟨S.af, 0, none⟩) S.nw S.fw
  own : RowAt w (some ⟨S.ao, 0, none⟩) S.nw S.ow
  ne : S.af ≠ S.ao
theorem PoolAt.kept {w w' : World} {p : Nat} {S : PoolS} (h : PoolAt w p S) (hk : ∀ k, k < w.heap.size → (k = p ∨ k = S.af ∨ k = S.ao) → w'.heap[k]? = w.heap[k]?) : PoolAt w' p S :=
  ⟨(hk p (lt_of_block h.st) (.inl rfl)).trans h.st, h.free.kept (fun b hb hl => by cases hb; exact hk _ hl (.inr (.inl rfl))), h.own.kept (fun b hb hl => by cases hb; exact hk _ hl (.inr (.inr rfl))), h.ne⟩
theorem PoolAt.keep {w w' : World} {p : Nat} {S : PoolS} (h : PoolAt w p S) (hb : Below w.heap.size w w') : PoolAt w' p S := h.kept fun k hk _ => hb.block k hk
/-- Of one row that is turned the other one, and the pool itself, stay. -/
theorem RowAt.block {w : World} {a n : Nat} {ws : List Nat} (h : RowAt w (some ⟨a, 0, none⟩) n ws) (h0 : ws ≠ []) : ∃ cs, w.heap[a]? = some (.cells cs 69 (0, 0)) := by
  rcases h.row with h1 | ⟨b, rest, hb, hh⟩
  · exact absurd h1 h0
  · cases hb; exact ⟨_, hh⟩
theorem PoolAt.p_ne {w : World} {p a : Nat} {S : PoolS} (h : PoolAt w p S) {cs : Array Value} (ha : w.heap[a]? = some (.cells cs 69 (0, 0))) : p ≠ a := fun e => by
  subst e
  have := h.st
  rw [ha] at this
  simp at this
theorem PoolAt.setFree {w : World} {p : Nat} {S : PoolS} (h : PoolAt w p S) {i : Nat} (hi : i / 64 < S.fw.length) (on : Bool) :
    PoolAt (w.setCell ⟨S.af, i / 64, none⟩ (.int .u64 ((putB (S.fw.getD (i / 64) 0) (i % 64) on : Nat) : Int))) p { S with fw := setW S.fw i on } := by
  obtain ⟨cs, hcs⟩ := h.free.block (by intro e; rw [e] at hi; simp at hi)
  have hp := h.p_ne hcs
  have o : ∀ k, k ≠ S.af → (w.setCell ⟨S.af, i / 64, none⟩ (.int .u64 ((putB (S.fw.getD (i / 64) 0) (i % 64) on : Nat) : Int))).heap[k]? = w.heap[k]? := fun k hk => Below.heap_setCell w ⟨S.af, i / 64, none⟩ _ k hk
  exact ⟨(o p hp).trans h.st, h.free.set rfl hi on, h.own.kept (fun b hb _ => by cases hb; exact o _ (Ne.symm h.ne)), h.ne⟩
theorem PoolAt.setOwn {w : World} {p : Nat} {S : PoolS} (h : PoolAt w p S) {i : Nat} (hi : i / 64 < S.ow.length) (on : Bool) :
    PoolAt (w.setCell ⟨S.ao, i / 64, none⟩ (.int .u64 ((putB (S.ow.getD (i / 64) 0) (i % 64) on : Nat) : Int))) p { S with ow := setW S.ow i on } := by
  obtain ⟨cs, hcs⟩ := h.own.block (by intro e; rw [e] at hi; simp at hi)
  have hp := h.p_ne hcs
  have o : ∀ k, k ≠ S.ao → (w.setCell ⟨S.ao, i / 64, none⟩ (.int .u64 ((putB (S.ow.getD (i / 64) 0) (i % 64) on : Nat) : Int))).heap[k]? = w.heap[k]? := fun k hk => Below.heap_setCell w ⟨S.ao, i / 64, none⟩ _ k hk
  exact ⟨(o p hp).trans h.st, h.free.kept (fun b hb _ => by cases hb; exact o _ h.ne), h.own.set rfl hi on, h.ne⟩
theorem PoolAt.setLeft {w : World} {p : Nat} {S : PoolS} (h : PoolAt w p S) (l : Int) : PoolAt (w.setCell ⟨p, 4, none⟩ (.int .i64 l)) p { S with left := l } := by
  have o : ∀ k, k ≠ p → (w.setCell ⟨p, 4, none⟩ (.int .i64 l)).heap[k]? = w.heap[k]? := fun k hk => Below.heap_setCell w ⟨p, 4, none⟩ _ k hk
  refine ⟨heap_setCell_same w p 4 _ 60 _ h.st, ?_, ?_, h.ne⟩
  · rcases h.free.row with h1 | ⟨b, rest, hb, hh⟩
    · exact ⟨h.free.n, h.free.wide, .inl h1⟩
    · cases hb; exact ⟨h.free.n, h.free.wide, .inr ⟨_, rest, rfl, (o _ (Ne.symm (h.p_ne hh))).trans hh⟩⟩
  · rcases h.own.row with h1 | ⟨b, rest, hb, hh⟩
    · exact ⟨h.own.n, h.own.wide, .inl h1⟩
    · cases hb; exact ⟨h.own.n, h.own.wide, .inr ⟨_, rest, rfl, (o _ (Ne.symm (h.p_ne hh))).trans hh⟩⟩
theorem row_of_heap {w : World} {a k : Nat} (h : w.heap[a]? = some (.cells (zeroRow k) 69 (0, 0))) : RowAt w (some ⟨a, 0, none⟩) k (List.replicate k 0) :=
  ⟨by simp, wide_zero k, .inr ⟨_, [], rfl, by rw [h]; simp [zeroRow]⟩⟩
theorem u64s_len (l : List Nat) : (u64s l).length = l.length := by simp [u64s]
theorem u64s_get {l : List Nat} {j : Nat} {v : Value} (h : (u64s l)[j]? = some v) : j < l.length ∧ v = .int .u64 ((l.getD j 0 : Nat) : Int) := by
  unfold u64s at h
  rw [List.getElem?_map] at h
  by_cases hj : j < l.length
  · rw [List.getElem?_eq_getElem hj] at h
    simp only [Option.map_some, Option.some.injEq] at h
    exact ⟨hj, by rw [← h, List.getD_eq_getElem?_getD, List.getElem?_eq_getElem hj]; rfl⟩
  · rw [List.getElem?_eq_none (by omega)] at h; cases h
/-- One row copied over the other one. -/
theorem wpList_copy_rows {w : World} {ops : Array Oper} {rest : List Oper} {o : Oper} {a : Act} {Q : Exit → Act → World → Prop} (hgd : o.guard = none) (d s : Operand)
    (ho : o.op = .call { callee := .builtin .copy, args := #[d, s], argTypes := #[58, 58] }) (af ao n cf co : Nat) (hd : a.eval d = .slice (some ⟨af, 0, none⟩) n cf) (hs : a.eval s = .slice (some ⟨ao, 0, none⟩) n co) (fw ow : List Nat)
    (hf : RowAt w (some ⟨af, 0, none⟩) n fw) (hr : RowAt w (some ⟨ao, 0, none⟩) n ow)
    (h : ∀ w' v, RowAt w' (some ⟨af, 0, none⟩) n ow → (∀ k, k ≠ af → w'.heap[k]? = w.heap[k]?) → (∀ B w0, Below B w0 w → B ≤ af → Below B w0 w') → wpList Tryd.prog ops Q rest (a.put o.dst v) w') :
    wpList Tryd.prog ops Q (o :: rest) a w := by
  have hfn := hf.n
  have hrn := hr.n
  have hi : (Tryd.prog.info? 69).map (·.size) = some 1 := by kernel_rfl
  by_cases h0 : n = 0
  · subst h0
    refine wpList_copy_nothing hgd d s 58 58 ho 69 Tryd.underlying58 hi _ _ _ _ _ _ hd hs (by simp) ?_
    exact h w _ ⟨hrn, hr.wide, .inl (List.eq_nil_of_length_eq_zero hrn.symm)⟩ (fun k _ => rfl) (fun B w0 hb _ => hb)
  · rcases hf.row with h1 | ⟨b, fr, hb, hh⟩
    · rw [h1] at hfn; simp at hfn; omega
    · cases hb
      refine wpList_copy_own hgd d s 58 58 ho 69 Tryd.underlying58 hi af 0 n cf ⟨ao, 0, none⟩ n co hd hs _ 69 hh (u64s ow) (by rw [u64s_len, ← hrn]; simp) ?_ (by simp [u64s_len]; omega) (fun v hv => by unfold u64s at hv; obtain ⟨x, -, rfl⟩ := List.mem_map.1 hv; rfl) ?_
      · intro j v hv
        obtain ⟨hj, rfl⟩ := u64s_get hv
        obtain ⟨b, hb, -, hc, -⟩ := hr.get hj
        cases hb
        have e : (⟨ao, 0, none⟩ : Addr).add j = ⟨ao, j, none⟩ := by simp only [Addr.add]; by_cases h0 : j = 0 <;> simp [h0]
        rw [e]; exact hc
      · refine h _ _ ⟨hrn, hr.wide, .inr ⟨af, fr, rfl, ?_⟩⟩ (fun k hk => setRow_other w af k _ hk) (fun B w0 hb hBg => below_setRow hb hBg _)
        rw [setRow_heap w af _ _ 69 _ hh]
        congr 2
        simp only [List.take_zero, List.nil_append, Nat.zero_add, List.toList_toArray]
        congr 1
        congr 1
        rw [u64s_len, ← hrn, hfn, ← u64s_len fw, List.drop_left]
theorem PoolAt.copied {w w' : World} {p : Nat} {S : PoolS} (h : PoolAt w p S) (hr : RowAt w' (some ⟨S.af, 0, none⟩) S.nw S.ow) (hk : ∀ k, k ≠ S.af → w'.heap[k]? = w.heap[k]?) (hne : p ≠ S.af) : PoolAt w' p { S with fw := S.ow } :=
  ⟨(hk p hne).trans h.st, hr, h.own.kept (fun b hb _ => by cases hb; exact hk _ (Ne.symm h.ne)), h.ne⟩
/-- The pool's bits, made anew. -/
structure Fresh (b : Int) (s : Nat) (R : List Int) (S : PoolS) : Prop where
  hb : S.b = b
  hs : S.s = s
  left : S.left = (s : Int) - R.length
  own : ∀ i, bitW S.ow i = (decide (i < s) && !decide ((i : Int) ∈ R))
  free : S.fw = S.ow
def NewP (b s : Int) (R : List Int) (W : World) (x : Ending) (W' : World) : Prop :=
  Below W.heap.size W W' ∧
  ((rangeOk b s R = false ∧ x = .returned (.tuple #[.pointer none, .int .i64 120])) ∨
   (rangeOk b s R = true ∧ ∃ p S, x = .returned (.tuple #[.pointer (some ⟨p, 0, none⟩), .int .i64 0]) ∧ W.heap.size ≤ p ∧ W.heap.size ≤ S.af ∧ W.heap.size ≤ S.ao ∧ PoolAt W' p S ∧ Fresh b s.toNat R S ∧ S.af < p ∧ S.ao < p))
set_option maxRecDepth 100000 in
set_option maxHeartbeats 2000000 in
theorem new_any (b s : Int) (A : Option Addr) (n c : Nat) (R : List Int) (W : World) (hA : At W W.heap.size A (ints R)) (hn : n = R.length) (hn2 : (n : Int) ≤ 9223372036854775807) :
    Calls Tryd.prog 13 #[rangeV b s A n c] W (NewP b s R W) := by
  have HA := Lib.hid hA
  have HN := Lib.hid hn
  have HN2 := Lib.hid hn2
  clear hA hn hn2
  cases hok : rangeOk b s R
  · have HE := Lib.hid (show rangeErr b s R = 120 by unfold rangeErr; rw [hok]; rfl)
    have HOK := Lib.hid hok
    clear hok
    unfold rangeV
    go_enter Tryd.func13, Tryd.ntmps13
    go_wp2_with fail
    refine (check_any b s A n c R _ (HA.out.move (by (repeat (first | exact Below.refl _ _ | exact Nat.le_refl _ | (refine below_ext ?_ (by first | (simp [size_ext, grow]; done) | (simp [size_ext, grow]; omega) | omega) _ _) | (refine Below.setCell ?_ (by first | (simp [size_ext, grow]; done) | (simp [size_ext, grow]; omega) | omega) _) | (refine Below.alloc ?_ (by first | (simp [size_ext, grow]; done) | (simp [size_ext, grow]; omega) | omega) _) | refine Below.drew ?_ | refine below_drewN ?_ _ | (refine Below.trans ?_ (Below.mono (by assumption) (by first | (simp [size_ext, grow]; done) | (simp [size_ext, grow]; omega) | omega)))))) (by simp)) HN.out HN2.out).mono ?_
    rw [HE.out]
    rintro e w1 ⟨rfl, hb⟩
    obtain ⟨xs, d, rfl⟩ := ext_of hb
    clear hb
    go_wp2_with fail
    go_ret2
    exact ⟨by (repeat (first | exact Below.refl _ _ | exact Nat.le_refl _ | (refine below_ext ?_ (by first | (simp [size_ext, grow]; done) | (simp [size_ext, grow]; omega) | omega) _ _) | (refine Below.setCell ?_ (by first | (simp [size_ext, grow]; done) | (simp [size_ext, grow]; omega) | omega) _) | (refine Below.alloc ?_ (by first | (simp [size_ext, grow]; done) | (simp [size_ext, grow]; omega) | omega) _) | refine Below.drew ?_ | refine below_drewN ?_ _ | (refine Below.trans ?_ (Below.mono (by assumption) (by first | (simp [size_ext, grow]; done) | (simp [size_ext, grow]; omega) | omega))))), .inl ⟨HOK.out, rfl⟩⟩
  · have HE := Lib.hid (show rangeErr b s R = 0 by unfold rangeErr; rw [hok]; rfl)
    have HOK := Lib.hid hok
    have hh : headOk b s = true ∧ rowOk s R = true := by unfold rangeOk at hok; simpa using hok
    have HRO := Lib.hid hh.2
    have b5 := hh.1
    unfold headOk at b5
    simp only [Bool.and_eq_true, decide_eq_true_eq] at b5
    obtain ⟨b1, b2, b3, b4, b5⟩ := b5
    obtain ⟨m, rfl⟩ := Int.eq_ofNat_of_zero_le b3
    have hnm : n ≤ m := by have := row_len hh.2 b3; have := HN.out; omega
    clear hh hok
    unfold rangeV
    go_enter Tryd.func13, Tryd.ntmps13
    go_wp2_with fail
    refine (check_any b (m : Int) A n c R _ (HA.out.move (by (repeat (first | exact Below.refl _ _ | exact Nat.le_refl _ | (refine below_ext ?_ (by first | (simp [size_ext, grow]; done) | (simp [size_ext, grow]; omega) | omega) _ _) | (refine Below.setCell ?_ (by first | (simp [size_ext, grow]; done) | (simp [size_ext, grow]; omega) | omega) _) | (refine Below.alloc ?_ (by first | (simp [size_ext, grow]; done) | (simp [size_ext, grow]; omega) | omega) _) | refine Below.drew ?_ | refine below_drewN ?_ _ | (refine Below.trans ?_ (Below.mono (by assumption) (by first | (simp [size_ext, grow]; done) | (simp [size_ext, grow]; omega) | omega)))))) (by simp)) HN.out HN2.out).mono ?_
    rw [HE.out]
    rintro e w1 ⟨rfl, hb⟩
    obtain ⟨xs, d, rfl⟩ := ext_of hb
    clear hb
    go_upto_region 3 with (fail)
    have hwr : IntKind.i64.wrap ((m : Int) - (n : Int)) = (m : Int) - (n : Int) := IntWalk.i64_in _ (by omega)
    obtain ⟨k, hk⟩ : ∃ k, (m + 63) / 64 = k := ⟨_, rfl⟩
    have HK := Lib.hid hk
    clear hk
    go_cut [4] (fun s4 wx => ∃ (p : Nat) (w5 : World), w5 = wx ∧ s4 = .pointer (some ⟨p, 0, none⟩) ∧ Below W.heap.size W w5 ∧ W.heap.size + 2 ≤ p ∧ w5.heap[W.heap.size]? = some (.cells #[.int .i64 b, .int .i64 (m : Int), .slice A n c] 24 (0, 0)) ∧
      ∃ af ao, W.heap.size < af ∧ W.heap.size < ao ∧ (af < p ∧ ao < p) ∧ PoolAt w5 p ⟨b, m, List.replicate k 0, List.replicate k 0, (m : Int) - (n : Int), af, ao, k, k⟩)
    case first =>
      go_region_held3 (fun w' => w'.cell? ⟨W.heap.size, 0, none⟩ = some (.int .i64 b) ∧ w'.cell? ⟨W.heap.size, 1, none⟩ = some (.int .i64 (m : Int)) ∧ w'.cell? ⟨W.heap.size, 2, none⟩ = some (.slice A n c)) (first | (go_keep; done) | (go_simp; done) | (simp [go_sem]; done)) ((go_at_call 28; refine (rowOf_any m _ (by omega)).mono ?_; rw [HK.out]; rintro e w3 ⟨rfl, rfl⟩))
      all_goals
        go_wp2_with fail
        go_meet
        refine ⟨_, _, rfl, rfl, by (repeat (first | exact Below.refl _ _ | exact Nat.le_refl _ | (refine below_ext ?_ (by first | (simp [size_ext, grow]; done) | (simp [size_ext, grow]; omega) | omega) _ _) | (refine Below.setCell ?_ (by first | (simp [size_ext, grow]; done) | (simp [size_ext, grow]; omega) | omega) _) | (refine Below.alloc ?_ (by first | (simp [size_ext, grow]; done) | (simp [size_ext, grow]; omega) | omega) _) | refine Below.drew ?_ | refine below_drewN ?_ _ | (refine Below.trans ?_ (Below.mono (by assumption) (by first | (simp [size_ext, grow]; done) | (simp [size_ext, grow]; omega) | omega))))), by simp only [grow]; omega, by (repeat (first | ((refine heap_alloc_at _ _ _ ?_); (simp [go_sem]; done)) | ((refine (heap_ext _ _ _ _ ?_).trans ?_); (focus (simp [go_sem]; done))) | ((refine (heap_alloc_past _ _ _ ?_).trans ?_); (focus (simp [go_sem]; done))))), grow W.heap.size xs + 1, grow W.heap.size xs + 1 + 1, by simp only [grow]; omega, by simp only [grow]; omega, ⟨by omega, by omega⟩, ?_, ?_, ?_, by simp⟩
        · unfold PoolS.nw
          simp only
          rw [HK.out]
          (repeat (first | ((refine heap_alloc_at _ _ _ ?_); (simp [go_sem]; done)) | ((refine (heap_ext _ _ _ _ ?_).trans ?_); (focus (simp [go_sem]; done))) | ((refine (heap_alloc_past _ _ _ ?_).trans ?_); (focus (simp [go_sem]; done)))))
        · unfold PoolS.nw
          simp only
          rw [HK.out]
          exact row_of_heap (by (repeat (first | ((refine heap_alloc_at _ _ _ ?_); (simp [go_sem]; done)) | ((refine (heap_ext _ _ _ _ ?_).trans ?_); (focus (simp [go_sem]; done))) | ((refine (heap_alloc_past _ _ _ ?_).trans ?_); (focus (simp [go_sem]; done))))))
        · unfold PoolS.nw
          simp only
          rw [HK.out]
          exact row_of_heap (by (repeat (first | ((refine heap_alloc_at _ _ _ ?_); (simp [go_sem]; done)) | ((refine (heap_ext _ _ _ _ ?_).trans ?_); (focus (simp [go_sem]; done))) | ((refine (heap_alloc_past _ _ _ ?_).trans ?_); (focus (simp [go_sem]; done))))))
    case rest =>
      obtain ⟨p, w5, hw5, rfl, hb5, hp5, ha5, af, ao, haf, hao, hafp, hpa⟩ := hcut
      rw [← hw5]
      have HB5 := Lib.hid hb5
      have HA5 := Lib.hid ha5
      have HPA := Lib.hid hpa
      have HAF := Lib.hid (And.intro haf (And.intro hao hp5))
      have HAP := Lib.hid hafp
      have q1 : w5.cell? ⟨W.heap.size, 1, none⟩ = some (.int .i64 (m : Int)) := (cell_of_row w5 _ 1 _ _ (0, 0) ha5).trans rfl
      have q2 : w5.cell? ⟨W.heap.size, 2, none⟩ = some (.slice A n c) := (cell_of_row w5 _ 2 _ _ (0, 0) ha5).trans rfl
      have qz : W.heap.size < w5.heap.size := lt_of_block ha5
      clear hw5 hb5 ha5 hpa haf hao hp5 hwr hafp
      go_wp2_with fail
      go_loopw [31] (fun i wr => ∃ (j : Nat) (ow : List Nat), j ≤ m ∧ i = .int .i64 j ∧ ow.length = k ∧ PoolAt wr p ⟨b, m, List.replicate k 0, ow, (m : Int) - (n : Int), af, ao, k, k⟩ ∧ Below W.heap.size W wr ∧ wr.heap[W.heap.size]? = some (.cells #[.int .i64 b, .int .i64 (m : Int), .slice A n c] 24 (0, 0)) ∧ ∀ i, bitW ow i = decide (i < j)) (fun i _ => m - (intOf i).toNat)
      case atStart => exact ⟨0, _, Nat.zero_le _, rfl, by simp, HPA.out, HB5.out, HA5.out, fun i => by rw [bit_zero]; simp⟩
      case round =>
        obtain ⟨j, ow, hj, rfl, hol, hpa, hbl, har, hbits⟩ := hrel
        have HP := Lib.hid hpa
        have HBL := Lib.hid hbl
        have HAR := Lib.hid har
        have HBT := Lib.hid hbits
        have HOL := Lib.hid hol
        clear q1 q2 qz hol
        have c3 : wr.cell? ⟨p, 3, none⟩ = some (.slice (some ⟨ao, 0, none⟩) (PoolS.nw ⟨b, m, List.replicate k 0, ow, (m : Int) - (n : Int), af, ao, k, k⟩) k) := (cell_of_row wr _ 3 _ _ (0, 0) hpa.st).trans rfl
        have pz : p < wr.heap.size := lt_of_block hpa.st
        have q2 : wr.cell? ⟨W.heap.size, 2, none⟩ = some (.slice A n c) := (cell_of_row wr _ 2 _ _ (0, 0) har).trans rfl
        have qz : W.heap.size < wr.heap.size := lt_of_block har
        clear hpa hbl har hbits
        by_cases hlt : j < m
        · have HJK := Lib.hid (show j / 64 < ow.length by have := HK.out; have := HOL.out; omega)
          have hkl : k ≤ 1000000 := by have := HK.out; omega
          go_wp2_with fail
          refine (set_on (some ⟨ao, 0, none⟩) _ k ow j true _ HP.out.own HJK.out (by have := HOL.out; omega)).mono ?_
          rintro e w6 ⟨rfl, ao', hao, rfl⟩
          cases hao
          go_wp2_with fail
          go_roundw
          case rel => exact ⟨j + 1, setW ow j true, by omega, by go_num, by rw [setW_len]; exact HOL.out, HP.out.setOwn (S := ⟨b, m, List.replicate k 0, ow, (m : Int) - (n : Int), af, ao, k, k⟩) HJK.out true, HBL.out.setCell (p := ⟨ao, _, none⟩) (Nat.le_of_lt HAF.out.2.1) _, (Below.heap_setCell wr ⟨ao, _, none⟩ _ _ (by have := HAF.out.2.1; simp; omega)).trans HAR.out, fun i => by rw [bit_setW HP.out.own.wide HJK.out, HBT.out]; by_cases h : i = j <;> simp [h] <;> omega⟩
          case measure => simp [intOf]; omega
        · have hjm : m = j := by omega
          subst hjm
          go_wp2_with fail
          go_loopw [44] (fun i wr => ∃ (j : Nat) (ow : List Nat), j ≤ n ∧ i = .int .i64 j ∧ ow.length = k ∧ PoolAt wr p ⟨b, m, List.replicate k 0, ow, (m : Int) - (n : Int), af, ao, k, k⟩ ∧ Below W.heap.size W wr ∧ ∀ i, bitW ow i = (decide (i < m) && !decide ((i : Int) ∈ R.take j))) (fun i _ => n - (intOf i).toNat)
          case atStart => exact ⟨0, ow, Nat.zero_le _, rfl, HOL.out, HP.out, HBL.out, fun i => by rw [HBT.out]; simp⟩
          case round =>
            clear HP HBL HAR HBT HOL q2 c3 pz qz HPA HB5 HA5
            obtain ⟨j, ow, hj, rfl, hol, hpa, hbl, hbits⟩ := hrel
            have HP := Lib.hid hpa
            have HBL := Lib.hid hbl
            have HBT := Lib.hid hbits
            have HOL := Lib.hid hol
            clear hol
            have c3 : wr.cell? ⟨p, 3, none⟩ = some (.slice (some ⟨ao, 0, none⟩) (PoolS.nw ⟨b, m, List.replicate k 0, ow, (m : Int) - (n : Int), af, ao, k, k⟩) k) := (cell_of_row wr _ 3 _ _ (0, 0) hpa.st).trans rfl
            have pz : p < wr.heap.size := lt_of_block hpa.st
            have hszr := hbl.size
            clear hpa hbl hbits
            by_cases hlt : j < n
            · have HJR := Lib.hid (show j < R.length by have := HN.out; omega)
              obtain ⟨bb, o, rfl, hbB, hcells⟩ := At.int (HA.out.keep HBL.out) HJR.out
              have g0 := hcells j HJR.out
              have hge := row_ge HRO.out j HJR.out
              obtain ⟨q, hq⟩ := Int.eq_ofNat_of_zero_le (show 0 ≤ R.getD j 0 by omega)
              rw [hq] at g0 hge
              have HQ := Lib.hid hq
              have hqm : q < m := by omega
              have hbw : bb < wr.heap.size := by omega
              clear hq hcells hge
              have HJK := Lib.hid (show q / 64 < ow.length by have := HK.out; have := HOL.out; omega)
              have hkl : k ≤ 1000000 := by have := HK.out; omega
              go_wp2_with fail
              refine (set_on (some ⟨ao, 0, none⟩) _ k ow q false _ HP.out.own HJK.out (by have := HOL.out; omega)).mono ?_
              rintro e w6 ⟨rfl, ao', hao, rfl⟩
              cases hao
              go_wp2_with fail
              go_roundw
              case rel =>
                refine ⟨j + 1, setW ow q false, by omega, by go_num, by rw [setW_len]; exact HOL.out, HP.out.setOwn (S := ⟨b, m, List.replicate k 0, ow, (m : Int) - (n : Int), af, ao, k, k⟩) HJK.out false, HBL.out.setCell (p := ⟨ao, _, none⟩) (Nat.le_of_lt HAF.out.2.1) _, fun i => ?_⟩
                rw [bit_setW HP.out.own.wide HJK.out, HBT.out, List.take_succ_eq_append_getElem HJR.out]
                have e : R[j]'HJR.out = (q : Int) := by rw [← HQ.out]; simp [List.getD_eq_getElem?_getD, List.getElem?_eq_getElem HJR.out]
                rw [e]
                by_cases h : i = q
                · subst h; simp
                · rw [if_neg h]
                  have h2 : (i : Int) ≠ (q : Int) := by omega
                  simp [h2]
              case measure => simp [intOf]; omega
            · have hjn : n = j := by omega
              subst hjn
              have HBR := Lib.hid (show ∀ i, bitW ow i = (decide (i < m) && !decide ((i : Int) ∈ R)) by have := HBT.out; rwa [List.take_of_length_le (by have := HN.out; omega)] at this)
              have c2 : wr.cell? ⟨p, 2, none⟩ = some (.slice (some ⟨af, 0, none⟩) (PoolS.nw ⟨b, m, List.replicate k 0, ow, (m : Int) - (n : Int), af, ao, k, k⟩) k) := (cell_of_row wr _ 2 _ _ (0, 0) HP.out.st).trans rfl
              go_upto_region 14 with (fail)
              go_cut [] (fun wx => ∃ w8 : World, w8 = wx ∧ PoolAt w8 p ⟨b, m, ow, ow, (m : Int) - (n : Int), af, ao, k, k⟩ ∧ Below W.heap.size W w8)
              case first =>
                go_still_tail 8, (by kernel_rfl)
                refine wpList_copy_rows rfl (.tmp 58) (.tmp 62) rfl af ao _ k k rfl rfl _ _ (HP.out.free.keep (by (repeat (first | exact Below.refl _ _ | exact Nat.le_refl _ | (refine below_ext ?_ (by first | (simp [size_ext, grow]; done) | (simp [size_ext, grow]; omega) | omega) _ _) | (refine Below.setCell ?_ (by first | (simp [size_ext, grow]; done) | (simp [size_ext, grow]; omega) | omega) _) | (refine Below.alloc ?_ (by first | (simp [size_ext, grow]; done) | (simp [size_ext, grow]; omega) | omega) _) | refine Below.drew ?_ | refine below_drewN ?_ _ | (refine Below.trans ?_ (Below.mono (by assumption) (by first | (simp [size_ext, grow]; done) | (simp [size_ext, grow]; omega) | omega))))))) (HP.out.own.keep (by (repeat (first | exact Below.refl _ _ | exact Nat.le_refl _ | (refine below_ext ?_ (by first | (simp [size_ext, grow]; done) | (simp [size_ext, grow]; omega) | omega) _ _) | (refine Below.setCell ?_ (by first | (simp [size_ext, grow]; done) | (simp [size_ext, grow]; omega) | omega) _) | (refine Below.alloc ?_ (by first | (simp [size_ext, grow]; done) | (simp [size_ext, grow]; omega) | omega) _) | refine Below.drew ?_ | refine below_drewN ?_ _ | (refine Below.trans ?_ (Below.mono (by assumption) (by first | (simp [size_ext, grow]; done) | (simp [size_ext, grow]; omega) | omega))))))) ?_
                intro w8 v hr8 hk8 hb8
                have H8 := Lib.hid (show PoolAt w8 p ⟨b, m, ow, ow, (m : Int) - (n : Int), af, ao, k, k⟩ from PoolAt.copied (S := ⟨b, m, List.replicate k 0, ow, (m : Int) - (n : Int), af, ao, k, k⟩) (HP.out.keep (by (repeat (first | exact Below.refl _ _ | exact Nat.le_refl _ | (refine below_ext ?_ (by first | (simp [size_ext, grow]; done) | (simp [size_ext, grow]; omega) | omega) _ _) | (refine Below.setCell ?_ (by first | (simp [size_ext, grow]; done) | (simp [size_ext, grow]; omega) | omega) _) | (refine Below.alloc ?_ (by first | (simp [size_ext, grow]; done) | (simp [size_ext, grow]; omega) | omega) _) | refine Below.drew ?_ | refine below_drewN ?_ _ | (refine Below.trans ?_ (Below.mono (by assumption) (by first | (simp [size_ext, grow]; done) | (simp [size_ext, grow]; omega) | omega))))))) hr8 hk8 (Nat.ne_of_gt HAP.out.1))
                have HB8 := Lib.hid (hb8 W.heap.size W (by have := HBL.out; (repeat (first | exact Below.refl _ _ | exact Nat.le_refl _ | (refine below_ext ?_ (by first | (simp [size_ext, grow]; done) | (simp [size_ext, grow]; omega) | omega) _ _) | (refine Below.setCell ?_ (by first | (simp [size_ext, grow]; done) | (simp [size_ext, grow]; omega) | omega) _) | (refine Below.alloc ?_ (by first | (simp [size_ext, grow]; done) | (simp [size_ext, grow]; omega) | omega) _) | refine Below.drew ?_ | refine below_drewN ?_ _ | (refine Below.trans ?_ (Below.mono (by assumption) (by first | (simp [size_ext, grow]; done) | (simp [size_ext, grow]; omega) | omega)))))) (Nat.le_of_lt HAF.out.1))
                clear hr8 hk8 hb8
                go_wp2_with fail
                go_meet
                exact ⟨w8, rfl, H8.out, HB8.out⟩
              case rest =>
                obtain ⟨w8, hw8, hpa, hbl⟩ := hcut
                rw [← hw8]
                have HP8 := Lib.hid hpa
                have HB8 := Lib.hid hbl
                clear hw8 hpa hbl c2 c3 pz
                go_wp2_with fail
                go_ret2
                refine ⟨HB8.out, .inr ⟨HOK.out, p, ⟨b, m, ow, ow, (m : Int) - (n : Int), af, ao, k, k⟩, rfl, by have := HAF.out.2.2; omega, Nat.le_of_lt HAF.out.1, Nat.le_of_lt HAF.out.2.1, HP8.out, ⟨rfl, by simp, ?_, ?_, rfl⟩, HAP.out.1, HAP.out.2⟩⟩
                · simp only; rw [HN.out]; simp
                · intro i; simp only [Int.toNat_natCast]; exact HBR.out i
end Go.Proofs.YtoilghhclpgfaaaDoor
