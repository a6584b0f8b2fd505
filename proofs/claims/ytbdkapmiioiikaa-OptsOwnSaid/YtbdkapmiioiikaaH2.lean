/- opts.Decode. -/
import Derived.Test.YtbdkapmiioiikaaH1
namespace Go.Proofs.Ytbdkapmiioiikaa
open Go.RowKit
attribute [local go_sem] Oper.semAt_some
set_option linter.unusedSimpArgs false
set_option linter.unusedVariables false
def decW : Nat → List UInt8 → List (Int × List UInt8) → List (Int × List UInt8) × Int
  | 0, _, acc => (acc, 0)
  | f + 1, l, acc => if l = [] then (acc, 0) else match cutOne l with
    | none => ([], 80)
    | some (o, r) => if acc.length = 64 then ([], 3) else decW f r (acc ++ [o])
def decR (l : List UInt8) : List (Int × List UInt8) × Int := if 1488 < l.length then ([], 2) else decW l.length l []
def DecP (w : World) (l : List UInt8) (x : Ending) (w' : World) : Prop :=
  ∃ E v, x = .returned (.tuple #[v, .int .i64 (decR l).2]) ∧ Below w.heap.size w w' ∧ OwnOpts w' w.heap.size v E ∧ E.map Ent.o = (decR l).1
theorem decW_nil (f : Nat) (acc : List (Int × List UInt8)) : decW f [] acc = (acc, 0) := by cases f <;> simp [decW]
theorem decW_none {f : Nat} {l : List UInt8} {acc : List (Int × List UInt8)} (hf : l.length ≤ f) (h : l ≠ []) (hc : cutOne l = none) : decW f l acc = ([], 80) := by
  cases f with
  | zero => exact absurd (List.eq_nil_of_length_eq_zero (by omega)) h
  | succ f => simp [decW, h, hc]
theorem cutOne_len {l : List UInt8} {o : Int × List UInt8} {r : List UInt8} (h : cutOne l = some (o, r)) : r.length + 2 ≤ l.length := by
  unfold cutOne at h
  split at h
  · split at h
    · simp only [Option.some.injEq, Prod.mk.injEq] at h
      rw [← h.2, List.length_drop]
      simp only [List.length_cons]; omega
    · cases h
  · cases h
theorem decW_many {f : Nat} {l : List UInt8} {acc : List (Int × List UInt8)} {o : Int × List UInt8} {r : List UInt8} (hf : l.length ≤ f) (hc : cutOne l = some (o, r)) (ha : acc.length = 64) : decW f l acc = ([], 3) := by
  have := cutOne_len hc
  cases f with
  | zero => omega
  | succ f =>
    have h : l ≠ [] := by intro h; rw [h] at this; simp at this
    simp [decW, h, hc, ha]
theorem decW_step {f : Nat} {l : List UInt8} {acc : List (Int × List UInt8)} {o : Int × List UInt8} {r : List UInt8} (hf : l.length ≤ f) (hc : cutOne l = some (o, r)) (ha : acc.length ≠ 64) : ∃ f', r.length ≤ f' ∧ decW f l acc = decW f' r (acc ++ [o]) := by
  have := cutOne_len hc
  cases f with
  | zero => omega
  | succ f =>
    have h : l ≠ [] := by intro h; rw [h] at this; simp at this
    exact ⟨f, by omega, by simp [decW, h, hc, ha]⟩
/-- Between two rounds. -/
def DInv (w : World) (l rest : List UInt8) (W : World) : Prop :=
  ∃ (E : List Ent) (A : Option Addr) (n c f : Nat), rest.length ≤ f ∧ decW l.length l [] = decW f rest (E.map Ent.o) ∧ Below w.heap.size w W ∧ W.heap[w.heap.size]? = some (.cells #[.slice none 0 0] 22 (0, 0)) ∧
    W.heap[w.heap.size + 1]? = some (.cells #[.int .i64 0] 26 (0, 0)) ∧ W.heap[w.heap.size + 1 + 1]? = some (.cells #[.slice A n c] 22 (0, 0)) ∧ n = E.length ∧ E.length ≤ 64 ∧ OwnOpts W (w.heap.size + 1 + 1 + 1 + 1) (.slice A n c) E
/-- Left by a return. -/
def DOut (w : World) (l : List UInt8) : Code → World → Prop
  | .ret, W => Below w.heap.size w W ∧ (decW l.length l []).1 = [] ∧ W.heap[w.heap.size]? = some (.cells #[.slice none 0 0] 22 (0, 0)) ∧ W.heap[w.heap.size + 1]? = some (.cells #[.int .i64 (decW l.length l []).2] 26 (0, 0))
  | _, _ => False
theorem steps_block {Bn B : Nat} {A C : World} {row : Option Nat} (hg : A.grownBy C row) (hs : Steps Bn B A row) {k : Nat} {o : Obj} (hk : A.heap[k]? = some o) (h1 : k ≠ Bn) (h2 : k < B) : C.heap[k]? = some o := by
  refine (hg.block k (lt_of_block hk) fun e => ?_).trans hk
  rcases hs k e.symm with h | ⟨h, -⟩ <;> omega
theorem dinv_stays (w : World) (l rest : List UInt8) (B : Nat) (hB : w.heap.size + 1 + 1 + 1 ≤ B) : Stays (w.heap.size + 1 + 1 + 1) B (DInv w l rest) := by
  rintro A C row ⟨E, A1, n, c, f, hf, hd, hb, c0, c1, c2, hn, h64, ho⟩ hg hs
  refine ⟨E, A1, n, c, f, hf, hd, hb.grown hg hb.size (fun k e => ?_), steps_block hg hs c0 (by omega) (by omega), steps_block hg hs c1 (by omega) (by omega), steps_block hg hs c2 (by omega) (by omega), hn, h64, ho.stays hg fun r e => ?_⟩
  · rcases hs k e with h | ⟨h, -⟩ <;> omega
  · rcases hs r e with h | ⟨-, h⟩
    · exact .inl (by omega)
    · exact .inr h
theorem dout_stays (w : World) (l : List UInt8) (cd : Code) (B : Nat) (hB : w.heap.size + 1 + 1 + 1 ≤ B) : Stays (w.heap.size + 1 + 1 + 1) B (DOut w l cd) := by
  intro A C row h hg hs
  cases cd with
  | ret =>
    obtain ⟨hb, hd, c0, c1⟩ := h
    refine ⟨hb.grown hg hb.size (fun k e => ?_), hd, steps_block hg hs c0 (by omega) (by omega), steps_block hg hs c1 (by omega) (by omega)⟩
    rcases hs k e with h | ⟨h, -⟩ <;> omega
  | _ => exact h.elim
/-- Behind the assignment to the loop's variables. -/
def DAx (w : World) (l : List UInt8) (fr : Nat → Bool → Value → Act) (rest : List UInt8) (args : Array Value) (rest' : List UInt8) (a₁ : Act) (W : World) : Prop :=
  ∃ (X : Nat) (ok : Bool) (tt : Int) (A2 : Option Addr) (m c2 : Nat), args = #[.agg #[.int .i64 tt, .slice A2 m c2], .bool ok] ∧ a₁ = fr X ok (.agg #[.int .i64 tt, .slice A2 m c2]) ∧
    W.heap[X]? = some (.cells #[.int .i64 tt, .slice A2 m c2] 36 (0, 0)) ∧ w.heap.size + 1 + 1 + 1 + 1 ≤ X ∧ DInv w l rest W ∧
    ((ok = true ∧ ∃ dd, cutOne rest = some ((tt, dd), rest') ∧ m = dd.length ∧ W.ownsRow (w.heap.size + 1 + 1 + 1 + 1) 5 1 (.slice A2 m c2) m (dd.map bv)) ∨ (ok = false ∧ rest ≠ [] ∧ cutOne rest = none))
theorem dax_stays (w : World) (l : List UInt8) (fr : Nat → Bool → Value → Act) (rest : List UInt8) (args : Array Value) (rest' : List UInt8) (a₁ : Act) (B : Nat) (hB : w.heap.size + 1 + 1 + 1 ≤ B) :
    Stays (w.heap.size + 1 + 1 + 1) B (DAx w l fr rest args rest' a₁) := by
  rintro A C row ⟨X, ok, tt, A2, m, c2, h1, h2, hX, hXl, hI, hG⟩ hg hs
  refine ⟨X, ok, tt, A2, m, c2, h1, h2, ?_, hXl, dinv_stays w l rest B hB A C row hI hg hs, ?_⟩
  · refine (hg.block X (lt_of_block hX) fun e => ?_).trans hX
    rcases hs X e.symm with h | ⟨-, o, h, h'⟩
    · omega
    · rw [hX] at h; cases h; cases h'
  · rcases hG with ⟨hk, dd, hc, hm, ho⟩ | h
    · refine .inl ⟨hk, dd, hc, hm, own_stays ho hg fun r e => ?_⟩
      rcases hs r e with h | ⟨-, h⟩
      · exact .inl (by omega)
      · exact .inr (.inl h)
    · exact .inr h
theorem ent_map (E : List Ent) (e : Ent) : (E ++ [e]).map Ent.o = E.map Ent.o ++ [e.o] := by simp
theorem dec_push {w : World} {l s s' : List UInt8} {W w' : World} {E : List Ent} {A' A2 A3 : Option Addr} {c' c2 c3 f : Nat} {tt : Int} {dd : List UInt8} {o : Obj}
    (hf : s.length ≤ f) (hd : decW l.length l [] = decW f s (E.map Ent.o)) (hcut : cutOne s = some ((tt, dd), s')) (h64 : E.length ≤ 64) (h6 : E.length ≠ 64)
    (hb : Below w.heap.size w W) (c0 : W.heap[w.heap.size]? = some (.cells #[.slice none 0 0] 22 (0, 0))) (c1 : W.heap[w.heap.size + 1]? = some (.cells #[.int .i64 0] 26 (0, 0)))
    (ct : W.heap[w.heap.size + 1 + 1]? = some (.cells #[.slice A' E.length c'] 22 (0, 0))) (hbx : w.heap.size + 1 + 1 + 1 < W.heap.size)
    (hown : OwnOpts W (w.heap.size + 1 + 1 + 1 + 1) (.slice A' E.length c') E) (ho : W.ownsRow (w.heap.size + 1 + 1 + 1 + 1) 5 1 (.slice A2 dd.length c2) dd.length (dd.map bv))
    (ho' : w'.ownsRow (w.heap.size + 1 + 1 + 1 + 1) 36 2 (.slice A3 (E.length + 1) c3) (E.length + 1) (cellsE E ++ [.int .i64 tt, .slice A2 dd.length c2]))
    (hg : (W.alloc o).grownBy w' (Value.slice A' E.length c').ownBlock) :
    KeepsOthers W (w'.setCell ⟨w.heap.size + 1 + 1, 0, none⟩ (.slice A3 (E.length + 1) c3)) ∧ RKeep (w.heap.size + 1 + 1 + 1) w.heap.size W (w'.setCell ⟨w.heap.size + 1 + 1, 0, none⟩ (.slice A3 (E.length + 1) c3)) ∧
      DInv w l s' (w'.setCell ⟨w.heap.size + 1 + 1, 0, none⟩ (.slice A3 (E.length + 1) c3)) := by
  have hrow : ∀ k, (Value.slice A' E.length c').ownBlock = some k → w.heap.size + 1 + 1 + 1 + 1 ≤ k := fun k hk => own_le hown.1 hk
  have old : ∀ k, k < w.heap.size + 1 + 1 + 1 + 1 → w'.heap[k]? = W.heap[k]? := fun k hk =>
    (hg.block k (by simp; omega) (fun e => by have := hrow k e.symm; omega)).trans (Below.heap_alloc W o k (by omega))
  have hsz : W.heap.size + 1 ≤ w'.heap.size := by have := hg.size; simpa using this
  obtain ⟨f', hf', hd'⟩ := decW_step (acc := E.map Ent.o) hf hcut (by rw [List.length_map]; exact h6)
  refine ⟨(KeepsOthers.alloc W o).trans ((KeepsOthers.of_grownBy hg ?_).trans (KeepsOthers.setCell _ _ _)), ⟨?_, ?_⟩, E ++ [⟨tt, dd, A2, c2⟩], A3, E.length + 1, c3, f', hf', ?_, ?_, ?_, ?_, ?_, by simp, by simp; omega, ?_, ?_⟩
  · intro j ob e hj
    obtain ⟨cur, hcur⟩ := own_type (own_below hown.1 ((Below.refl _ _).alloc (o := o) (Nat.le_refl _))) e
    rw [hcur] at hj; cases hj; rfl
  · exact ((((Below.refl _ W).alloc (by omega) o).grown hg (by simp; omega) (fun k e => by have := hrow k e; omega)).setCell (p := ⟨w.heap.size + 1 + 1, 0, none⟩) (by simp; omega) _)
  · exact (Below.heap_setCell w' ⟨w.heap.size + 1 + 1, 0, none⟩ _ _ (by simp)).trans (old _ (by omega))
  · rw [hd, hd', ent_map]; rfl
  · exact hb.trans ((((Below.refl _ W).alloc (by omega) o).grown hg (by simp; omega) (fun k e => by have := hrow k e; omega)).setCell (p := ⟨w.heap.size + 1 + 1, 0, none⟩) (by simp; omega) _)
  · exact ((Below.heap_setCell w' ⟨w.heap.size + 1 + 1, 0, none⟩ _ _ (by simp; omega)).trans (old _ (by omega))).trans c0
  · exact ((Below.heap_setCell w' ⟨w.heap.size + 1 + 1, 0, none⟩ _ _ (by simp)).trans (old _ (by omega))).trans c1
  · exact one_setCell ((old _ (by omega)).trans ct)
  · have e1 : (E ++ [(⟨tt, dd, A2, c2⟩ : Ent)]).length = E.length + 1 := by simp
    rw [e1, cellsE_snoc]
    exact own_keep ho' fun k hk => Below.heap_setCell w' ⟨w.heap.size + 1 + 1, 0, none⟩ _ k (by have := own_le ho' hk; simp; omega)
  · have data : ∀ {v : Value} {n : Nat} {xs : List Value}, W.ownsRow (w.heap.size + 1 + 1 + 1 + 1) 5 1 v n xs → (w'.setCell ⟨w.heap.size + 1 + 1, 0, none⟩ (.slice A3 (E.length + 1) c3)).ownsRow (w.heap.size + 1 + 1 + 1 + 1) 5 1 v n xs := fun {v n xs} h => by
      have h1 := own_below h ((Below.refl _ W).alloc (o := o) (Nat.le_refl _))
      have h2 : w'.ownsRow (w.heap.size + 1 + 1 + 1 + 1) 5 1 v n xs := own_stays h1 hg fun r e => by
        obtain ⟨cur, hcur⟩ := own_type (own_below hown.1 ((Below.refl _ _).alloc (o := o) (Nat.le_refl _))) e
        exact .inr (.inr ⟨cur, _, hcur, by decide⟩)
      exact own_keep h2 fun k hk => Below.heap_setCell w' ⟨w.heap.size + 1 + 1, 0, none⟩ _ k (by have := own_le h2 hk; simp; omega)
    intro e he
    simp only [List.mem_append, List.mem_singleton] at he
    rcases he with he | rfl
    · exact data (hown.2 e he)
    · exact data ho
set_option maxRecDepth 100000 in
set_option maxHeartbeats 4000000 in
theorem dec_in (A : Option Addr) (n c : Nat) (l : List UInt8) (w : World) (B : Nat) (hB : B ≤ w.heap.size) (hA : At w B A (l.map bv)) (hn : n = l.length) (hc : n ≤ c) (hl : n ≤ 1488) :
    Calls Try.prog 14 #[.slice A n c] w (DecP w l) := by
  subst hn
  have HA := Lib.hid hA
  have HB := Lib.hid hB
  have HR := Lib.hid (show decR l = decW l.length l [] by unfold decR; rw [if_neg (by omega)])
  have h9 : decide ((1488 : Int) < (l.length : Int)) = false := by simp; omega
  clear hA hB
  refine (callsIn_wide (n := 7)).1 (callsIn_of_wp_marks Try.func14 rfl trivial ?_ rfl)
  simp only [Try.ntmps14, List.size_toArray, List.length_cons, List.length_nil, Nat.reduceAdd, Nat.reduceSub, Array.replicate_succ, Array.replicate_zero, List.push_toArray, List.append_toArray, List.nil_append, List.cons_append]
  refine wpIn_wide.2 ?_
  go_wp2_with (go_at_call 28; refine (each_any _ _ _ _).mono ?_; rintro e w1 ⟨rfl, rfl⟩)
  obtain ⟨wl, hwl⟩ : ∃ wl, wl = (((w.alloc (.cells #[.slice none 0 0] 22)).alloc (.cells #[.int .i64 0] 26)).alloc (.cells #[.slice none 0 0] 22)).alloc (.cells #[.slice A l.length c] 23) := ⟨_, rfl⟩
  rw [← hwl]
  have hsz : wl.heap.size = w.heap.size + 1 + 1 + 1 + 1 := by rw [hwl]; simp
  have hinv : DInv w l l wl := by
    rw [hwl]
    exact ⟨[], none, 0, 0, l.length, Nat.le_refl _, rfl, by (repeat (first | exact Below.refl _ _ | exact Nat.le_refl _ | (refine below_ext ?_ (by first | (simp [size_ext, grow]; done) | (simp [size_ext, grow]; omega) | omega) _ _) | (refine Below.setCell ?_ (by first | (simp [size_ext, grow]; done) | (simp [size_ext, grow]; omega) | omega) _) | (refine Below.alloc ?_ (by first | (simp [size_ext, grow]; done) | (simp [size_ext, grow]; omega) | omega) _) | refine Below.drew ?_ | refine below_drewN ?_ _ | (refine Below.trans ?_ (Below.mono (by assumption) (by first | (simp [size_ext, grow]; done) | (simp [size_ext, grow]; omega) | omega))))), by (repeat (first | ((refine heap_alloc_at _ _ _ ?_); (simp [go_sem]; done)) | ((refine (heap_ext _ _ _ _ ?_).trans ?_); (focus (simp [go_sem]; done))) | ((refine (heap_alloc_past _ _ _ ?_).trans ?_); (focus (simp [go_sem]; done))))), by (repeat (first | ((refine heap_alloc_at _ _ _ ?_); (simp [go_sem]; done)) | ((refine (heap_ext _ _ _ _ ?_).trans ?_); (focus (simp [go_sem]; done))) | ((refine (heap_alloc_past _ _ _ ?_).trans ?_); (focus (simp [go_sem]; done))))), by (repeat (first | ((refine heap_alloc_at _ _ _ ?_); (simp [go_sem]; done)) | ((refine (heap_ext _ _ _ _ ?_).trans ?_); (focus (simp [go_sem]; done))) | ((refine (heap_alloc_past _ _ _ ?_).trans ?_); (focus (simp [go_sem]; done))))), rfl, by decide, OwnOpts.nil _ _⟩
  have hbox : wl.heap[w.heap.size + 1 + 1 + 1]? = some (.cells #[.slice A l.length c] 23 (0, 0)) := by rw [hwl]; (repeat (first | ((refine heap_alloc_at _ _ _ ?_); (simp [go_sem]; done)) | ((refine (heap_ext _ _ _ _ ?_).trans ?_); (focus (simp [go_sem]; done))) | ((refine (heap_alloc_past _ _ _ ?_).trans ?_); (focus (simp [go_sem]; done)))))
  have hAl : At wl B A (l.map bv) := by rw [hwl]; have := HB.out; exact HA.out.keep (by (repeat (first | exact Below.refl _ _ | exact Nat.le_refl _ | (refine below_ext ?_ (by first | (simp [size_ext, grow]; done) | (simp [size_ext, grow]; omega) | omega) _ _) | (refine Below.setCell ?_ (by first | (simp [size_ext, grow]; done) | (simp [size_ext, grow]; omega) | omega) _) | (refine Below.alloc ?_ (by first | (simp [size_ext, grow]; done) | (simp [size_ext, grow]; omega) | omega) _) | refine Below.drew ?_ | refine below_drewN ?_ _ | (refine Below.trans ?_ (Below.mono (by assumption) (by first | (simp [size_ext, grow]; done) | (simp [size_ext, grow]; omega) | omega))))))
  clear hwl
  refine (wpIn_wide (n := 7)).1 ?_
  refine wpIn_rangeFunc_cell rfl (by decide) (gf := 34) (lb := #[.pointer (some ⟨w.heap.size + 1 + 1 + 1, 0, none⟩)]) rfl trivial (enters_of Try.func34 (by kernel_rfl) rfl)
    (Bn := w.heap.size + 1 + 1 + 1) (n0 := w.heap.size) (by omega) (by omega) (G := Gives (w.heap.size + 1 + 1 + 1) w.heap.size) (Done := fun r => r = []) (s0 := l) ?hps
    (DInv w l) (DOut w l) (fun s => dinv_stays w l s _ (by omega)) (fun cd => dout_stays w l cd _ (by omega)) hinv ?hseq
    (DAx w l (fun X ok g => ({ tmps := #[.slice A l.length c, undef, .pointer (some ⟨w.heap.size, 0, none⟩), .pointer (some ⟨w.heap.size + 1, 0, none⟩), .pointer (some ⟨w.heap.size + 1 + 1, 0, none⟩), .pointer (some ⟨X, 0, none⟩), .bool ok, .slice A l.length c, .int .i64 l.length, .bool false, .slice A l.length c, .func (.func 34) #[] #[.pointer (some ⟨w.heap.size + 1 + 1 + 1, 0, none⟩)], g, .bool ok, undef, undef, undef, undef, undef, undef, undef, undef, undef, undef], defers := [] } : Act))) (fun s args s' a' => dax_stays w l _ s args s' a' _ (by omega)) ?hassign ?hbody ?hdone ?hstop
  case hps =>
    rintro s args s' W (⟨e, -, rfl, -⟩ | ⟨-, -, rfl⟩) <;> rfl
  case hseq =>
    intro W1 hb1 hi1
    exact iter_ok _ _ _ B _ A c l W1 (by omega) HB.out (hAl.keep (hb1.mono (by have := HB.out; omega))) (by omega) (by omega) ((hb1.block _ (by omega)).trans hbox)
  case hassign =>
    rintro ll s args s' W hll hlt hi (⟨⟨tt, dd, A2, c2⟩, hcut, rfl, ho⟩ | ⟨hne, hno, rfl⟩)
    · have HH := Lib.hid (And.intro hcut ho)
      have HI := Lib.hid hi
      clear hcut ho hi
      simp only [Ent.v, Ent.o] at HH ⊢
      gi_wp2
      exact ⟨KeepsOthers.alloc _ _, ⟨(Below.refl _ _).alloc (by omega) _, Below.heap_alloc _ _ _ (by omega)⟩, W.heap.size, true, tt, A2, dd.length, c2, rfl, rfl, heap_alloc_new _ _, by omega,
        dinv_stays w l s wl.heap.size (by omega) W _ none HI.out (World.grownBy_alloc W _ none) (fun r e => by cases e), .inl ⟨rfl, dd, HH.out.1, rfl, own_below HH.out.2 ((Below.refl _ _).alloc (Nat.le_refl _) _)⟩⟩
    · have HH := Lib.hid (And.intro hne hno)
      have HI := Lib.hid hi
      clear hne hno hi
      gi_wp2
      exact ⟨KeepsOthers.alloc _ _, ⟨(Below.refl _ _).alloc (by omega) _, Below.heap_alloc _ _ _ (by omega)⟩, W.heap.size, false, 0, none, 0, 0, rfl, rfl, heap_alloc_new _ _, by omega,
        dinv_stays w l s wl.heap.size (by omega) W _ none HI.out (World.grownBy_alloc W _ none) (fun r e => by cases e), .inr ⟨rfl, HH.out.1, HH.out.2⟩⟩
  case hbody =>
    rintro ll s args s' a₁ W ⟨X, ok, tt, A2, m, c2, rfl, rfl, hX, hXl, ⟨E, A', n', c', f, hf, hd, hb, c0, c1, ct, hn', h64, hown⟩, hG⟩
    obtain rfl := hn'
    have k0 : W.cell? ⟨w.heap.size, 0, none⟩ = some (.slice none 0 0) := cell_of_one c0
    have f0 : W.frozen? ⟨w.heap.size, 0, none⟩ = false := free_of_one c0
    have k1 : W.cell? ⟨w.heap.size + 1, 0, none⟩ = some (.int .i64 0) := cell_of_one c1
    have f1 : W.frozen? ⟨w.heap.size + 1, 0, none⟩ = false := free_of_one c1
    have k2 : W.cell? ⟨w.heap.size + 1 + 1, 0, none⟩ = some (.slice A' E.length c') := cell_of_one ct
    have f2 : W.frozen? ⟨w.heap.size + 1 + 1, 0, none⟩ = false := free_of_one ct
    have HF := Lib.hid (And.intro hf hd)
    have HB' := Lib.hid hb
    have HC := Lib.hid (And.intro c0 (And.intro c1 ct))
    have HOW := Lib.hid hown
    have hlt0 : w.heap.size + 1 + 1 < W.heap.size := lt_of_block ct
    have p0 : W.cell? ⟨X, 0, none⟩ = some (.int .i64 tt) := by rw [cell_of_row W X 0 _ _ (0, 0) hX]; rfl
    have p1 : W.cell? ⟨X, 1, none⟩ = some (.slice A2 m c2) := by rw [cell_of_row W X 1 _ _ (0, 0) hX]; rfl
    have hXW : X < W.heap.size := lt_of_block hX
    clear hf hd hb c0 c1 ct hown hX
    rcases hG with ⟨rfl, dd, hcut, rfl, ho⟩ | ⟨rfl, hne, hno⟩
    · have HG := Lib.hid (And.intro hcut ho)
      clear hcut ho
      by_cases h6 : E.length = 64
      · have HD := Lib.hid (decW_many (acc := E.map Ent.o) HF.out.1 HG.out.1 (by rw [List.length_map]; exact h6))
        have e6 : ((E.length : Int) == 64) = true := by simp; omega
        clear h6
        gi_wp2
        refine ⟨((KeepsOthers.setCell _ _ _).trans (KeepsOthers.setCell _ _ _)), ?_, by rw [HF.out.2, HD.out], ?_, ?_⟩
        · have := HB'.out
          (repeat (first | exact Below.refl _ _ | exact Nat.le_refl _ | (refine below_ext ?_ (by first | (simp [size_ext, grow]; done) | (simp [size_ext, grow]; omega) | omega) _ _) | (refine Below.setCell ?_ (by first | (simp [size_ext, grow]; done) | (simp [size_ext, grow]; omega) | omega) _) | (refine Below.alloc ?_ (by first | (simp [size_ext, grow]; done) | (simp [size_ext, grow]; omega) | omega) _) | refine Below.drew ?_ | refine below_drewN ?_ _ | (refine Below.trans ?_ (Below.mono (by assumption) (by first | (simp [size_ext, grow]; done) | (simp [size_ext, grow]; omega) | omega)))))
        · exact (Below.heap_setCell _ ⟨w.heap.size + 1, 0, none⟩ _ _ (by simp)).trans (one_setCell HC.out.1)
        · rw [HF.out.2, HD.out]
          exact one_setCell ((Below.heap_setCell _ ⟨w.heap.size, 0, none⟩ _ _ (by simp)).trans HC.out.2.1)
      · have e6 : ((E.length : Int) == 64) = false := by simp; omega
        have H6 := Lib.hid h6
        clear h6
        have HNEW := Lib.hid (At.newN W #[.int .i64 tt, .slice A2 dd.length c2] 36 [.int .i64 tt, .slice A2 dd.length c2] W.heap.size rfl rfl)
        gi_wp2_with (gi_at_builtin; go_loud (refine wpListIn_appv rfl (.tmp 19) (.tmp 21) 22 rfl 36 Try.underlying22 (.agg #[.int .i64 0, .slice none 0 0]) 2 32 infoOpt rfl (by decide) (by decide) (w.heap.size + 1 + 1 + 1 + 1) (.slice A' E.length c') E.length (cellsE E) rfl (own_below HOW.out.1 ((Below.refl _ _).alloc (Nat.le_refl _) _)) _ (some ⟨W.heap.size, 0, none⟩) 1 1 [.int .i64 tt, .slice A2 dd.length c2] rfl rfl (by omega) HNEW.out (by intro u hu; simp at hu; rcases hu with rfl | rfl <;> rfl) (by simp; omega) ?_); intro A3 c3 w' ho' hc3 hg'; have HO' := Lib.hid (And.intro ho' hg'); have HCT := Lib.hid (show w'.heap[w.heap.size + 1 + 1]? = some (.cells #[.slice A' E.length c'] 22 (0, 0)) from ((hg'.block _ (by simp; omega) (fun e => by have := own_le HOW.out.1 e.symm; omega)).trans (Below.heap_alloc W _ _ (by omega))).trans HC.out.2.2); have q2 := cell_of_one HCT.out; have qf := free_of_one HCT.out; clear ho' hc3 hg')
        exact dec_push HF.out.1 HF.out.2 HG.out.1 h64 H6.out HB'.out HC.out.1 HC.out.2.1 HC.out.2.2 (by omega) HOW.out HG.out.2 HO'.out.1 HO'.out.2
    · have HD := Lib.hid (decW_none (acc := E.map Ent.o) HF.out.1 hne hno)
      clear hne hno
      gi_wp2
      refine ⟨((KeepsOthers.setCell _ _ _).trans (KeepsOthers.setCell _ _ _)), ?_, by rw [HF.out.2, HD.out], ?_, ?_⟩
      · have := HB'.out
        (repeat (first | exact Below.refl _ _ | exact Nat.le_refl _ | (refine below_ext ?_ (by first | (simp [size_ext, grow]; done) | (simp [size_ext, grow]; omega) | omega) _ _) | (refine Below.setCell ?_ (by first | (simp [size_ext, grow]; done) | (simp [size_ext, grow]; omega) | omega) _) | (refine Below.alloc ?_ (by first | (simp [size_ext, grow]; done) | (simp [size_ext, grow]; omega) | omega) _) | refine Below.drew ?_ | refine below_drewN ?_ _ | (refine Below.trans ?_ (Below.mono (by assumption) (by first | (simp [size_ext, grow]; done) | (simp [size_ext, grow]; omega) | omega)))))
      · exact (Below.heap_setCell _ ⟨w.heap.size + 1, 0, none⟩ _ _ (by simp)).trans (one_setCell HC.out.1)
      · rw [HF.out.2, HD.out]
        exact one_setCell ((Below.heap_setCell _ ⟨w.heap.size, 0, none⟩ _ _ (by simp)).trans HC.out.2.1)
  case hdone =>
    rintro s W rfl ⟨E, A', n', c', f, hf, hd, hb, c0, c1, ct, rfl, h64, hown⟩ hD
    have k0 : W.cell? ⟨w.heap.size, 0, none⟩ = some (.slice none 0 0) := cell_of_one c0
    have f0 : W.frozen? ⟨w.heap.size, 0, none⟩ = false := free_of_one c0
    have k1 : W.cell? ⟨w.heap.size + 1, 0, none⟩ = some (.int .i64 0) := cell_of_one c1
    have f1 : W.frozen? ⟨w.heap.size + 1, 0, none⟩ = false := free_of_one c1
    have k2 : W.cell? ⟨w.heap.size + 1 + 1, 0, none⟩ = some (.slice A' E.length c') := cell_of_one ct
    have hlt0 : w.heap.size + 1 + 1 < W.heap.size := lt_of_block ct
    have HH := Lib.hid (And.intro hd (And.intro hb hown))
    have HD := Lib.hid hD
    have hsD : w.heap.size + 1 + 1 + 1 + 1 = wl.heap.size := hsz.symm
    have HC := Lib.hid (And.intro c0 c1)
    clear hf hd hb c0 c1 ct hown hD
    gi_wp2
    go_wp2
    have e0 : ((W.setCell ⟨w.heap.size, 0, none⟩ (.slice A' E.length c')).setCell ⟨w.heap.size + 1, 0, none⟩ (.int .i64 0)).heap[w.heap.size]? = some (.cells #[.slice A' E.length c'] 22 (0, 0)) := (Below.heap_setCell _ ⟨w.heap.size + 1, 0, none⟩ _ _ (by simp)).trans (one_setCell HC.out.1)
    have e1 : ((W.setCell ⟨w.heap.size, 0, none⟩ (.slice A' E.length c')).setCell ⟨w.heap.size + 1, 0, none⟩ (.int .i64 0)).heap[w.heap.size + 1]? = some (.cells #[.int .i64 0] 26 (0, 0)) := one_setCell ((Below.heap_setCell _ ⟨w.heap.size, 0, none⟩ _ _ (by simp)).trans HC.out.2)
    have eD : ((W.setCell ⟨w.heap.size, 0, none⟩ (.slice A' E.length c')).setCell ⟨w.heap.size + 1, 0, none⟩ (.int .i64 0)).heap[wl.heap.size]? = some (.deferred (some [])) := (Below.heap_setCell _ ⟨w.heap.size + 1, 0, none⟩ _ _ (by simp; omega)).trans ((Below.heap_setCell _ ⟨w.heap.size, 0, none⟩ _ _ (by simp; omega)).trans HD.out)
    have r0 := cell_of_one ((World.putObj_heap_other (o := .deferred none) (show w.heap.size ≠ wl.heap.size by omega)).trans e0)
    have r1 := cell_of_one ((World.putObj_heap_other (o := .deferred none) (show w.heap.size + 1 ≠ wl.heap.size by omega)).trans e1)
    refine ⟨by simp, .inl ⟨_, _, rfl, run_takeDeferred eD, ?_⟩⟩
    refine ⟨.tuple #[.slice A' E.length c', .int .i64 0], by simp [results, Try.results14, go_sem, r0, r1], E, .slice A' E.length c', ?_, ?_, ?_, ?_⟩
    · rw [HR.out, HH.out.1, decW_nil]
    · have hb := HH.out.2.1
      have hz : w.heap.size ≤ W.heap.size := hb.size
      exact ((hb.setCell (p := ⟨w.heap.size, 0, none⟩) (Nat.le_refl _) _).setCell (p := ⟨w.heap.size + 1, 0, none⟩) (by simp) _).trans (RKeep.putObj (Bn := 0) _ _ _ (by omega) (by omega)).below
    · have ho := (HH.out.2.2).base (show w.heap.size ≤ w.heap.size + 1 + 1 + 1 + 1 by omega)
      have same : ∀ k, w.heap.size + 1 + 1 + 1 + 1 ≤ k → k ≠ wl.heap.size → (((W.setCell ⟨w.heap.size, 0, none⟩ (.slice A' E.length c')).setCell ⟨w.heap.size + 1, 0, none⟩ (.int .i64 0)).putObj wl.heap.size (.deferred none)).heap[k]? = W.heap[k]? := fun k hk hkD =>
        (World.putObj_heap_other hkD).trans ((Below.heap_setCell _ ⟨w.heap.size + 1, 0, none⟩ _ _ (by simp; omega)).trans (Below.heap_setCell _ ⟨w.heap.size, 0, none⟩ _ _ (by simp; omega)))
      have keep : ∀ {e size n : Nat} {v : Value} {xs : List Value}, W.ownsRow (w.heap.size + 1 + 1 + 1 + 1) e size v n xs → (((W.setCell ⟨w.heap.size, 0, none⟩ (.slice A' E.length c')).setCell ⟨w.heap.size + 1, 0, none⟩ (.int .i64 0)).putObj wl.heap.size (.deferred none)).ownsRow w.heap.size e size v n xs := fun h =>
        own_base (own_keep h fun k hk => same k (own_le h hk) (fun e => by obtain ⟨cur, hcur⟩ := own_type h hk; rw [e, HD.out] at hcur; cases hcur)) (by omega)
      exact ⟨keep HH.out.2.2.1, fun e he => keep (HH.out.2.2.2 e he)⟩
    · rw [HR.out, HH.out.1, decW_nil]
  case hstop =>
    intro cd W h hD
    cases cd with
    | ret =>
      obtain ⟨hb, h1, c0, c1⟩ := h
      have k0 : W.cell? ⟨w.heap.size, 0, none⟩ = some (.slice none 0 0) := cell_of_one c0
      have k1 : W.cell? ⟨w.heap.size + 1, 0, none⟩ = some (.int .i64 (decW l.length l []).2) := cell_of_one c1
      have HH := Lib.hid (And.intro hb h1)
      have HD := Lib.hid hD
      have HC := Lib.hid (And.intro c0 c1)
      clear hb h1 c0 c1 hD
      gi_wp2
      have r0 := cell_of_one ((World.putObj_heap_other (o := .deferred none) (show w.heap.size ≠ wl.heap.size by omega)).trans HC.out.1)
      have r1 := cell_of_one ((World.putObj_heap_other (o := .deferred none) (show w.heap.size + 1 ≠ wl.heap.size by omega)).trans HC.out.2)
      refine ⟨by simp, .inl ⟨_, _, rfl, run_takeDeferred HD.out, ?_⟩⟩
      refine ⟨.tuple #[.slice none 0 0, .int .i64 (decW l.length l []).2], by simp [results, Try.results14, go_sem, r0, r1], [], .slice none 0 0, ?_, ?_, OwnOpts.nil _ _, ?_⟩
      · rw [HR.out]
      · exact HH.out.1.trans (RKeep.putObj (Bn := 0) _ _ _ (by omega) (by omega)).below
      · rw [HR.out, HH.out.2]; rfl
    | _ => exact h.elim
end Go.Proofs.Ytbdkapmiioiikaa
