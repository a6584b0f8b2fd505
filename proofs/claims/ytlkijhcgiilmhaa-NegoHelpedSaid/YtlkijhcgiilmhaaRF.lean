/- A range over a function whose iterator keeps a variable of its own in a cell: one law for the caller. The state of the iterator is told by a value s; 'G s args s' W': in state s it hands over args and is then in state s'. -/
import Derived.Test.YtlkijhcgiilmhaaT
import Derived.RangeFuncNested
import Derived.RangeFuncBound
import Derived.RangeFuncCalls
import Derived.RangeFuncLeaves
import Derived.Shelf.Abstract
import Derived.Shelf.RegionOpen
import Derived.WalkKit
import Derived.OwnWalkIn
import Derived.TacticsInMore
import Derived.LoopNIn
import Derived.LoopIn
namespace Go.Proofs.Ytlkijhcgiilmhaa
open Go.RowKit
set_option linter.unusedVariables false

/-- What a step of the iterator, or of the loop's own book-keeping, may turn: the iterator's cell Bn; a block from B on that is no cells. -/
def Steps (Bn B : Nat) (A : World) (row : Option Nat) : Prop := ∀ r, row = some r → r = Bn ∨ (B ≤ r ∧ ∃ o : Obj, A.heap[r]? = some o ∧ o.isCells = false)
def Stays (Bn B : Nat) (I : World → Prop) : Prop := ∀ A C row, I A → A.grownBy C row → Steps Bn B A row → I C
/-- What a round keeps for the iterator. -/
structure RKeep (Bn n0 : Nat) (A C : World) : Prop where
  below : Below n0 A C
  box : C.heap[Bn]? = A.heap[Bn]?
theorem RKeep.trans {Bn n0 : Nat} {A C D : World} (h : RKeep Bn n0 A C) (k : RKeep Bn n0 C D) : RKeep Bn n0 A D := ⟨h.below.trans k.below, k.box.trans h.box⟩
theorem RKeep.refl (Bn n0 : Nat) (A : World) : RKeep Bn n0 A A := ⟨Below.refl _ _, rfl⟩
theorem RKeep.putObj {Bn n0 : Nat} (A : World) (l : Nat) (o : Obj) (h0 : n0 ≤ l) (hb : Bn ≠ l) : RKeep Bn n0 A (A.putObj l o) :=
  ⟨⟨rfl, rfl, rfl, by simp, fun k hk => World.putObj_heap_other (by omega)⟩, World.putObj_heap_other hb⟩

/-- The word of an iterator g at captured values lb. -/
def IterOk {σ : Type} (F : Fence) (n : Nat) (P : Program) (g : Nat) (lb : Array Value) (Bn n0 B : Nat) (G : σ → Array Value → σ → World → Prop) (Done : σ → Prop) (s0 : σ) (W : World) : Prop :=
  ∀ (l : Nat) (J : σ → World → Prop) (Jx : World → Prop), (∀ s A C row, J s A → A.grownBy C row → (∀ r, row = some r → r = Bn) → J s C) →
    (∀ s args s' W1, J s W1 → G s args s' W1 → YieldAt F (n - 1) P l args W1 fun e W' => (e = .returned (.bool true) ∧ J s' W' ∧ RKeep Bn n0 W1 W') ∨ (e = .returned (.bool false) ∧ Jx W')) →
    J s0 W → CallsIn F n P g (#[.func (.yield l) #[] #[]] ++ lb) W fun e W' => (∃ v, e = .returned v) ∧ ((∃ s, Done s ∧ J s W') ∨ Jx W')

/-- How a round's body may be left. -/
def bodyOut {σ : Type} (Bn n0 : Nat) (I : σ → World → Prop) (Ix : Code → World → Prop) (s' : σ) (W : World) : Exit → Act → World → Prop
  | .normal, _, W' => KeepsOthers W W' ∧ RKeep Bn n0 W W' ∧ I s' W'
  | .ret, _, W' => KeepsOthers W W' ∧ Ix .ret W'
  | .exit id, _, W' => KeepsOthers W W' ∧ Ix (.exit id) W'
  | .goto t, _, W' => KeepsOthers W W' ∧ Ix (.goto t) W'
  | .panic _, _, _ => False
  | .outgrown, _, _ => False

theorem wpIn_rangeFunc_cell {σ : Type} {F : Fence} {n : Nat} {P : Program} {g : Operand} {ps : Array Tmp} {assign body : Code} {Q : Exit → Act → World → Prop} {a : Act} {w : World}
    (hro : F.round = none) (h1 : 1 ≤ n) {gf : Nat} {lb : Array Value} (hg : a.eval g = .func (.func gf) #[] lb) (hFg : F.fn gf) (eg : ∀ args w, (callFunc gf args).run P w = .ok (.enter gf args) w)
    {Bn n0 : Nat} (hBn : Bn < w.heap.size) (hn0 : n0 ≤ w.heap.size) {G : σ → Array Value → σ → World → Prop} {Done : σ → Prop} {s0 : σ}
    (hps : ∀ s args s' W, G s args s' W → args.size = ps.size)
    (I : σ → World → Prop) (Ix : Code → World → Prop) (hI : ∀ s, Stays Bn w.heap.size (I s)) (hIx : ∀ c, Stays Bn w.heap.size (Ix c)) (h0 : I s0 w)
    (hseq : ∀ W1, Below w.heap.size w W1 → I s0 W1 → IterOk F (n - 1) P gf lb Bn n0 w.heap.size G Done s0 W1)
    (Ax : σ → Array Value → σ → Act → World → Prop) (hAx : ∀ s args s' a', Stays Bn w.heap.size (Ax s args s' a'))
    (hassign : ∀ (l : Nat) s args s' W, w.heap.size ≤ l → l < W.heap.size → I s W → G s args s' W →
      assign.wpIn (F.inRound l) (n - 1 - 1) P (Exit.then (fun a₁ w₁ => KeepsOthers W w₁ ∧ RKeep Bn n0 W w₁ ∧ Ax s args s' a₁ w₁) (fun _ _ _ => False)) { tmps := (ps.zip args).foldl (fun t (p, v) => t.setIfInBounds p v) a.tmps, defers := [] } W)
    (hbody : ∀ (l : Nat) s args s' a₁ W, Ax s args s' a₁ W → body.wpIn (F.inRound l) (n - 1 - 1) P (bodyOut Bn n0 I Ix s' W) a₁ W)
    (hdone : ∀ s W, Done s → I s W → W.heap[w.heap.size]? = some (.deferred (some [])) → Q .normal { a with defers := { target := .collected w.heap.size, args := #[] } :: a.defers } W)
    (hstop : ∀ c W, Ix c W → W.heap[w.heap.size]? = some (.deferred (some [])) → c.wpIn F n P Q { a with defers := { target := .collected w.heap.size, args := #[] } :: a.defers } W) :
    (Code.rangeFunc g ps assign body).wpIn F n P Q a w := by
  refine wpIn_rangeFunc ?_
  intro fn hfn
  rw [hro]
  -- the two blocks of the loop: D for deferred calls, L for its record
  let rec_ : LoopState → Option Code → Loop := fun st pe => { state := st, pending := pe, fn, tmps := a.tmps, params := ps, assign, body, defers := w.heap.size }
  have hsz1 : ((w.alloc (.deferred (some []))).alloc (.loop (rec_ .ready none))).heap.size = w.heap.size + 1 + 1 := by simp
  generalize hW1 : (w.alloc (.deferred (some []))).alloc (.loop (rec_ .ready none)) = W1 at hsz1
  have bel1 : Below w.heap.size w W1 := by rw [← hW1]; exact ((Below.refl _ w).alloc (Nat.le_refl _) _).alloc (by simp) _
  have atL : W1.heap[w.heap.size + 1]? = some (.loop (rec_ .ready none)) := by
    rw [← hW1]; have := World.alloc_heap_new (w.alloc (.deferred (some []))) (.loop (rec_ .ready none)); rwa [World.size_alloc] at this
  have atD : W1.heap[w.heap.size]? = some (.deferred (some [])) := by
    rw [← hW1]; exact (Below.heap_alloc _ _ _ (by simp)).trans (World.alloc_heap_new w _)
  have i1 : I s0 W1 := by
    rw [← hW1]
    exact hI s0 _ _ none (hI s0 _ _ none h0 (World.grownBy_alloc w _ none) (fun r e => by cases e)) (World.grownBy_alloc _ _ none) (fun r e => by cases e)
  -- a turn of the record leaves what the caller says
  have turn : ∀ (K : World → Prop), Stays Bn w.heap.size K → ∀ (W : World) (r : Loop) (o : Obj), K W → W.heap[w.heap.size + 1]? = some (.loop r) → K (W.putObj (w.heap.size + 1) o) :=
    fun K hK W r o hk hr => hK _ _ (some (w.heap.size + 1)) hk (grownBy_putObj' W _ o) (fun q e => by cases e; exact .inr ⟨by omega, _, hr, rfl⟩)
  refine ⟨w.heap.size + 1, [{ target := .collected w.heap.size, args := #[] }], W1, { target := .fn (.func gf) lb, args := #[.func (.yield (w.heap.size + 1)) #[] #[]] }, W1, gf,
    #[.func (.yield (w.heap.size + 1)) #[] #[]] ++ lb, W1, ?_, ?_, ?_, ?_, fun _ => h1, ?_⟩
  · rw [← hW1]; exact run_enterLoop_outer _ _ _ _ _
  · simp only [resolve, hg]
    simp [go_sem]
  · intro f' hf'; simp [Target.leads] at hf'; subst hf'; exact hFg
  · simp [invoke, go_sem, eg]
  · let Two : Loop → World → Prop := fun r W => W.heap[w.heap.size + 1]? = some (.loop r) ∧ W.heap[w.heap.size]? = some (.deferred (some []))
    have two_step : ∀ {r A C row}, Two r A → A.grownBy C row → (∀ q, row = some q → q = Bn) → Two r C := fun {r A C row} h hgr hq => by
      obtain ⟨hl, hd⟩ := h
      refine ⟨?_, ?_⟩
      · exact (hgr.block _ (Array.getElem?_eq_some_iff.1 hl).1 (fun e => by have := hq _ e.symm; omega)).trans hl
      · exact (hgr.block _ (Array.getElem?_eq_some_iff.1 hd).1 (fun e => by have := hq _ e.symm; omega)).trans hd
    refine (hseq W1 bel1 i1 (w.heap.size + 1) (fun s W => I s W ∧ Two (rec_ .ready none) W) (fun W => ∃ c, Ix c W ∧ Two (rec_ .done (some c)) W)
      (fun s A C row h hgr hq => ⟨hI s A C row h.1 hgr (fun r e => .inl (hq r e)), two_step h.2 hgr hq⟩) ?_ ⟨i1, atL, atD⟩).mono ?_
    · -- one round
      rintro s args s' W ⟨hi, hl, hd⟩ hG
      have hlt : w.heap.size + 1 < W.heap.size := (Array.getElem?_eq_some_iff.1 hl).1
      refine ⟨fn, _, assign, body, run_yield (P := P) (args := args) hl (hps _ _ _ _ hG), roundIn_of_wpIn hfn (wpIn_mono (hassign _ s args s' W (by omega) hlt hi hG) ?_)⟩
      rintro e a1 W2 hp
      cases e with
      | normal =>
        obtain ⟨ko, rk, hax⟩ := hp
        have hl2 := ko.same _ _ hl rfl
        have hd2 := ko.same _ _ hd rfl
        refine ⟨_, run_beginRound hl2 rfl, ?_⟩
        have hlt2 : w.heap.size + 1 < W2.heap.size := (Array.getElem?_eq_some_iff.1 hl2).1
        have busy := World.putObj_heap_same (w := W2) (o := .loop { rec_ .ready none with state := .busy }) hlt2
        have dfr : (W2.putObj (w.heap.size + 1) (.loop { rec_ .ready none with state := .busy })).heap[w.heap.size]? = some (.deferred (some [])) := (World.putObj_heap_other (by omega)).trans hd2
        have k2 : RKeep Bn n0 W2 (W2.putObj (w.heap.size + 1) (.loop { rec_ .ready none with state := .busy })) := RKeep.putObj _ _ _ (by omega) (by omega)
        refine wpIn_mono (hbody (w.heap.size + 1) s args s' a1 _ (turn _ (hAx s args s' a1) _ _ _ hax hl2)) ?_
        have close : ∀ (jump : Option Code) (W3 : World), KeepsOthers (W2.putObj (w.heap.size + 1) (.loop { rec_ .ready none with state := .busy })) W3 →
            (Instr.endRound (w.heap.size + 1) jump).run P W3 = .ok (.bool jump.isNone) (W3.putObj (w.heap.size + 1) (.loop (rec_ (if jump.isNone then .ready else .done) jump))) ∧
            W3.heap[w.heap.size + 1]? = some (.loop { rec_ .ready none with state := .busy }) ∧ Two (rec_ (if jump.isNone then .ready else .done) jump) (W3.putObj (w.heap.size + 1) (.loop (rec_ (if jump.isNone then .ready else .done) jump))) := fun jump W3 k3 => by
          have hl3 := k3.same _ _ busy rfl
          exact ⟨run_endRound (P := P) jump hl3, hl3, World.putObj_heap_same (Array.getElem?_eq_some_iff.1 hl3).1, (World.putObj_heap_other (by omega)).trans (k3.same _ _ dfr rfl)⟩
        rintro e a3 W3 hp
        cases e with
        | normal =>
          obtain ⟨k3, rk3, hi3⟩ := hp
          obtain ⟨hr, hl3, ht⟩ := close none W3 k3
          exact ⟨_, _, hr, .inl ⟨rfl, ⟨turn _ (hI s') _ _ _ hi3 hl3, ht⟩, (rk.trans (k2.trans rk3)).trans (RKeep.putObj _ _ _ (by omega) (by omega))⟩⟩
        | ret =>
          obtain ⟨k3, hi3⟩ := hp
          obtain ⟨hr, hl3, ht⟩ := close (some .ret) W3 k3
          exact ⟨_, _, hr, .inr ⟨rfl, .ret, turn _ (hIx _) _ _ _ hi3 hl3, ht⟩⟩
        | exit id =>
          obtain ⟨k3, hi3⟩ := hp
          obtain ⟨hr, hl3, ht⟩ := close (some (.exit id)) W3 k3
          exact ⟨_, _, hr, .inr ⟨rfl, .exit id, turn _ (hIx _) _ _ _ hi3 hl3, ht⟩⟩
        | goto t =>
          obtain ⟨k3, hi3⟩ := hp
          obtain ⟨hr, hl3, ht⟩ := close (some (.goto t)) W3 k3
          exact ⟨_, _, hr, .inr ⟨rfl, .goto t, turn _ (hIx _) _ _ _ hi3 hl3, ht⟩⟩
        | panic ch => exact hp.elim
        | outgrown => exact hp.elim
      | ret => exact hp.elim
      | exit id => exact hp.elim
      | goto t => exact hp.elim
      | panic ch => exact hp.elim
      | outgrown => exact hp.elim
    · rintro e W2 ⟨⟨v, rfl⟩, (⟨s, hD, hi, hl, hd⟩ | ⟨c, hi, hl, hd⟩)⟩
      · exact ⟨none, _, run_endLoop (P := P) hl (by simp [rec_]), hdone s _ hD (turn _ (hI s) _ _ _ hi hl) ((World.putObj_heap_other (by omega)).trans hd)⟩
      · exact ⟨some c, _, run_endLoop (P := P) hl (by simp [rec_]), hstop c _ (turn _ (hIx c) _ _ _ hi hl) ((World.putObj_heap_other (by omega)).trans hd)⟩
end Go.Proofs.Ytlkijhcgiilmhaa
