/- A run as a whole: its memory, what is read by it, what goes out. -/
import Derived.Test.YthidhfkbfoejbaaGreatQ6
namespace Go.Proofs.YthidhfkbfoejbaaGreat
open Go.RowKit
set_option linter.unusedSimpArgs false
set_option linter.unusedVariables false
set_option linter.ambiguousOpen false
open Ne (Rl Opt RulesAt areB)
open Fs (av)
/-- A slice of bytes, of options, of actions that can be read below B. -/
def BytesV (w : World) (B : Nat) (v : Value) (l : List UInt8) : Prop := ∃ (A : Option Addr) (n c : Nat), v = .slice A n c ∧ At w B A (l.map bv) ∧ n = l.length ∧ n ≤ c
def OptsV (w : World) (B : Nat) (v : Value) (L : List Opt) : Prop := ∃ (A : Option Addr) (n c : Nat) (E : List Ent), v = .slice A n c ∧ OptsAt w B A E ∧ n = E.length ∧ n ≤ c ∧ E.map Ent.o = L
def ActsV (w : World) (B : Nat) (v : Value) (l : List Int) : Prop := ∃ (A : Option Addr) (n c : Nat), v = .slice A n c ∧ At w B A (l.map av) ∧ n = l.length ∧ n ≤ c
theorem BytesV.keep {w w' : World} {B : Nat} {v : Value} {l : List UInt8} (h : BytesV w B v l) (hb : Below B w w') : BytesV w' B v l := by
  obtain ⟨A, n, c, rfl, h1, h2, h3⟩ := h; exact ⟨A, n, c, rfl, h1.keep hb, h2, h3⟩
theorem OptsV.keep {w w' : World} {B : Nat} {v : Value} {L : List Opt} (h : OptsV w B v L) (hb : Below B w w') : OptsV w' B v L := by
  obtain ⟨A, n, c, E, rfl, h1, h2, h3, h4⟩ := h; exact ⟨A, n, c, E, rfl, h1.keep hb, h2, h3, h4⟩
theorem ActsV.keep {w w' : World} {B : Nat} {v : Value} {l : List Int} (h : ActsV w B v l) (hb : Below B w w') : ActsV w' B v l := by
  obtain ⟨A, n, c, rfl, h1, h2, h3⟩ := h; exact ⟨A, n, c, rfl, h1.keep hb, h2, h3⟩
theorem BytesV.more {w : World} {B B' : Nat} {v : Value} {l : List UInt8} (h : BytesV w B v l) (hb : B ≤ B') : BytesV w B' v l := by
  obtain ⟨A, n, c, rfl, h1, h2, h3⟩ := h; exact ⟨A, n, c, rfl, h1.more hb, h2, h3⟩
theorem OptsV.more {w : World} {B B' : Nat} {v : Value} {L : List Opt} (h : OptsV w B v L) (hb : B ≤ B') : OptsV w B' v L := by
  obtain ⟨A, n, c, E, rfl, h1, h2, h3, h4⟩ := h; exact ⟨A, n, c, E, rfl, h1.more hb, h2, h3, h4⟩
theorem ActsV.more {w : World} {B B' : Nat} {v : Value} {l : List Int} (h : ActsV w B v l) (hb : B ≤ B') : ActsV w B' v l := by
  obtain ⟨A, n, c, rfl, h1, h2, h3⟩ := h; exact ⟨A, n, c, rfl, h1.more hb, h2, h3⟩
/-- Packets in memory of one's own. -/
def PksO (w : World) (base : Nat) (v : Value) (out : List Pk) : Prop := ∃ P, OwnPks w base v P ∧ P.map Pe.o = out
structure RunI (w : World) (b : Nat) (s : Rm) (L : List Opt) (li ln : List UInt8) (acts : List Int) (out : List Pk) : Prop where
  run : RunAt w b s
  ask : OptsV w b s.va L
  inn : BytesV w b s.vi li
  ans : BytesV w b s.vn ln
  did : ActsV w b s.vd acts
  ot : PksO w (b + 1) s.vo out
  hli : li.length ≤ 400000000
  hln : ln.length ≤ 400000000
  hlo : out.length ≤ 1000
section
variable {w w' : World} {b : Nat} {s : Rm} {L : List Opt} {li ln : List UInt8} {acts : List Int} {out : List Pk}
theorem below_of_grown (h : w.grownBy w' (some b)) (hb : b ≤ w.heap.size) : Below b w w' := ⟨h.os, h.tape, h.output, h.size, fun k hk => h.block k (by omega) (by simp; omega)⟩
/-- What turns the numbers alone. -/
theorem RunI.num (h : RunI w b s L li ln acts out) (s' : Rm) (hr : RunAt w' b s') (hg : w.grownBy w' (some b)) (ha : s'.va = s.va) (hi : s'.vi = s.vi) (hn : s'.vn = s.vn) (hd : s'.vd = s.vd) (ho : s'.vo = s.vo) : RunI w' b s' L li ln acts out := by
  have hb := below_of_grown hg (Nat.le_of_lt h.run.lt)
  obtain ⟨P, hp, he⟩ := h.ot
  exact ⟨hr, by rw [ha]; exact h.ask.keep hb, by rw [hi]; exact h.inn.keep hb, by rw [hn]; exact h.ans.keep hb, by rw [hd]; exact h.did.keep hb, ⟨P, by rw [ho]; exact hp.stays hg (fun r e => by cases e; omega), he⟩, h.hli, h.hln, h.hlo⟩
theorem RunI.keep (h : RunI w b s L li ln acts out) (hb : Below w.heap.size w w') : RunI w' b s L li ln acts out := by
  have hbb := hb.mono (Nat.le_of_lt h.run.lt)
  obtain ⟨P, hp, he⟩ := h.ot
  exact ⟨h.run.keep hb, h.ask.keep hbb, h.inn.keep hbb, h.ans.keep hbb, h.did.keep hbb, ⟨P, hp.below hb, he⟩, h.hli, h.hln, h.hlo⟩
end
/-- What an action does: new numbers, and packets that go out. -/
def ActP (b : Nat) (s' : Rm) (L : List Opt) (li ln : List UInt8) (acts : List Int) (out : List Pk) (w : World) (x : Ending) (w' : World) : Prop :=
  x = .returned (.tuple #[]) ∧ Below b w w' ∧ ∃ vo, RunI w' b { s' with vo := vo } L li ln acts out
theorem NumP.act {b : Nat} {s s' : Rm} {L : List Opt} {li ln : List UInt8} {acts : List Int} {out : List Pk} {w : World} {x : Ending} {w' : World} (h : NumP b s' (.tuple #[]) w x w') (hi : RunI w b s L li ln acts out)
    (ha : s'.va = s.va) (hi2 : s'.vi = s.vi) (hn : s'.vn = s.vn) (hd : s'.vd = s.vd) (ho : s'.vo = s.vo) : ActP b s' L li ln acts out w x w' := by
  obtain ⟨rfl, hr, hg⟩ := h
  exact ⟨rfl, below_of_grown hg (Nat.le_of_lt hi.run.lt), s'.vo, hi.num s' hr hg ha hi2 hn hd ho⟩
theorem nil_bytes (w : World) (B : Nat) : BytesV w B (.slice none 0 0) [] := ⟨none, 0, 0, rfl, At.nil _ _ _, rfl, Nat.le_refl _⟩
/-- A packet goes out. -/
theorem send_run (b : Nat) (s : Rm) (L : List Opt) (li ln : List UInt8) (acts : List Int) (out : List Pk) (co id' : Int) (A : Option Addr) (n c : Nat) (l : List UInt8) (w : World) (h : RunI w b s L li ln acts out) (hl : At w w.heap.size A (l.map bv)) (hn : n = l.length) (hc : n ≤ c) (hm : n ≤ 400000000) (hlo : out.length ≤ 999) :
    Calls Tryz.prog 126 #[.pointer (some ⟨b, 0, none⟩), .agg #[.int .i64 co, .int .i64 id', .slice A n c]] w (ActP b s L li ln acts (out ++ [⟨co, id', l⟩]) w) := by
  obtain ⟨P, hp, he⟩ := h.ot
  refine (send_any b s P co id' A n c l w h.run hp hl hn hm hc (by have := congrArg List.length he; rw [List.length_map] at this; omega)).mono ?_
  rintro x w' ⟨rfl, vo, P', hr, hp', he', hb⟩
  exact ⟨rfl, hb, vo, hr, h.ask.keep hb, h.inn.keep hb, h.ans.keep hb, h.did.keep hb, ⟨P', hp', by rw [he', he]⟩, h.hli, h.hln, by rw [List.length_append]; simp; omega⟩
end Go.Proofs.YthidhfkbfoejbaaGreat
