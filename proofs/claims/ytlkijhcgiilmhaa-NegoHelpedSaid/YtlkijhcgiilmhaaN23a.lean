/- The plain law of Answer. -/
import Derived.Test.YtlkijhcgiilmhaaN21
namespace Go.Proofs.Ytlkijhcgiilmhaa
open Go.RowKit
set_option linter.unusedSimpArgs false
set_option linter.unusedVariables false
def goodO (r : Rl) : Opt := (r.t, putB r.gd.toNat r.sz.toNat)
def nakR (R : List Rl) (L : List Opt) : List Rl := (sortK R L L.length).2.2 ++ lackL R L
def answerO (R : List Rl) (L : List Opt) (naks most : Int) : Int × List Opt :=
  if areB R = false then (0, []) else
  if 0 < (sortK R L L.length).1.length then (4, (sortK R L L.length).1) else
  if (nakR R L).length = 0 then (2, L) else
  if most ≤ naks ∧ 0 < (sortK R L L.length).2.1.length then (4, (sortK R L L.length).2.1) else (3, (nakR R L).map goodO)
/-- Options told, behind a code. -/
def RowsI (code : Int) (L : List Opt) (w : World) (x : Ending) (w' : World) : Prop :=
  ∃ (E : List Ent) (A : Option Addr) (n c : Nat), x = .returned (.tuple #[.int .i64 code, .slice A n c]) ∧ E.map Ent.o = L ∧ n = L.length ∧ Below w.heap.size w w' ∧ OwnOpts w' w.heap.size (.slice A n c) E
end Go.Proofs.Ytlkijhcgiilmhaa
