/- PoolParts: its caller. -/
import Derived.Test.YtoilghhclpgfaaaDoorP23
namespace Go.Proofs.YtoilghhclpgfaaaDoor
open Go.ChangeShapes Go.WideShapes Go.ChangeAt Go.RowKit Go.Joins Go.Deep
theorem poolParts_calls {H : Type} (enc : TypeId × Value → H) (W : World) (base : Nat) (hT : TabAt W) (v0 v1 : Value) (d0 d1 : DataW H) (p0 p1 : List MemPlace)
    (o0 : Value.okWide Tryd.prog W .any base 24 v0) (o1 : Value.okWide Tryd.prog W .any base 29 v1) (h0 : DataW.Trod enc Tryd.prog W 0 (fun _ => true) true 24 v0 d0 p0) (h1 : DataW.Trod enc Tryd.prog W 0 (fun _ => true) true 29 v1 d1 p1) :
    Calls Tryd.prog 4 #[v0, v1] W fun e W' => e = .returned (.bool true) ∧ Below W.heap.size W W' := by
  obtain ⟨b, s, A, n, c, R, rfl, hA, hn, hc, hl⟩ := open_range o0 h0
  obtain ⟨C, nn, cc, OL, rfl, hO, hon, hoc, hol⟩ := open_ops o1 h1
  exact parts_any b s A n c R C nn cc OL W hT hA hn hc hl hO hon hol
end Go.Proofs.YtoilghhclpgfaaaDoor
