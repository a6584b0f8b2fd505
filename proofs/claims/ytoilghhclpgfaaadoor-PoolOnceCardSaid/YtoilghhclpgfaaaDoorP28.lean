/- PoolOrder: its caller. -/
import Derived.Test.YtoilghhclpgfaaaDoorP27
namespace Go.Proofs.YtoilghhclpgfaaaDoor
open Go.ChangeShapes Go.WideShapes Go.ChangeAt Go.RowKit Go.Joins Go.Deep
theorem poolOrder_calls {H : Type} (enc : TypeId × Value → H) (W : World) (base : Nat) (hT : TabAt W) (v0 v1 v2 : Value) (d0 d1 d2 : DataW H) (p0 p1 p2 : List MemPlace)
    (o0 : Value.okWide Tryd.prog W .any base 24 v0) (o1 : Value.okWide Tryd.prog W .any base 45 v1) (o2 : Value.okWide Tryd.prog W .any base 5 v2) (h0 : DataW.Trod enc Tryd.prog W 0 (fun _ => true) true 24 v0 d0 p0) (h1 : DataW.Trod enc Tryd.prog W 0 (fun _ => true) true 45 v1 d1 p1) (h2 : DataW.Trod enc Tryd.prog W 0 (fun _ => true) true 5 v2 d2 p2) :
    Calls Tryd.prog 6 #[v0, v1, v2] W fun e W' => e = .returned (.bool true) ∧ Below W.heap.size W W' := by
  obtain ⟨b, s, A, n, c, R, rfl, hA, hn, hc, hl⟩ := open_range o0 h0
  obtain ⟨C, nn, cc, V, rfl, hV, hv6, hnv, hcc, hnn⟩ := open_octs o1 h1
  obtain ⟨i0, rfl, rfl, rfl, w0⟩ := open_int Tryd.underlying5 o2 h2
  have b0 : 0 ≤ i0 ∧ i0 ≤ 255 := by simpa [Lit.wf, IntKind.min, IntKind.max, IntKind.signed, IntKind.bits] using w0
  obtain ⟨t, rfl⟩ := Int.eq_ofNat_of_zero_le b0.1
  exact order_any b s A n c R C nn cc V t W hT hA hn hc hl hV hv6 hnv hcc hnn (by omega)
end Go.Proofs.YtoilghhclpgfaaaDoor
