/- IpcpInsists: its arguments opened. -/
import Derived.Test.YtfkgmbknfnhjoaaGreatZ12
namespace Go.Proofs.YtfkgmbknfnhjoaaGreat
set_option maxRecDepth 100000
set_option linter.unusedVariables false
set_option linter.unusedSimpArgs false
set_option linter.ambiguousOpen false
open Go.ChangeShapes Go.WideShapes Go.ChangeAt Go.RowKit Go.Joins Go.Deep
theorem ipcpInsists_calls {H : Type} (enc : TypeId × Value → H) (W : World) (base : Nat) (v0 v1 v2 : Value) (d0 d1 d2 : DataW H) (p0 p1 p2 : List MemPlace)
  (o0 : Value.okWide Tryz.prog W .any base 58 v0) (o1 : Value.okWide Tryz.prog W .any base 58 v1) (o2 : Value.okWide Tryz.prog W .any base 73 v2)
  (h0 : DataW.Trod enc Tryz.prog W 0 (fun _ => true) true 58 v0 d0 p0) (h1 : DataW.Trod enc Tryz.prog W 0 (fun _ => true) true 58 v1 d1 p1) (h2 : DataW.Trod enc Tryz.prog W 0 (fun _ => true) true 73 v2 d2 p2) :
  Calls Tryz.prog 5 #[v0, v1, v2] W fun e W' => e = .returned (.bool true) ∧ Below W.heap.size W W' := by
 obtain ⟨x0, rfl, rfl, rfl, w0⟩ := open_int Tryz.underlying58 o0 h0
 obtain ⟨x1, rfl, rfl, rfl, w1⟩ := open_int Tryz.underlying58 o1 h1
 obtain ⟨Al, nl, cl, L, rfl, hL, hn, hln⟩ := open_rows o2 h2
 have b0 : 0 ≤ x0 ∧ x0 ≤ 4294967295 := by simpa [Lit.wf, IntKind.min, IntKind.max, IntKind.signed, IntKind.bits] using w0
 have b1 : 0 ≤ x1 ∧ x1 ≤ 4294967295 := by simpa [Lit.wf, IntKind.min, IntKind.max, IntKind.signed, IntKind.bits] using w1
 obtain ⟨j0, rfl⟩ := Int.eq_ofNat_of_zero_le b0.1
 obtain ⟨j1, rfl⟩ := Int.eq_ofNat_of_zero_le b1.1
 exact ipcpInsists_walk j0 j1 Al nl cl L W (by omega) (by omega) hL hn hln
end Go.Proofs.YtfkgmbknfnhjoaaGreat
