/- The arguments of CpSplits opened. -/
import Derived.Test.YtjnahbiagfghgaaC17
import Derived.Test.YtjnahbiagfghgaaF
namespace Go.Proofs.Ytjnahbiagfghgaa
open Go.ChangeShapes Go.WideShapes Go.ChangeAt Go.RowKit Go.Joins
set_option linter.unusedVariables false
theorem cpSplits_calls {H : Type} (enc : TypeId × Value → H) (W : World) (base : Nat) (v0 v1 : Value) (d0 d1 : DataW H) (p0 p1 : List MemPlace)
    (o0 : Value.okWide Try.prog W .any base 22 v0) (o1 : Value.okWide Try.prog W .any base 24 v1)
    (h0 : DataW.Trod enc Try.prog W 0 (fun _ => true) true 22 v0 d0 p0) (h1 : DataW.Trod enc Try.prog W 0 (fun _ => true) true 24 v1 d1 p1) :
    Calls Try.prog 3 #[v0, v1] W fun e W' => e = .returned (.bool true) ∧ Below W.heap.size W W' := by
  obtain ⟨A1, n1, c1, l1, rfl, hA1, hn1, hc1, hm1⟩ := open_bytes_arg o0 h0
  obtain ⟨p, A2, n2, c2, l2, rfl, hA2, hn2, hc2, hm2⟩ := open_ppp o1 h1
  exact cpSplits_walk A1 A2 n1 c1 n2 c2 l1 l2 p W hA1 hA2 hn1 hn2 ⟨hc1, hm1⟩ ⟨hc2, hm2⟩
end Go.Proofs.Ytjnahbiagfghgaa
