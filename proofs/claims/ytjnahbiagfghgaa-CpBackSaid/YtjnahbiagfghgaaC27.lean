/- CpBack: the call at any arguments. -/
import Derived.Test.YtjnahbiagfghgaaC24
import Derived.Test.YtjnahbiagfghgaaF
namespace Go.Proofs.Ytjnahbiagfghgaa
open Go.ChangeShapes Go.WideShapes Go.ChangeAt Go.RowKit Go.Joins
theorem cpBack_calls {H : Type} (enc : TypeId × Value → H) (W : World) (base : Nat) (v0 v1 v2 v3 : Value) (d0 d1 d2 d3 : DataW H) (p0 p1 p2 p3 : List MemPlace)
    (o0 : Value.okWide Try.prog W .any base 24 v0) (o1 : Value.okWide Try.prog W .any base 39 v1) (o2 : Value.okWide Try.prog W .any base 22 v2) (o3 : Value.okWide Try.prog W .any base 22 v3)
    (h0 : DataW.Trod enc Try.prog W 0 (fun _ => true) true 24 v0 d0 p0) (h1 : DataW.Trod enc Try.prog W 0 (fun _ => true) true 39 v1 d1 p1) (h2 : DataW.Trod enc Try.prog W 0 (fun _ => true) true 22 v2 d2 p2) (h3 : DataW.Trod enc Try.prog W 0 (fun _ => true) true 22 v3 d3 p3) :
    Calls Try.prog 5 #[v0, v1, v2, v3] W fun e W' => e = .returned (.bool true) ∧ Below W.heap.size W W' := by
  obtain ⟨p, A1, n1, c1, l1, rfl, hA1, hn1, hc1, hm1⟩ := open_ppp o0 h0
  obtain ⟨a, b, A2, n2, c2, l2, rfl, hA2, hn2, hc2, hm2⟩ := open_ctl o1 h1
  obtain ⟨A3, n3, c3, l3, rfl, hA3, hn3, hc3, hm3⟩ := open_bytes_arg o2 h2
  obtain ⟨A4, n4, c4, l4, rfl, hA4, hn4, hc4, hm4⟩ := open_bytes_arg o3 h3
  exact cpBack_walk A1 A2 A3 A4 n1 c1 n2 c2 n3 c3 n4 c4 l1 l2 l3 l4 p a b W hA1 hA2 hA3 hA4 hn1 hn2 hn3 hn4 ⟨hc1, hm1⟩ ⟨hc2, hm2⟩ ⟨hc3, hm3⟩ ⟨hc4, hm4⟩
end Go.Proofs.Ytjnahbiagfghgaa
