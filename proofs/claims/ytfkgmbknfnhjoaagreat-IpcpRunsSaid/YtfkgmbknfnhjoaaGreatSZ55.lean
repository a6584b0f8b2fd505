/- Z55 -/
import Derived.Test.YtfkgmbknfnhjoaaGreatSZ53
import Derived.Test.YtfkgmbknfnhjoaaGreatSZ46
set_option linter.all false
set_option linter.ambiguousOpen false
namespace Go.Proofs.YtfkgmbknfnhjoaaGreat
set_option maxRecDepth 100000
open Go.ChangeShapes Go.WideShapes Go.ChangeAt Go.RowKit Go.Joins Go.Deep
open Ne (dJ)
theorem uY {H:Type} (enc:TypeId×Value→H) (W:World) (base:Nat) (v0 v1 v2 v3:Value) (d0 d1 d2 d3:DataW H) (p0 p1 p2 p3:List MemPlace)
  (o0:Value.okWide Tryz.prog W .any base 64 v0) (o1:Value.okWide Tryz.prog W .any base 3 v1) (o2:Value.okWide Tryz.prog W .any base 3 v2) (o3:Value.okWide Tryz.prog W .any base 82 v3)
  (h0:DataW.Trod enc Tryz.prog W 0 (fun _=>true) true 64 v0 d0 p0) (h1:DataW.Trod enc Tryz.prog W 0 (fun _=>true) true 3 v1 d1 p1) (h2:DataW.Trod enc Tryz.prog W 0 (fun _=>true) true 3 v2 d2 p2) (h3:DataW.Trod enc Tryz.prog W 0 (fun _=>true) true 82 v3 d3 p3):
  Calls Tryz.prog 8 #[v0,v1,v2,v3] W fun e W'=>e=.returned (.bool true)∧Below W.heap.size W W':=by
 obtain⟨mr,mc,mt,mf,wt,ec,lo,rfl⟩:=vw o0 h0
 obtain⟨x1,rfl,rfl,rfl,w1⟩:=open_int Tryz.underlying3 o1 h1
 obtain⟨x2,rfl,rfl,rfl,w2⟩:=open_int Tryz.underlying3 o2 h2
 obtain⟨Ao,no,co,O,rfl,hO,hno,hco,hlo⟩:=IY o3 h3
 exact wB mr mc mt mf wt ec lo x1 x2 Ao no co O W (JW w2) hO hno hlo
end Go.Proofs.YtfkgmbknfnhjoaaGreat
