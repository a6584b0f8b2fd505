/- IpcpForms: its arguments opened. -/
import Derived.Test.YtfkgmbknfnhjoaaGreatZ44
import Derived.Test.YtfkgmbknfnhjoaaGreatZ46
namespace Go.Proofs.YtfkgmbknfnhjoaaGreat
set_option maxRecDepth 100000
set_option linter.unusedVariables false
set_option linter.unusedSimpArgs false
set_option linter.ambiguousOpen false
open Go.ChangeShapes Go.WideShapes Go.ChangeAt Go.RowKit Go.Joins Go.Deep
open Ne (wf64)
theorem ipcpForms_calls {H:Type} (enc:TypeId×Value→H) (W:World) (base:Nat) (v0 v1 v2 v3:Value) (d0 d1 d2 d3:DataW H) (p0 p1 p2 p3:List MemPlace)
  (o0:Value.okWide Tryz.prog W .any base 64 v0) (o1:Value.okWide Tryz.prog W .any base 60 v1) (o2:Value.okWide Tryz.prog W .any base 3 v2) (o3:Value.okWide Tryz.prog W .any base 3 v3)
  (h0:DataW.Trod enc Tryz.prog W 0 (fun _=>true) true 64 v0 d0 p0) (h1:DataW.Trod enc Tryz.prog W 0 (fun _=>true) true 60 v1 d1 p1) (h2:DataW.Trod enc Tryz.prog W 0 (fun _=>true) true 3 v2 d2 p2) (h3:DataW.Trod enc Tryz.prog W 0 (fun _=>true) true 3 v3 d3 p3):
  Calls Tryz.prog 9 #[v0,v1,v2,v3] W fun e W'=>e=.returned (.bool true)∧Below W.heap.size W W':=by
 obtain⟨mr,mc,mt,mf,wt,ec,lo,rfl⟩:=open_lconf o0 h0
 obtain⟨st,id,req,A,n,c,E,cnt,tim,nak,own,peer,rfl,hE,hn,hc,hl,hd,w7,w8⟩:=open_ipcp o1 h1
 obtain⟨x2,rfl,rfl,rfl,w2⟩:=open_int Tryz.underlying3 o2 h2
 obtain⟨x3,rfl,rfl,rfl,w3⟩:=open_int Tryz.underlying3 o3 h3
 exact ipcpForms_walk mr mc mt mf wt ec lo st id req cnt tim nak own peer x2 x3 A n c E W hE hn hl hd w8 (wf_of w3)
end Go.Proofs.YtfkgmbknfnhjoaaGreat
