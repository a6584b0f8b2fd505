/- AutoRuns: its arguments opened. -/
import Derived.Test.YtfkgmbknfnhjoaaGreatRQ72
import Derived.Deep.Grids
namespace Go.Proofs.YtfkgmbknfnhjoaaGreat
set_option maxRecDepth 100000
set_option linter.unusedVariables false
set_option linter.unusedSimpArgs false
set_option linter.ambiguousOpen false
open Go.ChangeShapes Go.WideShapes Go.ChangeAt Go.RowKit Go.Joins Go.Deep
open Ne (Rl Opt RulesAt areB)
theorem autoRuns_calls {H:Type} (enc:TypeId×Value→H) (W:World) (base:Nat) (v0 v1 v2:Value) (d0 d1 d2:DataW H) (p0 p1 p2:List MemPlace)
  (o0:Value.okWide Tryz.prog W .any base 24 v0) (o1:Value.okWide Tryz.prog W .any base 25 v1) (o2:Value.okWide Tryz.prog W .any base 26 v2)
  (h0:DataW.Trod enc Tryz.prog W 0 (fun _=>true) true 24 v0 d0 p0) (h1:DataW.Trod enc Tryz.prog W 0 (fun _=>true) true 25 v1 d1 p1) (h2:DataW.Trod enc Tryz.prog W 0 (fun _=>true) true 26 v2 d2 p2):
  Calls Tryz.prog 3 #[v0,v1,v2] W fun e W'=>e=.returned (.bool true)∧Below W.heap.size W W':=by
 obtain⟨Ar,nr,cr,R,mc,mt,mf,wt,rfl,hR,hnr,hcr,hlr⟩:=open_conf o0 h0
 obtain⟨Aa,na,ca,E,rfl,hE,hna,hca,hla,hda⟩:=open_opts_arg o1 h1
 obtain⟨Ao,no,co,O,rfl,hO,hno,hco,hlo⟩:=open_ops o2 h2
 exact autoRuns_walk Ar Aa Ao nr cr na ca no co R mc mt mf wt E O W hR hnr hcr hlr hE hna hla hda hO hno hlo
end Go.Proofs.YtfkgmbknfnhjoaaGreat
