/- IpcpTold: its arguments opened. -/
import Derived.Test.YtfkgmbknfnhjoaaGreatZ23
namespace Go.Proofs.YtfkgmbknfnhjoaaGreat
set_option maxRecDepth 100000
set_option linter.unusedVariables false
set_option linter.unusedSimpArgs false
set_option linter.ambiguousOpen false
open Go.ChangeShapes Go.WideShapes Go.ChangeAt Go.RowKit Go.Joins Go.Deep
theorem ipcpTold_calls {H:Type} (enc:TypeId×Value→H) (W:World) (base:Nat) (v0 v1 v2 v3 v4:Value) (d0 d1 d2 d3 d4:DataW H) (p0 p1 p2 p3 p4:List MemPlace)
  (o0:Value.okWide Tryz.prog W .any base 58 v0) (o1:Value.okWide Tryz.prog W .any base 58 v1) (o2:Value.okWide Tryz.prog W .any base 58 v2) (o3:Value.okWide Tryz.prog W .any base 25 v3) (o4:Value.okWide Tryz.prog W .any base 5 v4)
  (h0:DataW.Trod enc Tryz.prog W 0 (fun _=>true) true 58 v0 d0 p0) (h1:DataW.Trod enc Tryz.prog W 0 (fun _=>true) true 58 v1 d1 p1) (h2:DataW.Trod enc Tryz.prog W 0 (fun _=>true) true 58 v2 d2 p2) (h3:DataW.Trod enc Tryz.prog W 0 (fun _=>true) true 25 v3 d3 p3) (h4:DataW.Trod enc Tryz.prog W 0 (fun _=>true) true 5 v4 d4 p4):
  Calls Tryz.prog 4 #[v0,v1,v2,v3,v4] W fun e W'=>e=.returned (.bool true)∧Below W.heap.size W W':=by
 obtain⟨x0,rfl,rfl,rfl,w0⟩:=open_int Tryz.underlying58 o0 h0
 obtain⟨x1,rfl,rfl,rfl,w1⟩:=open_int Tryz.underlying58 o1 h1
 obtain⟨x2,rfl,rfl,rfl,w2⟩:=open_int Tryz.underlying58 o2 h2
 obtain⟨Aa,na,ca,rfl⟩:=okWide_slice Tryz.underlying25 o3
 obtain⟨f2,hf2⟩:=h3
 obtain⟨A2,n2,c2,E,hv2,hE,hna,hca,hla,hda⟩:=open_opts_in hf2
 simp only[Value.cells,List.cons.injEq,and_true,Value.slice.injEq] at hv2
 obtain⟨rfl,rfl,rfl⟩:=hv2
 obtain⟨x4,rfl,rfl,rfl,w4⟩:=open_int Tryz.underlying5 o4 h4
 have b0:0≤x0∧x0≤4294967295:=by simpa[Lit.wf,IntKind.min,IntKind.max,IntKind.signed,IntKind.bits] using w0
 have b1:0≤x1∧x1≤4294967295:=by simpa[Lit.wf,IntKind.min,IntKind.max,IntKind.signed,IntKind.bits] using w1
 have b2:0≤x2∧x2≤4294967295:=by simpa[Lit.wf,IntKind.min,IntKind.max,IntKind.signed,IntKind.bits] using w2
 have b4:0≤x4∧x4≤255:=by simpa[Lit.wf,IntKind.min,IntKind.max,IntKind.signed,IntKind.bits] using w4
 obtain⟨j0,rfl⟩:=Int.eq_ofNat_of_zero_le b0.1
 obtain⟨j1,rfl⟩:=Int.eq_ofNat_of_zero_le b1.1
 obtain⟨j2,rfl⟩:=Int.eq_ofNat_of_zero_le b2.1
 obtain⟨j4,rfl⟩:=Int.eq_ofNat_of_zero_le b4.1
 exact ipcpTold_walk j0 j1 j2 j4 Aa na ca E W (by omega) (by omega) (by omega) (by omega) hE hna hla hda
end Go.Proofs.YtfkgmbknfnhjoaaGreat
