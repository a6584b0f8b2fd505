/- IpcpMeet: its arguments opened. -/
import Derived.Test.YtfkgmbknfnhjoaaGreatZ31
import Derived.Test.YtfkgmbknfnhjoaaGreatPT
import Derived.Deep.Grids
namespace Go.Proofs.YtfkgmbknfnhjoaaGreat
set_option maxRecDepth 100000
set_option linter.unusedVariables false
set_option linter.unusedSimpArgs false
set_option linter.ambiguousOpen false
open Go.ChangeShapes Go.WideShapes Go.ChangeAt Go.RowKit Go.Joins Go.Deep
theorem open_turnsJ {H:Type} {enc:TypeId×Value→H} {W:World} {base:Nat} {v:Value} {d:DataW H} {p:List MemPlace} (o:Value.okWide Tryz.prog W .any base 75 v) (h:DataW.Trod enc Tryz.prog W 0 (fun _=>true) true 75 v d p):
  ∃(A:Option Addr) (n c:Nat) (L:List Bool),v=.slice A n c∧At W W.heap.size A (L.map Value.bool)∧n=L.length∧(n:Int)≤9223372036854775807:=by
 obtain⟨a,len,cap,rfl⟩:=okWide_slice Tryz.underlying75 o
 obtain⟨fuel,hf⟩:=h
 rcases open_bools Tryz.underlying75 Tryz.underlying4 (by kernel_rfl) hf with⟨hcs,-⟩|⟨a',len',cap',B,hcs,-,hl,hm,-,hi⟩
 ·simp only[Value.cells,List.cons.injEq,and_true,Value.slice.injEq] at hcs
  obtain⟨rfl,rfl,rfl⟩:=hcs
  exact⟨none,0,0,[],rfl,At.nil _ _ _,rfl,by omega⟩
 ·simp only[Value.cells,List.cons.injEq,and_true,Value.slice.injEq] at hcs
  obtain⟨rfl,rfl,rfl⟩:=hcs
  unfold maxLen at hm
  refine⟨some a',len,cap,(List.range len).map B,rfl,?_,by simp,by omega⟩
  rcases Nat.eq_zero_or_pos len with h0|h0
  ·subst h0;exact .inl rfl
  ·right
   have hc0:=hi 0 (by omega)
   obtain⟨b,off,spot⟩:=a'
   have hspot:spot=none:=by simpa[Addr.add] using World.cell?_spot hc0
   subst hspot
   have hlt:b<W.heap.size:=by
    have:=World.block_lt_of_cell? W _ hc0
    simpa[Addr.add] using this
   refine⟨b,off,rfl,hlt,fun j u hu=>?_⟩
   have hj:j<len:=by
    have:=(List.getElem?_eq_some_iff.1 hu).1
    simpa using this
   have hc:=hi j (by omega)
   rw[add_none] at hc
   rw[hc]
   simp only[List.map_map,List.getElem?_map,List.getElem?_range hj,Option.map_some] at hu
   exact hu
theorem ipcpMeet_calls {H:Type} (enc:TypeId×Value→H) (W:World) (base:Nat) (v0 v1 v2:Value) (d0 d1 d2:DataW H) (p0 p1 p2:List MemPlace)
  (o0:Value.okWide Tryz.prog W .any base 58 v0) (o1:Value.okWide Tryz.prog W .any base 58 v1) (o2:Value.okWide Tryz.prog W .any base 75 v2)
  (h0:DataW.Trod enc Tryz.prog W 0 (fun _=>true) true 58 v0 d0 p0) (h1:DataW.Trod enc Tryz.prog W 0 (fun _=>true) true 58 v1 d1 p1) (h2:DataW.Trod enc Tryz.prog W 0 (fun _=>true) true 75 v2 d2 p2):
  Calls Tryz.prog 6 #[v0,v1,v2] W fun e W'=>e=.returned (.bool true)∧Below W.heap.size W W':=by
 obtain⟨x0,rfl,rfl,rfl,w0⟩:=open_int Tryz.underlying58 o0 h0
 obtain⟨x1,rfl,rfl,rfl,w1⟩:=open_int Tryz.underlying58 o1 h1
 obtain⟨Aw,nu,cu,TB,rfl,hU,hnu,hlu⟩:=open_turnsJ o2 h2
 have b0:0≤x0∧x0≤4294967295:=by simpa[Lit.wf,IntKind.min,IntKind.max,IntKind.signed,IntKind.bits] using w0
 have b1:0≤x1∧x1≤4294967295:=by simpa[Lit.wf,IntKind.min,IntKind.max,IntKind.signed,IntKind.bits] using w1
 obtain⟨j0,rfl⟩:=Int.eq_ofNat_of_zero_le b0.1
 obtain⟨j1,rfl⟩:=Int.eq_ofNat_of_zero_le b1.1
 exact ipcpMeet_walk j0 j1 Aw nu cu TB W (by omega) (by omega) hU hnu hlu
end Go.Proofs.YtfkgmbknfnhjoaaGreat
