/- AutoMeets: its arguments opened. -/
import Derived.Test.YthidhfkbfoejbaaGreatQ55
import Derived.Deep.Grids
namespace Go.Proofs.YthidhfkbfoejbaaGreat
set_option maxRecDepth 100000
set_option linter.unusedVariables false
set_option linter.unusedSimpArgs false
set_option linter.ambiguousOpen false
open Go.ChangeShapes Go.WideShapes Go.ChangeAt Go.RowKit Go.Joins Go.Deep
open Ne (Rl Opt RulesAt areB)
theorem open_turns {H:Type} {enc:TypeId×Value→H} {W:World} {base:Nat} {v:Value} {d:DataW H} {p:List MemPlace} (o:Value.okWide Tryz.prog W .any base 50 v) (h:DataW.Trod enc Tryz.prog W 0 (fun _=>true) true 50 v d p):
  ∃(A:Option Addr) (n c:Nat) (L:List Bool),v=.slice A n c∧At W W.heap.size A (L.map Value.bool)∧n=L.length∧(n:Int)≤9223372036854775807:=by
 obtain⟨a,len,cap,rfl⟩:=okWide_slice Tryz.underlying50 o
 obtain⟨fuel,hf⟩:=h
 rcases open_bools Tryz.underlying50 Tryz.underlying4 (by kernel_rfl) hf with⟨hcs,-⟩|⟨a',len',cap',B,hcs,-,hl,hm,-,hi⟩
 ·simp only[Value.cells,List.cons.injEq,and_true,Value.slice.injEq] at hcs
  obtain⟨rfl,rfl,rfl⟩:=hcs
  exact⟨none,0,0,[],rfl,At.nil _ _ _,rfl,by omega⟩
 ·simp only[Value.cells,List.cons.injEq,and_true,Value.slice.injEq] at hcs
  obtain⟨rfl,rfl,rfl⟩:=hcs
  unfold maxLen at hm
  refine⟨some a',len,cap,(List.range len).map B,rfl,?_,by simp,by omega⟩
  rcases Nat.eq_zero_or_pos len with h0|h0
  ·subst h0;exact .inl rfl
  ·right
   have hc0:=hi 0 (by omega)
   obtain⟨b,off,spot⟩:=a'
   have hspot:spot=none:=by simpa[Addr.add] using World.cell?_spot hc0
   subst hspot
   have hlt:b<W.heap.size:=by
    have:=World.block_lt_of_cell? W _ hc0
    simpa[Addr.add] using this
   refine⟨b,off,rfl,hlt,fun j u hu=>?_⟩
   have hj:j<len:=by
    have:=(List.getElem?_eq_some_iff.1 hu).1
    simpa using this
   have hc:=hi j (by omega)
   rw[add_none] at hc
   rw[hc]
   simp only[List.map_map,List.getElem?_map,List.getElem?_range hj,Option.map_some] at hu
   exact hu
theorem autoMeets_calls {H:Type} (enc:TypeId×Value→H) (W:World) (base:Nat) (v0 v1 v2 v3 v4:Value) (d0 d1 d2 d3 d4:DataW H) (p0 p1 p2 p3 p4:List MemPlace)
  (o0:Value.okWide Tryz.prog W .any base 24 v0) (o1:Value.okWide Tryz.prog W .any base 24 v1) (o2:Value.okWide Tryz.prog W .any base 26 v2) (o3:Value.okWide Tryz.prog W .any base 26 v3) (o4:Value.okWide Tryz.prog W .any base 50 v4)
  (h0:DataW.Trod enc Tryz.prog W 0 (fun _=>true) true 24 v0 d0 p0) (h1:DataW.Trod enc Tryz.prog W 0 (fun _=>true) true 24 v1 d1 p1) (h2:DataW.Trod enc Tryz.prog W 0 (fun _=>true) true 26 v2 d2 p2) (h3:DataW.Trod enc Tryz.prog W 0 (fun _=>true) true 26 v3 d3 p3) (h4:DataW.Trod enc Tryz.prog W 0 (fun _=>true) true 50 v4 d4 p4):
  Calls Tryz.prog 7 #[v0,v1,v2,v3,v4] W fun e W'=>e=.returned (.bool true)∧Below W.heap.size W W':=by
 obtain⟨Ar,nr,cr,R,mc,mt,mf,wt,rfl,hR,hnr,hcr,hlr⟩:=open_conf o0 h0
 obtain⟨As,nd,cd,D,mc2,mt2,mf2,wt2,rfl,hD,hnd,hcd,hld⟩:=open_conf o1 h1
 obtain⟨Aa,na,ca,rfl⟩:=okWide_slice Tryz.underlying26 o2
 obtain⟨f2,hf2⟩:=h2
 obtain⟨A2,n2,c2,E,hv2,hE,hna,hca,hla,hda⟩:=open_opts_in hf2
 simp only[Value.cells,List.cons.injEq,and_true,Value.slice.injEq] at hv2
 obtain⟨rfl,rfl,rfl⟩:=hv2
 obtain⟨Ab,nb,cb,rfl⟩:=okWide_slice Tryz.underlying26 o3
 obtain⟨f3,hf3⟩:=h3
 obtain⟨A3,n3,c3,J,hv3,hJ,hnb,hcb,hlb,hdb⟩:=open_opts_in hf3
 simp only[Value.cells,List.cons.injEq,and_true,Value.slice.injEq] at hv3
 obtain⟨rfl,rfl,rfl⟩:=hv3
 obtain⟨Aw,nu,cu,TB,rfl,hU,hnu,hlu⟩:=open_turns o4 h4
 exact autoMeets_walk Ar As Aa Ab Aw nr cr nd cd na ca nb cb nu cu R D mc mt mf wt mc2 mt2 mf2 wt2 E J TB W hR hnr hcr hlr hD hnd hcd hld hE hna hla hda hJ hnb hlb hdb hU hnu hlu
end Go.Proofs.YthidhfkbfoejbaaGreat
