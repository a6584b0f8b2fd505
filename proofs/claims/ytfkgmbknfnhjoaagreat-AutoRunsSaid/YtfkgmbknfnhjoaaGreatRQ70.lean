/- Rows of things that come, opened. -/
import Derived.Test.YtfkgmbknfnhjoaaGreatRA
import Derived.Lib.SmallJoins
import Derived.Deep.Slices
namespace Go.Proofs.YtfkgmbknfnhjoaaGreat
open Go.ChangeShapes Go.WideShapes Go.ChangeAt Go.RowKit Go.Joins Go.Deep
set_option linter.unusedSimpArgs false
set_option linter.unusedVariables false
set_option linter.ambiguousOpen false
set_option maxRecDepth 100000
structure OpR where
 d:Nat
 e:Int
 kc:Int
 ki:Int
 ai:Option Addr
 ni:Nat
 ci:Nat
 li:List UInt8
 later:Nat
structure OpAt (W:World) (B b o:Nat) (k:Nat) (x:OpR):Prop where
 c0:W.cell? ⟨b,o+k*6,none⟩=some (.int .u8 (x.d:Int))
 c1:W.cell? ⟨b,o+k*6+1,none⟩=some (.int .i64 x.e)
 c2:W.cell? ⟨b,o+k*6+2,none⟩=some (.int .i64 x.kc)
 c3:W.cell? ⟨b,o+k*6+2+1,none⟩=some (.int .i64 x.ki)
 c4:W.cell? ⟨b,o+k*6+2+2,none⟩=some (.slice x.ai x.ni x.ci)
 c5:W.cell? ⟨b,o+k*6+5,none⟩=some (.int .u8 (x.later:Int))
 inn:At W B x.ai (x.li.map bv)
 ni:x.ni=x.li.length
 nc:x.ni≤x.ci
 nl:(x.ni:Int)≤9223372036854775807
 d1:x.d<256
 l1:x.later<256
def OpsAt (W:World) (B:Nat) (A:Option Addr) (L:List OpR):Prop:=
 L=[]∨ ∃b o,A=some ⟨b,o,none⟩∧b<B∧ ∀(k:Nat) (hk:k<L.length),OpAt W B b o k L[k]
theorem OpsAt.keep {W W':World} {B:Nat} {A:Option Addr} {L:List OpR} (h:OpsAt W B A L) (hb:Below B W W'):OpsAt W' B A L:=by
 rcases h with h|⟨b,o,rfl,hB,h⟩
 ·exact .inl h
 ·refine .inr ⟨b,o,rfl,hB,fun k hk=>?_⟩
  obtain⟨h0,h1,h2,h3,h4,h5,h6,h7,h8,h9,h10,h11⟩:=h k hk
  exact⟨(hb.cell (p:=⟨b,_,none⟩) hB).trans h0,(hb.cell (p:=⟨b,_,none⟩) hB).trans h1,(hb.cell (p:=⟨b,_,none⟩) hB).trans h2,(hb.cell (p:=⟨b,_,none⟩) hB).trans h3,(hb.cell (p:=⟨b,_,none⟩) hB).trans h4,(hb.cell (p:=⟨b,_,none⟩) hB).trans h5,h6.keep hb,h7,h8,h9,h10,h11⟩
theorem OpsAt.get {W:World} {B:Nat} {A:Option Addr} {L:List OpR} (h:OpsAt W B A L) {k:Nat} (hk:k<L.length): ∃b o,A=some ⟨b,o,none⟩∧b<B∧OpAt W B b o k L[k]:=by
 rcases h with h|⟨b,o,hA,hB,h⟩
 ·subst h;simp at hk
 ·exact⟨b,o,hA,hB,h k hk⟩
theorem open_ops {H:Type} {enc:TypeId×Value→H} {W:World} {base:Nat} {v:Value} {d:DataW H} {p:List MemPlace} (o:Value.okWide Tryz.prog W .any base 26 v) (h:DataW.Trod enc Tryz.prog W 0 (fun _=>true) true 26 v d p):
  ∃(A:Option Addr) (n c:Nat) (L:List OpR),v=.slice A n c∧OpsAt W W.heap.size A L∧n=L.length∧n≤c∧(n:Int)≤9223372036854775807:=by
 obtain⟨a,len,cap,rfl⟩:=okWide_slice Tryz.underlying26 o
 obtain⟨fuel,hf⟩:=h
 rcases open_slice Tryz.underlying26 hf with⟨hcs,-⟩|⟨a',len',cap',m,n,D,Pl,hcs,-,hl,hm,hmm,-,hi⟩
 ·simp only[Value.cells,List.cons.injEq,and_true,Value.slice.injEq] at hcs
  obtain⟨rfl,rfl,rfl⟩:=hcs
  exact⟨none,0,0,[],rfl,.inl rfl,rfl,Nat.le_refl _,by omega⟩
 ·simp only[Value.cells,List.cons.injEq,and_true,Value.slice.injEq] at hcs
  obtain⟨rfl,rfl,rfl⟩:=hcs
  simp only[if_true] at hmm
  subst hmm
  unfold maxLen at hm
  have hC:Tryz.prog.cellsOf 42=6:=by kernel_rfl
  rw[hC] at hi
  rcases Nat.eq_zero_or_pos len with h0|h0
  ·subst h0
   exact⟨_,0,m,[],rfl,.inl rfl,rfl,Nat.zero_le _,by omega⟩
  ·obtain⟨b,off,spot⟩:=a'
   have each0: ∀i,i<m→ ∃cs':List Value,(∀j,j<6→W.cell? ((⟨b,off,spot⟩:Addr).add (i*6+j))=cs'[j]?)∧ ∃x:OpR,cs'=[.int .u8 (x.d:Int),.int .i64 x.e,.int .i64 x.kc,.int .i64 x.ki,.slice x.ai x.ni x.ci,.int .u8 (x.later:Int)]∧At W W.heap.size x.ai (x.li.map bv)∧x.ni=x.li.length∧x.ni≤x.ci∧(x.ni:Int)≤9223372036854775807∧x.d<256∧x.later<256:=by
    intro i him
    obtain⟨cs',hc,ht'⟩:=hi i him
    obtain⟨ys,n',-,-,hlen,hyl,hf⟩:=DataW.trod_struct Tryz.underlying42 ht'
    obtain⟨_,hcl,hat⟩:=World.cells?_some hc
    refine⟨cs',fun j hj=>by rw[←Go.Deep.add_add];exact hat j hj,?_⟩
    have h6:cs'.length=6:=hcl
    obtain⟨v0,v1,v2,v3,v4,v5,rfl⟩: ∃v0 v1 v2 v3 v4 v5,cs'=[v0,v1,v2,v3,v4,v5]:=by
     match cs',h6 with
     |[v0,v1,v2,v3,v4,v5],_=>exact⟨v0,v1,v2,v3,v4,v5,rfl⟩
    have f0:=hf 0 _ rfl
    have f1:=hf 1 _ rfl
    have f2:=hf 2 _ rfl
    have f3:=hf 3 _ rfl
    have q0:DataW.trod enc Tryz.prog W 0 (fun _=>true) true n' 5 [v0]=ys[0]?:=f0
    have q1:DataW.trod enc Tryz.prog W 0 (fun _=>true) true n' 40 [v1]=ys[1]?:=f1
    have q2:DataW.trod enc Tryz.prog W 0 (fun _=>true) true n' 32 [v2,v3,v4]=ys[2]?:=f2
    have q3:DataW.trod enc Tryz.prog W 0 (fun _=>true) true n' 5 [v5]=ys[3]?:=f3
    have hyl:ys.length=4:=hyl
    rw[List.getElem?_eq_getElem (by omega)] at q0 q1 q2 q3
    obtain⟨x0,e0,-,w0⟩:=DataW.trod_int Tryz.underlying5 q0
    obtain⟨x1,e1,-⟩:=DataW.trod_int Tryz.underlying40 q1
    obtain⟨x5,e5,-,w5⟩:=DataW.trod_int Tryz.underlying5 q3
    obtain⟨zs,n2,-,-,-,hzl,hg⟩:=DataW.trod_struct Tryz.underlying32 q2
    have g0:=hg 0 _ rfl
    have g1:=hg 1 _ rfl
    have g2:=hg 2 _ rfl
    have r0:DataW.trod enc Tryz.prog W 0 (fun _=>true) true n2 3 [v2]=zs[0]?:=g0
    have r1:DataW.trod enc Tryz.prog W 0 (fun _=>true) true n2 3 [v3]=zs[1]?:=g1
    have r2:DataW.trod enc Tryz.prog W 0 (fun _=>true) true n2 30 [v4]=zs[2]?:=g2
    have hzl:zs.length=3:=hzl
    rw[List.getElem?_eq_getElem (by omega)] at r0 r1 r2
    obtain⟨x2,e2,-⟩:=DataW.trod_int Tryz.underlying3 r0
    obtain⟨x3,e3,-⟩:=DataW.trod_int Tryz.underlying3 r1
    obtain⟨A,ln,c,l,e4,hA,hl1,hc1,hb1⟩:=open_bytes r2
    simp only[List.cons.injEq,and_true] at e0 e1 e2 e3 e4 e5
    have b0:0≤x0∧x0≤255:=by simpa[Lit.wf,IntKind.min,IntKind.max,IntKind.signed,IntKind.bits] using w0
    have b5:0≤x5∧x5≤255:=by simpa[Lit.wf,IntKind.min,IntKind.max,IntKind.signed,IntKind.bits] using w5
    obtain⟨j0,rfl⟩:=Int.eq_ofNat_of_zero_le b0.1
    obtain⟨j5,rfl⟩:=Int.eq_ofNat_of_zero_le b5.1
    exact⟨⟨j0,x1,x2,x3,A,ln,c,l,j5⟩,by rw[e0,e1,e2,e3,e4,e5],hA,hl1,hc1,hb1,by simp only;omega,by simp only;omega⟩
   have hcell: ∀i,i<m→(W.cell? ((⟨b,off,spot⟩:Addr).add (i*6))).isSome=true:=fun i hi2=>by
    obtain⟨cs',h1,x,rfl,-⟩:=each0 i hi2
    have:=h1 0 (by omega)
    rw[Nat.add_zero] at this
    rw[this];rfl
   have hc0:=hcell 0 (by omega)
   obtain⟨u0,hu0⟩:=Option.isSome_iff_exists.1 hc0
   have hspot:spot=none:=by simpa[Addr.add] using World.cell?_spot hu0
   subst hspot
   have hlt:b<W.heap.size:=by
    have:=World.block_lt_of_cell? W _ hu0
    simpa[Addr.add] using this
   have each: ∀i,i<m→ ∃x:OpR,OpAt W W.heap.size b off i x:=by
    intro i him
    obtain⟨cs',h1,x,rfl,p1,p2,p3,p4,p5,p6⟩:=each0 i him
    have g: ∀j,j<6→W.cell? ⟨b,off+i*6+j,none⟩=[Value.int .u8 (x.d:Int),.int .i64 x.e,.int .i64 x.kc,.int .i64 x.ki,.slice x.ai x.ni x.ci,.int .u8 (x.later:Int)][j]?:=fun j hj=>by
     have:=h1 j hj
     rwa [add_none,←Nat.add_assoc] at this
    exact⟨x,⟨g 0 (by omega),g 1 (by omega),g 2 (by omega),g 3 (by omega),g 4 (by omega),g 5 (by omega),p1,p2,p3,p4,p5,p6⟩⟩
   have:Inhabited OpR:=⟨⟨0,0,0,0,none,0,0,[],0⟩⟩
   obtain⟨y,hy⟩:=choose_lt each
   refine⟨some ⟨b,off,none⟩,len,m,(List.range len).map y,rfl,.inr ⟨b,off,rfl,hlt,fun k hk=>?_⟩,by simp,hl,by omega⟩
   simp only[List.getElem_map,List.getElem_range]
   exact hy k (by simp at hk;omega)
end Go.Proofs.YtfkgmbknfnhjoaaGreat
