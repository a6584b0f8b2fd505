/- A link's settings and a control, opened. -/
import Derived.Test.YtfkgmbknfnhjoaaGreatPT
import Derived.Test.YtfkgmbknfnhjoaaGreatZ1
namespace Go.Proofs.YtfkgmbknfnhjoaaGreat
set_option maxRecDepth 100000
set_option linter.unusedVariables false
set_option linter.unusedSimpArgs false
set_option linter.ambiguousOpen false
open Go.ChangeShapes Go.WideShapes Go.ChangeAt Go.RowKit Go.Joins Go.Deep
open Ne (wf64)
theorem wf_of {x:Int} (h:Lit.wf (.int .i64 x)=true):wf64 x:=by
 unfold wf64
 simpa[Lit.wf,IntKind.min,IntKind.max,IntKind.signed,IntKind.bits] using h
theorem open_lconf {H:Type} {enc:TypeId×Value→H} {W:World} {base:Nat} {v:Value} {d:DataW H} {p:List MemPlace} (o:Value.okWide Tryz.prog W .any base 64 v) (h:DataW.Trod enc Tryz.prog W 0 (fun _=>true) true 64 v d p):
  ∃(mr mc mt mf wt ec lo:Int),v=.agg #[.int .i64 mr,.int .i64 mc,.int .i64 mt,.int .i64 mf,.int .i64 wt,.int .i64 ec,.int .i64 lo]:=by
 obtain⟨cs,n,rfl,hs,hf⟩:=open_fields Tryz.underlying64 (by kernel_rfl) (by kernel_rfl) o h
 obtain⟨v0,y0,g0,t0⟩:=hf 0 _ rfl
 obtain⟨v1,y1,g1,t1⟩:=hf 1 _ rfl
 obtain⟨v2,y2,g2,t2⟩:=hf 2 _ rfl
 obtain⟨v3,y3,g3,t3⟩:=hf 3 _ rfl
 obtain⟨v4,y4,g4,t4⟩:=hf 4 _ rfl
 obtain⟨v5,y5,g5,t5⟩:=hf 5 _ rfl
 obtain⟨v6,y6,g6,t6⟩:=hf 6 _ rfl
 obtain⟨x0,e0,-⟩:=DataW.trod_int Tryz.underlying3 t0
 obtain⟨x1,e1,-⟩:=DataW.trod_int Tryz.underlying3 t1
 obtain⟨x2,e2,-⟩:=DataW.trod_int Tryz.underlying3 t2
 obtain⟨x3,e3,-⟩:=DataW.trod_int Tryz.underlying3 t3
 obtain⟨x4,e4,-⟩:=DataW.trod_int Tryz.underlying3 t4
 obtain⟨x5,e5,-⟩:=DataW.trod_int Tryz.underlying3 t5
 obtain⟨x6,e6,-⟩:=DataW.trod_int Tryz.underlying3 t6
 simp only[List.cons.injEq,and_true] at e0 e1 e2 e3 e4 e5 e6
 subst e0 e1 e2 e3 e4 e5 e6
 exact⟨x0,x1,x2,x3,x4,x5,x6,by rw[arr7 hs g0 g1 g2 g3 g4 g5 g6]⟩
theorem open_ipcp {H:Type} {enc:TypeId×Value→H} {W:World} {base:Nat} {v:Value} {d:DataW H} {p:List MemPlace} (o:Value.okWide Tryz.prog W .any base 60 v) (h:DataW.Trod enc Tryz.prog W 0 (fun _=>true) true 60 v d p):
  ∃(st id req:Int) (A:Option Addr) (n c:Nat) (E:List Ent) (cnt tim nak own peer:Int),v=.agg #[.int .i64 st,.int .i64 id,.int .i64 req,.slice A n c,.int .i64 cnt,.int .i64 tim,.int .i64 nak,.int .i64 own,.int .i64 peer]∧OptsAt W W.heap.size A E∧n=E.length∧n≤c∧(n:Int)≤9223372036854775807∧(∀e∈E,(e.d.length:Int)≤9223372036854775807)∧wf64 own∧wf64 peer:=by
 obtain⟨cs,rfl,hsz⟩:=okWide_struct Tryz.underlying60 o
 obtain⟨fuel,hf⟩:=h
 obtain⟨ys,n',hn',hy,hlen,hyl,hff⟩:=DataW.trod_struct Tryz.underlying60 hf
 have hC:Tryz.prog.cellsOf 60=9:=by kernel_rfl
 rw[hC] at hsz
 obtain⟨l⟩:=cs
 have h9:l.length=9:=hsz
 obtain⟨v0,v1,v2,v3,v4,v5,v6,v7,v8,rfl⟩: ∃v0 v1 v2 v3 v4 v5 v6 v7 v8,l=[v0,v1,v2,v3,v4,v5,v6,v7,v8]:=by
  match l,h9 with
  |[v0,v1,v2,v3,v4,v5,v6,v7,v8],_=>exact⟨v0,v1,v2,v3,v4,v5,v6,v7,v8,rfl⟩
 have f0:=hff 0 _ rfl
 have f1:=hff 1 _ rfl
 have f2:=hff 2 _ rfl
 have q0:DataW.trod enc Tryz.prog W 0 (fun _=>true) true n' 29 [v0,v1,v2,v3,v4,v5,v6]=ys[0]?:=f0
 have q1:DataW.trod enc Tryz.prog W 0 (fun _=>true) true n' 3 [v7]=ys[1]?:=f1
 have q2:DataW.trod enc Tryz.prog W 0 (fun _=>true) true n' 3 [v8]=ys[2]?:=f2
 have hyl:ys.length=3:=hyl
 rw[List.getElem?_eq_getElem (by omega)] at q0 q1 q2
 obtain⟨x7,e7,-,w7⟩:=DataW.trod_int Tryz.underlying3 q1
 obtain⟨x8,e8,-,w8⟩:=DataW.trod_int Tryz.underlying3 q2
 obtain⟨zs,n2,-,-,-,hzl,hg⟩:=DataW.trod_struct Tryz.underlying29 q0
 have g0:=hg 0 _ rfl
 have g1:=hg 1 _ rfl
 have g2:=hg 2 _ rfl
 have g3:=hg 3 _ rfl
 have g4:=hg 4 _ rfl
 have g5:=hg 5 _ rfl
 have g6:=hg 6 _ rfl
 have r0:DataW.trod enc Tryz.prog W 0 (fun _=>true) true n2 27 [v0]=zs[0]?:=g0
 have r1:DataW.trod enc Tryz.prog W 0 (fun _=>true) true n2 3 [v1]=zs[1]?:=g1
 have r2:DataW.trod enc Tryz.prog W 0 (fun _=>true) true n2 3 [v2]=zs[2]?:=g2
 have r3:DataW.trod enc Tryz.prog W 0 (fun _=>true) true n2 25 [v3]=zs[3]?:=g3
 have r4:DataW.trod enc Tryz.prog W 0 (fun _=>true) true n2 3 [v4]=zs[4]?:=g4
 have r5:DataW.trod enc Tryz.prog W 0 (fun _=>true) true n2 3 [v5]=zs[5]?:=g5
 have r6:DataW.trod enc Tryz.prog W 0 (fun _=>true) true n2 3 [v6]=zs[6]?:=g6
 have hzl:zs.length=7:=hzl
 rw[List.getElem?_eq_getElem (by omega)] at r0 r1 r2 r3 r4 r5 r6
 obtain⟨x0,e0,-⟩:=DataW.trod_int Tryz.underlying27 r0
 obtain⟨x1,e1,-⟩:=DataW.trod_int Tryz.underlying3 r1
 obtain⟨x2,e2,-⟩:=DataW.trod_int Tryz.underlying3 r2
 obtain⟨A,n,c,E,e3,hE,hn,hc,hl,hd⟩:=open_opts_in r3
 obtain⟨x4,e4,-⟩:=DataW.trod_int Tryz.underlying3 r4
 obtain⟨x5,e5,-⟩:=DataW.trod_int Tryz.underlying3 r5
 obtain⟨x6,e6,-⟩:=DataW.trod_int Tryz.underlying3 r6
 simp only[List.cons.injEq,and_true] at e0 e1 e2 e3 e4 e5 e6 e7 e8
 exact⟨x0,x1,x2,A,n,c,E,x4,x5,x6,x7,x8,by rw[e0,e1,e2,e3,e4,e5,e6,e7,e8],hE,hn,hc,hl,hd,wf_of w7,wf_of w8⟩
end Go.Proofs.YtfkgmbknfnhjoaaGreat
