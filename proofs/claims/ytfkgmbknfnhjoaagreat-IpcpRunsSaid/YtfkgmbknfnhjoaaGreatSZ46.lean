/- Z10 Z46 -/
import Derived.Test.YtfkgmbknfnhjoaaGreatSZ9
import Derived.Test.YtfkgmbknfnhjoaaGreatSZ6
import Derived.Test.YtfkgmbknfnhjoaaGreatSPT
import Derived.Test.YtfkgmbknfnhjoaaGreatSQ46
set_option linter.all false
set_option linter.ambiguousOpen false
set_option maxHeartbeats 8000000
namespace Go.Proofs.YtfkgmbknfnhjoaaGreat
open Lib (hid)
open Go.RowKit
open Ne (Rl bF aD bM dJ)
open Fs (av hasB)
theorem KW:b_ 3 2 4 5 ⟨6,1,1,fH 1,2,5,0⟩ 1 2 ⟨1,9,[3,6,0,0,0,0]⟩ 1=(⟨6,1,1,fH 1,2,5,1⟩,[⟨3,9,[3,6,0,0,0,2]⟩],Fs.aT 8 6):=by kernel_rfl
theorem D9 {W:World} {b:Nat} {A:Option Addr} {n c:Nat} {p:Pk} (h:dP W b (.slice A n c) [p]):n=1∧ ∃(g o:Nat) (a:Option Addr) (k:Nat),A=some ⟨g,o,none⟩∧g<W.heap.size∧W.cell? ⟨g,o,none⟩=some (.int .i64 p.code)∧W.cell? ⟨g,o+1,none⟩=some (.int .i64 p.id)∧W.cell? ⟨g,o+2,none⟩=some (.slice a p.data.length k)∧At W W.heap.size a (p.data.map bv)∧p.data.length≤k:=by
 obtain⟨Q,hQ,hq⟩:=h
 obtain⟨A',c',hv,hc,-⟩:=ownsRow_form hQ.1
 cases hv
 match Q,hq,hQ with
 |[e],hq,hQ=>
  simp only[List.map_cons,List.map_nil,List.cons.injEq,and_true] at hq
  subst hq
  obtain⟨g,o,rfl,hg,x0,x1,x2⟩:=hQ.at.get (k:=0) (by simp)
  simp only[List.getElem_cons_zero,Nat.zero_mul,Nat.add_zero] at x0 x1 x2
  have h2:=hQ.2 e (List.mem_singleton.2 rfl)
  obtain⟨A2,c2,hv2,hc2,-⟩:=ownsRow_form h2
  unfold Pe.v at h2 hv2 x2
  cases hv2
  exact⟨rfl,g,o,_,_,rfl,hg,x0,x1,x2,At.bq h2,hc2⟩
theorem EM {w:World} {cs:Array Value} {X:Nat} {T:TypeId} {l:List Value} {B:Nat} (h:w.heap[X]? =some (.cells cs T (0,0))) (hl:cs.toList=l) (hB:X<B):At w B (some ⟨X,0,none⟩) l:=by
 subst hl
 refine .inr ⟨X,0,rfl,hB,fun j u hu=>?_⟩
 rw[Nat.zero_add,cell_of_row w X j cs T (0,0) h]
 simpa using hu
theorem dL {w w':World} {X:Nat} {o:Obj} (h:w.grownBy w' (some X)) (hs:w'.heap.size=w.heap.size):(w.alloc o).grownBy (w'.alloc o) (some X):=
 ⟨h.os,h.tape,h.output,by simp[hs],fun k hk hne=>by
  have hk2:k<w.heap.size+1:=by simpa using hk
  by_cases hkk:k=w.heap.size
  ·rw[aF w' o k (by omega),aF w o k hkk]
  ·rw[aC w' o k (by omega),aC w o k (by omega)]
   exact h.block k (by omega) hne⟩
theorem Ca (st id req cnt ay au own peer:Int) (v:Value) (w:World):Calls Tryz.prog 32 #[.agg #[.int .i64 st,.int .i64 id,.int .i64 req,v,.int .i64 cnt,.int .i64 ay,.int .i64 au,.int .i64 own,.int .i64 peer]] w fun x w'=>x=.returned (.bool (st==9))∧Below w.heap.size w w':=by
 cases h:(st==9)
 all_goals
  go_enter Tryz.func32,Tryz.ntmps32
  go_wp2_with fail
  go_ret
  exact⟨rfl,by exact aA⟩
set_option maxRecDepth 100000 in
theorem nH (w:World):Calls Tryz.prog 26 #[] w fun x w'=>x=.returned (.bool true)∧Below w.heap.size w w':=by
 have XB:=hid KW
 go_enter Tryz.func26,Tryz.ntmps26
 go_wp2_with fail
 refine(Ae _).mono ?_
 rintro x W1 ⟨rfl,hb1⟩
 go_wp2_with fail
 refine(UR 1 2 W1 rfl rfl).mono ?_
 unfold UpP
 rintro x W2 ⟨va,vo,rfl,hb2,ho,hp⟩
 obtain⟨A2,n2,c2,rfl⟩:=ho.form'
 obtain⟨A3,n3,c3,rfl⟩:=hp.form'
 unfold iH JU
 dsimp only
 have hs1:=hb1.size
 have hb:=hb1.trans (hb2.mono hs1)
 have hs2:=hb.size
 go_upto_region 2 with(fail)
 obtain⟨T,hT⟩: ∃T,T=W2.heap.size:=⟨_,rfl⟩
 rw[←hT]
 refine bY (fun W=>W.heap[T]? =some (.cells #[.int .i64 6,.int .i64 1,.int .i64 1,.slice A2 n2 c2,.int .i64 2,.int .i64 5,.int .i64 0,.int .i64 1,.int .i64 2] 60 (0,0))∧Below w.heap.size w W∧bA W W1.heap.size (.slice A2 n2 c2) (fH 1)∧dP W W1.heap.size (.slice A3 n3 c3) [⟨1,1,[3,6,0,0,0,1]⟩]) ⟨by rw[hT];exact heap_alloc_new _ _,by exact Below.alloc hb hs2 _,by exact ho.vW ((Below.refl _ _).alloc (aaE _) _),by exact hp.vW ((Below.refl _ _).alloc (aaE _) _)⟩ ?_
 clear hT hb1 hb2 hb ho hp hs1 hs2
 rintro W3 ⟨ht,hb,ho,hp⟩
 have HB3:=hid hb
 have fD:=hid hp
 have hs3:=hb.size
 have lT:=aj ht
 obtain⟨E,hE,hn,hcc,he⟩:=ho.opened
 have HE:=hid hE
 have HN:=hid hn
 have HEE:=hid he
 have jB:=hid (qZ he)
 have hn1:n2≤1000000:=by have:=jB.out.1;have:=HN.out;omega
 obtain⟨t0,t1,t2,t3,t4,t5,t6,t7,t8⟩:=aL ht
 clear ht hb ho hp hE hn hcc he
 go_cut [4,5,6] (fun s4 s5 s6 wx=> ∃(P:Nat) (A4 A5 A6:Option Addr) (n4 c4 n5 c5 n6 c6:Nat) (W:World),W=wx∧s4=.pointer (some ⟨P,0,none⟩)∧s5=.slice A5 n5 c5∧s6=.slice A6 n6 c6∧W.heap[P]? =some (.cells #[.int .i64 6,.int .i64 1,.int .i64 1,.slice A4 n4 c4,.int .i64 2,.int .i64 5,.int .i64 1,.int .i64 1,.int .i64 2] 60 (0,0))∧(∃base,dP W base (.slice A5 n5 c5) [⟨3,9,[3,6,0,0,0,2]⟩])∧Below W3.heap.size W3 W)
 case first=>
  have zq:=hid (show∀w':World,Below W3.heap.size W3 w'→(w'.cell? ⟨T,0,none⟩=some (.int .i64 6)∧w'.cell? ⟨T,1,none⟩=some (.int .i64 1)∧w'.cell? ⟨T,2,none⟩=some (.int .i64 1)∧w'.cell? ⟨T,3,none⟩=some (.slice A2 n2 c2)∧w'.cell? ⟨T,4,none⟩=some (.int .i64 2)∧w'.cell? ⟨T,5,none⟩=some (.int .i64 5)∧w'.cell? ⟨T,6,none⟩=some (.int .i64 0)∧w'.cell? ⟨T,7,none⟩=some (.int .i64 1)∧w'.cell? ⟨T,8,none⟩=some (.int .i64 2)) from fun w' hb=>⟨(hb.cell (p:=⟨T,_,none⟩) lT).trans t0,(hb.cell (p:=⟨T,_,none⟩) lT).trans t1,(hb.cell (p:=⟨T,_,none⟩) lT).trans t2,(hb.cell (p:=⟨T,_,none⟩) lT).trans t3,(hb.cell (p:=⟨T,_,none⟩) lT).trans t4,(hb.cell (p:=⟨T,_,none⟩) lT).trans t5,(hb.cell (p:=⟨T,_,none⟩) lT).trans t6,(hb.cell (p:=⟨T,_,none⟩) lT).trans t7,(hb.cell (p:=⟨T,_,none⟩) lT).trans t8⟩)
  go_region_held3 (fun w'=>w'.cell? ⟨T,0,none⟩=some (.int .i64 6)∧w'.cell? ⟨T,1,none⟩=some (.int .i64 1)∧w'.cell? ⟨T,2,none⟩=some (.int .i64 1)∧w'.cell? ⟨T,3,none⟩=some (.slice A2 n2 c2)∧w'.cell? ⟨T,4,none⟩=some (.int .i64 2)∧w'.cell? ⟨T,5,none⟩=some (.int .i64 5)∧w'.cell? ⟨T,6,none⟩=some (.int .i64 0)∧w'.cell? ⟨T,7,none⟩=some (.int .i64 1)∧w'.cell? ⟨T,8,none⟩=some (.int .i64 2)) (exact zq.out _ (by exact aA)) (first|((go_at_call 28;go_must (refine(Ae _).mono ?_);rintro e w5 ⟨rfl,hb5⟩;obtain⟨U3,d5,rfl⟩:=aB hb5;clear hb5))|((go_at_call 30;go_must (refine(rJ 1492 3 2 4 5 0 1 6 1 1 2 5 0 1 2 A2 n2 c2 1 _ 6 6 1 9 [3,6,0,0,0,0] E (fH 1) HEE.out _ _ (aaE _) (by exact(HE.out.keep (by exact aA)).more (by first|(simp[size_ext,grow];done)|(simp[size_ext,grow];omega))) HN.out hn1 (fun e he=>by have:=jB.out.2 e he;omega) (by unfold dJ;omega) (by exact EM (by exact hpa) rfl (by first|(simp[size_ext,grow];done)|(simp[size_ext,grow];omega))) rfl (aaE _) (by omega)).mono ?_);rw[XB.out];unfold lg iH;(try dsimp only);rintro e w6 ⟨va6,vo6,vd6,rfl,hb6,hO,hP,hA⟩;obtain⟨A4,n4,c4,rfl⟩:=hO.form';obtain⟨A5,n5,c5,rfl⟩:=hP.form';obtain⟨A6,n6,c6,rfl⟩:=hA.form';obtain⟨Xq,d6,rfl⟩:=aB hb6;have wN:=hid hP;clear hb6 hO hA hP)))
  all_goals
   go_wp2_with fail
   go_meet
   refine⟨_,A4,A5,A6,n4,c4,n5,c5,n6,c6,_,rfl,rfl,rfl,rfl,?_,?_,by exact aA⟩
   ·repeat(first|(with_reducible refine aF _ _ _ ?_;((first|(simp[size_ext,grow];done)|(simp[size_ext,grow];omega))))|(with_reducible refine(aO _ _ _ _ ?_).trans ?_;(focus ((first|(simp[size_ext,grow];done)|(simp[size_ext,grow];omega)))))|(with_reducible refine(aC _ _ _ ?_).trans ?_;(focus ((first|(simp[size_ext,grow];done)|(simp[size_ext,grow];omega))))))
   ·have h5:=wN.out
    first
     |exact⟨_,h5.vW (Below.alloc (Below.refl _ _) (aaE _) _)⟩
     |(apply Exists.intro;refine dP.stays (X:=?_) h5 ?_ ?_;rotate_left;(repeat(first|with_reducible exact dS _ _ _|with_reducible refine bJ ?_ (by simp[size_ext,grow])|with_reducible refine dL ?_ (by simp[size_ext,grow])));all_goals(try (first|(simp[size_ext,grow];done)|(simp[size_ext,grow];omega)|omega)))
 case rest=>
  obtain⟨P,A4,A5,A6,n4,c4,n5,c5,n6,c6,W4,rfl,rfl,rfl,rfl,hr,hp,hb⟩:=hcut
  obtain⟨base,hp⟩:=hp
  obtain⟨rfl,g1,o1,a1,k1,rfl,hg1,x0,x1,x2,hx,hk1⟩:=D9 (fD.out.vW hb)
  obtain⟨rfl,g2,o2,a2,k2,rfl,hg2,y0,y1,y2,hy,hk2⟩:=D9 hp
  have fu:=hid (HB3.out.trans (hb.mono hs3))
  obtain⟨p0,p1,p2,p3,p4,p5,p6,p7,p8⟩:=aL hr
  have lP:=aj hr
  have q1:(convert 30 9 (.slice a1 6 k1)).run Tryz.prog W4=.ok (.string ⟨([3,6,0,0,0,1]:List UInt8).toArray⟩) W4:=gM Tryz.underlying30 Tryz.underlying5 Tryz.underlying9 (l:=[3,6,0,0,0,1]) rfl hx
  have q2:(convert 30 9 (.slice a2 6 k2)).run Tryz.prog W4=.ok (.string ⟨([3,6,0,0,0,2]:List UInt8).toArray⟩) W4:=gM Tryz.underlying30 Tryz.underlying5 Tryz.underlying9 (l:=[3,6,0,0,0,2]) rfl hy
  simp only[List.length_cons,List.length_nil,Nat.zero_add,Nat.reduceAdd] at x2 y2
  clear hr hp hb hx hy
  go_wp2_with (first|((go_at_call 32;go_must (refine(Ca _ _ _ _ _ _ _ _ _ _).mono ?_);rintro e w5 ⟨rfl,hb5⟩;obtain⟨U3,d5,rfl⟩:=aB hb5;clear hb5)))
  go_ret
  exact⟨rfl,by have h4:=fu.out;have hs4:=h4.size;exact aA⟩
end Go.Proofs.YtfkgmbknfnhjoaaGreat

namespace Go.Proofs.YtfkgmbknfnhjoaaGreat
set_option maxRecDepth 100000
open Go.ChangeShapes Go.WideShapes Go.ChangeAt Go.RowKit Go.Joins Go.Deep
open Ne (dJ)
theorem JW {x:Int} (h:Lit.wf (.int .i64 x)=true):dJ x:=by
 unfold dJ
 simpa[Lit.wf,IntKind.min,IntKind.max,IntKind.signed,IntKind.bits] using h
theorem vw {H:Type} {enc:TypeId×Value→H} {W:World} {base:Nat} {v:Value} {d:DataW H} {p:List MemPlace} (o:Value.okWide Tryz.prog W .any base 64 v) (h:DataW.Trod enc Tryz.prog W 0 (fun _=>true) true 64 v d p):
  ∃(mr mc mt mf wt ec lo:Int),v=.agg #[.int .i64 mr,.int .i64 mc,.int .i64 mt,.int .i64 mf,.int .i64 wt,.int .i64 ec,.int .i64 lo]:=by
 obtain⟨cs,n,rfl,hs,hf⟩:=AQ Tryz.underlying64 (by kernel_rfl) (by kernel_rfl) o h
 obtain⟨v0,y0,g0,t0⟩:=hf 0 _ rfl
 obtain⟨v1,y1,g1,t1⟩:=hf 1 _ rfl
 obtain⟨v2,y2,g2,t2⟩:=hf 2 _ rfl
 obtain⟨v3,y3,g3,t3⟩:=hf 3 _ rfl
 obtain⟨v4,y4,g4,t4⟩:=hf 4 _ rfl
 obtain⟨v5,y5,g5,t5⟩:=hf 5 _ rfl
 obtain⟨v6,y6,g6,t6⟩:=hf 6 _ rfl
 obtain⟨x0,e0,-⟩:=DataW.trod_int Tryz.underlying3 t0
 obtain⟨x1,e1,-⟩:=DataW.trod_int Tryz.underlying3 t1
 obtain⟨x2,e2,-⟩:=DataW.trod_int Tryz.underlying3 t2
 obtain⟨x3,e3,-⟩:=DataW.trod_int Tryz.underlying3 t3
 obtain⟨x4,e4,-⟩:=DataW.trod_int Tryz.underlying3 t4
 obtain⟨x5,e5,-⟩:=DataW.trod_int Tryz.underlying3 t5
 obtain⟨x6,e6,-⟩:=DataW.trod_int Tryz.underlying3 t6
 simp only[List.cons.injEq,and_true] at e0 e1 e2 e3 e4 e5 e6
 subst e0 e1 e2 e3 e4 e5 e6
 exact⟨x0,x1,x2,x3,x4,x5,x6,by rw[YU hs g0 g1 g2 g3 g4 g5 g6]⟩
theorem FK {H:Type} {enc:TypeId×Value→H} {W:World} {base:Nat} {v:Value} {d:DataW H} {p:List MemPlace} (o:Value.okWide Tryz.prog W .any base 60 v) (h:DataW.Trod enc Tryz.prog W 0 (fun _=>true) true 60 v d p):
  ∃(st id req:Int) (A:Option Addr) (n c:Nat) (E:List aH) (cnt ay au own peer:Int),v=.agg #[.int .i64 st,.int .i64 id,.int .i64 req,.slice A n c,.int .i64 cnt,.int .i64 ay,.int .i64 au,.int .i64 own,.int .i64 peer]∧aJ W W.heap.size A E∧n=E.length∧n≤c∧(n:Int)≤9223372036854775807∧(∀e∈E,(e.d.length:Int)≤9223372036854775807)∧dJ own∧dJ peer:=by
 obtain⟨cs,rfl,hsz⟩:=okWide_struct Tryz.underlying60 o
 obtain⟨fuel,hf⟩:=h
 obtain⟨ys,n',hn',hy,hlen,hyl,J8⟩:=DataW.trod_struct Tryz.underlying60 hf
 have hC:Tryz.prog.cellsOf 60=9:=by kernel_rfl
 rw[hC] at hsz
 obtain⟨l⟩:=cs
 have h9:l.length=9:=hsz
 obtain⟨v0,v1,v2,v3,v4,v5,v6,v7,v8,rfl⟩: ∃v0 v1 v2 v3 v4 v5 v6 v7 v8,l=[v0,v1,v2,v3,v4,v5,v6,v7,v8]:=by
  match l,h9 with
  |[v0,v1,v2,v3,v4,v5,v6,v7,v8],_=>exact⟨v0,v1,v2,v3,v4,v5,v6,v7,v8,rfl⟩
 have f0:=J8 0 _ rfl
 have f1:=J8 1 _ rfl
 have f2:=J8 2 _ rfl
 have q0:DataW.trod enc Tryz.prog W 0 (fun _=>true) true n' 29 [v0,v1,v2,v3,v4,v5,v6]=ys[0]?:=f0
 have q1:DataW.trod enc Tryz.prog W 0 (fun _=>true) true n' 3 [v7]=ys[1]?:=f1
 have q2:DataW.trod enc Tryz.prog W 0 (fun _=>true) true n' 3 [v8]=ys[2]?:=f2
 have hyl:ys.length=3:=hyl
 rw[List.getElem?_eq_getElem (by omega)] at q0 q1 q2
 obtain⟨x7,e7,-,w7⟩:=DataW.trod_int Tryz.underlying3 q1
 obtain⟨x8,e8,-,w8⟩:=DataW.trod_int Tryz.underlying3 q2
 obtain⟨zs,n2,-,-,-,hzl,hg⟩:=DataW.trod_struct Tryz.underlying29 q0
 have g0:=hg 0 _ rfl
 have g1:=hg 1 _ rfl
 have g2:=hg 2 _ rfl
 have g3:=hg 3 _ rfl
 have g4:=hg 4 _ rfl
 have g5:=hg 5 _ rfl
 have g6:=hg 6 _ rfl
 have r0:DataW.trod enc Tryz.prog W 0 (fun _=>true) true n2 27 [v0]=zs[0]?:=g0
 have r1:DataW.trod enc Tryz.prog W 0 (fun _=>true) true n2 3 [v1]=zs[1]?:=g1
 have r2:DataW.trod enc Tryz.prog W 0 (fun _=>true) true n2 3 [v2]=zs[2]?:=g2
 have r3:DataW.trod enc Tryz.prog W 0 (fun _=>true) true n2 25 [v3]=zs[3]?:=g3
 have r4:DataW.trod enc Tryz.prog W 0 (fun _=>true) true n2 3 [v4]=zs[4]?:=g4
 have r5:DataW.trod enc Tryz.prog W 0 (fun _=>true) true n2 3 [v5]=zs[5]?:=g5
 have r6:DataW.trod enc Tryz.prog W 0 (fun _=>true) true n2 3 [v6]=zs[6]?:=g6
 have hzl:zs.length=7:=hzl
 rw[List.getElem?_eq_getElem (by omega)] at r0 r1 r2 r3 r4 r5 r6
 obtain⟨x0,e0,-⟩:=DataW.trod_int Tryz.underlying27 r0
 obtain⟨x1,e1,-⟩:=DataW.trod_int Tryz.underlying3 r1
 obtain⟨x2,e2,-⟩:=DataW.trod_int Tryz.underlying3 r2
 obtain⟨A,n,c,E,e3,hE,hn,hc,hl,hd⟩:=yP r3
 obtain⟨x4,e4,-⟩:=DataW.trod_int Tryz.underlying3 r4
 obtain⟨x5,e5,-⟩:=DataW.trod_int Tryz.underlying3 r5
 obtain⟨x6,e6,-⟩:=DataW.trod_int Tryz.underlying3 r6
 simp only[List.cons.injEq,and_true] at e0 e1 e2 e3 e4 e5 e6 e7 e8
 exact⟨x0,x1,x2,A,n,c,E,x4,x5,x6,x7,x8,by rw[e0,e1,e2,e3,e4,e5,e6,e7,e8],hE,hn,hc,hl,hd,JW w7,JW w8⟩
end Go.Proofs.YtfkgmbknfnhjoaaGreat
