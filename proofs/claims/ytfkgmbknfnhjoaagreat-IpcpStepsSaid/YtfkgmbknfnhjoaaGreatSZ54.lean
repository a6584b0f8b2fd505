/- Z52 Z54 -/
import Derived.Test.YtfkgmbknfnhjoaaGreatSZ50
import Derived.Test.YtfkgmbknfnhjoaaGreatSZ46
set_option linter.all false
set_option linter.ambiguousOpen false
set_option maxHeartbeats 16000000
namespace Go.Proofs.YtfkgmbknfnhjoaaGreat
open Lib (hid)
open Go.RowKit
open Ne (Rl bF aD bM dJ)
set_option maxRecDepth 100000 in
theorem uZ (mr mc mt mf wt ec lo st id req cnt ay au own peer:Int) (Aa:Option Addr) (na ca:Nat) (E:List aH) (d later:Nat) (e kc ki:Int) (Ai:Option Addr) (ni ci:Nat) (li:List UInt8) (tick:Int) (w:World) (hE:aJ w w.heap.size Aa E) (hna:na=E.length) (hla:(na:Int)≤9223372036854775807) (hda: ∀e∈E,(e.d.length:Int)≤9223372036854775807) (hp:dJ peer) (hd:d<256) (hI:At w w.heap.size Ai (li.map bv)) (hni:ni=li.length) (hci:ni≤ci) (iF:(ni:Int)≤9223372036854775807):
  Calls Tryz.prog 7 #[.agg #[.int .i64 mr,.int .i64 mc,.int .i64 mt,.int .i64 mf,.int .i64 wt,.int .i64 ec,.int .i64 lo],.agg #[.int .i64 st,.int .i64 id,.int .i64 req,.slice Aa na ca,.int .i64 cnt,.int .i64 ay,.int .i64 au,.int .i64 own,.int .i64 peer],.agg #[.int .u8 (d:Int),.int .i64 e,.int .i64 kc,.int .i64 ki,.slice Ai ni ci,.int .u8 (later:Int)],.int .i64 tick] w fun x w'=>x=.returned (.bool true)∧Below w.heap.size w w':=by
 have HE:=hid hE
 have dz:=hid hna
 have jr:=hid hda
 have HP:=hid hp
 have HI:=hid hI
 have gy:=hid hni
 clear hE hna hda hp hI hni
 go_enter Tryz.func7,Tryz.ntmps7
 go_upto_region 1 with(fail)
 refine bY (fun W=>W.heap[w.heap.size]? =some (.cells #[.int .i64 mr,.int .i64 mc,.int .i64 mt,.int .i64 mf,.int .i64 wt,.int .i64 ec,.int .i64 lo] 64 (0,0))∧W.heap[w.heap.size+1]? =some (.cells #[.int .i64 st,.int .i64 id,.int .i64 req,.slice Aa na ca,.int .i64 cnt,.int .i64 ay,.int .i64 au,.int .i64 own,.int .i64 peer] 60 (0,0))∧W.heap[w.heap.size+1+1]? =some (.cells #[.int .u8 (d:Int),.int .i64 e,.int .i64 kc,.int .i64 ki,.slice Ai ni ci,.int .u8 (later:Int)] 79 (0,0))∧Below w.heap.size w W) ⟨by exact hpa,by exact hpa,by exact hpa,by exact aA⟩ ?_
 rintro W1 ⟨hc,hn,ho,hb⟩
 have zi:=hid hc
 have lD:=hid hn
 have ql:=hid ho
 have HB1:=hid hb
 have hs1:=hb.size
 have lo1:=aj ho
 obtain⟨n0,n1,Xe,n3,n4,n5,n6,n7,n8⟩:=aL hn
 clear hc hn ho hb
 go_wp2_with fail
 refine(sG Aa none na ca 0 0 st id req cnt ay au own peer 0 0 E W1 w.heap.size hs1 (HE.out.keep HB1.out) dz.out hla jr.out (aaE _) (by omega)).mono ?_
 rw[show min 0 1500=0 from rfl]
 unfold uo
 rintro x W2 ⟨A2,m2,c2,rfl,hb,hown,hm2⟩
 have xR:=hid ((hb.block _ (by omega)).trans zi.out)
 have iA:=hid ((hb.block _ (by omega)).trans lD.out)
 have j_:=hid ((hb.block _ lo1).trans ql.out)
 have HB2:=hid (HB1.out.trans (hb.mono hs1))
 have HW2:=hid hown
 have Et:=hid hm2
 have hs2:=HB2.out.size
 have lo2:=aj j_.out
 clear hb hown hm2 n0 n1 Xe n3 n4 n5 n6 n7 n8
 have Iw:=iA.out
 obtain⟨n0,n1,Xe,n3,n4,n5,n6,n7,n8⟩:=aL Iw
 have fn:=frees Iw
 clear Iw
 go_upto_region 2 with(fail)
 generalize hWs:World.setCell _ _ _=W3
 have hst:lX W2 (w.heap.size+1) ⟨st,id,req,[],cnt,ay,au⟩ (.slice A2 m2 c2) own peer=W3:=hWs
 have hg:=kX W2 (w.heap.size+1) ⟨st,id,req,[],cnt,ay,au⟩ (.slice A2 m2 c2) own peer
 have hr:=oD iA.out rfl ⟨st,id,req,[],cnt,ay,au⟩ (.slice A2 m2 c2) own peer
 rw[hst] at hg hr
 clear hst hWs n0 n1 Xe n3 n4 n5 n6 n7 n8 fn
 have hc3:=(hg.block _ (by omega) (fun e=>by have:=Option.some.inj e;omega)).trans xR.out
 have ho3:=(hg.block _ lo2 (fun e=>by have:=Option.some.inj e;omega)).trans j_.out
 have ji:W3.heap[w.heap.size+1]? =some (.cells #[.int .i64 st,.int .i64 id,.int .i64 req,.slice A2 m2 c2,.int .i64 cnt,.int .i64 ay,.int .i64 au,.int .i64 own,.int .i64 peer] 60 (0,0)):=hr
 have HB3:=hid (Below.grown HB2.out hg hs2 (fun k hk=>by have:=Option.some.inj hk;omega))
 have hs3:=HB3.out.size
 have hown3:=dx HW2.out (fun k hk=>hg.block k (eY HW2.out hk) (fun e=>by have h1:=Option.some.inj e;have:=eu HW2.out hk;omega))
 have qj:=hid (ML HE.out (aaE _) HB3.out hown3)
 have h70:m2≤70:=by have:=IJ E;have:=Et.out;omega
 have HD3:=hid (Fv E)
 have hmc:m2≤c2:=by
  obtain⟨A',c',hv,hcc,-⟩:=ownsRow_form HW2.out
  cases hv
  exact hcc
 obtain⟨c0,c1,c2',c3,c4,c5,c6⟩:=aG hc3
 obtain⟨n0,n1,Xe,n3,n4,n5,n6,n7,n8⟩:=aL ji
 obtain⟨o0,o1,o2,o3,o4,o5⟩:=kR ho3
 clear hg hr hown3 HW2 xR iA j_ HB2 hs2 hc3 ho3 ji
 generalize mZ E=F at qj Et HD3
 obtain⟨L,hL⟩: ∃L,F.map aH.o=L:=⟨_,rfl⟩
 have HL:=hid hL
 clear hL
 go_wp2_with fail
 refine(Ah mr mc mt mf wt ec lo st id req cnt ay au own peer A2 m2 c2 d later e kc ki Ai ni ci li tick F L HL.out W3 W3.heap.size (aaE _) qj.out Et.out hmc (by omega) (fun e he=>by have:=HD3.out e he;omega) HP.out hd ((HI.out.keep HB3.out).more hs3) gy.out hci iF).mono ?_
 unfold Gx iH
 rintro x W4 ⟨va,vo,rfl,hb,ho,hp⟩
 obtain⟨A4,m4,k4,rfl⟩:=ho.form'
 obtain⟨A5,m5,k5,rfl⟩:=hp.form'
 clear ho hp
 have fu:=hid (HB3.out.trans (hb.mono hs3))
 have hs4:=fu.out.size
 clear hb c0 c1 c2' c3 c4 c5 c6 n0 n1 Xe n3 n4 n5 n6 n7 n8 o0 o1 o2 o3 o4 o5
 go_wp2_with fail
 refine(nH _).mono ?_
 rintro x W5 ⟨rfl,hb⟩
 have dO:=hid (fu.out.trans ((((Below.refl _ _).alloc (aaE _) _).trans (hb.mono (by simp))).mono hs4))
 clear hb
 go_wp2_with fail
 go_ret
 exact⟨rfl,dO.out⟩
end Go.Proofs.YtfkgmbknfnhjoaaGreat

namespace Go.Proofs.YtfkgmbknfnhjoaaGreat
set_option maxRecDepth 100000
open Go.ChangeShapes Go.WideShapes Go.ChangeAt Go.RowKit Go.Joins Go.Deep
open Ne (dJ)
theorem N8 {H:Type} {enc:TypeId×Value→H} {W:World} {base:Nat} {v:Value} {d:DataW H} {p:List MemPlace} (o:Value.okWide Tryz.prog W .any base 79 v) (h:DataW.Trod enc Tryz.prog W 0 (fun _=>true) true 79 v d p):
  ∃(dd later:Nat) (e kc ki:Int) (A:Option Addr) (n c:Nat) (l:List UInt8),v=.agg #[.int .u8 (dd:Int),.int .i64 e,.int .i64 kc,.int .i64 ki,.slice A n c,.int .u8 (later:Int)]∧At W W.heap.size A (l.map bv)∧n=l.length∧n≤c∧(n:Int)≤9223372036854775807∧dd<256:=by
 obtain⟨cs,rfl,hsz⟩:=okWide_struct Tryz.underlying79 o
 obtain⟨fuel,hf⟩:=h
 obtain⟨ys,n',-,-,-,hyl,J8⟩:=DataW.trod_struct Tryz.underlying79 hf
 have hC:Tryz.prog.cellsOf 79=6:=by kernel_rfl
 rw[hC] at hsz
 obtain⟨l⟩:=cs
 have h6:l.length=6:=hsz
 obtain⟨v0,v1,v2,v3,v4,v5,rfl⟩: ∃v0 v1 v2 v3 v4 v5,l=[v0,v1,v2,v3,v4,v5]:=by
  match l,h6 with
  |[v0,v1,v2,v3,v4,v5],_=>exact⟨v0,v1,v2,v3,v4,v5,rfl⟩
 have f0:=J8 0 _ rfl
 have f1:=J8 1 _ rfl
 have f2:=J8 2 _ rfl
 have f3:=J8 3 _ rfl
 have q0:DataW.trod enc Tryz.prog W 0 (fun _=>true) true n' 5 [v0]=ys[0]?:=f0
 have q1:DataW.trod enc Tryz.prog W 0 (fun _=>true) true n' 40 [v1]=ys[1]?:=f1
 have q2:DataW.trod enc Tryz.prog W 0 (fun _=>true) true n' 32 [v2,v3,v4]=ys[2]?:=f2
 have q3:DataW.trod enc Tryz.prog W 0 (fun _=>true) true n' 5 [v5]=ys[3]?:=f3
 have hyl:ys.length=4:=hyl
 rw[List.getElem?_eq_getElem (by omega)] at q0 q1 q2 q3
 obtain⟨x0,e0,-,w0⟩:=DataW.trod_int Tryz.underlying5 q0
 obtain⟨x1,e1,-⟩:=DataW.trod_int Tryz.underlying40 q1
 obtain⟨x5,e5,-,w5⟩:=DataW.trod_int Tryz.underlying5 q3
 obtain⟨zs,n2,-,-,-,hzl,hg⟩:=DataW.trod_struct Tryz.underlying32 q2
 have g0:=hg 0 _ rfl
 have g1:=hg 1 _ rfl
 have g2:=hg 2 _ rfl
 have r0:DataW.trod enc Tryz.prog W 0 (fun _=>true) true n2 3 [v2]=zs[0]?:=g0
 have r1:DataW.trod enc Tryz.prog W 0 (fun _=>true) true n2 3 [v3]=zs[1]?:=g1
 have r2:DataW.trod enc Tryz.prog W 0 (fun _=>true) true n2 30 [v4]=zs[2]?:=g2
 have hzl:zs.length=3:=hzl
 rw[List.getElem?_eq_getElem (by omega)] at r0 r1 r2
 obtain⟨x2,e2,-⟩:=DataW.trod_int Tryz.underlying3 r0
 obtain⟨x3,e3,-⟩:=DataW.trod_int Tryz.underlying3 r1
 obtain⟨A,ln,c,l,e4,hA,hl1,hc1,hb1⟩:=pR r2
 simp only[List.cons.injEq,and_true] at e0 e1 e2 e3 e4 e5
 have b0:0≤x0∧x0≤255:=by simpa[Lit.wf,IntKind.min,IntKind.max,IntKind.signed,IntKind.bits] using w0
 have b5:0≤x5∧x5≤255:=by simpa[Lit.wf,IntKind.min,IntKind.max,IntKind.signed,IntKind.bits] using w5
 obtain⟨j0,rfl⟩:=Int.eq_ofNat_of_zero_le b0.1
 obtain⟨j5,rfl⟩:=Int.eq_ofNat_of_zero_le b5.1
 exact⟨j0,j5,x1,x2,x3,A,ln,c,l,by rw[e0,e1,e2,e3,e4,e5],hA,hl1,hc1,hb1,by omega⟩
theorem sZ {H:Type} (enc:TypeId×Value→H) (W:World) (base:Nat) (v0 v1 v2 v3:Value) (d0 d1 d2 d3:DataW H) (p0 p1 p2 p3:List MemPlace)
  (o0:Value.okWide Tryz.prog W .any base 64 v0) (o1:Value.okWide Tryz.prog W .any base 60 v1) (o2:Value.okWide Tryz.prog W .any base 79 v2) (o3:Value.okWide Tryz.prog W .any base 3 v3)
  (h0:DataW.Trod enc Tryz.prog W 0 (fun _=>true) true 64 v0 d0 p0) (h1:DataW.Trod enc Tryz.prog W 0 (fun _=>true) true 60 v1 d1 p1) (h2:DataW.Trod enc Tryz.prog W 0 (fun _=>true) true 79 v2 d2 p2) (h3:DataW.Trod enc Tryz.prog W 0 (fun _=>true) true 3 v3 d3 p3):
  Calls Tryz.prog 7 #[v0,v1,v2,v3] W fun e W'=>e=.returned (.bool true)∧Below W.heap.size W W':=by
 obtain⟨mr,mc,mt,mf,wt,ec,lo,rfl⟩:=vw o0 h0
 obtain⟨st,id,req,A,n,c,E,cnt,ay,au,own,peer,rfl,hE,hn,hc,hl,hd,w7,w8⟩:=FK o1 h1
 obtain⟨dd,later,e,kc,ki,Ai,ni,ci,li,rfl,hI,hni,hci,iF,hdd⟩:=N8 o2 h2
 obtain⟨x3,rfl,rfl,rfl,w3⟩:=open_int Tryz.underlying3 o3 h3
 exact uZ mr mc mt mf wt ec lo st id req cnt ay au own peer A n c E dd later e kc ki Ai ni ci li x3 W hE hn hl hd w8 hdd hI hni hci iF
end Go.Proofs.YtfkgmbknfnhjoaaGreat
