/- H -/
import Derived.Test.YtfkgmbknfnhjoaaGreatSA
import Derived.StillTailTactics
import Derived.OneCell
import Derived.Deep.RegionHeld3
set_option linter.all false
set_option maxHeartbeats 4000000
namespace Go.Proofs.YtfkgmbknfnhjoaaGreat.Op
open Lib (hid)
open Go.RowKit
theorem jD (A:Option Addr) (n c:Nat) (l:List UInt8) (w:World) (B:Nat) (hB:B≤w.heap.size) (hA:At w B A (l.map bv)) (hn:n=l.length) (hl:n≤400000000) (hc:n≤c):
  Calls Tryz.prog 82 #[.slice A n c] w fun x w'=> ∃v,x=.returned v∧Below w.heap.size w w'∧w'.ownsRow w.heap.size 5 1 v n (l.map bv):=by
 have HA:=hid (hA.more hB)
 have HL:=hid hn
 clear hB hn
 cases A with
 |none=>
  have hl0:l=[]:=by
   rcases hA with h|⟨b,o,h,-⟩
   ·simpa using h
   ·cases h
  subst hl0
  have h0:=HL.out
  simp only[List.length_nil] at h0
  subst h0
  clear hA
  have q: ∀w:World,(binOp .eql 30 (.slice none 0 c) (.slice none 0 0)).run Tryz.prog w=.ok (.bool true) w:=fun w=>Lib.run_eql_slice_nil w 30 5 none 0 c 0 0 Tryz.underlying30
  go_enter Tryz.func82,Tryz.ntmps82
  go_wp2
  go_ret
  exact⟨_,rfl,Below.refl _ _,aN _ _ _ _⟩
 |some a=>
  clear hA
  have q: ∀w:World,(binOp .eql 30 (.slice (some a) n c) (.slice none 0 0)).run Tryz.prog w=.ok (.bool false) w:=fun w=>Lib.run_eql_slice_nil w 30 5 (some a) n c 0 0 Tryz.underlying30
  go_enter Tryz.func82,Tryz.ntmps82
  go_wp2_with (at_builtin;go_loud (refine bT w rfl (.tmp 5) (.tmp 6) 30 rfl 5 Tryz.underlying30 dW _ rfl rfl w.heap.size _ _ _ l rfl HL.out (by omega) HA.out (aaE _) ?_);intro v' ys d hown;have HO:=hid hown;clear hown)
  go_ret
  exact⟨_,rfl,by exact aA,HO.out⟩
theorem H_ (A:Option Addr) (n c:Nat) (w:World):Calls Tryz.prog 139 #[.slice A n c] w fun x w'=>x=.returned (.func (.func 164) #[] #[.pointer (some ⟨w.heap.size,0,none⟩)])∧w'=w.alloc (.cells #[.slice A n c] 30):=by
 go_enter Tryz.func139,Tryz.ntmps139
 go_wp2
 go_ret
 exact⟨rfl,rfl⟩
def gL:List UInt8→Option ((Int×List UInt8)×List UInt8)
 |t::n::r=>if 2≤n.toNat∧n.toNat≤r.length+2 then some (((t.toNat:Int),r.take (n.toNat-2)),r.drop (n.toNat-2)) else none
 |_=>none
theorem gG (t n:UInt8) (r:List UInt8):gL (t::n::r)=if 2≤n.toNat∧n.toNat≤r.length+2 then some (((t.toNat:Int),r.take (n.toNat-2)),r.drop (n.toNat-2)) else none:=rfl
def Gives (Bn n0:Nat) (rest:List UInt8) (args:Array Value) (rest':List UInt8) (W:World):Prop:=
 (∃e:aH,gL rest=some (e.o,rest')∧args=#[.agg #[.int .i64 e.t,e.v],.bool true]∧W.ownsRow (Bn+1) 5 1 e.v e.d.length (e.d.map bv))∨
 (rest≠[]∧gL rest=none∧args=#[.agg #[.int .i64 0,.slice none 0 0],.bool false])
def yu (Bn:Nat) (W:World):Nat:=match W.heap[Bn]? with
 |some (Obj.cells cs _ _)=>(match cs[0]? with|some (Value.slice _ n _)=>n|_=>0)
 |_=>0
theorem rz {Bn:Nat} {W:World} {A:Option Addr} {n c:Nat} (h:W.heap[Bn]? =some (.cells #[.slice A n c] 30 (0,0))):yu Bn W=n:=by
 unfold yu;rw[h];rfl
theorem _root_.Go.Proofs.YtfkgmbknfnhjoaaGreat.At.Xk {W:World} {B b o:Nat} {x y:UInt8} {r:List UInt8} (h:At W B (some ⟨b,o,none⟩) ((x::y::r).map bv)):At W B (some ⟨b,o+2,none⟩) (r.map bv):=by
 obtain⟨b',o',e,hb,hc⟩:=h.get (by simp)
 cases e
 refine .inr ⟨b,o+2,rfl,hb,fun j u hu=>?_⟩
 have:=hc (j+2) u (by simpa using hu)
 rwa [show o+(j+2)=o+2+j by omega] at this
theorem _root_.Go.Proofs.YtfkgmbknfnhjoaaGreat.At.Ws {W:World} {B b o k:Nat} {x y:UInt8} {r:List UInt8} (h:At W B (some ⟨b,o,none⟩) ((x::y::r).map bv)) (hk:2≤k):At W B (some ⟨b,o+k,none⟩) ((r.drop (k-2)).map bv):=by
 obtain⟨b',o',e,hb,hc⟩:=h.get (by simp)
 cases e
 refine .inr ⟨b,o+k,rfl,hb,fun j u hu=>?_⟩
 have:=hc (k+j) u (by rw[List.getElem?_map,show k+j=(k-2+j)+1+1 by omega];simpa[List.getElem?_map] using hu)
 rwa [←Nat.add_assoc] at this
theorem lu (W:World) (k:Nat):W.grownBy (W.drewN k) none:=⟨rfl,rfl,rfl,aaE _,fun _ _ _=>rfl⟩
set_option maxRecDepth 100000 in
theorem Lp (n Bn n0 B0 B:Nat) (A:Option Addr) (c:Nat) (l:List UInt8) (W:World) (Zc:n0≤Bn) (hB0:B0≤n0) (hA:At W B0 A (l.map bv)) (hl:l.length≤1500) (hc:l.length≤c) (nP:W.heap[Bn]? =some (.cells #[.slice A l.length c] 30 (0,0))):
  GY Fence.wide (n+1) Tryz.prog 164 #[.pointer (some ⟨Bn,0,none⟩)] Bn n0 B (Gives Bn n0) (fun r=>r=[]) l W:=by
 intro ll J Jx hJ hY hJ0
 have HY:=hid hY
 have HJ:=hid hJ
 clear hY hJ
 refine callsIn_of_wp Tryz.func164 rfl trivial ?_ rfl
 simp only[Tryz.ntmps164,List.size_toArray,List.length_cons,List.length_nil,Nat.reduceAdd,Nat.reduceSub,Array.replicate_succ,Array.replicate_zero,List.push_toArray,List.append_toArray,List.nil_append,List.cons_append]
 refine wpIn_wide.2 ?_
 go_wp2_with fail
 go_loopw [4] (fun _ wr=> ∃(rest:List UInt8) (A':Option Addr) (c':Nat),At wr B0 A' (rest.map bv)∧rest.length≤1500∧rest.length≤c'∧wr.heap[Bn]? =some (.cells #[.slice A' rest.length c'] 30 (0,0))∧J rest wr) (fun _ wr=>yu Bn wr)
 case atStart=>exact⟨l,A,c,hA,hl,hc,nP,hJ0⟩
 case round=>
  obtain⟨rest,A',c',hA',hl',hc',hb',hj⟩:=hrel
  have HM:=hid (rz hb')
  have h1:wr.cell? ⟨Bn,0,none⟩=some (.slice A' rest.length c'):=cell_of_one hb'
  have Yi:=hid hA'
  have Gz:=hid hb'
  have Vd:=hid hj
  clear hA' hb' hj hA nP hJ0
  match rest with
  |[]=>
   go_wp2_with fail
   go_end0
   exact⟨⟨_,rfl⟩,.inl ⟨[],rfl,Vd.out⟩⟩
  |[t]=>
   simp only[List.length_cons,List.length_nil,Nat.zero_add] at*
   go_wp2_with fail
   go_quiet (fail)
   go_upto_region 2 with(fail)
   obtain⟨fn,tmps,assign,body,hy,hR⟩:=HY.out [t] #[.agg #[.int .i64 0,.slice none 0 0],.bool false] [] (wr.drewN nq) (HJ.out _ _ _ none Vd.out (lu _ _) (fun r e=>by cases e)) (.inr ⟨by simp,rfl,rfl⟩)
   have HR:=hid hR
   clear hR
   refine(wpIn_wide (n:=n+1)).1 ?_
   gi_wp2
   refine HR.out.mono ?_
   rintro e W' (⟨rfl,hJ2,hk⟩|⟨rfl,hJx⟩)
   ·gi_wp2
    go_wp2
    (try simp only[Exit.inBlock,Exit.then])
    refine bodyPost_ret (results_none rfl _ _ _) rfl ?_
    exact⟨⟨_,rfl⟩,.inl ⟨[],rfl,hJ2⟩⟩
   ·gi_wp2
    go_wp2
    (try simp only[Exit.inBlock,Exit.then])
    refine bodyPost_ret (results_none rfl _ _ _) rfl ?_
    exact⟨⟨_,rfl⟩,.inr hJx⟩
  |t::m::r=>
   obtain⟨b,o,rfl,tL,hcs⟩:=Yi.out.get (by simp)
   have c0:wr.cell? ⟨b,o,none⟩=some (.int .u8 (t.toNat:Int)):=by have:=hcs 0 (bv t) (by simp);simpa[bv] using this
   have c1:wr.cell? ⟨b,o+1,none⟩=some (.int .u8 (m.toNat:Int)):=by have:=hcs 1 (bv m) (by simp);simpa[bv] using this
   obtain⟨N,hN⟩: ∃N,(t::m::r).length=N:=⟨_,rfl⟩
   obtain⟨x,hx⟩: ∃x:Nat,m.toNat=x:=⟨_,rfl⟩
   rw[hN] at h1 hl' hc' Gz
   rw[hx] at c1
   have hN2:N=r.length+2:=by rw[←hN];rfl
   have HN:=hid hN2
   have HX:=hid hx
   have x1:x<256:=by rw[←hx];exact m.toNat_lt
   have x1':(x:Int)<256:=by omega
   have l0:(0:Int)<(N:Int):=by omega
   have m0:0<N:=by omega
   have m1:1<N:=by omega
   have l1:(1:Int)<(N:Int):=by omega
   have l2:decide ((N:Int)<2)=false:=by simp;omega
   have i1:IntKind.i64.wrap (x:Int)=(x:Int):=IntWalk.i64_in _ (by omega)
   clear hN hx hN2 hcs
   by_cases hx2:x<2
   ·have YD:=hid (show gL (t::m::r)=none by rw[gG,HX.out,if_neg (by omega)])
    have k1:decide ((x:Int)<2)=true:=by simp;omega
    have k2:decide (x<2)=true:=by simp;omega
    go_wp2_with fail
    go_quiet (fail)
    go_upto_region 2 with(fail)
    obtain⟨fn,tmps,assign,body,hy,hR⟩:=HY.out (t::m::r) #[.agg #[.int .i64 0,.slice none 0 0],.bool false] [] (wr.drewN nq) (HJ.out _ _ _ none Vd.out (lu _ _) (fun r e=>by cases e)) (.inr ⟨by simp,YD.out,rfl⟩)
    have HR:=hid hR
    clear hR
    refine(wpIn_wide (n:=n+1)).1 ?_
    gi_wp2
    refine HR.out.mono ?_
    rintro e W' (⟨rfl,hJ2,hk⟩|⟨rfl,hJx⟩)
    ·gi_wp2
     go_wp2
     (try simp only[Exit.inBlock,Exit.then])
     refine bodyPost_ret (results_none rfl _ _ _) rfl ?_
     exact⟨⟨_,rfl⟩,.inl ⟨[],rfl,hJ2⟩⟩
    ·gi_wp2
     go_wp2
     (try simp only[Exit.inBlock,Exit.then])
     refine bodyPost_ret (results_none rfl _ _ _) rfl ?_
     exact⟨⟨_,rfl⟩,.inr hJx⟩
   ·have k1:decide ((x:Int)<2)=false:=by simp;omega
    have k2:decide (x<2)=false:=by simp;omega
    by_cases hx3:N<x
    ·have YD:=hid (show gL (t::m::r)=none by rw[gG,HX.out,if_neg (by have:=HN.out;omega)])
     have k3:decide ((N:Int)<(x:Int))=true:=by simp;omega
     have k4:decide (N<x)=true:=by simp;omega
     go_wp2_with fail
     go_quiet (fail)
     go_upto_region 2 with(fail)
     obtain⟨fn,tmps,assign,body,hy,hR⟩:=HY.out (t::m::r) #[.agg #[.int .i64 0,.slice none 0 0],.bool false] [] (wr.drewN nq) (HJ.out _ _ _ none Vd.out (lu _ _) (fun r e=>by cases e)) (.inr ⟨by simp,YD.out,rfl⟩)
     have HR:=hid hR
     clear hR
     refine(wpIn_wide (n:=n+1)).1 ?_
     gi_wp2
     refine HR.out.mono ?_
     rintro e W' (⟨rfl,hJ2,hk⟩|⟨rfl,hJx⟩)
     ·gi_wp2
      go_wp2
      (try simp only[Exit.inBlock,Exit.then])
      refine bodyPost_ret (results_none rfl _ _ _) rfl ?_
      exact⟨⟨_,rfl⟩,.inl ⟨[],rfl,hJ2⟩⟩
     ·gi_wp2
      go_wp2
      (try simp only[Exit.inBlock,Exit.then])
      refine bodyPost_ret (results_none rfl _ _ _) rfl ?_
      exact⟨⟨_,rfl⟩,.inr hJx⟩
    ·have k3:decide ((N:Int)<(x:Int))=false:=by simp;omega
     have k4:decide (N<x)=false:=by simp;omega
     go_wp2_with fail
     go_quiet (fail)
     go_wp2_with fail
     have XI:Bn<wr.heap.size:=(Array.getElem?_eq_some_iff.1 Gz.out).1
     have hbz:b<wr.heap.size:=by omega
     have zH:=hid (show B0≤wr.heap.size by omega)
     have y2:(2:Int)≤(x:Int):=by omega
     have y3:(x:Int)≤(N:Int):=by omega
     have y4:(x:Int)≤(c':Int):=by omega
     have y5:(0:Int)≤(x:Int):=by omega
     have y6:(2:Int)≤(c':Int):=by omega
     have y7:(N:Int)≤(c':Int):=by omega
     have x2:2≤x:=by omega
     have x3:x≤N:=by omega
     have x4:x≤c':=by omega
     go_cut [3] from 3 to 38 (fun p wq=> ∃(w3:World) (P:Nat) (A2:Option Addr) (c2:Nat),w3=wq∧p=.pointer (some ⟨P,0,none⟩)∧Below wr.heap.size wr w3∧wr.heap.size≤P∧w3.heap[P]? =some (.cells #[.int .i64 (t.toNat:Int),.slice A2 (x-2) c2] 111 (0,0))∧w3.ownsRow (Bn+1) 5 1 (.slice A2 (x-2) c2) (x-2) ((r.take (x-2)).map bv))
     case first=>
      have Z7:((t.toNat:Nat):Int)<256:=by have:=t.toNat_lt;omega
      have i2:IntKind.i64.wrap (t.toNat:Int)=(t.toNat:Int):=IntWalk.i64_in _ (by omega)
      have HDL:=hid (show x-2=(r.take (x-2)).length by rw[List.length_take];have:=HN.out;omega)
      by_cases hc2:c'=2
      ·obtain rfl:x=2:=by omega
       obtain rfl:N=2:=by omega
       subst hc2
       have hr0:r=[]:=by have:=HN.out;exact List.eq_nil_of_length_eq_zero (by omega)
       subst hr0
       go_region_held3 (fun w'=>w'.cell? ⟨Bn,0,none⟩=some (.slice (some ⟨b,o,none⟩) 2 2)∧w'.cell? ⟨b,o,none⟩=some (.int .u8 (t.toNat:Int))∧w'.cell? ⟨b,o+1,none⟩=some (.int .u8 2)) (first|(go_keep;done)|(go_simp;done)|(simp[go_sem];done)) ((go_at_call 82;go_loud (refine(jD (some ⟨b,o,none⟩) 0 0 [] _ 0 (by exact Nat.zero_le _) (by exact At.nil _ _ _) rfl (by decide) (by decide)).mono ?_);rintro e w1 ⟨v,rfl,hb,ho⟩;obtain⟨xs,d,rfl⟩:=aB hb;clear hb;obtain⟨A2,c2,rfl,-,-⟩:=ownsRow_form ho;have HO:=hid ho;clear ho))
       all_goals
        go_wp2_with fail
        go_meet
        refine⟨_,_,A2,c2,rfl,rfl,by exact aA,by first|(simp[size_ext,grow];done)|(simp[size_ext,grow];omega)|omega,by(repeat(first|((refine aF _ _ _ ?_);(simp[go_sem];done))|((refine(aO _ _ _ _ ?_).trans ?_);(focus (simp[go_sem];done)))|((refine(aC _ _ _ ?_).trans ?_);(focus (simp[go_sem];done))))),?_⟩
        first|(refine aK (dI HO.out ?_ ?_) ?_<;>first|(simp;done)|(simp;omega))|(refine aK (own_below HO.out ?_) ?_<;>first|(exact aA;done)|(simp;done)|(simp;omega))
      ·have c3:2<c':=by omega
       have HD:=hid (show At wr B0 (some ⟨b,o+2,none⟩) ((r.take (x-2)).map bv) by rw[List.map_take];exact(At.Xk Yi.out).take _)
       go_region_held3 (fun w'=>w'.cell? ⟨Bn,0,none⟩=some (.slice (some ⟨b,o,none⟩) N c')∧w'.cell? ⟨b,o,none⟩=some (.int .u8 (t.toNat:Int))∧w'.cell? ⟨b,o+1,none⟩=some (.int .u8 (x:Int))) (first|(go_keep;done)|(go_simp;done)|(simp[go_sem];done)) ((go_at_call 82;go_loud (refine(jD (some ⟨b,o+2,none⟩) (x-2) (c'-2) (r.take (x-2)) _ B0 (by have hz:=zH.out;first|exact hz|(simp;omega)) (by have hz:=zH.out;exact HD.out.keep (by exact aA)) HDL.out (by omega) (by omega)).mono ?_);rintro e w1 ⟨v,rfl,hb,ho⟩;obtain⟨xs,d,rfl⟩:=aB hb;clear hb;obtain⟨A2,c2,rfl,-,-⟩:=ownsRow_form ho;have HO:=hid ho;clear ho))
       all_goals
        go_wp2_with fail
        go_meet
        refine⟨_,_,A2,c2,rfl,rfl,by exact aA,by first|(simp[size_ext,grow];done)|(simp[size_ext,grow];omega)|omega,by(repeat(first|((refine aF _ _ _ ?_);(simp[go_sem];done))|((refine(aO _ _ _ _ ?_).trans ?_);(focus (simp[go_sem];done)))|((refine(aC _ _ _ ?_).trans ?_);(focus (simp[go_sem];done))))),?_⟩
        first|(refine aK (dI HO.out ?_ ?_) ?_<;>first|(simp;done)|(simp;omega))|(refine aK (own_below HO.out ?_) ?_<;>first|(exact aA;done)|(simp;done)|(simp;omega))
     case rest=>
      obtain⟨w3,P,A2,c2,rfl,rfl,hb3,hP,hp3,ho3⟩:=hcut
      have fD:=hid hp3
      have gZ:=hid ho3
      have HB3:=hid hb3
      have DT:=hid hP
      have g1:w3.cell? ⟨Bn,0,none⟩=some (.slice (some ⟨b,o,none⟩) N c'):=(hb3.cell (p:=⟨Bn,0,none⟩) XI).trans h1
      have gf:w3.frozen? ⟨Bn,0,none⟩=false:=free_of_one ((hb3.block Bn XI).trans Gz.out)
      have g2:w3.cell? ⟨b,o+1,none⟩=some (.int .u8 (x:Int)):=(hb3.cell (p:=⟨b,o+1,none⟩) hbz).trans c1
      have HXX:=hid (show yu Bn wr=N from HM.out.trans (by have:=HN.out;simp;omega))
      clear h1 c0 c1 hp3 ho3 hb3 hP l2 k1 k2 k3 k4
      by_cases hcx:c'=x
      ·obtain rfl:N=x:=by omega
       subst hcx
       go_wp2_with fail
       go_still_tail 5,(by kernel_rfl)
       go_upto_region 5 with(fail)
       have hx0:r.drop (c'-2)=[]:=by rw[List.drop_eq_nil_iff];have:=HN.out;omega
       have Wz:At wr B0 (some ⟨b,o,none⟩) ((r.drop (c'-2)).map bv):=by rw[hx0];exact At.nil _ _ _
       obtain⟨w5,CK⟩: ∃w5,w5=(w3.setCell ⟨Bn,0,none⟩ (.slice (some ⟨b,o,none⟩) (0) (0))).drew:=⟨_,rfl⟩
       rw[←CK]
       have hne:P≠Bn:=by have:=DT.out;omega
       have J9:w5.heap[P]? =some (.cells #[.int .i64 (t.toNat:Int),.slice A2 (c'-2) c2] 111 (0,0)):=by rw[CK];exact(Below.heap_setCell w3 ⟨Bn,0,none⟩ _ P hne).trans fD.out
       have p0:w5.cell? ⟨P,0,none⟩=some (.int .i64 (t.toNat:Int)):=by rw[cell_of_row w5 P 0 _ _ (0,0) J9];rfl
       have p1:w5.cell? ⟨P,1,none⟩=some (.slice A2 (c'-2) c2):=by rw[cell_of_row w5 P 1 _ _ (0,0) J9];rfl
       have hb5:w5.heap[Bn]? =some (.cells #[.slice (some ⟨b,o,none⟩) (0) (0)] 30 (0,0)):=by rw[CK];exact one_setCell ((HB3.out.block Bn XI).trans Gz.out)
       have hgr:wr.grownBy w5 (some Bn):=by
        have h3:=HB3.out
        rw[CK]
        exact⟨h3.os,h3.tape,h3.output,by have:=h3.size;simpa using this,fun k hk hkn=>(Below.heap_setCell w3 ⟨Bn,0,none⟩ _ k (fun e=>hkn (by rw[e]))).trans (h3.block k hk)⟩
       have WA:Below n0 wr w5:=by
        rw[CK]
        exact(((HB3.out.mono (by omega)).setCell (p:=⟨Bn,0,none⟩) Zc _)).drew
       have lN:w5.ownsRow (Bn+1) 5 1 (.slice A2 (c'-2) c2) (c'-2) ((r.take (c'-2)).map bv):=by
        rw[CK]
        exact dx gZ.out fun k hk=>Below.heap_setCell w3 ⟨Bn,0,none⟩ _ k (by have:=eu gZ.out hk;simp;omega)
       have hdl:(r.take (c'-2)).length=c'-2:=by rw[List.length_take];have:=HN.out;omega
       obtain⟨fn,tmps,assign,body,hy,hR⟩:=HY.out (t::m::r) #[.agg #[.int .i64 (t.toNat:Int),.slice A2 (c'-2) c2],.bool true] (r.drop (c'-2)) w5 (HJ.out _ _ _ _ Vd.out hgr (fun q e=>by cases e;rfl)) (.inl ⟨⟨(t.toNat:Int),r.take (c'-2),A2,c2⟩,by rw[gG,HX.out,if_pos (by have:=HN.out;omega)];rfl,by simp only[aH.v];rw[hdl],by simp only[aH.v];rw[hdl];exact lN⟩)
       have HR:=hid hR
       have V6:=hid (And.intro hb5 WA)
       have HAD:=hid Wz
       clear hR hgr lN J9 hb5 WA CK hdl g1 gf g2 Wz
       refine(wpIn_wide (n:=n+1)).1 ?_
       gi_wp2
       refine HR.out.mono ?_
       rintro e W' (⟨rfl,hJ2,hk⟩|⟨rfl,hJx⟩)
       ·have HKK:=hid hk
        have HJ2:=hid hJ2
        clear hk hJ2
        gi_wp2
        go_wp2
        have hrl:(r.drop (c'-2)).length=0:=by rw[List.length_drop];have:=HN.out;omega
        have hbw:W'.heap[Bn]? =some (.cells #[.slice (some ⟨b,o,none⟩) (r.drop (c'-2)).length (0)] 30 (0,0)):=by rw[hrl];exact HKK.out.box.trans V6.out.1
        go_roundw
        case rel=>exact⟨r.drop (c'-2),_,_,(HAD.out.keep (V6.out.2.mono hB0)).keep (HKK.out.below.mono hB0),by omega,by omega,hbw,HJ2.out⟩
        case measure=>rw[rz hbw,HXX.out];omega
       ·gi_wp2
        go_wp2
        (try simp only[Exit.inBlock,Exit.then])
        refine bodyPost_ret (results_none rfl _ _ _) rfl ?_
        exact⟨⟨_,rfl⟩,.inr hJx⟩
      ·have x5:x<c':=by omega
       go_wp2_with fail
       go_still_tail 5,(by kernel_rfl)
       go_upto_region 5 with(fail)
       have Wz:At wr B0 (some ⟨b,o+x,none⟩) ((r.drop (x-2)).map bv):=At.Ws Yi.out x2
       obtain⟨w5,CK⟩: ∃w5,w5=(w3.setCell ⟨Bn,0,none⟩ (.slice (some ⟨b,o+x,none⟩) (N-x) (c'-x))).drew:=⟨_,rfl⟩
       rw[←CK]
       have hne:P≠Bn:=by have:=DT.out;omega
       have J9:w5.heap[P]? =some (.cells #[.int .i64 (t.toNat:Int),.slice A2 (x-2) c2] 111 (0,0)):=by rw[CK];exact(Below.heap_setCell w3 ⟨Bn,0,none⟩ _ P hne).trans fD.out
       have p0:w5.cell? ⟨P,0,none⟩=some (.int .i64 (t.toNat:Int)):=by rw[cell_of_row w5 P 0 _ _ (0,0) J9];rfl
       have p1:w5.cell? ⟨P,1,none⟩=some (.slice A2 (x-2) c2):=by rw[cell_of_row w5 P 1 _ _ (0,0) J9];rfl
       have hb5:w5.heap[Bn]? =some (.cells #[.slice (some ⟨b,o+x,none⟩) (N-x) (c'-x)] 30 (0,0)):=by rw[CK];exact one_setCell ((HB3.out.block Bn XI).trans Gz.out)
       have hgr:wr.grownBy w5 (some Bn):=by
        have h3:=HB3.out
        rw[CK]
        exact⟨h3.os,h3.tape,h3.output,by have:=h3.size;simpa using this,fun k hk hkn=>(Below.heap_setCell w3 ⟨Bn,0,none⟩ _ k (fun e=>hkn (by rw[e]))).trans (h3.block k hk)⟩
       have WA:Below n0 wr w5:=by
        rw[CK]
        exact(((HB3.out.mono (by omega)).setCell (p:=⟨Bn,0,none⟩) Zc _)).drew
       have lN:w5.ownsRow (Bn+1) 5 1 (.slice A2 (x-2) c2) (x-2) ((r.take (x-2)).map bv):=by
        rw[CK]
        exact dx gZ.out fun k hk=>Below.heap_setCell w3 ⟨Bn,0,none⟩ _ k (by have:=eu gZ.out hk;simp;omega)
       have hdl:(r.take (x-2)).length=x-2:=by rw[List.length_take];have:=HN.out;omega
       obtain⟨fn,tmps,assign,body,hy,hR⟩:=HY.out (t::m::r) #[.agg #[.int .i64 (t.toNat:Int),.slice A2 (x-2) c2],.bool true] (r.drop (x-2)) w5 (HJ.out _ _ _ _ Vd.out hgr (fun q e=>by cases e;rfl)) (.inl ⟨⟨(t.toNat:Int),r.take (x-2),A2,c2⟩,by rw[gG,HX.out,if_pos (by have:=HN.out;omega)];rfl,by simp only[aH.v];rw[hdl],by simp only[aH.v];rw[hdl];exact lN⟩)
       have HR:=hid hR
       have V6:=hid (And.intro hb5 WA)
       have HAD:=hid Wz
       clear hR hgr lN J9 hb5 WA CK hdl g1 gf g2 Wz
       refine(wpIn_wide (n:=n+1)).1 ?_
       gi_wp2
       refine HR.out.mono ?_
       rintro e W' (⟨rfl,hJ2,hk⟩|⟨rfl,hJx⟩)
       ·have HKK:=hid hk
        have HJ2:=hid hJ2
        clear hk hJ2
        gi_wp2
        go_wp2
        have hrl:(r.drop (x-2)).length=N-x:=by rw[List.length_drop];have:=HN.out;omega
        have hbw:W'.heap[Bn]? =some (.cells #[.slice (some ⟨b,o+x,none⟩) (r.drop (x-2)).length (c'-x)] 30 (0,0)):=by rw[hrl];exact HKK.out.box.trans V6.out.1
        go_roundw
        case rel=>exact⟨r.drop (x-2),_,_,(HAD.out.keep (V6.out.2.mono hB0)).keep (HKK.out.below.mono hB0),by omega,by omega,hbw,HJ2.out⟩
        case measure=>rw[rz hbw,HXX.out];omega
       ·gi_wp2
        go_wp2
        (try simp only[Exit.inBlock,Exit.then])
        refine bodyPost_ret (results_none rfl _ _ _) rfl ?_
        exact⟨⟨_,rfl⟩,.inr hJx⟩
attribute [local go_sem] Oper.semAt_some
def jd:Nat→List UInt8→List (Int×List UInt8)→List (Int×List UInt8)×Int
 |0,_,acc=>(acc,0)
 |f+1,l,acc=>if l=[] then(acc,0) else match gL l with
  |none=>([],80)
  |some (o,r)=>if acc.length=64 then([],3) else jd f r (acc++[o])
def iJ (l:List UInt8):List (Int×List UInt8)×Int:=if 1488<l.length then([],2) else jd l.length l []
def mo (w:World) (l:List UInt8) (x:Ending) (w':World):Prop:=
 ∃E v,x=.returned (.tuple #[v,.int .i64 (iJ l).2])∧Below w.heap.size w w'∧aI w' w.heap.size v E∧E.map aH.o=(iJ l).1
theorem uK (f:Nat) (acc:List (Int×List UInt8)):jd f [] acc=(acc,0):=by cases f<;>simp[jd]
theorem n_ {f:Nat} {l:List UInt8} {acc:List (Int×List UInt8)} (hf:l.length≤f) (h:l≠[]) (hc:gL l=none):jd f l acc=([],80):=by
 cases f with
 |zero=>exact absurd (List.eq_nil_of_length_eq_zero (by omega)) h
 |succ f=>simp[jd,h,hc]
theorem pz {l:List UInt8} {o:Int×List UInt8} {r:List UInt8} (h:gL l=some (o,r)):r.length+2≤l.length:=by
 unfold gL at h
 split at h
 ·split at h
  ·simp only[Option.some.injEq,Prod.mk.injEq] at h
   rw[←h.2,List.length_drop]
   simp only[List.length_cons];omega
  ·cases h
 ·cases h
theorem wX {f:Nat} {l:List UInt8} {acc:List (Int×List UInt8)} {o:Int×List UInt8} {r:List UInt8} (hf:l.length≤f) (hc:gL l=some (o,r)) (ha:acc.length=64):jd f l acc=([],3):=by
 have:=pz hc
 cases f with
 |zero=>omega
 |succ f=>
  have h:l≠[]:=by intro h;rw[h] at this;simp at this
  simp[jd,h,hc,ha]
theorem rC {f:Nat} {l:List UInt8} {acc:List (Int×List UInt8)} {o:Int×List UInt8} {r:List UInt8} (hf:l.length≤f) (hc:gL l=some (o,r)) (ha:acc.length≠64): ∃f',r.length≤f'∧jd f l acc=jd f' r (acc++[o]):=by
 have:=pz hc
 cases f with
 |zero=>omega
 |succ f=>
  have h:l≠[]:=by intro h;rw[h] at this;simp at this
  exact⟨f,by omega,by simp[jd,h,hc,ha]⟩
def Gw (w:World) (l rest:List UInt8) (W:World):Prop:=
 ∃(E:List aH) (A:Option Addr) (n c f:Nat),rest.length≤f∧jd l.length l []=jd f rest (E.map aH.o)∧Below w.heap.size w W∧W.heap[w.heap.size]? =some (.cells #[.slice none 0 0] 25 (0,0))∧
  W.heap[w.heap.size+1]? =some (.cells #[.int .i64 0] 35 (0,0))∧W.heap[w.heap.size+1+1]? =some (.cells #[.slice A n c] 25 (0,0))∧n=E.length∧E.length≤64∧aI W (w.heap.size+1+1+1+1) (.slice A n c) E
def Vw (w:World) (l:List UInt8):Code→World→Prop
 | .ret,W=>Below w.heap.size w W∧(jd l.length l []).1=[]∧W.heap[w.heap.size]? =some (.cells #[.slice none 0 0] 25 (0,0))∧W.heap[w.heap.size+1]? =some (.cells #[.int .i64 (jd l.length l []).2] 35 (0,0))
 |_,_=>False
theorem jT {Bn B:Nat} {A C:World} {row:Option Nat} (hg:A.grownBy C row) (hs:Steps Bn B A row) {k:Nat} {o:Obj} (hk:A.heap[k]? =some o) (h1:k≠Bn) (h2:k<B):C.heap[k]? =some o:=by
 refine(hg.block k (lt_of_block hk) fun e=>?_).trans hk
 rcases hs k e.symm with h|⟨h,-⟩<;>omega
theorem mG (w:World) (l rest:List UInt8) (B:Nat) (hB:w.heap.size+1+1+1≤B):uz (w.heap.size+1+1+1) B (Gw w l rest):=by
 rintro A C row ⟨E,A1,n,c,f,hf,hd,hb,c0,c1,c2,hn,h64,ho⟩ hg hs
 refine⟨E,A1,n,c,f,hf,hd,hb.grown hg hb.size (fun k e=>?_),jT hg hs c0 (by omega) (by omega),jT hg hs c1 (by omega) (by omega),jT hg hs c2 (by omega) (by omega),hn,h64,ho.stays hg fun r e=>?_⟩
 ·rcases hs k e with h|⟨h,-⟩<;>omega
 ·rcases hs r e with h|⟨-,h⟩
  ·exact .inl (by omega)
  ·exact .inr h
theorem Ct (w:World) (l:List UInt8) (cd:Code) (B:Nat) (hB:w.heap.size+1+1+1≤B):uz (w.heap.size+1+1+1) B (Vw w l cd):=by
 intro A C row h hg hs
 cases cd with
 |ret=>
  obtain⟨hb,hd,c0,c1⟩:=h
  refine⟨hb.grown hg hb.size (fun k e=>?_),hd,jT hg hs c0 (by omega) (by omega),jT hg hs c1 (by omega) (by omega)⟩
  rcases hs k e with h|⟨h,-⟩<;>omega
 |_=>exact h.elim
def DAx (w:World) (l:List UInt8) (fr:Nat→Bool→Value→Act) (rest:List UInt8) (args:Array Value) (rest':List UInt8) (a₁:Act) (W:World):Prop:=
 ∃(X:Nat) (ok:Bool) (tt:Int) (A2:Option Addr) (m c2:Nat),args=#[.agg #[.int .i64 tt,.slice A2 m c2],.bool ok]∧a₁=fr X ok (.agg #[.int .i64 tt,.slice A2 m c2])∧
  W.heap[X]? =some (.cells #[.int .i64 tt,.slice A2 m c2] 111 (0,0))∧w.heap.size+1+1+1+1≤X∧Gw w l rest W∧
  ((ok=true∧ ∃dd,gL rest=some ((tt,dd),rest')∧m=dd.length∧W.ownsRow (w.heap.size+1+1+1+1) 5 1 (.slice A2 m c2) m (dd.map bv))∨(ok=false∧rest≠[]∧gL rest=none))
theorem EO (w:World) (l:List UInt8) (fr:Nat→Bool→Value→Act) (rest:List UInt8) (args:Array Value) (rest':List UInt8) (a₁:Act) (B:Nat) (hB:w.heap.size+1+1+1≤B):
  uz (w.heap.size+1+1+1) B (DAx w l fr rest args rest' a₁):=by
 rintro A C row ⟨X,ok,tt,A2,m,c2,h1,h2,hX,hXl,hI,hG⟩ hg hs
 refine⟨X,ok,tt,A2,m,c2,h1,h2,?_,hXl,mG w l rest B hB A C row hI hg hs,?_⟩
 ·refine(hg.block X (lt_of_block hX) fun e=>?_).trans hX
  rcases hs X e.symm with h|⟨-,o,h,h'⟩
  ·omega
  ·rw[hX] at h;cases h;cases h'
 ·rcases hG with⟨hk,dd,hc,hm,ho⟩|h
  ·refine .inl ⟨hk,dd,hc,hm,aW ho hg fun r e=>?_⟩
   rcases hs r e with h|⟨-,h⟩
   ·exact .inl (by omega)
   ·exact .inr (.inl h)
  ·exact .inr h
theorem yD (E:List aH) (e:aH):(E++[e]).map aH.o=E.map aH.o++[e.o]:=by simp
theorem Ht {w:World} {l s s':List UInt8} {W w':World} {E:List aH} {A' A2 A3:Option Addr} {c' c2 c3 f:Nat} {tt:Int} {dd:List UInt8} {o:Obj}
  (hf:s.length≤f) (hd:jd l.length l []=jd f s (E.map aH.o)) (hcut:gL s=some ((tt,dd),s')) (h64:E.length≤64) (h6:E.length≠64)
  (hb:Below w.heap.size w W) (c0:W.heap[w.heap.size]? =some (.cells #[.slice none 0 0] 25 (0,0))) (c1:W.heap[w.heap.size+1]? =some (.cells #[.int .i64 0] 35 (0,0)))
  (ct:W.heap[w.heap.size+1+1]? =some (.cells #[.slice A' E.length c'] 25 (0,0))) (hbx:w.heap.size+1+1+1<W.heap.size)
  (hown:aI W (w.heap.size+1+1+1+1) (.slice A' E.length c') E) (ho:W.ownsRow (w.heap.size+1+1+1+1) 5 1 (.slice A2 dd.length c2) dd.length (dd.map bv))
  (ho':w'.ownsRow (w.heap.size+1+1+1+1) 111 2 (.slice A3 (E.length+1) c3) (E.length+1) (cellsE E++[.int .i64 tt,.slice A2 dd.length c2]))
  (hg:(W.alloc o).grownBy w' (Value.slice A' E.length c').ownBlock):
  KeepsOthers W (w'.setCell ⟨w.heap.size+1+1,0,none⟩ (.slice A3 (E.length+1) c3))∧kF (w.heap.size+1+1+1) w.heap.size W (w'.setCell ⟨w.heap.size+1+1,0,none⟩ (.slice A3 (E.length+1) c3))∧
   Gw w l s' (w'.setCell ⟨w.heap.size+1+1,0,none⟩ (.slice A3 (E.length+1) c3)):=by
 have hrow: ∀k,(Value.slice A' E.length c').ownBlock=some k→w.heap.size+1+1+1+1≤k:=fun k hk=>eu hown.1 hk
 have old: ∀k,k<w.heap.size+1+1+1+1→w'.heap[k]? =W.heap[k]?:=fun k hk=>
  (hg.block k (by simp;omega) (fun e=>by have:=hrow k e.symm;omega)).trans (Below.heap_alloc W o k (by omega))
 have hsz:W.heap.size+1≤w'.heap.size:=by have:=hg.size;simpa using this
 obtain⟨f',hf',hd'⟩:=rC (acc:=E.map aH.o) hf hcut (by rw[List.length_map];exact h6)
 refine⟨(KeepsOthers.alloc W o).trans ((KeepsOthers.of_grownBy hg ?_).trans (KeepsOthers.setCell _ _ _)),⟨?_,?_⟩,E++[⟨tt,dd,A2,c2⟩],A3,E.length+1,c3,f',hf',?_,?_,?_,?_,?_,by simp,by simp;omega,?_,?_⟩
 ·intro j ob e hj
  obtain⟨cur,hcur⟩:=bL (own_below hown.1 ((Below.refl _ _).alloc (o:=o) (aaE _))) e
  rw[hcur] at hj;cases hj;rfl
 ·exact((((Below.refl _ W).alloc (by omega) o).grown hg (by simp;omega) (fun k e=>by have:=hrow k e;omega)).setCell (p:=⟨w.heap.size+1+1,0,none⟩) (by simp;omega) _)
 ·exact(Below.heap_setCell w' ⟨w.heap.size+1+1,0,none⟩ _ _ (by simp)).trans (old _ (by omega))
 ·rw[hd,hd',yD];rfl
 ·exact hb.trans ((((Below.refl _ W).alloc (by omega) o).grown hg (by simp;omega) (fun k e=>by have:=hrow k e;omega)).setCell (p:=⟨w.heap.size+1+1,0,none⟩) (by simp;omega) _)
 ·exact((Below.heap_setCell w' ⟨w.heap.size+1+1,0,none⟩ _ _ (by simp;omega)).trans (old _ (by omega))).trans c0
 ·exact((Below.heap_setCell w' ⟨w.heap.size+1+1,0,none⟩ _ _ (by simp)).trans (old _ (by omega))).trans c1
 ·exact one_setCell ((old _ (by omega)).trans ct)
 ·have e1:(E++[(⟨tt,dd,A2,c2⟩:aH)]).length=E.length+1:=by simp
  rw[e1,fJ]
  exact dx ho' fun k hk=>Below.heap_setCell w' ⟨w.heap.size+1+1,0,none⟩ _ k (by have:=eu ho' hk;simp;omega)
 ·have data: ∀{v:Value} {n:Nat} {xs:List Value},W.ownsRow (w.heap.size+1+1+1+1) 5 1 v n xs→(w'.setCell ⟨w.heap.size+1+1,0,none⟩ (.slice A3 (E.length+1) c3)).ownsRow (w.heap.size+1+1+1+1) 5 1 v n xs:=fun {v n xs} h=>by
   have h1:=own_below h ((Below.refl _ W).alloc (o:=o) (aaE _))
   have h2:w'.ownsRow (w.heap.size+1+1+1+1) 5 1 v n xs:=aW h1 hg fun r e=>by
    obtain⟨cur,hcur⟩:=bL (own_below hown.1 ((Below.refl _ _).alloc (o:=o) (aaE _))) e
    exact .inr (.inr ⟨cur,_,hcur,by decide⟩)
   exact dx h2 fun k hk=>Below.heap_setCell w' ⟨w.heap.size+1+1,0,none⟩ _ k (by have:=eu h2 hk;simp;omega)
  intro e he
  simp only[List.mem_append,List.mem_singleton] at he
  rcases he with he|rfl
  ·exact data (hown.2 e he)
  ·exact data ho
set_option maxRecDepth 100000 in
theorem Hr (A:Option Addr) (n c:Nat) (l:List UInt8) (w:World) (B:Nat) (hB:B≤w.heap.size) (hA:At w B A (l.map bv)) (hn:n=l.length) (hc:n≤c) (hl:n≤1488):
  Calls Tryz.prog 96 #[.slice A n c] w (mo w l):=by
 subst hn
 have HA:=hid hA
 have HB:=hid hB
 have HR:=hid (show iJ l=jd l.length l [] by unfold iJ;rw[if_neg (by omega)])
 have h9:decide ((1488:Int)<(l.length:Int))=false:=by simp;omega
 clear hA hB
 refine(callsIn_wide (n:=7)).1 (callsIn_of_wp_marks Tryz.func96 rfl trivial ?_ rfl)
 simp only[Tryz.ntmps96,List.size_toArray,List.length_cons,List.length_nil,Nat.reduceAdd,Nat.reduceSub,Array.replicate_succ,Array.replicate_zero,List.push_toArray,List.append_toArray,List.nil_append,List.cons_append]
 refine wpIn_wide.2 ?_
 go_wp2_with (go_at_call 139;refine(H_ _ _ _ _).mono ?_;rintro e w1 ⟨rfl,rfl⟩)
 obtain⟨wl,hwl⟩: ∃wl,wl=(((w.alloc (.cells #[.slice none 0 0] 25)).alloc (.cells #[.int .i64 0] 35)).alloc (.cells #[.slice none 0 0] 25)).alloc (.cells #[.slice A l.length c] 30):=⟨_,rfl⟩
 rw[←hwl]
 have hsz:wl.heap.size=w.heap.size+1+1+1+1:=by rw[hwl];simp
 have hinv:Gw w l l wl:=by
  rw[hwl]
  exact⟨[],none,0,0,l.length,aaE _,rfl,by exact aA,by(repeat(first|((refine aF _ _ _ ?_);(simp[go_sem];done))|((refine(aO _ _ _ _ ?_).trans ?_);(focus (simp[go_sem];done)))|((refine(aC _ _ _ ?_).trans ?_);(focus (simp[go_sem];done))))),by(repeat(first|((refine aF _ _ _ ?_);(simp[go_sem];done))|((refine(aO _ _ _ _ ?_).trans ?_);(focus (simp[go_sem];done)))|((refine(aC _ _ _ ?_).trans ?_);(focus (simp[go_sem];done))))),by(repeat(first|((refine aF _ _ _ ?_);(simp[go_sem];done))|((refine(aO _ _ _ _ ?_).trans ?_);(focus (simp[go_sem];done)))|((refine(aC _ _ _ ?_).trans ?_);(focus (simp[go_sem];done))))),rfl,by decide,aI.nil _ _⟩
 have nP:wl.heap[w.heap.size+1+1+1]? =some (.cells #[.slice A l.length c] 30 (0,0)):=by rw[hwl];(repeat(first|((refine aF _ _ _ ?_);(simp[go_sem];done))|((refine(aO _ _ _ _ ?_).trans ?_);(focus (simp[go_sem];done)))|((refine(aC _ _ _ ?_).trans ?_);(focus (simp[go_sem];done)))))
 have hAl:At wl B A (l.map bv):=by rw[hwl];have:=HB.out;exact HA.out.keep (by exact aA)
 clear hwl
 refine(wpIn_wide (n:=7)).1 ?_
 refine oO rfl (by decide) (gf:=164) (lb:=#[.pointer (some ⟨w.heap.size+1+1+1,0,none⟩)]) rfl trivial (enters_of Tryz.func164 (by kernel_rfl) rfl)
  (Bn:=w.heap.size+1+1+1) (n0:=w.heap.size) (by omega) (by omega) (G:=Gives (w.heap.size+1+1+1) w.heap.size) (Done:=fun r=>r=[]) (s0:=l) ?hps
  (Gw w l) (Vw w l) (fun s=>mG w l s _ (by omega)) (fun cd=>Ct w l cd _ (by omega)) hinv ?hseq
  (DAx w l (fun X ok g=>({tmps:=#[.slice A l.length c,undef,.pointer (some ⟨w.heap.size,0,none⟩),.pointer (some ⟨w.heap.size+1,0,none⟩),.pointer (some ⟨w.heap.size+1+1,0,none⟩),.pointer (some ⟨X,0,none⟩),.bool ok,.slice A l.length c,.int .i64 l.length,.bool false,.slice A l.length c,.func (.func 164) #[] #[.pointer (some ⟨w.heap.size+1+1+1,0,none⟩)],g,.bool ok,undef,undef,undef,undef,undef,undef,undef,undef,undef,undef],defers:=[]}:Act))) (fun s args s' a'=>EO w l _ s args s' a' _ (by omega)) ?hassign ?hbody ?hdone ?hstop
 case hps=>
  rintro s args s' W (⟨e,-,rfl,-⟩|⟨-,-,rfl⟩)<;>rfl
 case hseq=>
  intro W1 hb1 hi1
  exact Lp _ _ _ B _ A c l W1 (by omega) HB.out (hAl.keep (hb1.mono (by have:=HB.out;omega))) (by omega) (by omega) ((hb1.block _ (by omega)).trans nP)
 case hassign=>
  rintro ll s args s' W hll hlt hi (⟨⟨tt,dd,A2,c2⟩,hcut,rfl,ho⟩|⟨hne,hno,rfl⟩)
  ·have HH:=hid (And.intro hcut ho)
   have HI:=hid hi
   clear hcut ho hi
   simp only[aH.v,aH.o] at HH ⊢
   gi_wp2
   exact⟨KeepsOthers.alloc _ _,⟨(Below.refl _ _).alloc (by omega) _,Below.heap_alloc _ _ _ (by omega)⟩,W.heap.size,true,tt,A2,dd.length,c2,rfl,rfl,heap_alloc_new _ _,by omega,
    mG w l s wl.heap.size (by omega) W _ none HI.out (World.grownBy_alloc W _ none) (fun r e=>by cases e),.inl ⟨rfl,dd,HH.out.1,rfl,own_below HH.out.2 ((Below.refl _ _).alloc (aaE _) _)⟩⟩
  ·have HH:=hid (And.intro hne hno)
   have HI:=hid hi
   clear hne hno hi
   gi_wp2
   exact⟨KeepsOthers.alloc _ _,⟨(Below.refl _ _).alloc (by omega) _,Below.heap_alloc _ _ _ (by omega)⟩,W.heap.size,false,0,none,0,0,rfl,rfl,heap_alloc_new _ _,by omega,
    mG w l s wl.heap.size (by omega) W _ none HI.out (World.grownBy_alloc W _ none) (fun r e=>by cases e),.inr ⟨rfl,HH.out.1,HH.out.2⟩⟩
 case hbody=>
  rintro ll s args s' a₁ W ⟨X,ok,tt,A2,m,c2,rfl,rfl,hX,hXl,⟨E,A',n',c',f,hf,hd,hb,c0,c1,ct,hn',h64,hown⟩,hG⟩
  obtain rfl:=hn'
  have k0:W.cell? ⟨w.heap.size,0,none⟩=some (.slice none 0 0):=cell_of_one c0
  have f0:W.frozen? ⟨w.heap.size,0,none⟩=false:=free_of_one c0
  have k1:W.cell? ⟨w.heap.size+1,0,none⟩=some (.int .i64 0):=cell_of_one c1
  have f1:W.frozen? ⟨w.heap.size+1,0,none⟩=false:=free_of_one c1
  have k2:W.cell? ⟨w.heap.size+1+1,0,none⟩=some (.slice A' E.length c'):=cell_of_one ct
  have f2:W.frozen? ⟨w.heap.size+1+1,0,none⟩=false:=free_of_one ct
  have HF:=hid (And.intro hf hd)
  have Gz:=hid hb
  have HC:=hid (And.intro c0 (And.intro c1 ct))
  have HOW:=hid hown
  have Zq:w.heap.size+1+1<W.heap.size:=lt_of_block ct
  have p0:W.cell? ⟨X,0,none⟩=some (.int .i64 tt):=by rw[cell_of_row W X 0 _ _ (0,0) hX];rfl
  have p1:W.cell? ⟨X,1,none⟩=some (.slice A2 m c2):=by rw[cell_of_row W X 1 _ _ (0,0) hX];rfl
  have hXW:X<W.heap.size:=lt_of_block hX
  clear hf hd hb c0 c1 ct hown hX
  rcases hG with⟨rfl,dd,hcut,rfl,ho⟩|⟨rfl,hne,hno⟩
  ·have HG:=hid (And.intro hcut ho)
   clear hcut ho
   by_cases h6:E.length=64
   ·have HD:=hid (wX (acc:=E.map aH.o) HF.out.1 HG.out.1 (by rw[List.length_map];exact h6))
    have e6:((E.length:Int)==64)=true:=by simp;omega
    clear h6
    gi_wp2
    refine⟨((KeepsOthers.setCell _ _ _).trans (KeepsOthers.setCell _ _ _)),?_,by rw[HF.out.2,HD.out],?_,?_⟩
    ·have:=Gz.out
     exact aA
    ·exact(Below.heap_setCell _ ⟨w.heap.size+1,0,none⟩ _ _ (by simp)).trans (one_setCell HC.out.1)
    ·rw[HF.out.2,HD.out]
     exact one_setCell ((Below.heap_setCell _ ⟨w.heap.size,0,none⟩ _ _ (by simp)).trans HC.out.2.1)
   ·have e6:((E.length:Int)==64)=false:=by simp;omega
    have H6:=hid h6
    clear h6
    have qQ:=hid (At.gW W #[.int .i64 tt,.slice A2 dd.length c2] 111 [.int .i64 tt,.slice A2 dd.length c2] W.heap.size rfl rfl)
    gi_wp2_with (gi_at_builtin;go_loud (refine wI rfl (.tmp 19) (.tmp 21) 25 rfl 111 Tryz.underlying25 (.agg #[.int .i64 0,.slice none 0 0]) 2 32 dV rfl (by decide) (by decide) (w.heap.size+1+1+1+1) (.slice A' E.length c') E.length (cellsE E) rfl (own_below HOW.out.1 ((Below.refl _ _).alloc (aaE _) _)) _ (some ⟨W.heap.size,0,none⟩) 1 1 [.int .i64 tt,.slice A2 dd.length c2] rfl rfl (by omega) qQ.out (by intro u hu;simp at hu;rcases hu with rfl|rfl<;>rfl) (by simp;omega) ?_);intro A3 c3 w' ho' hc3 hg';have XA:=hid (And.intro ho' hg');have HCT:=hid (show w'.heap[w.heap.size+1+1]? =some (.cells #[.slice A' E.length c'] 25 (0,0)) from((hg'.block _ (by simp;omega) (fun e=>by have:=eu HOW.out.1 e.symm;omega)).trans (Below.heap_alloc W _ _ (by omega))).trans HC.out.2.2);have q2:=cell_of_one HCT.out;have qf:=free_of_one HCT.out;clear ho' hc3 hg')
    exact Ht HF.out.1 HF.out.2 HG.out.1 h64 H6.out Gz.out HC.out.1 HC.out.2.1 HC.out.2.2 (by omega) HOW.out HG.out.2 XA.out.1 XA.out.2
  ·have HD:=hid (n_ (acc:=E.map aH.o) HF.out.1 hne hno)
   clear hne hno
   gi_wp2
   refine⟨((KeepsOthers.setCell _ _ _).trans (KeepsOthers.setCell _ _ _)),?_,by rw[HF.out.2,HD.out],?_,?_⟩
   ·have:=Gz.out
    exact aA
   ·exact(Below.heap_setCell _ ⟨w.heap.size+1,0,none⟩ _ _ (by simp)).trans (one_setCell HC.out.1)
   ·rw[HF.out.2,HD.out]
    exact one_setCell ((Below.heap_setCell _ ⟨w.heap.size,0,none⟩ _ _ (by simp)).trans HC.out.2.1)
 case hdone=>
  rintro s W rfl ⟨E,A',n',c',f,hf,hd,hb,c0,c1,ct,rfl,h64,hown⟩ hD
  have k0:W.cell? ⟨w.heap.size,0,none⟩=some (.slice none 0 0):=cell_of_one c0
  have f0:W.frozen? ⟨w.heap.size,0,none⟩=false:=free_of_one c0
  have k1:W.cell? ⟨w.heap.size+1,0,none⟩=some (.int .i64 0):=cell_of_one c1
  have f1:W.frozen? ⟨w.heap.size+1,0,none⟩=false:=free_of_one c1
  have k2:W.cell? ⟨w.heap.size+1+1,0,none⟩=some (.slice A' E.length c'):=cell_of_one ct
  have Zq:w.heap.size+1+1<W.heap.size:=lt_of_block ct
  have HH:=hid (And.intro hd (And.intro hb hown))
  have HD:=hid hD
  have hsD:w.heap.size+1+1+1+1=wl.heap.size:=hsz.symm
  have HC:=hid (And.intro c0 c1)
  clear hf hd hb c0 c1 ct hown hD
  gi_wp2
  go_wp2
  have e0:((W.setCell ⟨w.heap.size,0,none⟩ (.slice A' E.length c')).setCell ⟨w.heap.size+1,0,none⟩ (.int .i64 0)).heap[w.heap.size]? =some (.cells #[.slice A' E.length c'] 25 (0,0)):=(Below.heap_setCell _ ⟨w.heap.size+1,0,none⟩ _ _ (by simp)).trans (one_setCell HC.out.1)
  have e1:((W.setCell ⟨w.heap.size,0,none⟩ (.slice A' E.length c')).setCell ⟨w.heap.size+1,0,none⟩ (.int .i64 0)).heap[w.heap.size+1]? =some (.cells #[.int .i64 0] 35 (0,0)):=one_setCell ((Below.heap_setCell _ ⟨w.heap.size,0,none⟩ _ _ (by simp)).trans HC.out.2)
  have eD:((W.setCell ⟨w.heap.size,0,none⟩ (.slice A' E.length c')).setCell ⟨w.heap.size+1,0,none⟩ (.int .i64 0)).heap[wl.heap.size]? =some (.deferred (some [])):=(Below.heap_setCell _ ⟨w.heap.size+1,0,none⟩ _ _ (by simp;omega)).trans ((Below.heap_setCell _ ⟨w.heap.size,0,none⟩ _ _ (by simp;omega)).trans HD.out)
  have r0:=cell_of_one ((World.putObj_heap_other (o:=.deferred none) (show w.heap.size≠wl.heap.size by omega)).trans e0)
  have r1:=cell_of_one ((World.putObj_heap_other (o:=.deferred none) (show w.heap.size+1≠wl.heap.size by omega)).trans e1)
  refine⟨by simp,.inl ⟨_,_,rfl,run_takeDeferred eD,?_⟩⟩
  refine⟨.tuple #[.slice A' E.length c',.int .i64 0],by simp[results,Tryz.results96,go_sem,r0,r1],E,.slice A' E.length c',?_,?_,?_,?_⟩
  ·rw[HR.out,HH.out.1,uK]
  ·have hb:=HH.out.2.1
   have hz:w.heap.size≤W.heap.size:=hb.size
   exact((hb.setCell (p:=⟨w.heap.size,0,none⟩) (aaE _) _).setCell (p:=⟨w.heap.size+1,0,none⟩) (by simp) _).trans (kF.putObj (Bn:=0) _ _ _ (by omega) (by omega)).below
  ·have ho:=(HH.out.2.2).base (show w.heap.size≤w.heap.size+1+1+1+1 by omega)
   have same: ∀k,w.heap.size+1+1+1+1≤k→k≠wl.heap.size→(((W.setCell ⟨w.heap.size,0,none⟩ (.slice A' E.length c')).setCell ⟨w.heap.size+1,0,none⟩ (.int .i64 0)).putObj wl.heap.size (.deferred none)).heap[k]? =W.heap[k]?:=fun k hk hkD=>
    (World.putObj_heap_other hkD).trans ((Below.heap_setCell _ ⟨w.heap.size+1,0,none⟩ _ _ (by simp;omega)).trans (Below.heap_setCell _ ⟨w.heap.size,0,none⟩ _ _ (by simp;omega)))
   have keep: ∀{e size n:Nat} {v:Value} {xs:List Value},W.ownsRow (w.heap.size+1+1+1+1) e size v n xs→(((W.setCell ⟨w.heap.size,0,none⟩ (.slice A' E.length c')).setCell ⟨w.heap.size+1,0,none⟩ (.int .i64 0)).putObj wl.heap.size (.deferred none)).ownsRow w.heap.size e size v n xs:=fun h=>
    aK (dx h fun k hk=>same k (eu h hk) (fun e=>by obtain⟨cur,hcur⟩:=bL h hk;rw[e,HD.out] at hcur;cases hcur)) (by omega)
   exact⟨keep HH.out.2.2.1,fun e he=>keep (HH.out.2.2.2 e he)⟩
  ·rw[HR.out,HH.out.1,uK]
 case hstop=>
  intro cd W h hD
  cases cd with
  |ret=>
   obtain⟨hb,h1,c0,c1⟩:=h
   have k0:W.cell? ⟨w.heap.size,0,none⟩=some (.slice none 0 0):=cell_of_one c0
   have k1:W.cell? ⟨w.heap.size+1,0,none⟩=some (.int .i64 (jd l.length l []).2):=cell_of_one c1
   have HH:=hid (And.intro hb h1)
   have HD:=hid hD
   have HC:=hid (And.intro c0 c1)
   clear hb h1 c0 c1 hD
   gi_wp2
   have r0:=cell_of_one ((World.putObj_heap_other (o:=.deferred none) (show w.heap.size≠wl.heap.size by omega)).trans HC.out.1)
   have r1:=cell_of_one ((World.putObj_heap_other (o:=.deferred none) (show w.heap.size+1≠wl.heap.size by omega)).trans HC.out.2)
   refine⟨by simp,.inl ⟨_,_,rfl,run_takeDeferred HD.out,?_⟩⟩
   refine⟨.tuple #[.slice none 0 0,.int .i64 (jd l.length l []).2],by simp[results,Tryz.results96,go_sem,r0,r1],[],.slice none 0 0,?_,?_,aI.nil _ _,?_⟩
   ·rw[HR.out]
   ·exact HH.out.1.trans (kF.putObj (Bn:=0) _ _ _ (by omega) (by omega)).below
   ·rw[HR.out,HH.out.2];rfl
  |_=>exact h.elim
theorem kS (A:Option Addr) (n c:Nat) (l:List UInt8) (w:World) (B:Nat) (hB:B≤w.heap.size) (hA:At w B A (l.map bv)) (hn:n=l.length) (hc:n≤c):
  Calls Tryz.prog 96 #[.slice A n c] w (mo w l):=by
 by_cases hl:n≤1488
 ·exact Hr A n c l w B hB hA hn hc hl
 ·have HR:=hid (show iJ l=([],2) by unfold iJ;rw[if_pos (by omega)])
  have h9:1488<n:=by omega
  clear hA hB hn hc hl
  go_enter Tryz.func96,Tryz.ntmps96
  go_wp2
  exact bodyPost_ret (v:=.tuple #[.slice none 0 0,.int .i64 2]) (by simp[results,Tryz.results96,go_sem]) rfl ⟨[],.slice none 0 0,by rw[HR.out],by exact aA,aI.nil _ _,by rw[HR.out];rfl⟩
theorem bQ (n lo hi:Int) (w:World):Calls Tryz.prog 81 #[.int .i64 n,.int .i64 lo,.int .i64 hi] w fun e w'=>e=.returned (.bool (bC n lo hi))∧w=w':=by
 by_cases h1:lo≤n<;>by_cases h2:n≤hi
 all_goals
  go_enter Tryz.func81,Tryz.ntmps81
  go_wp2
  go_ret
  exact⟨by simp[bC,h1,h2],rfl⟩
def okO (o:Int×List UInt8):Bool:=bC o.1 0 255&&decide (o.2.length≤253)
def sV (o:Int×List UInt8):List UInt8:=UInt8.ofNat o.1.toNat::UInt8.ofNat (o.2.length+2)::o.2
def encs (L:List (Int×List UInt8)):List UInt8:=L.flatMap sV
def encR (L:List (Int×List UInt8)):List UInt8×Int:=
 if 64<L.length then([],3) else if L.all okO=true then(if 1488<(encs L).length then([],2) else(encs L,0)) else([],80)
def gK (w:World) (L:List (Int×List UInt8)) (x:Ending) (w':World):Prop:=
 ∃v,x=.returned (.tuple #[v,.int .i64 (encR L).2])∧Below w.heap.size w w'∧w'.ownsRow w.heap.size 5 1 v (encR L).1.length ((encR L).1.map bv)
theorem om {L:List (Int×List UInt8)} {k:Nat} (hk:k<L.length):encs (L.take (k+1))=encs (L.take k)++sV L[k]:=by
 unfold encs
 rw[List.take_succ_eq_append_getElem hk,List.flatMap_append]
 simp only[List.flatMap_cons,List.flatMap_nil,List.append_nil]
theorem zW {L:List (Int×List UInt8)} {k:Nat} (hk:k<L.length) (h:(L.take k).all okO=true) (h2:okO L[k]=true):(L.take (k+1)).all okO=true:=by
 rw[List.take_succ_eq_append_getElem hk,List.all_append,h];simp[h2]
theorem xY {L:List (Int×List UInt8)} {k:Nat} (hk:k<L.length) (h2:okO L[k]=false):L.all okO=false:=by
 rw[List.all_eq_false]
 exact⟨L[k],List.getElem_mem hk,by rw[h2];simp⟩
theorem byteOf {a:Int} (h:bC a 0 255=true): ∃x:UInt8,a=(x.toNat:Int)∧UInt8.ofNat a.toNat=x:=by
 simp only[bC,Bool.and_eq_true,decide_eq_true_eq] at h
 refine⟨UInt8.ofNat a.toNat,?_,rfl⟩
 have:(UInt8.ofNat a.toNat).toNat=a.toNat:=by simp;omega
 omega
theorem yY (x:UInt8):IntKind.u8.wrap (x.toNat:Int)=(x.toNat:Int):=by
 have:=x.toNat_lt
 simp only[IntKind.wrap,IntKind.signed,IntKind.bits]
 simp
 omega
theorem vk (E:List aH) (k:Nat) (hk:k<E.length):(E.map aH.o)[k]'(by simpa using hk)=(E[k].t,E[k].d):=by simp[aH.o]
theorem own_ne {w:World} {base size n:Nat} {v:Value} {xs:List Value} {T:Nat} {cs:Array Value} (h:w.ownsRow base 5 size v n xs) (hT:w.heap[T]? =some (.cells cs 111 (0,0))): ∀g,v.ownBlock=some g→g≠T:=by
 intro g hg e
 subst e
 obtain⟨cur,hc⟩:=bL h hg
 rw[hT] at hc
 simp at hc
set_option maxRecDepth 100000 in
theorem TN (A:Option Addr) (c:Nat) (E:List aH) (w:World) (B:Nat) (hB:B≤w.heap.size) (hE:aJ w B A E) (hl:E.length≤64):
  Calls Tryz.prog 45 #[.slice A E.length c] w (gK w (E.map aH.o)):=by
 have HE:=hid hE
 have HB:=hid hB
 clear hE hB
 go_enter Tryz.func45,Tryz.ntmps45
 go_wp2
 go_loopw [12,4] (fun i v wr=> ∃(k n c:Nat) (A:Option Addr),k≤E.length∧i=.int .i64 k∧v=.slice A n c∧n≤c∧n≤255*k∧n=(encs ((E.map aH.o).take k)).length∧((E.map aH.o).take k).all okO=true∧Below w.heap.size w wr∧wr.ownsRow w.heap.size 5 1 (.slice A n c) n ((encs ((E.map aH.o).take k)).map bv)) (fun i _ _=>E.length-(intOf i).toNat)
 case atStart=>exact⟨0,0,0,none,Nat.zero_le _,rfl,rfl,aaE _,by omega,rfl,rfl,Below.refl _ _,aN _ _ _ _⟩
 case round=>
  obtain⟨k,n,c',A',hk,rfl,rfl,hnc,Aq,hn,hall,hb,ho⟩:=hrel
  have HN:=hid (And.intro hn (And.intro hall hnc))
  have aQ:=hid hb
  have HO:=hid ho
  have hsz:=hb.size
  clear hn hall hnc hb ho
  by_cases hlt:k<E.length
  ·obtain⟨b,o,rfl,tL,hc0,hc1⟩:=(HE.out.keep (aQ.out.mono HB.out)).get hlt
   obtain⟨hd1,hd2⟩:=(HE.out.keep (aQ.out.mono HB.out)).2 E[k] (List.getElem_mem hlt)
   have ql:=hid (vk E k hlt)
   obtain⟨⟨t,d,a,c2⟩,he⟩: ∃e,E[k]=e:=⟨_,rfl⟩
   rw[he] at hc0 hc1 hd1 hd2 ql
   simp only[aH.v] at hc1 hd1 hd2 ql
   dsimp only at hc0
   have HD:=hid (And.intro hd1 hd2)
   have hkl:k<(E.map aH.o).length:=by simpa using hlt
   have tH:=hid hkl
   have Yu:=hid (show At w B a (d.map bv) by have:=(HE.out.2 E[k] (List.getElem_mem hlt)).1;rw[he] at this;exact this)
   clear he hd1 hd2 hkl
   cases hw:bC t 0 255
   ·go_wp2_with (go_at_call 81;refine(bQ _ _ _ _).mono ?_;rw[hw];rintro e w1 ⟨rfl,rfl⟩)
    have HX:=hid (show(E.map aH.o).all okO=false from xY tH.out (by rw[ql.out];unfold okO;simp only[hw];rfl))
    have HR:=hid (show encR (E.map aH.o)=([],80) by unfold encR;rw[if_neg (by rw[List.length_map];omega),if_neg (by rw[HX.out];simp)])
    go_ret2
    exact⟨.slice none 0 0,by rw[HR.out];rfl,by have:=aQ.out;exact aA,by rw[HR.out];exact aN _ _ _ _⟩
   ·by_cases Y_:253<d.length
    ·have HX:=hid (show(E.map aH.o).all okO=false from xY tH.out (by rw[ql.out];unfold okO;simp;omega))
     have HR:=hid (show encR (E.map aH.o)=([],80) by unfold encR;rw[if_neg (by rw[List.length_map];omega),if_neg (by rw[HX.out];simp)])
     go_wp2_with (go_at_call 81;refine(bQ _ _ _ _).mono ?_;rw[hw];rintro e w1 ⟨rfl,rfl⟩)
     go_ret2
     exact⟨.slice none 0 0,by rw[HR.out];rfl,by have:=aQ.out;exact aA,by rw[HR.out];exact aN _ _ _ _⟩
    ·obtain⟨x,hx,hx2⟩:=byteOf hw
     have jU:=hid (show okO (t,d)=true by unfold okO;simp only[hw];simp;omega)
     have YP:=hid hx2
     subst hx
     obtain⟨y,hy⟩: ∃y:UInt8,(d.length:Int)+2=(y.toNat:Int):=⟨UInt8.ofNat (d.length+2),by simp;omega⟩
     clear hx2
     go_wp2_with (go_at_call 81;refine(bQ _ _ _ _).mono ?_;rw[hw];rintro e w1 ⟨rfl,rfl⟩)
     obtain⟨wz,hwz⟩: ∃wz,wz=wr.alloc (.cells #[.int .i64 (x.toNat:Int),.slice a d.length c2] 111):=⟨_,rfl⟩
     rw[←hwz]
     obtain⟨T,hT⟩: ∃T,T=wr.heap.size:=⟨_,rfl⟩
     rw[←hT]
     have Iq:T<wz.heap.size:=by rw[hwz,hT];simp
     have z0:wz.cell? ⟨T,0,none⟩=some (.int .i64 (x.toNat:Int)):=by rw[hwz,hT,cell_of_row _ _ 0 _ _ (0,0) (heap_alloc_new wr _)];rfl
     have z1:wz.cell? ⟨T,1,none⟩=some (.slice a d.length c2):=by rw[hwz,hT,cell_of_row _ _ 1 _ _ (0,0) (heap_alloc_new wr _)];rfl
     have KN:=hid (show wz.heap[T]? =some (.cells #[.int .i64 (x.toNat:Int),.slice a d.length c2] 111 (0,0)) by rw[hwz,hT];exact heap_alloc_new wr _)
     have zH:=hid (show Below w.heap.size w wz by rw[hwz];exact aQ.out.alloc hsz _)
     have HOZ:=hid (show wz.ownsRow w.heap.size 5 1 (.slice A' n c') n ((encs ((E.map aH.o).take k)).map bv) by rw[hwz];exact own_below HO.out ((Below.refl _ _).alloc (aaE _) _))
     have HTB:=hid (show∀g,(Value.slice A' n c').ownBlock=some g→g<T by intro g hg;rw[hT];exact eY HO.out hg)
     have hszz:=zH.out.size
     have qQ:=hid (At.gW wz #[.int .u8 (x.toNat:Int),.int .u8 (y.toNat:Int)] 5 [bv x,bv y] wz.heap.size rfl rfl)
     have x1:((x.toNat:Nat):Int)<256:=by have:=x.toNat_lt;omega
     have y1:((y.toNat:Nat):Int)<256:=by have:=y.toNat_lt;omega
     have i1:IntKind.i64.wrap ((d.length:Int)+2)=(d.length:Int)+2:=IntWalk.i64_in _ (by omega)
     have u1:IntKind.u8.wrap (x.toNat:Int)=(x.toNat:Int):=yY x
     have u2:IntKind.u8.wrap (y.toNat:Int)=(y.toNat:Int):=yY y
     have j1:IntKind.i64.wrap (y.toNat:Int)=(y.toNat:Int):=IntWalk.i64_in _ (by omega)
     have aae:d.length≤253:=by omega
     have yG:n≤255*64:=by omega
     have HY:=hid hy
     clear hwz hT hc0 hc1
     go_region_held3 (fun w'=>w'.cell? ⟨T,0,none⟩=some (.int .i64 (x.toNat:Int))∧w'.cell? ⟨T,1,none⟩=some (.slice a d.length c2)) (first|(go_keep;done)|(go_simp;done)|(simp[go_sem];done)) (first|(refine gT w rfl (.tmp 26) (.tmp 35) 30 rfl 5 Tryz.underlying30 (.int .u8 0) 1 1 dW rfl (by decide) (by decide) (.slice A' n c') n ((encs ((E.map aH.o).take k)).map bv) rfl (by exact own_below HOZ.out (by exact aA)) (wz.heap.size+1) (some ⟨wz.heap.size,0,none⟩) 2 2 [bv x,bv y] rfl rfl (by omega) (by exact qQ.out.keep (by exact aA)) (by intro u hu;simp at hu;rcases hu with rfl|rfl<;>rfl) (by have:=zH.out;exact aA) ?_;intro A1 c1 w1 ho1 hc1 hb1 hg1;have HT1:=hid (show w1.heap[T]? =some (.cells #[.int .i64 (x.toNat:Int),.slice a d.length c2] 111 (0,0)) from(hg1.block T (by simp;omega) (fun e=>by have:=HTB.out T e.symm;omega)).trans (by exact(Below.heap_alloc wz _ T Iq).trans KN.out));have q0:w1.cell? ⟨T,0,none⟩=some (.int .i64 (x.toNat:Int)):=(cell_of_row w1 T 0 _ _ (0,0) HT1.out).trans rfl;have q1:w1.cell? ⟨T,1,none⟩=some (.slice a d.length c2):=(cell_of_row w1 T 1 _ _ (0,0) HT1.out).trans rfl;have HTN:=hid (own_ne ho1 HT1.out);have YE:=hid ho1;have HB1:=hid hb1;clear ho1 hc1 hb1 hg1)|(go_loud (refine gT w rfl (.tmp 36) (.tmp 38) 30 rfl 5 Tryz.underlying30 (.int .u8 0) 1 1 dW rfl (by decide) (by decide) (.slice A1 (n+2) c1) (n+2) ((encs ((E.map aH.o).take k)).map bv++[bv x,bv y]) rfl (by exact own_below YE.out (by exact aA)) B a d.length c2 (d.map bv) rfl (by simp) (by omega) (by have hq:=HB1.out;have hqs:=hq.size;have hqb:=HB.out;exact Yu.out.keep (by exact aA)) (yw _) (by have:=HB1.out;exact aA) ?_);intro A3 c3 w3 ho3 hc3 hb3 hg3;have HT3:=hid (show w3.heap[T]? =some (.cells #[.int .i64 (x.toNat:Int),.slice a d.length c2] 111 (0,0)) from(hg3.block T (by exact lt_of_block HT1.out) (fun e=>HTN.out T e.symm rfl)).trans (by exact HT1.out));have q0:w3.cell? ⟨T,0,none⟩=some (.int .i64 (x.toNat:Int)):=(cell_of_row w3 T 0 _ _ (0,0) HT3.out).trans rfl;have q1:w3.cell? ⟨T,1,none⟩=some (.slice a d.length c2):=(cell_of_row w3 T 1 _ _ (0,0) HT3.out).trans rfl;have gZ:=hid ho3;have HB3:=hid hb3;have zk:=hid hc3;clear ho3 hc3 hb3 hg3))
     go_wp2_with fail
     go_roundw
     case rel=>exact⟨k+1,n+2+d.length,_,_,by omega,by go_num,rfl,zk.out,by omega,by rw[om tH.out,ql.out,List.length_append,←HN.out.1];simp[sV];omega,zW tH.out HN.out.2.1 (by rw[ql.out];exact jU.out),HB3.out,by
      rw[om tH.out,ql.out,List.map_append]
      have e:(sV ((x.toNat:Int),d)).map bv=[bv x,bv y]++d.map bv:=by
       simp only[sV,List.map_cons]
       rw[show UInt8.ofNat (x.toNat:Int).toNat=x from YP.out,show UInt8.ofNat (d.length+2)=y from by apply UInt8.toNat.inj;have:=HY.out;simp;omega]
       rfl
      rw[e,←List.append_assoc]
      exact gZ.out⟩
     case measure=>simp[intOf];omega
  ·obtain rfl:k=E.length:=by omega
   have HT:=hid (show(E.map aH.o).take E.length=E.map aH.o from List.take_of_length_le (by simp))
   have HL:=hid (show(E.map aH.o).all okO=true∧n=(encs (E.map aH.o)).length by have:=HN.out;rw[HT.out] at this;exact⟨this.2.1,this.1⟩)
   have jB:=hid (show encR (E.map aH.o)=if 1488<n then([],2) else(encs (E.map aH.o),0) by unfold encR;rw[if_neg (by rw[List.length_map];omega),if_pos HL.out.1,←HL.out.2])
   by_cases hbig:1488<n
   ·go_wp2
    go_ret2
    exact⟨.slice none 0 0,by rw[jB.out,if_pos hbig];rfl,aQ.out,by rw[jB.out,if_pos hbig];exact aN _ _ _ _⟩
   ·go_wp2
    go_ret2
    refine⟨.slice A' n c',by rw[jB.out,if_neg hbig];rfl,aQ.out,?_⟩
    rw[jB.out,if_neg hbig]
    have:=HO.out
    rw[HT.out] at this
    have e:=HL.out.2
    simp only
    rw[←e]
    exact this
theorem dZ (A:Option Addr) (n c:Nat) (E:List aH) (w:World) (B:Nat) (hB:B≤w.heap.size) (hE:aJ w B A E) (hn:n=E.length):
  Calls Tryz.prog 45 #[.slice A n c] w (gK w (E.map aH.o)):=by
 subst hn
 by_cases hl:E.length≤64
 ·exact TN A c E w B hB hE hl
 ·have HR:=hid (show encR (E.map aH.o)=([],3) by unfold encR;rw[if_pos (by rw[List.length_map];omega)])
  have h:64<E.length:=by omega
  clear hE hB hl
  go_enter Tryz.func45,Tryz.ntmps45
  go_wp2
  go_ret2
  exact⟨.slice none 0 0,by rw[HR.out];rfl,Below.refl _ _,by rw[HR.out];exact aN _ _ _ _⟩
def gI (typ size n:Int):Bool:=decide (0≤typ∧typ≤255∧1≤size∧size≤4∧0≤n∧n<256^size.toNat)
def Xd (b:Bool):Int:=if b=true then 0 else 80
def SF (b:Bool) (typ size n:Int):Int×List UInt8:=if b=true then(typ,bX n.toNat size.toNat) else(0,[])
def wP (w:World) (typ size n:Int) (x:Ending) (w':World):Prop:=
 ∃e:aH,x=.returned (.tuple #[.agg #[.int .i64 e.t,e.v],.int .i64 (Xd (gI typ size n))])∧Below w.heap.size w w'∧w'.ownsRow w.heap.size 5 1 e.v e.d.length (e.d.map bv)∧e.o=SF (gI typ size n) typ size n
theorem qE (n k:Nat):(bX n k).length=k:=aP n k
theorem Ux (typ:Int) (m:Nat) (w:World) (h0:bC typ 0 255=true) (hn2:(m:Int)≤9223372036854775807):Calls Tryz.prog 77 #[.int .i64 typ,.int .i64 1,.int .i64 m] w (wP w typ 1 m):=by
 have hd:decide ((m:Int)<0)=false:=by simp
 have hty:0≤typ∧typ≤255:=by simpa[bC] using h0
 have Tx:=hid hty
 clear hty
 by_cases hlt:m<256
 ·have HM:=hid (show gI typ 1 m=true by have:=Tx.out;unfold gI;simp;omega)
  have e:((m:Int) / 256 !=0)=false:=by simp;omega
  have HP:=hid (qE m 1)
  go_enter Tryz.func77,Tryz.ntmps77
  go_wp2_with (first|((first|(go_at_call 81;refine(bQ _ _ _ _).mono ?_;rw[h0])|(go_at_call 81;refine(bQ 1 1 4 _).mono ?_;rw[show bC 1 1 4=true from rfl]));rintro e w1 ⟨rfl,rfl⟩)|(go_at_call 94;refine(oC m 1 _ (by omega) (by decide) (by decide)).mono ?_;rintro e w1 ⟨v,rfl,hb,ho⟩;obtain⟨xs,dd,rfl⟩:=aB hb;clear hb;obtain⟨A2,c2,rfl,-,-⟩:=ownsRow_form ho;have HO:=hid ho;clear ho))
  refine bodyPost_ret (v:=.tuple #[.agg #[.int .i64 typ,.slice A2 1 c2],.int .i64 0]) (by simp[results,Tryz.results77,go_sem]) rfl ⟨⟨typ,bX m 1,A2,c2⟩,by rw[HM.out];simp only[aH.v];rw[HP.out];rfl,by exact aA,?_,by rw[HM.out];rfl⟩
  simp only[aH.v]
  rw[HP.out]
  exact aK (dI HO.out (by simp) (aaE _)) (by simp)
 ·have HM:=hid (show gI typ 1 m=false by unfold gI;simp;omega)
  have e:((m:Int) / 256 !=0)=true:=by simp;omega
  go_enter Tryz.func77,Tryz.ntmps77
  go_wp2_with ((first|(go_at_call 81;refine(bQ _ _ _ _).mono ?_;rw[h0])|(go_at_call 81;refine(bQ 1 1 4 _).mono ?_;rw[show bC 1 1 4=true from rfl]));rintro e w1 ⟨rfl,rfl⟩)
  exact bodyPost_ret (v:=.tuple #[.agg #[.int .i64 0,.slice none 0 0],.int .i64 80]) (by simp[results,Tryz.results77,go_sem]) rfl ⟨⟨0,[],none,0⟩,by rw[HM.out];rfl,by exact aA,aN _ _ _ _,by rw[HM.out];rfl⟩
theorem Uy (typ:Int) (m:Nat) (w:World) (h0:bC typ 0 255=true) (hn2:(m:Int)≤9223372036854775807):Calls Tryz.prog 77 #[.int .i64 typ,.int .i64 2,.int .i64 m] w (wP w typ 2 m):=by
 have hd:decide ((m:Int)<0)=false:=by simp
 have hty:0≤typ∧typ≤255:=by simpa[bC] using h0
 have Tx:=hid hty
 clear hty
 by_cases hlt:m<65536
 ·have HM:=hid (show gI typ 2 m=true by have:=Tx.out;unfold gI;simp;omega)
  have e:((m:Int) / 65536 !=0)=false:=by simp;omega
  have HP:=hid (qE m 2)
  go_enter Tryz.func77,Tryz.ntmps77
  go_wp2_with (first|((first|(go_at_call 81;refine(bQ _ _ _ _).mono ?_;rw[h0])|(go_at_call 81;refine(bQ 2 1 4 _).mono ?_;rw[show bC 2 1 4=true from rfl]));rintro e w1 ⟨rfl,rfl⟩)|(go_at_call 94;refine(oC m 2 _ (by omega) (by decide) (by decide)).mono ?_;rintro e w1 ⟨v,rfl,hb,ho⟩;obtain⟨xs,dd,rfl⟩:=aB hb;clear hb;obtain⟨A2,c2,rfl,-,-⟩:=ownsRow_form ho;have HO:=hid ho;clear ho))
  refine bodyPost_ret (v:=.tuple #[.agg #[.int .i64 typ,.slice A2 2 c2],.int .i64 0]) (by simp[results,Tryz.results77,go_sem]) rfl ⟨⟨typ,bX m 2,A2,c2⟩,by rw[HM.out];simp only[aH.v];rw[HP.out];rfl,by exact aA,?_,by rw[HM.out];rfl⟩
  simp only[aH.v]
  rw[HP.out]
  exact aK (dI HO.out (by simp) (aaE _)) (by simp)
 ·have HM:=hid (show gI typ 2 m=false by unfold gI;simp;omega)
  have e:((m:Int) / 65536 !=0)=true:=by simp;omega
  go_enter Tryz.func77,Tryz.ntmps77
  go_wp2_with ((first|(go_at_call 81;refine(bQ _ _ _ _).mono ?_;rw[h0])|(go_at_call 81;refine(bQ 2 1 4 _).mono ?_;rw[show bC 2 1 4=true from rfl]));rintro e w1 ⟨rfl,rfl⟩)
  exact bodyPost_ret (v:=.tuple #[.agg #[.int .i64 0,.slice none 0 0],.int .i64 80]) (by simp[results,Tryz.results77,go_sem]) rfl ⟨⟨0,[],none,0⟩,by rw[HM.out];rfl,by exact aA,aN _ _ _ _,by rw[HM.out];rfl⟩
theorem Uz (typ:Int) (m:Nat) (w:World) (h0:bC typ 0 255=true) (hn2:(m:Int)≤9223372036854775807):Calls Tryz.prog 77 #[.int .i64 typ,.int .i64 3,.int .i64 m] w (wP w typ 3 m):=by
 have hd:decide ((m:Int)<0)=false:=by simp
 have hty:0≤typ∧typ≤255:=by simpa[bC] using h0
 have Tx:=hid hty
 clear hty
 by_cases hlt:m<16777216
 ·have HM:=hid (show gI typ 3 m=true by have:=Tx.out;unfold gI;simp;omega)
  have e:((m:Int) / 16777216 !=0)=false:=by simp;omega
  have HP:=hid (qE m 3)
  go_enter Tryz.func77,Tryz.ntmps77
  go_wp2_with (first|((first|(go_at_call 81;refine(bQ _ _ _ _).mono ?_;rw[h0])|(go_at_call 81;refine(bQ 3 1 4 _).mono ?_;rw[show bC 3 1 4=true from rfl]));rintro e w1 ⟨rfl,rfl⟩)|(go_at_call 94;refine(oC m 3 _ (by omega) (by decide) (by decide)).mono ?_;rintro e w1 ⟨v,rfl,hb,ho⟩;obtain⟨xs,dd,rfl⟩:=aB hb;clear hb;obtain⟨A2,c2,rfl,-,-⟩:=ownsRow_form ho;have HO:=hid ho;clear ho))
  refine bodyPost_ret (v:=.tuple #[.agg #[.int .i64 typ,.slice A2 3 c2],.int .i64 0]) (by simp[results,Tryz.results77,go_sem]) rfl ⟨⟨typ,bX m 3,A2,c2⟩,by rw[HM.out];simp only[aH.v];rw[HP.out];rfl,by exact aA,?_,by rw[HM.out];rfl⟩
  simp only[aH.v]
  rw[HP.out]
  exact aK (dI HO.out (by simp) (aaE _)) (by simp)
 ·have HM:=hid (show gI typ 3 m=false by unfold gI;simp;omega)
  have e:((m:Int) / 16777216 !=0)=true:=by simp;omega
  go_enter Tryz.func77,Tryz.ntmps77
  go_wp2_with ((first|(go_at_call 81;refine(bQ _ _ _ _).mono ?_;rw[h0])|(go_at_call 81;refine(bQ 3 1 4 _).mono ?_;rw[show bC 3 1 4=true from rfl]));rintro e w1 ⟨rfl,rfl⟩)
  exact bodyPost_ret (v:=.tuple #[.agg #[.int .i64 0,.slice none 0 0],.int .i64 80]) (by simp[results,Tryz.results77,go_sem]) rfl ⟨⟨0,[],none,0⟩,by rw[HM.out];rfl,by exact aA,aN _ _ _ _,by rw[HM.out];rfl⟩
theorem UA (typ:Int) (m:Nat) (w:World) (h0:bC typ 0 255=true) (hn2:(m:Int)≤9223372036854775807):Calls Tryz.prog 77 #[.int .i64 typ,.int .i64 4,.int .i64 m] w (wP w typ 4 m):=by
 have hd:decide ((m:Int)<0)=false:=by simp
 have hty:0≤typ∧typ≤255:=by simpa[bC] using h0
 have Tx:=hid hty
 clear hty
 by_cases hlt:m<4294967296
 ·have HM:=hid (show gI typ 4 m=true by have:=Tx.out;unfold gI;simp;omega)
  have e:((m:Int) / 4294967296 !=0)=false:=by simp;omega
  have HP:=hid (qE m 4)
  go_enter Tryz.func77,Tryz.ntmps77
  go_wp2_with (first|((first|(go_at_call 81;refine(bQ _ _ _ _).mono ?_;rw[h0])|(go_at_call 81;refine(bQ 4 1 4 _).mono ?_;rw[show bC 4 1 4=true from rfl]));rintro e w1 ⟨rfl,rfl⟩)|(go_at_call 94;refine(oC m 4 _ (by omega) (by decide) (by decide)).mono ?_;rintro e w1 ⟨v,rfl,hb,ho⟩;obtain⟨xs,dd,rfl⟩:=aB hb;clear hb;obtain⟨A2,c2,rfl,-,-⟩:=ownsRow_form ho;have HO:=hid ho;clear ho))
  refine bodyPost_ret (v:=.tuple #[.agg #[.int .i64 typ,.slice A2 4 c2],.int .i64 0]) (by simp[results,Tryz.results77,go_sem]) rfl ⟨⟨typ,bX m 4,A2,c2⟩,by rw[HM.out];simp only[aH.v];rw[HP.out];rfl,by exact aA,?_,by rw[HM.out];rfl⟩
  simp only[aH.v]
  rw[HP.out]
  exact aK (dI HO.out (by simp) (aaE _)) (by simp)
 ·have HM:=hid (show gI typ 4 m=false by unfold gI;simp;omega)
  have e:((m:Int) / 4294967296 !=0)=true:=by simp;omega
  go_enter Tryz.func77,Tryz.ntmps77
  go_wp2_with ((first|(go_at_call 81;refine(bQ _ _ _ _).mono ?_;rw[h0])|(go_at_call 81;refine(bQ 4 1 4 _).mono ?_;rw[show bC 4 1 4=true from rfl]));rintro e w1 ⟨rfl,rfl⟩)
  exact bodyPost_ret (v:=.tuple #[.agg #[.int .i64 0,.slice none 0 0],.int .i64 80]) (by simp[results,Tryz.results77,go_sem]) rfl ⟨⟨0,[],none,0⟩,by rw[HM.out];rfl,by exact aA,aN _ _ _ _,by rw[HM.out];rfl⟩
theorem IQ (typ size n:Int) (w:World) (hn2:n≤9223372036854775807):Calls Tryz.prog 77 #[.int .i64 typ,.int .i64 size,.int .i64 n] w (wP w typ size n):=by
 cases h0:bC typ 0 255
 ·have HM:=hid (show gI typ size n=false by simp[bC] at h0;unfold gI;simp;omega)
  go_enter Tryz.func77,Tryz.ntmps77
  go_wp2_with (go_at_call 81;refine(bQ _ _ _ _).mono ?_;rw[h0];rintro e w1 ⟨rfl,rfl⟩)
  exact bodyPost_ret (v:=.tuple #[.agg #[.int .i64 0,.slice none 0 0],.int .i64 80]) (by simp[results,Tryz.results77,go_sem]) rfl ⟨⟨0,[],none,0⟩,by rw[HM.out];rfl,by exact aA,aN _ _ _ _,by rw[HM.out];rfl⟩
 focus
  cases h1:bC size 1 4
 focus
  have HM:=hid (show gI typ size n=false by simp[bC] at h1;unfold gI;simp;omega)
 rotate_left
 focus
  by_cases hn:n<0
 focus
  have HM:=hid (show gI typ size n=false by unfold gI;simp;omega)
 rotate_left
 ·obtain⟨m,rfl⟩:=Int.eq_ofNat_of_zero_le (show 0≤n by omega)
  have hs:size=1∨size=2∨size=3∨size=4:=by simp[bC] at h1;omega
  rcases hs with rfl|rfl|rfl|rfl
  ·exact Ux typ m w h0 hn2
  ·exact Uy typ m w h0 hn2
  ·exact Uz typ m w h0 hn2
  ·exact UA typ m w h0 hn2
 all_goals
  go_enter Tryz.func77,Tryz.ntmps77
  go_wp2_with ((first|(go_at_call 81;refine(bQ _ _ _ _).mono ?_;rw[h0])|(go_at_call 81;refine(bQ _ _ _ _).mono ?_;rw[h1]));rintro e w1 ⟨rfl,rfl⟩)
  exact bodyPost_ret (v:=.tuple #[.agg #[.int .i64 0,.slice none 0 0],.int .i64 80]) (by simp[results,Tryz.results77,go_sem]) rfl ⟨⟨0,[],none,0⟩,by rw[HM.out];rfl,by exact aA,aN _ _ _ _,by rw[HM.out];rfl⟩
def lW (a b:Int×List UInt8):Bool:=a.1==b.1&&a.2==b.2
theorem NZ (t1 t2:Int) (A1 A2:Option Addr) (n1 n2 c1 c2:Nat) (d1 d2:List UInt8) (w:World) (B:Nat) (hB:B≤w.heap.size) (h1:At w B A1 (d1.map bv)) (h2:At w B A2 (d2.map bv)) (hn1:n1=d1.length) (hn2:n2=d2.length):
  Calls Tryz.prog 102 #[.agg #[.int .i64 t1,.slice A1 n1 c1],.agg #[.int .i64 t2,.slice A2 n2 c2]] w fun x w'=>x=.returned (.bool (lW (t1,d1) (t2,d2)))∧Below w.heap.size w w':=by
 have q1: ∀W:World,At W B A1 (d1.map bv)→(convert 30 9 (.slice A1 n1 c1)).run Tryz.prog W=.ok (.string ⟨d1.toArray⟩) W:=fun W h=>gM Tryz.underlying30 Tryz.underlying5 Tryz.underlying9 hn1 h
 have q2: ∀W:World,At W B A2 (d2.map bv)→(convert 30 9 (.slice A2 n2 c2)).run Tryz.prog W=.ok (.string ⟨d2.toArray⟩) W:=fun W h=>gM Tryz.underlying30 Tryz.underlying5 Tryz.underlying9 hn2 h
 have g1:At ((w.alloc (.cells #[.int .i64 t1,.slice A1 n1 c1] 111)).alloc (.cells #[.int .i64 t2,.slice A2 n2 c2] 111)) B A1 (d1.map bv):=h1.keep (by exact aA)
 have g2:At ((w.alloc (.cells #[.int .i64 t1,.slice A1 n1 c1] 111)).alloc (.cells #[.int .i64 t2,.slice A2 n2 c2] 111)) B A2 (d2.map bv):=h2.keep (by exact aA)
 clear h1 h2 hn1 hn2 hB
 cases ht:(t1==t2)
 ·have HR:=hid (show lW (t1,d1) (t2,d2)=false by unfold lW;simp only[ht,Bool.false_and])
  clear q1 q2 g1 g2
  go_enter Tryz.func102,Tryz.ntmps102
  go_wp2
  go_ret
  exact⟨by rw[HR.out];rfl,by exact aA⟩
 ·cases hd:(d1==d2)
  ·have HR:=hid (show lW (t1,d1) (t2,d2)=false by unfold lW;simp only[hd,Bool.and_false])
   go_enter Tryz.func102,Tryz.ntmps102
   go_wp2
   go_ret
   exact⟨by rw[HR.out];rfl,by exact aA⟩
  ·have HR:=hid (show lW (t1,d1) (t2,d2)=true by unfold lW;simp only[ht,hd,Bool.and_true])
   go_enter Tryz.func102,Tryz.ntmps102
   go_wp2
   go_ret
   exact⟨by rw[HR.out];rfl,by exact aA⟩
theorem NY (t1 t2:Int) (A1 A2:Option Addr) (n1 n2 c1 c2:Nat) (d1 d2:List UInt8) (w:World) (B:Nat) (hB:B≤w.heap.size) (h1:At w B A1 (d1.map bv)) (h2:At w B A2 (d2.map bv)) (hn1:n1=d1.length) (hn2:n2=d2.length):
  Calls Tryz.prog 149 #[.agg #[.int .i64 t1,.slice A1 n1 c1],.agg #[.int .i64 t2,.slice A2 n2 c2]] w fun x w'=>x=.returned (.bool (lW (t1,d1) (t2,d2)))∧Below w.heap.size w w':=by
 have q1: ∀W:World,At W B A1 (d1.map bv)→(convert 30 9 (.slice A1 n1 c1)).run Tryz.prog W=.ok (.string ⟨d1.toArray⟩) W:=fun W h=>gM Tryz.underlying30 Tryz.underlying5 Tryz.underlying9 hn1 h
 have q2: ∀W:World,At W B A2 (d2.map bv)→(convert 30 9 (.slice A2 n2 c2)).run Tryz.prog W=.ok (.string ⟨d2.toArray⟩) W:=fun W h=>gM Tryz.underlying30 Tryz.underlying5 Tryz.underlying9 hn2 h
 have g1:At ((w.alloc (.cells #[.int .i64 t1,.slice A1 n1 c1] 111)).alloc (.cells #[.int .i64 t2,.slice A2 n2 c2] 111)) B A1 (d1.map bv):=h1.keep (by exact aA)
 have g2:At ((w.alloc (.cells #[.int .i64 t1,.slice A1 n1 c1] 111)).alloc (.cells #[.int .i64 t2,.slice A2 n2 c2] 111)) B A2 (d2.map bv):=h2.keep (by exact aA)
 clear h1 h2 hn1 hn2 hB
 cases ht:(t1==t2)
 ·have HR:=hid (show lW (t1,d1) (t2,d2)=false by unfold lW;simp only[ht,Bool.false_and])
  clear q1 q2 g1 g2
  go_enter Tryz.func149,Tryz.ntmps149
  go_wp2
  go_ret
  exact⟨by rw[HR.out];rfl,by exact aA⟩
 ·cases hd:(d1==d2)
  ·have HR:=hid (show lW (t1,d1) (t2,d2)=false by unfold lW;simp only[hd,Bool.and_false])
   go_enter Tryz.func149,Tryz.ntmps149
   go_wp2
   go_ret
   exact⟨by rw[HR.out];rfl,by exact aA⟩
  ·have HR:=hid (show lW (t1,d1) (t2,d2)=true by unfold lW;simp only[ht,hd,Bool.and_true])
   go_enter Tryz.func149,Tryz.ntmps149
   go_wp2
   go_ret
   exact⟨by rw[HR.out];rfl,by exact aA⟩
def jA (a b:List (Int×List UInt8)):Bool:=decide (a=b)
theorem AP (a b:Int×List UInt8):lW a b=decide (a=b):=by
 obtain⟨a1,a2⟩:=a
 obtain⟨b1,b2⟩:=b
 unfold lW
 rw[Bool.eq_iff_iff]
 simp
theorem take_same {a b:List (Int×List UInt8)} {k:Nat} (h:a.take k=b.take k) (h1:k<a.length) (h2:k<b.length) (he:lW a[k] b[k]=true):a.take (k+1)=b.take (k+1):=by
 rw[AP] at he
 rw[List.take_succ_eq_append_getElem h1,List.take_succ_eq_append_getElem h2,h,of_decide_eq_true he]
theorem Bh {a b:List (Int×List UInt8)} {k:Nat} (h1:k<a.length) (h2:k<b.length) (he:lW a[k] b[k]=false):jA a b=false:=by
 unfold jA
 rw[AP] at he
 have he:=of_decide_eq_false he
 apply decide_eq_false
 intro e
 subst e
 exact he rfl
set_option maxRecDepth 100000 in
theorem vJ (A1 A2:Option Addr) (n1 n2 k1 k2:Nat) (E1 E2:List aH) (w:World) (B:Nat) (hB:B≤w.heap.size) (h1:aJ w B A1 E1) (h2:aJ w B A2 E2) (hn1:n1=E1.length) (hn2:n2=E2.length) (hl:n1≤1000000):
  Calls Tryz.prog 64 #[.slice A1 n1 k1,.slice A2 n2 k2] w fun x w'=>x=.returned (.bool (jA (E1.map aH.o) (E2.map aH.o)))∧Below w.heap.size w w':=by
 subst hn1
 subst hn2
 have Ky:=hid h1
 have HE2:=hid h2
 have HB:=hid hB
 clear h1 h2 hB
 by_cases hlen:E1.length=E2.length
 ·have e6:((E1.length:Int) !=(E2.length:Int))=false:=by simp;omega
  have HL:=hid hlen
  have hl2:E2.length≤1000000:=by omega
  clear hlen
  go_enter Tryz.func64,Tryz.ntmps64
  go_wp2
  go_loopw [5] (fun i wr=> ∃k:Nat,k≤E1.length∧i=.int .i64 k∧(E1.map aH.o).take k=(E2.map aH.o).take k∧Below w.heap.size w wr) (fun i _=>E1.length-(intOf i).toNat)
  case atStart=>exact⟨0,Nat.zero_le _,rfl,rfl,Below.refl _ _⟩
  case round=>
   obtain⟨k,hk,rfl,ht,hb⟩:=hrel
   have HT:=hid ht
   have aQ:=hid hb
   have hsz:=hb.size
   clear ht hb
   by_cases hlt:k<E1.length
   ·have hlt2:k<E2.length:=by have:=HL.out;omega
    have HK:=hid (show k<(E1.map aH.o).length∧k<(E2.map aH.o).length by simp;exact⟨hlt,hlt2⟩)
    obtain⟨b1,o1,rfl,hb1,hx1,hy1⟩:=(Ky.out.keep (aQ.out.mono HB.out)).get hlt
    obtain⟨hd1,-⟩:=(Ky.out.keep (aQ.out.mono HB.out)).2 E1[k] (List.getElem_mem hlt)
    have KF:=hid (vk E1 k hlt)
    obtain⟨⟨t1,d1,a1,c1⟩,he1⟩: ∃e,E1[k]=e:=⟨_,rfl⟩
    rw[he1] at hx1 hy1 hd1 KF
    simp only[aH.v] at hy1 hd1 KF
    dsimp only at hx1
    have HD1:=hid hd1
    clear he1 hd1
    obtain⟨b2,o2,rfl,hb2,hx2,hy2⟩:=(HE2.out.keep (aQ.out.mono HB.out)).get hlt2
    obtain⟨hd2,-⟩:=(HE2.out.keep (aQ.out.mono HB.out)).2 E2[k] (List.getElem_mem hlt2)
    have Et:=hid (vk E2 k hlt2)
    obtain⟨⟨t2,d2,a2,c2⟩,he2⟩: ∃e,E2[k]=e:=⟨_,rfl⟩
    rw[he2] at hx2 hy2 hd2 Et
    simp only[aH.v] at hy2 hd2 Et
    dsimp only at hx2
    have HD2:=hid hd2
    clear he2 hd2
    have z1:b1<wr.heap.size:=by have:=HB.out;omega
    have z2:b2<wr.heap.size:=by have:=HB.out;omega
    have j1:(k:Int)<(E1.length:Int):=by omega
    have j2:(k:Int)<(E2.length:Int):=by omega
    have j0:(0:Int)≤(k:Int):=by omega
    clear hb1 hb2
    cases ho:lW (t1,d1) (t2,d2)
    all_goals
     go_wp2_with fail
     go_region_held3 (fun w'=>w'.cell? ⟨b1,o1+k*2,none⟩=some (.int .i64 t1)∧w'.cell? ⟨b1,o1+k*2+1,none⟩=some (.slice a1 d1.length c1)∧w'.cell? ⟨b2,o2+k*2,none⟩=some (.int .i64 t2)∧w'.cell? ⟨b2,o2+k*2+1,none⟩=some (.slice a2 d2.length c2)) (first|(go_keep;done)|(go_simp;done)|(simp[go_sem];done)) ((go_at_call 102;go_loud (refine(NZ t1 t2 a1 a2 d1.length d2.length c1 c2 d1 d2 _ B (by have:=HB.out;first|(simp;omega)|omega) (by have:=HB.out;exact HD1.out.keep (by exact aA)) (by have:=HB.out;exact HD2.out.keep (by exact aA)) rfl rfl).mono ?_);rw[ho];rintro e w1 ⟨rfl,hb⟩;obtain⟨xs,d,rfl⟩:=aB hb;clear hb))
    ·have HR:=hid (show jA (E1.map aH.o) (E2.map aH.o)=false from Bh HK.out.1 HK.out.2 (by rw[KF.out,Et.out];exact ho))
     go_wp2
     go_ret
     exact⟨by rw[HR.out];rfl,by have:=aQ.out;exact aA⟩
    ·go_wp2
     go_roundw
     case rel=>exact⟨k+1,by omega,by go_num,take_same HT.out HK.out.1 HK.out.2 (by rw[KF.out,Et.out];exact ho),by have:=aQ.out;exact aA⟩
     case measure=>simp[intOf];omega
   ·have HR:=hid (show jA (E1.map aH.o) (E2.map aH.o)=true by
     have:=HT.out
     rw[List.take_of_length_le (by simp;omega),List.take_of_length_le (by simp;have:=HL.out;omega)] at this
     unfold jA;rw[this];simp)
    go_wp2
    go_ret
    exact⟨by rw[HR.out];rfl,aQ.out⟩
 ·have e6:((E1.length:Int) !=(E2.length:Int))=true:=by simp;omega
  have HR:=hid (show jA (E1.map aH.o) (E2.map aH.o)=false by
   unfold jA
   apply decide_eq_false
   intro e
   have:=congrArg List.length e
   simp only[List.length_map] at this
   omega)
  clear hlen
  go_enter Tryz.func64,Tryz.ntmps64
  go_wp2
  go_ret
  exact⟨by rw[HR.out];rfl,Below.refl _ _⟩
set_option maxRecDepth 100000 in
theorem K8 (A1 A2:Option Addr) (n1 n2 k1 k2:Nat) (E1 E2:List aH) (w:World) (B:Nat) (hB:B≤w.heap.size) (h1:aJ w B A1 E1) (h2:aJ w B A2 E2) (hn1:n1=E1.length) (hn2:n2=E2.length) (hl:n1≤1000000):
  Calls Tryz.prog 148 #[.slice A1 n1 k1,.slice A2 n2 k2,.func (.func 149) #[] #[]] w fun x w'=>x=.returned (.bool (jA (E1.map aH.o) (E2.map aH.o)))∧Below w.heap.size w w':=by
 subst hn1
 subst hn2
 have Ky:=hid h1
 have HE2:=hid h2
 have HB:=hid hB
 clear h1 h2 hB
 by_cases hlen:E1.length=E2.length
 ·have e6:((E1.length:Int) !=(E2.length:Int))=false:=by simp;omega
  have HL:=hid hlen
  have hl2:E2.length≤1000000:=by omega
  clear hlen
  go_enter Tryz.func148,Tryz.ntmps148
  go_wp2
  go_loopw [17] (fun i wr=> ∃k:Nat,k≤E1.length∧i=.int .i64 k∧(E1.map aH.o).take k=(E2.map aH.o).take k∧Below w.heap.size w wr) (fun i _=>E1.length-(intOf i).toNat)
  case atStart=>exact⟨0,Nat.zero_le _,rfl,rfl,Below.refl _ _⟩
  case round=>
   obtain⟨k,hk,rfl,ht,hb⟩:=hrel
   have HT:=hid ht
   have aQ:=hid hb
   have hsz:=hb.size
   clear ht hb
   by_cases hlt:k<E1.length
   ·have hlt2:k<E2.length:=by have:=HL.out;omega
    have HK:=hid (show k<(E1.map aH.o).length∧k<(E2.map aH.o).length by simp;exact⟨hlt,hlt2⟩)
    obtain⟨b1,o1,rfl,hb1,hx1,hy1⟩:=(Ky.out.keep (aQ.out.mono HB.out)).get hlt
    obtain⟨hd1,-⟩:=(Ky.out.keep (aQ.out.mono HB.out)).2 E1[k] (List.getElem_mem hlt)
    have KF:=hid (vk E1 k hlt)
    obtain⟨⟨t1,d1,a1,c1⟩,he1⟩: ∃e,E1[k]=e:=⟨_,rfl⟩
    rw[he1] at hx1 hy1 hd1 KF
    simp only[aH.v] at hy1 hd1 KF
    dsimp only at hx1
    have HD1:=hid hd1
    clear he1 hd1
    obtain⟨b2,o2,rfl,hb2,hx2,hy2⟩:=(HE2.out.keep (aQ.out.mono HB.out)).get hlt2
    obtain⟨hd2,-⟩:=(HE2.out.keep (aQ.out.mono HB.out)).2 E2[k] (List.getElem_mem hlt2)
    have Et:=hid (vk E2 k hlt2)
    obtain⟨⟨t2,d2,a2,c2⟩,he2⟩: ∃e,E2[k]=e:=⟨_,rfl⟩
    rw[he2] at hx2 hy2 hd2 Et
    simp only[aH.v] at hy2 hd2 Et
    dsimp only at hx2
    have HD2:=hid hd2
    clear he2 hd2
    have z1:b1<wr.heap.size:=by have:=HB.out;omega
    have z2:b2<wr.heap.size:=by have:=HB.out;omega
    have j1:(k:Int)<(E1.length:Int):=by omega
    have j2:(k:Int)<(E2.length:Int):=by omega
    have j0:(0:Int)≤(k:Int):=by omega
    clear hb1 hb2
    cases ho:lW (t1,d1) (t2,d2)
    all_goals
     go_wp2_with (go_at_call 149;go_loud (refine(NY t1 t2 a1 a2 d1.length d2.length c1 c2 d1 d2 _ B (by have:=HB.out;first|(simp;omega)|omega) (by have:=HB.out;exact HD1.out.keep (by exact aA)) (by have:=HB.out;exact HD2.out.keep (by exact aA)) rfl rfl).mono ?_);rw[ho];rintro e w1 ⟨rfl,hb⟩;obtain⟨xs,d,rfl⟩:=aB hb;clear hb)
    ·have HR:=hid (show jA (E1.map aH.o) (E2.map aH.o)=false from Bh HK.out.1 HK.out.2 (by rw[KF.out,Et.out];exact ho))
     go_ret
     exact⟨by rw[HR.out];rfl,by have:=aQ.out;exact aA⟩
    ·go_roundw
     case rel=>exact⟨k+1,by omega,by go_num,take_same HT.out HK.out.1 HK.out.2 (by rw[KF.out,Et.out];exact ho),by have:=aQ.out;exact aA⟩
     case measure=>simp[intOf];omega
   ·have HR:=hid (show jA (E1.map aH.o) (E2.map aH.o)=true by
     have:=HT.out
     rw[List.take_of_length_le (by simp;omega),List.take_of_length_le (by simp;have:=HL.out;omega)] at this
     unfold jA;rw[this];simp)
    go_wp2
    go_ret
    exact⟨by rw[HR.out];rfl,aQ.out⟩
 ·have e6:((E1.length:Int) !=(E2.length:Int))=true:=by simp;omega
  have HR:=hid (show jA (E1.map aH.o) (E2.map aH.o)=false by
   unfold jA
   apply decide_eq_false
   intro e
   have:=congrArg List.length e
   simp only[List.length_map] at this
   omega)
  clear hlen
  go_enter Tryz.func148,Tryz.ntmps148
  go_wp2
  go_ret
  exact⟨by rw[HR.out];rfl,Below.refl _ _⟩
theorem Bg (A1 A2:Option Addr) (n1 n2 k1 k2:Nat) (E1 E2:List aH) (w:World) (B:Nat) (hB:B≤w.heap.size) (h1:aJ w B A1 E1) (h2:aJ w B A2 E2) (hn1:n1=E1.length) (hn2:n2=E2.length) (hl:n1≤1000000):
  Calls Tryz.prog 105 #[.slice A1 n1 k1,.slice A2 n2 k2] w fun x w'=>x=.returned (.bool (jA (E1.map aH.o) (E2.map aH.o)))∧Below w.heap.size w w':=by
 have HH:=hid (And.intro hB (And.intro h1 (And.intro h2 (And.intro hn1 (And.intro hn2 hl)))))
 clear hB h1 h2 hn1 hn2 hl
 go_enter Tryz.func105,Tryz.ntmps105
 go_wp2_with (go_at_call 148;go_loud (refine(K8 A1 A2 n1 n2 k1 k2 E1 E2 _ B HH.out.1 HH.out.2.1 HH.out.2.2.1 HH.out.2.2.2.1 HH.out.2.2.2.2.1 HH.out.2.2.2.2.2).mono ?_);rintro e w1 ⟨rfl,hb⟩;obtain⟨xs,d,rfl⟩:=aB hb;clear hb)
 go_ret
 exact⟨rfl,by exact aA⟩
theorem nQ (t:Int) (A:Option Addr) (n c:Nat) (d:List UInt8) (w:World) (hn:n=d.length):Calls Tryz.prog 58 #[.agg #[.int .i64 t,.slice A n c]] w fun x w'=>x=.returned (.bool (okO (t,d)))∧Below w.heap.size w w':=by
 by_cases h1:0≤t
 ·by_cases h2:t≤255
  ·by_cases h3:n≤253
   ·have HR:=hid (show okO (t,d)=true by unfold okO bC;simp;omega)
    have k3:decide ((n:Int)≤253)=true:=by simp;omega
    clear hn
    go_enter Tryz.func58,Tryz.ntmps58
    go_wp2
    go_ret
    exact⟨by rw[HR.out];rfl,by exact aA⟩
   ·have HR:=hid (show okO (t,d)=false by unfold okO bC;simp;omega)
    have k3:decide ((n:Int)≤253)=false:=by simp;omega
    have k4:decide (n≤253)=false:=by simp;omega
    clear hn h3
    go_enter Tryz.func58,Tryz.ntmps58
    go_wp2
    go_ret
    exact⟨by rw[HR.out];rfl,by exact aA⟩
  ·have HR:=hid (show okO (t,d)=false by unfold okO bC;simp;omega)
   have k3:decide (t≤255)=false:=by simp;omega
   clear hn h2
   go_enter Tryz.func58,Tryz.ntmps58
   go_wp2
   go_ret
   exact⟨by rw[HR.out];rfl,by exact aA⟩
 ·have HR:=hid (show okO (t,d)=false by unfold okO bC;simp;omega)
  have k3:decide (0≤t)=false:=by simp;omega
  clear hn h1
  go_enter Tryz.func58,Tryz.ntmps58
  go_wp2
  go_ret
  exact⟨by rw[HR.out];rfl,by exact aA⟩
theorem _root_.Go.Proofs.YtfkgmbknfnhjoaaGreat.At.two {w wr w1:World} {B:Nat} {A:Option Addr} {xs:List Value} (h:At wr B A xs) (h1:Below w.heap.size w wr) (h2:Below w.heap.size w w1) (hB:B≤w.heap.size):At w1 B A xs:=by
 rcases h with h|⟨b,o,e,hb,hc⟩
 ·exact .inl h
 ·exact .inr ⟨b,o,e,hb,fun j u hu=>(h2.cell (p:=⟨b,o+j,none⟩) (by simp;omega)).trans ((h1.cell (p:=⟨b,o+j,none⟩) (by simp;omega)).symm.trans (hc j u hu))⟩
set_option maxRecDepth 100000 in
theorem Oo (A:Option Addr) (c:Nat) (E:List aH) (w:World) (B:Nat) (hB:B≤w.heap.size) (hE:aJ w B A E) (hl:E.length≤64):
  Calls Tryz.prog 18 #[.slice A E.length c] w (gK w (E.map aH.o)):=by
 have HE:=hid hE
 have HB:=hid hB
 clear hE hB
 go_enter Tryz.func18,Tryz.ntmps18
 go_wp2
 go_loopw [4] (fun i wr=> ∃(k:Nat),k≤E.length∧i=.int .i64 k∧((E.map aH.o).take k).all okO=true∧Below w.heap.size w wr) (fun i _=>E.length-(intOf i).toNat)
 case atStart=>exact⟨0,Nat.zero_le _,rfl,rfl,Below.refl _ _⟩
 case round=>
  obtain⟨k,hk,rfl,hall,hb⟩:=hrel
  have VE:=hid hall
  have aQ:=hid hb
  have hsz:=hb.size
  clear hall hb
  by_cases hlt:k<E.length
  ·obtain⟨b,o,rfl,tL,hx,hy⟩:=(HE.out.keep (aQ.out.mono HB.out)).get hlt
   obtain⟨hd,hdc⟩:=(HE.out.keep (aQ.out.mono HB.out)).2 E[k] (List.getElem_mem hlt)
   have HM:=hid (vk E k hlt)
   have HK:=hid (show k<(E.map aH.o).length by simpa using hlt)
   obtain⟨⟨t,d,a,c2⟩,he⟩: ∃e,E[k]=e:=⟨_,rfl⟩
   rw[he] at hx hy hd hdc HM
   simp only[aH.v] at hy hd hdc HM
   dsimp only at hx
   have HD:=hid hd
   have Yt:=hid hdc
   clear he hd hdc
   cases ho:okO (t,d)
   ·have HX:=hid (show(E.map aH.o).all okO=false from xY HK.out (by rw[HM.out];exact ho))
    have HR:=hid (show encR (E.map aH.o)=([],80) by unfold encR;rw[if_neg (by rw[List.length_map];omega),if_neg (by rw[HX.out];simp)])
    go_wp2_with (go_at_call 58;refine(nQ t a d.length c2 d _ rfl).mono ?_;rw[ho];rintro e w1 ⟨rfl,hb⟩;obtain⟨xs,dd,rfl⟩:=aB hb;clear hb)
    go_ret2
    exact⟨.slice none 0 0,by rw[HR.out];rfl,by have:=aQ.out;exact aA,by rw[HR.out];exact aN _ _ _ _⟩
   ·go_wp2_with (go_at_call 58;refine(nQ t a d.length c2 d _ rfl).mono ?_;rw[ho];rintro e w1 ⟨rfl,hb⟩;obtain⟨xs,dd,rfl⟩:=aB hb;clear hb)
    go_roundw
    case rel=>exact⟨k+1,by omega,by go_num,zW HK.out VE.out (by rw[HM.out];exact ho),by have:=aQ.out;exact aA⟩
    case measure=>simp[intOf];omega
  ·obtain rfl:k=E.length:=by omega
   have OP:=hid (show(E.map aH.o).all okO=true by have:=VE.out;rwa [List.take_of_length_le (by simp)] at this)
   obtain⟨w0,hw0⟩: ∃w0,w0=wr:=⟨_,rfl⟩
   rw[←hw0] at aQ hsz ⊢
   clear hw0
   go_wp2
   go_loopw [6,5] (fun i v wr=> ∃(k n c:Nat) (A:Option Addr),k≤E.length∧i=.int .i64 k∧v=.slice A n c∧n≤c∧n≤255*k∧n=(encs ((E.map aH.o).take k)).length∧Below w.heap.size w wr∧wr.ownsRow w.heap.size 5 1 (.slice A n c) n ((encs ((E.map aH.o).take k)).map bv)) (fun i _ _=>E.length-(intOf i).toNat)
   case atStart=>exact⟨0,0,0,none,Nat.zero_le _,rfl,rfl,aaE _,by omega,rfl,aQ.out,aN _ _ _ _⟩
   case round=>
    obtain⟨k,n,c',A',hk,rfl,rfl,hnc,Aq,hn,hb,ho⟩:=hrel
    have HN:=hid (And.intro hn hnc)
    have aQ:=hid hb
    have HO:=hid ho
    have hsz:=hb.size
    clear hn hnc hb ho
    by_cases hlt:k<E.length
    ·obtain⟨b,o,rfl,tL,hx,hy⟩:=(HE.out.keep (aQ.out.mono HB.out)).get hlt
     obtain⟨hd,hdc⟩:=(HE.out.keep (aQ.out.mono HB.out)).2 E[k] (List.getElem_mem hlt)
     have HM:=hid (vk E k hlt)
     have HK:=hid (show k<(E.map aH.o).length by simpa using hlt)
     obtain⟨⟨t,d,a,c2⟩,he⟩: ∃e,E[k]=e:=⟨_,rfl⟩
     rw[he] at hx hy hd hdc HM
     simp only[aH.v] at hy hd hdc HM
     dsimp only at hx
     have HD:=hid hd
     have Yt:=hid hdc
     clear he hd hdc
     have jU:=hid (show okO (t,d)=true by have:=List.all_eq_true.1 OP.out _ (List.getElem_mem HK.out);rw[HM.out] at this;exact this)
     have hin:bC t 0 255=true:=by have:=jU.out;unfold okO at this;simp at this;exact this.1
     have Y_:d.length≤253:=by have:=jU.out;unfold okO at this;simp at this;exact this.2
     obtain⟨x,hx1,hx2⟩:=byteOf hin
     have YP:=hid hx2
     subst hx1
     obtain⟨y,hy1⟩: ∃y:UInt8,(d.length:Int)+2=(y.toNat:Int):=⟨UInt8.ofNat (d.length+2),by simp;omega⟩
     have HY:=hid hy1
     have z1:b<wr.heap.size:=by have:=HB.out;omega
     have x1:((x.toNat:Nat):Int)<256:=by have:=x.toNat_lt;omega
     have y1:((y.toNat:Nat):Int)<256:=by have:=y.toNat_lt;omega
     have i1:IntKind.i64.wrap ((d.length:Int)+2)=(d.length:Int)+2:=IntWalk.i64_in _ (by omega)
     have u1:IntKind.u8.wrap (x.toNat:Int)=(x.toNat:Int):=yY x
     have u2:IntKind.u8.wrap (y.toNat:Int)=(y.toNat:Int):=yY y
     have j1:IntKind.i64.wrap (y.toNat:Int)=(y.toNat:Int):=IntWalk.i64_in _ (by omega)
     have yG:n≤255*64:=by omega
     have Fj:(k:Int)<(E.length:Int):=by omega
     have CS:(0:Int)≤(k:Int):=by omega
     have hbw:b<w.heap.size:=by have:=HB.out;omega
     have HXY:=hid (And.intro hx hy)
     have qQ:=hid (At.gW wr #[.int .u8 (x.toNat:Int),.int .u8 (y.toNat:Int)] 5 [bv x,bv y] wr.heap.size rfl rfl)
     have Yu:=hid (show At wr B a (d.map bv) from HD.out)
     clear hx2 hin tL
     go_wp2_with fail
     go_region_held3 (fun w'=>w'.cell? ⟨b,o+k*2,none⟩=some (.int .i64 (x.toNat:Int))∧w'.cell? ⟨b,o+k*2+1,none⟩=some (.slice a d.length c2)) (first|(go_keep;done)|(go_simp;done)|(simp[go_sem];done)) ((refine gT w rfl (.tmp 28) (.tmp 43) 30 rfl 5 Tryz.underlying30 (.int .u8 0) 1 1 dW rfl (by decide) (by decide) (.slice A' n c') n ((encs ((E.map aH.o).take k)).map bv) rfl (by exact own_below HO.out (by exact aA)) (wr.heap.size+1) (some ⟨wr.heap.size,0,none⟩) 2 2 [bv x,bv y] rfl rfl (by omega) (by exact qQ.out.keep (by exact aA)) (by intro u hu;simp at hu;rcases hu with rfl|rfl<;>rfl) (by have:=aQ.out;exact aA) ?_;intro A1 c1 w1 ho1 hc1 hb1 hg1;have q0:w1.cell? ⟨b,o+k*2,none⟩=some (.int .i64 (x.toNat:Int)):=(hb1.cell (p:=⟨b,_,none⟩) hbw).trans ((aQ.out.cell (p:=⟨b,_,none⟩) hbw).symm.trans HXY.out.1);have q1:w1.cell? ⟨b,o+k*2+1,none⟩=some (.slice a d.length c2):=(hb1.cell (p:=⟨b,_,none⟩) hbw).trans ((aQ.out.cell (p:=⟨b,_,none⟩) hbw).symm.trans HXY.out.2);have z2:b<w1.heap.size:=(by have:=hb1.size;omega);have ql:=hid ho1;have HB1:=hid hb1;have HG1:=hid hg1;clear ho1 hc1 hb1 hg1))
     go_wp2_with (at_builtin;go_loud (refine dY w rfl (.tmp 45) (.tmp 50) 30 rfl 5 Tryz.underlying30 (.int .u8 0) 1 1 dW rfl (by decide) (by decide) (.slice A1 (n+2) c1) (n+2) ((encs ((E.map aH.o).take k)).map bv++[bv x,bv y]) rfl (by exact own_below ql.out (by exact aA)) B a d.length c2 (d.map bv) rfl (by simp) (by omega) (by exact At.two Yu.out aQ.out HB1.out HB.out) (yw _) (by have:=HB1.out;exact aA) ?_);intro A3 c3 w3 ho3 hc3 hb3 hg3;have gZ:=hid ho3;have HB3:=hid hb3;have zk:=hid hc3;clear ho3 hc3 hb3 hg3)
     go_roundw
     case rel=>exact⟨k+1,n+2+d.length,_,_,by omega,by go_num,rfl,zk.out,by omega,by rw[om HK.out,HM.out,List.length_append,←HN.out.1];simp[sV];omega,HB3.out,by
      rw[om HK.out,HM.out,List.map_append]
      have e:(sV ((x.toNat:Int),d)).map bv=[bv x,bv y]++d.map bv:=by
       simp only[sV,List.map_cons]
       rw[show UInt8.ofNat (x.toNat:Int).toNat=x from YP.out,show UInt8.ofNat (d.length+2)=y from by apply UInt8.toNat.inj;have:=HY.out;simp;omega]
       rfl
      rw[e,←List.append_assoc]
      exact gZ.out⟩
     case measure=>simp[intOf];omega
    ·obtain rfl:k=E.length:=by omega
     have HT:=hid (show(E.map aH.o).take E.length=E.map aH.o from List.take_of_length_le (by simp))
     have HL:=hid (show n=(encs (E.map aH.o)).length by have:=HN.out;rw[HT.out] at this;exact this.1)
     have jB:=hid (show encR (E.map aH.o)=if 1488<n then([],2) else(encs (E.map aH.o),0) by unfold encR;rw[if_neg (by rw[List.length_map];omega),if_pos OP.out,←HL.out])
     by_cases hbig:1488<n
     ·go_wp2
      go_ret2
      exact⟨.slice none 0 0,by rw[jB.out,if_pos hbig];rfl,aQ.out,by rw[jB.out,if_pos hbig];exact aN _ _ _ _⟩
     ·go_wp2
      go_ret2
      refine⟨.slice A' n c',by rw[jB.out,if_neg hbig];rfl,aQ.out,?_⟩
      rw[jB.out,if_neg hbig]
      have:=HO.out
      rw[HT.out] at this
      have e:=HL.out
      simp only
      rw[←e]
      exact this
theorem jP (A:Option Addr) (n c:Nat) (E:List aH) (w:World) (B:Nat) (hB:B≤w.heap.size) (hE:aJ w B A E) (hn:n=E.length):
  Calls Tryz.prog 18 #[.slice A n c] w (gK w (E.map aH.o)):=by
 subst hn
 by_cases hl:E.length≤64
 ·exact Oo A c E w B hB hE hl
 ·have HR:=hid (show encR (E.map aH.o)=([],3) by unfold encR;rw[if_pos (by rw[List.length_map];omega)])
  have h:64<E.length:=by omega
  clear hE hB hl
  go_enter Tryz.func18,Tryz.ntmps18
  go_wp2
  go_ret2
  exact⟨.slice none 0 0,by rw[HR.out];rfl,Below.refl _ _,by rw[HR.out];exact aN _ _ _ _⟩
theorem _root_.Go.Proofs.YtfkgmbknfnhjoaaGreat.At.sub {W:World} {B b o:Nat} {l:List UInt8} (q:Nat) (h:At W B (some ⟨b,o,none⟩) (l.map bv)):At W B (some ⟨b,o+q,none⟩) ((l.drop q).map bv):=by
 rcases h with h|⟨b',o',e,hb,hc⟩
 ·have:l=[]:=by simpa using h
  subst this;exact .inl (by simp)
 ·cases e
  refine .inr ⟨b,o+q,rfl,hb,fun j u hu=>?_⟩
  have:=hc (q+j) u (by simpa[List.getElem?_map,List.getElem?_drop] using hu)
  rwa [←Nat.add_assoc] at this
theorem Hz {l:List UInt8} {p:Nat} (h:p+2≤l.length): ∃t m,l.drop p=t::m::l.drop (p+2):=by
 refine⟨l[p],l[p+1],?_⟩
 rw[List.drop_eq_getElem_cons (show p<l.length by omega),List.drop_eq_getElem_cons (show p+1<l.length by omega)]
theorem drop_one {l:List UInt8} {p:Nat} (h:p+1=l.length): ∃t,l.drop p=[t]:=by
 refine⟨l[p],?_⟩
 rw[List.drop_eq_getElem_cons (show p<l.length by omega),List.drop_eq_nil_of_le (by omega)]
theorem _root_.Go.Proofs.YtfkgmbknfnhjoaaGreat.aI.pushed {W W2:World} {base:Nat} {v v3:Value} {E:List aH} {tt:Int} {A2:Option Addr} {dd:List UInt8} {c2:Nat} (h:aI W base v E)
  (h2:W.ownsRow base 5 1 (.slice A2 dd.length c2) dd.length (dd.map bv)) (h3:W2.ownsRow base 111 2 v3 (E.length+1) (cellsE E++[.int .i64 tt,.slice A2 dd.length c2]))
  (hg:W.grownBy W2 v.ownBlock):aI W2 base v3 (E++[⟨tt,dd,A2,c2⟩]):=by
 have hr: ∀r,v.ownBlock=some r→r<base∨(∃o:Obj,W.heap[r]? =some o∧o.isCells=false)∨(∃cur e',W.heap[r]? =some (.cells cur e' (0,0))∧e'≠5):=fun r e=>by
  obtain⟨cur,hc⟩:=bL h.1 e
  exact .inr (.inr ⟨cur,111,hc,by decide⟩)
 refine⟨by rw[fJ];simpa[aH.v] using h3,fun e he=>?_⟩
 rcases List.mem_append.1 he with he|he
 ·exact aW (h.2 e he) hg hr
 ·simp only[List.mem_singleton] at he
  subst he
  exact aW h2 hg hr
theorem D6 {N p:Nat} {y:Int} (h:(p:Int)<y) (h2:p<N):N-(intOf (.int .i64 y)).toNat<N-(intOf (.int .i64 (p:Int))).toNat:=by
 simp only[intOf];omega
set_option maxRecDepth 100000 in
theorem Oj (A:Option Addr) (N c:Nat) (l:List UInt8) (w:World) (B:Nat) (hB:B≤w.heap.size) (hA:At w B A (l.map bv)) (hn:N=l.length) (hc:N≤c) (hl:N≤1488):
  Calls Tryz.prog 99 #[.slice A N c] w (mo w l):=by
 have HR:=hid (show iJ l=jd l.length l [] by unfold iJ;rw[if_neg (by omega)])
 have HA:=hid hA
 have HB:=hid hB
 have HN:=hid hn
 clear hA hB hn
 go_enter Tryz.func99,Tryz.ntmps99
 go_wp2
 go_loopw [5,4] (fun i v wr=> ∃(p f n c':Nat) (A':Option Addr) (E:List aH),p≤N∧i=.int .i64 p∧v=.slice A' n c'∧n=E.length∧n≤64∧(l.drop p).length≤f∧jd l.length l []=jd f (l.drop p) (E.map aH.o)∧Below w.heap.size w wr∧aI wr w.heap.size (.slice A' n c') E) (fun i _ _=>N-(intOf i).toNat)
 case atStart=>exact⟨0,l.length,0,0,none,[],Nat.zero_le _,rfl,rfl,rfl,by decide,by simp,by simp,Below.refl _ _,aI.nil _ _⟩
 case round=>
  obtain⟨p,f,n,c',A',E,hp,rfl,rfl,rfl,h64,hf,hd,hb,ho⟩:=hrel
  have HF:=hid (And.intro hf hd)
  have aQ:=hid hb
  have HO:=hid ho
  have hsz:=hb.size
  clear hf hd hb ho
  by_cases hlt:p<N
  focus
   by_cases h1:N-p<2
  focus
   obtain⟨t,ht⟩:=drop_one (l:=l) (p:=p) (by have:=HN.out;omega)
   have HD:=hid (n_ (acc:=E.map aH.o) HF.out.1 (by rw[ht];simp) (by rw[ht];rfl))
   clear ht
   have h1':decide ((N:Int)-(p:Int)<2)=true:=by simp;omega
  rotate_left
  focus
   obtain⟨t,m,hdr⟩:=Hz (l:=l) (p:=p) (by have:=HN.out;omega)
   obtain⟨b,o,rfl,tL,hcs⟩:=(HA.out.keep (aQ.out.mono HB.out)).get (by simp;have:=HN.out;omega)
   have g0:l[p]? =some t:=by have:=congrArg (fun q=>q[0]?) hdr;simpa[List.getElem?_drop] using this
   have g1:l[p+1]? =some m:=by have:=congrArg (fun q=>q[1]?) hdr;simpa[List.getElem?_drop] using this
   have c0:wr.cell? ⟨b,o+p,none⟩=some (.int .u8 (t.toNat:Int)):=by have:=hcs p (bv t) (by rw[List.getElem?_map,g0];rfl);simpa[bv] using this
   have c1:wr.cell? ⟨b,o+(p+1),none⟩=some (.int .u8 (m.toNat:Int)):=by have:=hcs (p+1) (bv m) (by rw[List.getElem?_map,g1];rfl);simpa[bv] using this
   obtain⟨x,hx⟩: ∃x:Nat,m.toNat=x:=⟨_,rfl⟩
   rw[hx] at c1
   have HX:=hid hx
   have HDR:=hid hdr
   have aaA:(x:Int)<256:=by have:=m.toNat_lt;omega
   have hrl:(l.drop (p+2)).length=N-p-2:=by rw[List.length_drop];have:=HN.out;omega
   have GR:=hid hrl
   have h1':decide ((N:Int)-(p:Int)<2)=false:=by simp;omega
   have z1:b<wr.heap.size:=by have:=HB.out;omega
   clear hcs g0 g1 hx hdr hrl
   by_cases hx2:x<2
  focus
   have HD:=hid (n_ (acc:=E.map aH.o) HF.out.1 (by rw[HDR.out];simp) (by rw[HDR.out,gG,HX.out,if_neg (by omega)]))
  rotate_left
  focus
   by_cases hx3:N-p<x
  focus
   have HD:=hid (n_ (acc:=E.map aH.o) HF.out.1 (by rw[HDR.out];simp) (by rw[HDR.out,gG,HX.out,if_neg (by have:=GR.out;omega)]))
   have h2':decide ((N:Int)-(p:Int)<(x:Int))=true:=by simp;omega
  rotate_left
  focus
   have h2':decide ((N:Int)-(p:Int)<(x:Int))=false:=by simp;omega
   have Ti:=hid (show gL (l.drop p)=some (((t.toNat:Int),(l.drop (p+2)).take (x-2)),l.drop (p+x)) by
    rw[HDR.out,gG,HX.out,if_pos (by have:=GR.out;omega),List.drop_drop]
    congr 3
    omega)
   by_cases h6:E.length=64
  focus
   have HD:=hid (wX (acc:=E.map aH.o) HF.out.1 Ti.out (by rw[List.length_map];exact h6))
   have e6:((E.length:Int)==64)=true:=by simp;omega
   clear h6
  rotate_left
  ·have e6:((E.length:Int)==64)=false:=by simp;omega
   have H6:=hid h6
   clear h6
   have Z7:((t.toNat:Nat):Int)<256:=by have:=t.toNat_lt;omega
   have i1:IntKind.i64.wrap (t.toNat:Int)=(t.toNat:Int):=IntWalk.i64_in _ (by omega)
   have i2:IntKind.i64.wrap ((p:Int)+2)=(p:Int)+2:=IntWalk.i64_in _ (by omega)
   have i3:IntKind.i64.wrap ((p:Int)+(x:Int))=(p:Int)+(x:Int):=IntWalk.i64_in _ (by omega)
   have n2:((p:Int)+2).toNat=p+2:=by omega
   have n3:((p:Int)+(x:Int)).toNat=p+x:=by omega
   have a2:(0:Int)≤(p:Int)+2:=by omega
   have a3:(p:Int)+2≤(p:Int)+(x:Int):=by omega
   have a4:(p:Int)+(x:Int)≤(c:Int):=by omega
   have a5:p+2≤p+x:=by omega
   have a6:p+x≤c:=by omega
   have n4:p+x-(p+2)=x-2:=by omega
   have zw:b<w.heap.size:=by have:=HB.out;omega
   have a7:(p:Int)<(N:Int):=by omega
   have KM:=hid ((HA.out.keep (aQ.out.mono HB.out)).sub (p+2))
   have KM:=hid (KM.out.take (x-2))
   rw[←List.map_take] at KM
   by_cases hcc:c=p+2
   ·have hx0:x=2:=by omega
    subst hx0
    subst hcc
    have HC0:=hid (show gL (l.drop p)=some (((t.toNat:Int),[]),l.drop (p+2)) by rw[Ti.out];rfl)
    go_wp2_with fail
    go_region_held3 (fun w'=>w'.cell? ⟨b,o+p,none⟩=some (.int .u8 (t.toNat:Int))) (first|(go_keep;done)|(go_simp;done)|(simp[go_sem];done)) (first|((refine gT wr rfl (.tmp 44) (.tmp 51) 30 rfl 5 Tryz.underlying30 (.int .u8 0) 1 1 dW rfl (by decide) (by decide) (.slice (some ⟨wr.heap.size,0,none⟩) 0 0) 0 [] rfl (by exact oz wr wr.heap.size 5 1 (aaE _)) B _ 0 _ [] rfl rfl (by omega) (At.nil _ _ _) (by intro u hu;cases hu) (by exact aA) ?_);intro A1 c1 w1 ho1 hc1 hb1 hg1;clear hg1;have q0:w1.cell? ⟨b,o+p,none⟩=some (.int .u8 (t.toNat:Int)):=(hb1.cell (p:=⟨b,_,none⟩) z1).trans c0;have ql:=hid ho1;simp only[Nat.zero_add,List.nil_append] at ho1;have ql:=hid ho1;have HB1:=hid hb1;have qQ:=hid (At.gW w1 #[.int .i64 (t.toNat:Int),.slice A1 0 c1] 111 [.int .i64 (t.toNat:Int),.slice A1 0 c1] w1.heap.size rfl rfl);have VW:=hid (HO.out.below hb1);have jJ:=hid (aQ.out.trans (hb1.mono hsz));clear ho1 hc1 hb1)|((refine gT w rfl (.tmp 38) (.tmp 54) 25 rfl 111 Tryz.underlying25 (.agg #[.int .i64 0,.slice none 0 0]) 2 32 dV rfl (by decide) (by decide) (.slice A' E.length c') E.length (cellsE E) rfl (by exact own_below VW.out.1 (by exact aA)) (w1.heap.size+1) (some ⟨w1.heap.size,0,none⟩) 1 1 [.int .i64 (t.toNat:Int),.slice A1 0 c1] rfl rfl (by omega) (by exact qQ.out) (by intro u hu;simp at hu;rcases hu with rfl|rfl<;>rfl) (by have:=jJ.out;have:=this.size;exact aA) ?_);intro A3 c3 w3 ho3 hc3 hb3 hg3;have q3:w3.cell? ⟨b,o+p,none⟩=some (.int .u8 (t.toNat:Int)):=(hb3.cell (p:=⟨b,_,none⟩) zw).trans ((aQ.out.cell (p:=⟨b,_,none⟩) zw).symm.trans c0);have gZ:=hid ho3;have HB3:=hid hb3;have zk:=hid hc3;have sQ:=hid hg3;clear ho3 hc3 hb3 hg3))
    have uf:=hid (aI.pushed (tt:=(t.toNat:Int)) (dd:=[]) (A2:=A1) (c2:=c1) (VW.out.below (Below.alloc (Below.refl _ w1) (aaE _) _)) (by have h:=aK ql.out hsz;exact own_below h (Below.alloc (Below.refl _ w1) (aaE _) _)) (by exact gZ.out) sQ.out)
    obtain⟨f',hf',hd'⟩:=rC (acc:=E.map aH.o) HF.out.1 HC0.out (by rw[List.length_map];exact H6.out)
    have VN:=hid (And.intro hf' (HF.out.2.trans hd'))
    clear hf' hd'
    go_wp2_with fail
    go_roundw
    case rel=>exact⟨p+2,f',E.length+1,c3,A3,_,by omega,by go_num,rfl,by simp,by have:=H6.out;omega,VN.out.1,by rw[VN.out.2,yD];rfl,HB3.out,uf.out⟩
    case measure=>exact D6 (by omega) (by omega)
   ·have c5:decide (c=p+2)=false:=by simpa using hcc
    go_wp2_with fail
    go_region_held3 (fun w'=>w'.cell? ⟨b,o+p,none⟩=some (.int .u8 (t.toNat:Int))) (first|(go_keep;done)|(go_simp;done)|(simp[go_sem];done)) (first|((refine gT wr rfl (.tmp 44) (.tmp 51) 30 rfl 5 Tryz.underlying30 (.int .u8 0) 1 1 dW rfl (by decide) (by decide) (.slice (some ⟨wr.heap.size,0,none⟩) 0 0) 0 [] rfl (by exact oz wr wr.heap.size 5 1 (aaE _)) B _ (x-2) _ (((l.drop (p+2)).take (x-2)).map bv) rfl (by have:=GR.out;have:=HN.out;simp;omega) (by omega) (by exact KM.out.keep (by have:=aQ.out;have:=HB.out;exact aA)) (yw _) (by exact aA) ?_);intro A1 c1 w1 ho1 hc1 hb1 hg1;clear hg1;have q0:w1.cell? ⟨b,o+p,none⟩=some (.int .u8 (t.toNat:Int)):=(hb1.cell (p:=⟨b,_,none⟩) z1).trans c0;have ql:=hid ho1;simp only[Nat.zero_add,List.nil_append] at ho1;have ql:=hid ho1;have HB1:=hid hb1;have qQ:=hid (At.gW w1 #[.int .i64 (t.toNat:Int),.slice A1 (x-2) c1] 111 [.int .i64 (t.toNat:Int),.slice A1 (x-2) c1] w1.heap.size rfl rfl);have VW:=hid (HO.out.below hb1);have jJ:=hid (aQ.out.trans (hb1.mono hsz));clear ho1 hc1 hb1)|((refine gT w rfl (.tmp 38) (.tmp 54) 25 rfl 111 Tryz.underlying25 (.agg #[.int .i64 0,.slice none 0 0]) 2 32 dV rfl (by decide) (by decide) (.slice A' E.length c') E.length (cellsE E) rfl (by exact own_below VW.out.1 (by exact aA)) (w1.heap.size+1) (some ⟨w1.heap.size,0,none⟩) 1 1 [.int .i64 (t.toNat:Int),.slice A1 (x-2) c1] rfl rfl (by omega) (by exact qQ.out) (by intro u hu;simp at hu;rcases hu with rfl|rfl<;>rfl) (by have:=jJ.out;have:=this.size;exact aA) ?_);intro A3 c3 w3 ho3 hc3 hb3 hg3;have q3:w3.cell? ⟨b,o+p,none⟩=some (.int .u8 (t.toNat:Int)):=(hb3.cell (p:=⟨b,_,none⟩) zw).trans ((aQ.out.cell (p:=⟨b,_,none⟩) zw).symm.trans c0);have gZ:=hid ho3;have HB3:=hid hb3;have zk:=hid hc3;have sQ:=hid hg3;clear ho3 hc3 hb3 hg3))
    have uf:=hid (aI.pushed (tt:=(t.toNat:Int)) (dd:=(l.drop (p+2)).take (x-2)) (A2:=A1) (c2:=c1) (VW.out.below (Below.alloc (Below.refl _ w1) (aaE _) _)) (by have h:=aK ql.out hsz;rw[show((l.drop (p+2)).take (x-2)).length=x-2 by have:=GR.out;have:=HN.out;simp;omega];exact own_below h (Below.alloc (Below.refl _ w1) (aaE _) _)) (by rw[show((l.drop (p+2)).take (x-2)).length=x-2 by have:=GR.out;have:=HN.out;simp;omega];exact gZ.out) sQ.out)
    obtain⟨f',hf',hd'⟩:=rC (acc:=E.map aH.o) HF.out.1 Ti.out (by rw[List.length_map];exact H6.out)
    have VN:=hid (And.intro hf' (HF.out.2.trans hd'))
    clear hf' hd'
    go_wp2_with fail
    go_roundw
    case rel=>exact⟨p+x,f',E.length+1,c3,A3,_,by omega,by go_num,rfl,by simp,by have:=H6.out;omega,VN.out.1,by rw[VN.out.2,yD];rfl,HB3.out,uf.out⟩
    case measure=>exact D6 (by omega) (by omega)
  ·obtain rfl:p=N:=by omega
   have BD:=hid (show jd l.length l []=(E.map aH.o,0) by rw[HF.out.2,List.drop_eq_nil_of_le (by have:=HN.out;omega),uK])
   go_wp2
   go_ret2
   exact⟨E,_,by rw[HR.out,BD.out];rfl,aQ.out,HO.out,by rw[HR.out,BD.out]⟩
  all_goals
   go_wp2
   go_ret2
   exact⟨[],.slice none 0 0,by rw[HR.out,HF.out.2,HD.out];rfl,aQ.out,aI.nil _ _,by rw[HR.out,HF.out.2,HD.out];rfl⟩
theorem nT (A:Option Addr) (N c:Nat) (l:List UInt8) (w:World) (B:Nat) (hB:B≤w.heap.size) (hA:At w B A (l.map bv)) (hn:N=l.length) (hc:N≤c):
  Calls Tryz.prog 99 #[.slice A N c] w (mo w l):=by
 by_cases hl:N≤1488
 ·exact Oj A N c l w B hB hA hn hc hl
 ·have HR:=hid (show iJ l=([],2) by unfold iJ;rw[if_pos (by omega)])
  have h9:1488<N:=by omega
  clear hA hB hn hc hl
  go_enter Tryz.func99,Tryz.ntmps99
  go_wp2
  go_ret2
  exact⟨[],.slice none 0 0,by rw[HR.out];rfl,Below.refl _ _,aI.nil _ _,by rw[HR.out];rfl⟩
open Go.ChangeShapes Go.WideShapes Go.ChangeAt Go.RowKit Go.Joins Go.Deep
theorem ES (o:Int×List UInt8) (L:List (Int×List UInt8)):encs (o::L)=sV o++encs L:=rfl
theorem Af {l:List UInt8} {o:Int×List UInt8} {r:List UInt8} (h:gL l=some (o,r)):okO o=true∧l=sV o++r:=by
 match l,h with
 |t::n::q,h=>
  rw[gG] at h
  by_cases hh:2≤n.toNat∧n.toNat≤q.length+2
  ·rw[if_pos hh] at h
   simp only[Option.some.injEq,Prod.mk.injEq] at h
   obtain⟨rfl,rfl⟩:=h
   have ht:=t.toNat_lt
   have hn:=n.toNat_lt
   have hl:(q.take (n.toNat-2)).length=n.toNat-2:=by rw[List.length_take];omega
   refine⟨?_,?_⟩
   ·unfold okO bC
    simp only[hl]
    simp
    omega
   ·simp only[sV,hl,List.cons_append,List.take_append_drop]
    have e1:UInt8.ofNat (t.toNat:Int).toNat=t:=by simp
    have e2:UInt8.ofNat (n.toNat-2+2)=n:=by rw[show n.toNat-2+2=n.toNat by omega];simp
    rw[e1,e2]
  ·rw[if_neg hh] at h;cases h
theorem wW: ∀(f:Nat) (l:List UInt8) (acc Y:List (Int×List UInt8)),l.length≤f→acc.length≤64→jd f l acc=(Y,0)→ ∃L,Y=acc++L∧encs L=l∧L.all okO=true∧Y.length≤64
 |0,l,acc,Y,hl,ha,h=>by
  have:l=[]:=List.eq_nil_of_length_eq_zero (by omega)
  subst this
  simp only[jd,Prod.mk.injEq,and_true] at h
  subst h
  exact⟨[],by simp,rfl,rfl,ha⟩
 |f+1,l,acc,Y,hl,ha,h=>by
  unfold jd at h
  by_cases h0:l=[]
  ·rw[if_pos h0] at h
   simp only[Prod.mk.injEq,and_true] at h
   subst h h0
   exact⟨[],by simp,rfl,rfl,ha⟩
  ·rw[if_neg h0] at h
   cases hc:gL l with
   |none=>rw[hc] at h;simp at h
   |some x=>
    obtain⟨o,r⟩:=x
    rw[hc] at h
    simp only at h
    by_cases h6:acc.length=64
    ·rw[if_pos h6] at h;simp at h
    ·rw[if_neg h6] at h
     obtain⟨ok,hle⟩:=Af hc
     have:=pz hc
     obtain⟨L,h1,h2,h3,h4⟩:=wW f r (acc++[o]) Y (by omega) (by simp;omega) h
     refine⟨o::L,by rw[h1];simp,by rw[ES,h2,hle],by simp[ok];simpa using h3,h4⟩
theorem G_ {l:List UInt8} {Y:List (Int×List UInt8)} (h:iJ l=(Y,0)):encR Y=(l,0):=by
 unfold iJ at h
 split at h
 ·simp at h
 ·rename_i h1
  obtain⟨L,hL,h2,h3,h4⟩:=wW _ _ _ _ (aaE _) (by simp) h
  obtain rfl:Y=L:=hL
  unfold encR
  rw[if_neg (by omega),if_pos h3,h2,if_neg h1]
theorem Ag: ∀(f:Nat) (l:List UInt8) (acc Y:List (Int×List UInt8)) (e:Int),jd f l acc=(Y,e)→e≠0→Y=[]
 |0,l,acc,Y,e,h,he=>by simp only[jd,Prod.mk.injEq] at h;omega
 |f+1,l,acc,Y,e,h,he=>by
  unfold jd at h
  by_cases h0:l=[]
  ·rw[if_pos h0] at h;simp only[Prod.mk.injEq] at h;omega
  ·rw[if_neg h0] at h
   cases hc:gL l with
   |none=>rw[hc] at h;simp at h;exact h.1
   |some x=>
    obtain⟨o,r⟩:=x
    rw[hc] at h
    simp only at h
    by_cases h6:acc.length=64
    ·rw[if_pos h6] at h;simp at h;exact h.1
    ·rw[if_neg h6] at h;exact Ag f _ _ _ _ h he
theorem Hq {l:List UInt8} {Y:List (Int×List UInt8)} {e:Int} (h:iJ l=(Y,e)) (he:e≠0):Y=[]:=by
 unfold iJ at h
 split at h
 ·simp at h;exact h.1
 ·exact Ag _ _ _ _ _ h he
end Go.Proofs.YtfkgmbknfnhjoaaGreat.Op
