/- Bundle H. -/
import Derived.Test.YtfkgmbknfnhjoaaGreatRA
import Derived.StillTailTactics
import Derived.OneCell
import Derived.Deep.RegionHeld3
set_option maxHeartbeats 4000000
namespace Go.Proofs.YtfkgmbknfnhjoaaGreat.Op
open Lib (hid)
open Go.RowKit
set_option linter.unusedSimpArgs false
set_option linter.unusedVariables false
theorem clone_any (A:Option Addr) (n c:Nat) (l:List UInt8) (w:World) (B:Nat) (hB:B≤w.heap.size) (hA:At w B A (l.map bv)) (hn:n=l.length) (hl:n≤400000000) (hc:n≤c):
  Calls Tryz.prog 82 #[.slice A n c] w fun x w'=> ∃v,x=.returned v∧Below w.heap.size w w'∧w'.ownsRow w.heap.size 5 1 v n (l.map bv):=by
 have HA:=hid (hA.more hB)
 have HL:=hid hn
 clear hB hn
 cases A with
 |none=>
  have hl0:l=[]:=by
   rcases hA with h|⟨b,o,h,-⟩
   ·simpa using h
   ·cases h
  subst hl0
  have h0:=HL.out
  simp only[List.length_nil] at h0
  subst h0
  clear hA
  have q: ∀w:World,(binOp .eql 30 (.slice none 0 c) (.slice none 0 0)).run Tryz.prog w=.ok (.bool true) w:=fun w=>Lib.run_eql_slice_nil w 30 5 none 0 c 0 0 Tryz.underlying30
  go_enter Tryz.func82,Tryz.ntmps82
  go_wp2
  go_ret
  exact⟨_,rfl,Below.refl _ _,own_nil _ _ _ _⟩
 |some a=>
  clear hA
  have q: ∀w:World,(binOp .eql 30 (.slice (some a) n c) (.slice none 0 0)).run Tryz.prog w=.ok (.bool false) w:=fun w=>Lib.run_eql_slice_nil w 30 5 (some a) n c 0 0 Tryz.underlying30
  go_enter Tryz.func82,Tryz.ntmps82
  go_wp2_with (at_builtin;go_loud (refine wpList_dupb w rfl (.tmp 5) (.tmp 6) 30 rfl 5 Tryz.underlying30 infoU8 _ rfl rfl w.heap.size _ _ _ l rfl HL.out (by omega) HA.out (Nat.le_refl _) ?_);intro v' ys d hown;have HO:=hid hown;clear hown)
  go_ret
  exact⟨_,rfl,by exact bel,HO.out⟩
theorem each_any (A:Option Addr) (n c:Nat) (w:World):Calls Tryz.prog 139 #[.slice A n c] w fun x w'=>x=.returned (.func (.func 164) #[] #[.pointer (some ⟨w.heap.size,0,none⟩)])∧w'=w.alloc (.cells #[.slice A n c] 30):=by
 go_enter Tryz.func139,Tryz.ntmps139
 go_wp2
 go_ret
 exact⟨rfl,rfl⟩
def cutOne:List UInt8→Option ((Int×List UInt8)×List UInt8)
 |t::n::r=>if 2≤n.toNat∧n.toNat≤r.length+2 then some (((t.toNat:Int),r.take (n.toNat-2)),r.drop (n.toNat-2)) else none
 |_=>none
theorem cutOne_cons (t n:UInt8) (r:List UInt8):cutOne (t::n::r)=if 2≤n.toNat∧n.toNat≤r.length+2 then some (((t.toNat:Int),r.take (n.toNat-2)),r.drop (n.toNat-2)) else none:=rfl
def Gives (Bn n0:Nat) (rest:List UInt8) (args:Array Value) (rest':List UInt8) (W:World):Prop:=
 (∃e:Ent,cutOne rest=some (e.o,rest')∧args=#[.agg #[.int .i64 e.t,e.v],.bool true]∧W.ownsRow (Bn+1) 5 1 e.v e.d.length (e.d.map bv))∨
 (rest≠[]∧cutOne rest=none∧args=#[.agg #[.int .i64 0,.slice none 0 0],.bool false])
def boxLen (Bn:Nat) (W:World):Nat:=match W.heap[Bn]? with
 |some (Obj.cells cs _ _)=>(match cs[0]? with|some (Value.slice _ n _)=>n|_=>0)
 |_=>0
theorem boxLen_eq {Bn:Nat} {W:World} {A:Option Addr} {n c:Nat} (h:W.heap[Bn]? =some (.cells #[.slice A n c] 30 (0,0))):boxLen Bn W=n:=by
 unfold boxLen;rw[h];rfl
theorem _root_.Go.Proofs.YtfkgmbknfnhjoaaGreat.At.tail2 {W:World} {B b o:Nat} {x y:UInt8} {r:List UInt8} (h:At W B (some ⟨b,o,none⟩) ((x::y::r).map bv)):At W B (some ⟨b,o+2,none⟩) (r.map bv):=by
 obtain⟨b',o',e,hb,hc⟩:=h.get (by simp)
 cases e
 refine .inr ⟨b,o+2,rfl,hb,fun j u hu=>?_⟩
 have:=hc (j+2) u (by simpa using hu)
 rwa [show o+(j+2)=o+2+j by omega] at this
theorem _root_.Go.Proofs.YtfkgmbknfnhjoaaGreat.At.dropx {W:World} {B b o k:Nat} {x y:UInt8} {r:List UInt8} (h:At W B (some ⟨b,o,none⟩) ((x::y::r).map bv)) (hk:2≤k):At W B (some ⟨b,o+k,none⟩) ((r.drop (k-2)).map bv):=by
 obtain⟨b',o',e,hb,hc⟩:=h.get (by simp)
 cases e
 refine .inr ⟨b,o+k,rfl,hb,fun j u hu=>?_⟩
 have:=hc (k+j) u (by rw[List.getElem?_map,show k+j=(k-2+j)+1+1 by omega];simpa[List.getElem?_map] using hu)
 rwa [←Nat.add_assoc] at this
theorem grownBy_drewN (W:World) (k:Nat):W.grownBy (W.drewN k) none:=⟨rfl,rfl,rfl,Nat.le_refl _,fun _ _ _=>rfl⟩
set_option maxRecDepth 100000 in
theorem iter_ok (n Bn n0 B0 B:Nat) (A:Option Addr) (c:Nat) (l:List UInt8) (W:World) (hBn:n0≤Bn) (hB0:B0≤n0) (hA:At W B0 A (l.map bv)) (hl:l.length≤1500) (hc:l.length≤c) (hbox:W.heap[Bn]? =some (.cells #[.slice A l.length c] 30 (0,0))):
  IterOk Fence.wide (n+1) Tryz.prog 164 #[.pointer (some ⟨Bn,0,none⟩)] Bn n0 B (Gives Bn n0) (fun r=>r=[]) l W:=by
 intro ll J Jx hJ hY hJ0
 have HY:=hid hY
 have HJ:=hid hJ
 clear hY hJ
 refine callsIn_of_wp Tryz.func164 rfl trivial ?_ rfl
 simp only[Tryz.ntmps164,List.size_toArray,List.length_cons,List.length_nil,Nat.reduceAdd,Nat.reduceSub,Array.replicate_succ,Array.replicate_zero,List.push_toArray,List.append_toArray,List.nil_append,List.cons_append]
 refine wpIn_wide.2 ?_
 go_wp2_with fail
 go_loopw [4] (fun _ wr=> ∃(rest:List UInt8) (A':Option Addr) (c':Nat),At wr B0 A' (rest.map bv)∧rest.length≤1500∧rest.length≤c'∧wr.heap[Bn]? =some (.cells #[.slice A' rest.length c'] 30 (0,0))∧J rest wr) (fun _ wr=>boxLen Bn wr)
 case atStart=>exact⟨l,A,c,hA,hl,hc,hbox,hJ0⟩
 case round=>
  obtain⟨rest,A',c',hA',hl',hc',hb',hj⟩:=hrel
  have HM:=hid (boxLen_eq hb')
  have h1:wr.cell? ⟨Bn,0,none⟩=some (.slice A' rest.length c'):=cell_of_one hb'
  have HA':=hid hA'
  have HB':=hid hb'
  have HJ':=hid hj
  clear hA' hb' hj hA hbox hJ0
  match rest with
  |[]=>
   go_wp2_with fail
   go_end0
   exact⟨⟨_,rfl⟩,.inl ⟨[],rfl,HJ'.out⟩⟩
  |[t]=>
   simp only[List.length_cons,List.length_nil,Nat.zero_add] at*
   go_wp2_with fail
   go_quiet (fail)
   go_upto_region 2 with(fail)
   obtain⟨fn,tmps,assign,body,hy,hR⟩:=HY.out [t] #[.agg #[.int .i64 0,.slice none 0 0],.bool false] [] (wr.drewN nq) (HJ.out _ _ _ none HJ'.out (grownBy_drewN _ _) (fun r e=>by cases e)) (.inr ⟨by simp,rfl,rfl⟩)
   have HR:=hid hR
   clear hR
   refine(wpIn_wide (n:=n+1)).1 ?_
   gi_wp2
   refine HR.out.mono ?_
   rintro e W' (⟨rfl,hJ2,hk⟩|⟨rfl,hJx⟩)
   ·gi_wp2
    go_wp2
    (try simp only[Exit.inBlock,Exit.then])
    refine bodyPost_ret (results_none rfl _ _ _) rfl ?_
    exact⟨⟨_,rfl⟩,.inl ⟨[],rfl,hJ2⟩⟩
   ·gi_wp2
    go_wp2
    (try simp only[Exit.inBlock,Exit.then])
    refine bodyPost_ret (results_none rfl _ _ _) rfl ?_
    exact⟨⟨_,rfl⟩,.inr hJx⟩
  |t::m::r=>
   obtain⟨b,o,rfl,hbB,hcs⟩:=HA'.out.get (by simp)
   have c0:wr.cell? ⟨b,o,none⟩=some (.int .u8 (t.toNat:Int)):=by have:=hcs 0 (bv t) (by simp);simpa[bv] using this
   have c1:wr.cell? ⟨b,o+1,none⟩=some (.int .u8 (m.toNat:Int)):=by have:=hcs 1 (bv m) (by simp);simpa[bv] using this
   obtain⟨N,hN⟩: ∃N,(t::m::r).length=N:=⟨_,rfl⟩
   obtain⟨x,hx⟩: ∃x:Nat,m.toNat=x:=⟨_,rfl⟩
   rw[hN] at h1 hl' hc' HB'
   rw[hx] at c1
   have hN2:N=r.length+2:=by rw[←hN];rfl
   have HN:=hid hN2
   have HX:=hid hx
   have x1:x<256:=by rw[←hx];exact m.toNat_lt
   have x1':(x:Int)<256:=by omega
   have l0:(0:Int)<(N:Int):=by omega
   have m0:0<N:=by omega
   have m1:1<N:=by omega
   have l1:(1:Int)<(N:Int):=by omega
   have l2:decide ((N:Int)<2)=false:=by simp;omega
   have i1:IntKind.i64.wrap (x:Int)=(x:Int):=IntWalk.i64_in _ (by omega)
   clear hN hx hN2 hcs
   by_cases hx2:x<2
   ·have HNo:=hid (show cutOne (t::m::r)=none by rw[cutOne_cons,HX.out,if_neg (by omega)])
    have k1:decide ((x:Int)<2)=true:=by simp;omega
    have k2:decide (x<2)=true:=by simp;omega
    go_wp2_with fail
    go_quiet (fail)
    go_upto_region 2 with(fail)
    obtain⟨fn,tmps,assign,body,hy,hR⟩:=HY.out (t::m::r) #[.agg #[.int .i64 0,.slice none 0 0],.bool false] [] (wr.drewN nq) (HJ.out _ _ _ none HJ'.out (grownBy_drewN _ _) (fun r e=>by cases e)) (.inr ⟨by simp,HNo.out,rfl⟩)
    have HR:=hid hR
    clear hR
    refine(wpIn_wide (n:=n+1)).1 ?_
    gi_wp2
    refine HR.out.mono ?_
    rintro e W' (⟨rfl,hJ2,hk⟩|⟨rfl,hJx⟩)
    ·gi_wp2
     go_wp2
     (try simp only[Exit.inBlock,Exit.then])
     refine bodyPost_ret (results_none rfl _ _ _) rfl ?_
     exact⟨⟨_,rfl⟩,.inl ⟨[],rfl,hJ2⟩⟩
    ·gi_wp2
     go_wp2
     (try simp only[Exit.inBlock,Exit.then])
     refine bodyPost_ret (results_none rfl _ _ _) rfl ?_
     exact⟨⟨_,rfl⟩,.inr hJx⟩
   ·have k1:decide ((x:Int)<2)=false:=by simp;omega
    have k2:decide (x<2)=false:=by simp;omega
    by_cases hx3:N<x
    ·have HNo:=hid (show cutOne (t::m::r)=none by rw[cutOne_cons,HX.out,if_neg (by have:=HN.out;omega)])
     have k3:decide ((N:Int)<(x:Int))=true:=by simp;omega
     have k4:decide (N<x)=true:=by simp;omega
     go_wp2_with fail
     go_quiet (fail)
     go_upto_region 2 with(fail)
     obtain⟨fn,tmps,assign,body,hy,hR⟩:=HY.out (t::m::r) #[.agg #[.int .i64 0,.slice none 0 0],.bool false] [] (wr.drewN nq) (HJ.out _ _ _ none HJ'.out (grownBy_drewN _ _) (fun r e=>by cases e)) (.inr ⟨by simp,HNo.out,rfl⟩)
     have HR:=hid hR
     clear hR
     refine(wpIn_wide (n:=n+1)).1 ?_
     gi_wp2
     refine HR.out.mono ?_
     rintro e W' (⟨rfl,hJ2,hk⟩|⟨rfl,hJx⟩)
     ·gi_wp2
      go_wp2
      (try simp only[Exit.inBlock,Exit.then])
      refine bodyPost_ret (results_none rfl _ _ _) rfl ?_
      exact⟨⟨_,rfl⟩,.inl ⟨[],rfl,hJ2⟩⟩
     ·gi_wp2
      go_wp2
      (try simp only[Exit.inBlock,Exit.then])
      refine bodyPost_ret (results_none rfl _ _ _) rfl ?_
      exact⟨⟨_,rfl⟩,.inr hJx⟩
    ·have k3:decide ((N:Int)<(x:Int))=false:=by simp;omega
     have k4:decide (N<x)=false:=by simp;omega
     go_wp2_with fail
     go_quiet (fail)
     go_wp2_with fail
     have hBz:Bn<wr.heap.size:=(Array.getElem?_eq_some_iff.1 HB'.out).1
     have hbz:b<wr.heap.size:=by omega
     have HBZ:=hid (show B0≤wr.heap.size by omega)
     have y2:(2:Int)≤(x:Int):=by omega
     have y3:(x:Int)≤(N:Int):=by omega
     have y4:(x:Int)≤(c':Int):=by omega
     have y5:(0:Int)≤(x:Int):=by omega
     have y6:(2:Int)≤(c':Int):=by omega
     have y7:(N:Int)≤(c':Int):=by omega
     have x2:2≤x:=by omega
     have x3:x≤N:=by omega
     have x4:x≤c':=by omega
     go_cut [3] from 3 to 38 (fun p wq=> ∃(w3:World) (P:Nat) (A2:Option Addr) (c2:Nat),w3=wq∧p=.pointer (some ⟨P,0,none⟩)∧Below wr.heap.size wr w3∧wr.heap.size≤P∧w3.heap[P]? =some (.cells #[.int .i64 (t.toNat:Int),.slice A2 (x-2) c2] 111 (0,0))∧w3.ownsRow (Bn+1) 5 1 (.slice A2 (x-2) c2) (x-2) ((r.take (x-2)).map bv))
     case first=>
      have t256:((t.toNat:Nat):Int)<256:=by have:=t.toNat_lt;omega
      have i2:IntKind.i64.wrap (t.toNat:Int)=(t.toNat:Int):=IntWalk.i64_in _ (by omega)
      have HDL:=hid (show x-2=(r.take (x-2)).length by rw[List.length_take];have:=HN.out;omega)
      by_cases hc2:c'=2
      ·obtain rfl:x=2:=by omega
       obtain rfl:N=2:=by omega
       subst hc2
       have hr0:r=[]:=by have:=HN.out;exact List.eq_nil_of_length_eq_zero (by omega)
       subst hr0
       go_region_held3 (fun w'=>w'.cell? ⟨Bn,0,none⟩=some (.slice (some ⟨b,o,none⟩) 2 2)∧w'.cell? ⟨b,o,none⟩=some (.int .u8 (t.toNat:Int))∧w'.cell? ⟨b,o+1,none⟩=some (.int .u8 2)) (first|(go_keep;done)|(go_simp;done)|(simp[go_sem];done)) ((go_at_call 82;go_loud (refine(clone_any (some ⟨b,o,none⟩) 0 0 [] _ 0 (by exact Nat.zero_le _) (by exact At.nil _ _ _) rfl (by decide) (by decide)).mono ?_);rintro e w1 ⟨v,rfl,hb,ho⟩;obtain⟨xs,d,rfl⟩:=ext_of hb;clear hb;obtain⟨A2,c2,rfl,-,-⟩:=ownsRow_form ho;have HO:=hid ho;clear ho))
       all_goals
        go_wp2_with fail
        go_meet
        refine⟨_,_,A2,c2,rfl,rfl,by exact bel,by first|(simp[size_ext,grow];done)|(simp[size_ext,grow];omega)|omega,by(repeat(first|((refine heap_alloc_at _ _ _ ?_);(simp[go_sem];done))|((refine(heap_ext _ _ _ _ ?_).trans ?_);(focus (simp[go_sem];done)))|((refine(heap_alloc_past _ _ _ ?_).trans ?_);(focus (simp[go_sem];done))))),?_⟩
        first|(refine own_base (own_swap HO.out ?_ ?_) ?_<;>first|(simp;done)|(simp;omega))|(refine own_base (own_below HO.out ?_) ?_<;>first|(exact bel;done)|(simp;done)|(simp;omega))
      ·have c3:2<c':=by omega
       have HD:=hid (show At wr B0 (some ⟨b,o+2,none⟩) ((r.take (x-2)).map bv) by rw[List.map_take];exact(At.tail2 HA'.out).take _)
       go_region_held3 (fun w'=>w'.cell? ⟨Bn,0,none⟩=some (.slice (some ⟨b,o,none⟩) N c')∧w'.cell? ⟨b,o,none⟩=some (.int .u8 (t.toNat:Int))∧w'.cell? ⟨b,o+1,none⟩=some (.int .u8 (x:Int))) (first|(go_keep;done)|(go_simp;done)|(simp[go_sem];done)) ((go_at_call 82;go_loud (refine(clone_any (some ⟨b,o+2,none⟩) (x-2) (c'-2) (r.take (x-2)) _ B0 (by have hz:=HBZ.out;first|exact hz|(simp;omega)) (by have hz:=HBZ.out;exact HD.out.keep (by exact bel)) HDL.out (by omega) (by omega)).mono ?_);rintro e w1 ⟨v,rfl,hb,ho⟩;obtain⟨xs,d,rfl⟩:=ext_of hb;clear hb;obtain⟨A2,c2,rfl,-,-⟩:=ownsRow_form ho;have HO:=hid ho;clear ho))
       all_goals
        go_wp2_with fail
        go_meet
        refine⟨_,_,A2,c2,rfl,rfl,by exact bel,by first|(simp[size_ext,grow];done)|(simp[size_ext,grow];omega)|omega,by(repeat(first|((refine heap_alloc_at _ _ _ ?_);(simp[go_sem];done))|((refine(heap_ext _ _ _ _ ?_).trans ?_);(focus (simp[go_sem];done)))|((refine(heap_alloc_past _ _ _ ?_).trans ?_);(focus (simp[go_sem];done))))),?_⟩
        first|(refine own_base (own_swap HO.out ?_ ?_) ?_<;>first|(simp;done)|(simp;omega))|(refine own_base (own_below HO.out ?_) ?_<;>first|(exact bel;done)|(simp;done)|(simp;omega))
     case rest=>
      obtain⟨w3,P,A2,c2,rfl,rfl,hb3,hP,hp3,ho3⟩:=hcut
      have HP3:=hid hp3
      have HO3:=hid ho3
      have HB3:=hid hb3
      have HPP:=hid hP
      have g1:w3.cell? ⟨Bn,0,none⟩=some (.slice (some ⟨b,o,none⟩) N c'):=(hb3.cell (p:=⟨Bn,0,none⟩) hBz).trans h1
      have gf:w3.frozen? ⟨Bn,0,none⟩=false:=free_of_one ((hb3.block Bn hBz).trans HB'.out)
      have g2:w3.cell? ⟨b,o+1,none⟩=some (.int .u8 (x:Int)):=(hb3.cell (p:=⟨b,o+1,none⟩) hbz).trans c1
      have HXX:=hid (show boxLen Bn wr=N from HM.out.trans (by have:=HN.out;simp;omega))
      clear h1 c0 c1 hp3 ho3 hb3 hP l2 k1 k2 k3 k4
      by_cases hcx:c'=x
      ·obtain rfl:N=x:=by omega
       subst hcx
       go_wp2_with fail
       go_still_tail 5,(by kernel_rfl)
       go_upto_region 5 with(fail)
       have hx0:r.drop (c'-2)=[]:=by rw[List.drop_eq_nil_iff];have:=HN.out;omega
       have hAd:At wr B0 (some ⟨b,o,none⟩) ((r.drop (c'-2)).map bv):=by rw[hx0];exact At.nil _ _ _
       obtain⟨w5,hw5⟩: ∃w5,w5=(w3.setCell ⟨Bn,0,none⟩ (.slice (some ⟨b,o,none⟩) (0) (0))).drew:=⟨_,rfl⟩
       rw[←hw5]
       have hne:P≠Bn:=by have:=HPP.out;omega
       have hp5:w5.heap[P]? =some (.cells #[.int .i64 (t.toNat:Int),.slice A2 (c'-2) c2] 111 (0,0)):=by rw[hw5];exact(Below.heap_setCell w3 ⟨Bn,0,none⟩ _ P hne).trans HP3.out
       have p0:w5.cell? ⟨P,0,none⟩=some (.int .i64 (t.toNat:Int)):=by rw[cell_of_row w5 P 0 _ _ (0,0) hp5];rfl
       have p1:w5.cell? ⟨P,1,none⟩=some (.slice A2 (c'-2) c2):=by rw[cell_of_row w5 P 1 _ _ (0,0) hp5];rfl
       have hb5:w5.heap[Bn]? =some (.cells #[.slice (some ⟨b,o,none⟩) (0) (0)] 30 (0,0)):=by rw[hw5];exact one_setCell ((HB3.out.block Bn hBz).trans HB'.out)
       have hgr:wr.grownBy w5 (some Bn):=by
        have h3:=HB3.out
        rw[hw5]
        exact⟨h3.os,h3.tape,h3.output,by have:=h3.size;simpa using this,fun k hk hkn=>(Below.heap_setCell w3 ⟨Bn,0,none⟩ _ k (fun e=>hkn (by rw[e]))).trans (h3.block k hk)⟩
       have hB5:Below n0 wr w5:=by
        rw[hw5]
        exact(((HB3.out.mono (by omega)).setCell (p:=⟨Bn,0,none⟩) hBn _)).drew
       have ho5:w5.ownsRow (Bn+1) 5 1 (.slice A2 (c'-2) c2) (c'-2) ((r.take (c'-2)).map bv):=by
        rw[hw5]
        exact own_keep HO3.out fun k hk=>Below.heap_setCell w3 ⟨Bn,0,none⟩ _ k (by have:=own_le HO3.out hk;simp;omega)
       have hdl:(r.take (c'-2)).length=c'-2:=by rw[List.length_take];have:=HN.out;omega
       obtain⟨fn,tmps,assign,body,hy,hR⟩:=HY.out (t::m::r) #[.agg #[.int .i64 (t.toNat:Int),.slice A2 (c'-2) c2],.bool true] (r.drop (c'-2)) w5 (HJ.out _ _ _ _ HJ'.out hgr (fun q e=>by cases e;rfl)) (.inl ⟨⟨(t.toNat:Int),r.take (c'-2),A2,c2⟩,by rw[cutOne_cons,HX.out,if_pos (by have:=HN.out;omega)];rfl,by simp only[Ent.v];rw[hdl],by simp only[Ent.v];rw[hdl];exact ho5⟩)
       have HR:=hid hR
       have HW5:=hid (And.intro hb5 hB5)
       have HAD:=hid hAd
       clear hR hgr ho5 hp5 hb5 hB5 hw5 hdl g1 gf g2 hAd
       refine(wpIn_wide (n:=n+1)).1 ?_
       gi_wp2
       refine HR.out.mono ?_
       rintro e W' (⟨rfl,hJ2,hk⟩|⟨rfl,hJx⟩)
       ·have HKK:=hid hk
        have HJ2:=hid hJ2
        clear hk hJ2
        gi_wp2
        go_wp2
        have hrl:(r.drop (c'-2)).length=0:=by rw[List.length_drop];have:=HN.out;omega
        have hbw:W'.heap[Bn]? =some (.cells #[.slice (some ⟨b,o,none⟩) (r.drop (c'-2)).length (0)] 30 (0,0)):=by rw[hrl];exact HKK.out.box.trans HW5.out.1
        go_roundw
        case rel=>exact⟨r.drop (c'-2),_,_,(HAD.out.keep (HW5.out.2.mono hB0)).keep (HKK.out.below.mono hB0),by omega,by omega,hbw,HJ2.out⟩
        case measure=>rw[boxLen_eq hbw,HXX.out];omega
       ·gi_wp2
        go_wp2
        (try simp only[Exit.inBlock,Exit.then])
        refine bodyPost_ret (results_none rfl _ _ _) rfl ?_
        exact⟨⟨_,rfl⟩,.inr hJx⟩
      ·have x5:x<c':=by omega
       go_wp2_with fail
       go_still_tail 5,(by kernel_rfl)
       go_upto_region 5 with(fail)
       have hAd:At wr B0 (some ⟨b,o+x,none⟩) ((r.drop (x-2)).map bv):=At.dropx HA'.out x2
       obtain⟨w5,hw5⟩: ∃w5,w5=(w3.setCell ⟨Bn,0,none⟩ (.slice (some ⟨b,o+x,none⟩) (N-x) (c'-x))).drew:=⟨_,rfl⟩
       rw[←hw5]
       have hne:P≠Bn:=by have:=HPP.out;omega
       have hp5:w5.heap[P]? =some (.cells #[.int .i64 (t.toNat:Int),.slice A2 (x-2) c2] 111 (0,0)):=by rw[hw5];exact(Below.heap_setCell w3 ⟨Bn,0,none⟩ _ P hne).trans HP3.out
       have p0:w5.cell? ⟨P,0,none⟩=some (.int .i64 (t.toNat:Int)):=by rw[cell_of_row w5 P 0 _ _ (0,0) hp5];rfl
       have p1:w5.cell? ⟨P,1,none⟩=some (.slice A2 (x-2) c2):=by rw[cell_of_row w5 P 1 _ _ (0,0) hp5];rfl
       have hb5:w5.heap[Bn]? =some (.cells #[.slice (some ⟨b,o+x,none⟩) (N-x) (c'-x)] 30 (0,0)):=by rw[hw5];exact one_setCell ((HB3.out.block Bn hBz).trans HB'.out)
       have hgr:wr.grownBy w5 (some Bn):=by
        have h3:=HB3.out
        rw[hw5]
        exact⟨h3.os,h3.tape,h3.output,by have:=h3.size;simpa using this,fun k hk hkn=>(Below.heap_setCell w3 ⟨Bn,0,none⟩ _ k (fun e=>hkn (by rw[e]))).trans (h3.block k hk)⟩
       have hB5:Below n0 wr w5:=by
        rw[hw5]
        exact(((HB3.out.mono (by omega)).setCell (p:=⟨Bn,0,none⟩) hBn _)).drew
       have ho5:w5.ownsRow (Bn+1) 5 1 (.slice A2 (x-2) c2) (x-2) ((r.take (x-2)).map bv):=by
        rw[hw5]
        exact own_keep HO3.out fun k hk=>Below.heap_setCell w3 ⟨Bn,0,none⟩ _ k (by have:=own_le HO3.out hk;simp;omega)
       have hdl:(r.take (x-2)).length=x-2:=by rw[List.length_take];have:=HN.out;omega
       obtain⟨fn,tmps,assign,body,hy,hR⟩:=HY.out (t::m::r) #[.agg #[.int .i64 (t.toNat:Int),.slice A2 (x-2) c2],.bool true] (r.drop (x-2)) w5 (HJ.out _ _ _ _ HJ'.out hgr (fun q e=>by cases e;rfl)) (.inl ⟨⟨(t.toNat:Int),r.take (x-2),A2,c2⟩,by rw[cutOne_cons,HX.out,if_pos (by have:=HN.out;omega)];rfl,by simp only[Ent.v];rw[hdl],by simp only[Ent.v];rw[hdl];exact ho5⟩)
       have HR:=hid hR
       have HW5:=hid (And.intro hb5 hB5)
       have HAD:=hid hAd
       clear hR hgr ho5 hp5 hb5 hB5 hw5 hdl g1 gf g2 hAd
       refine(wpIn_wide (n:=n+1)).1 ?_
       gi_wp2
       refine HR.out.mono ?_
       rintro e W' (⟨rfl,hJ2,hk⟩|⟨rfl,hJx⟩)
       ·have HKK:=hid hk
        have HJ2:=hid hJ2
        clear hk hJ2
        gi_wp2
        go_wp2
        have hrl:(r.drop (x-2)).length=N-x:=by rw[List.length_drop];have:=HN.out;omega
        have hbw:W'.heap[Bn]? =some (.cells #[.slice (some ⟨b,o+x,none⟩) (r.drop (x-2)).length (c'-x)] 30 (0,0)):=by rw[hrl];exact HKK.out.box.trans HW5.out.1
        go_roundw
        case rel=>exact⟨r.drop (x-2),_,_,(HAD.out.keep (HW5.out.2.mono hB0)).keep (HKK.out.below.mono hB0),by omega,by omega,hbw,HJ2.out⟩
        case measure=>rw[boxLen_eq hbw,HXX.out];omega
       ·gi_wp2
        go_wp2
        (try simp only[Exit.inBlock,Exit.then])
        refine bodyPost_ret (results_none rfl _ _ _) rfl ?_
        exact⟨⟨_,rfl⟩,.inr hJx⟩
end Go.Proofs.YtfkgmbknfnhjoaaGreat.Op
namespace Go.Proofs.YtfkgmbknfnhjoaaGreat.Op
open Lib (hid)
open Go.RowKit
attribute [local go_sem] Oper.semAt_some
set_option linter.unusedSimpArgs false
set_option linter.unusedVariables false
def decW:Nat→List UInt8→List (Int×List UInt8)→List (Int×List UInt8)×Int
 |0,_,acc=>(acc,0)
 |f+1,l,acc=>if l=[] then(acc,0) else match cutOne l with
  |none=>([],80)
  |some (o,r)=>if acc.length=64 then([],3) else decW f r (acc++[o])
def decR (l:List UInt8):List (Int×List UInt8)×Int:=if 1488<l.length then([],2) else decW l.length l []
def DecP (w:World) (l:List UInt8) (x:Ending) (w':World):Prop:=
 ∃E v,x=.returned (.tuple #[v,.int .i64 (decR l).2])∧Below w.heap.size w w'∧OwnOpts w' w.heap.size v E∧E.map Ent.o=(decR l).1
theorem decW_nil (f:Nat) (acc:List (Int×List UInt8)):decW f [] acc=(acc,0):=by cases f<;>simp[decW]
theorem decW_none {f:Nat} {l:List UInt8} {acc:List (Int×List UInt8)} (hf:l.length≤f) (h:l≠[]) (hc:cutOne l=none):decW f l acc=([],80):=by
 cases f with
 |zero=>exact absurd (List.eq_nil_of_length_eq_zero (by omega)) h
 |succ f=>simp[decW,h,hc]
theorem cutOne_len {l:List UInt8} {o:Int×List UInt8} {r:List UInt8} (h:cutOne l=some (o,r)):r.length+2≤l.length:=by
 unfold cutOne at h
 split at h
 ·split at h
  ·simp only[Option.some.injEq,Prod.mk.injEq] at h
   rw[←h.2,List.length_drop]
   simp only[List.length_cons];omega
  ·cases h
 ·cases h
theorem decW_many {f:Nat} {l:List UInt8} {acc:List (Int×List UInt8)} {o:Int×List UInt8} {r:List UInt8} (hf:l.length≤f) (hc:cutOne l=some (o,r)) (ha:acc.length=64):decW f l acc=([],3):=by
 have:=cutOne_len hc
 cases f with
 |zero=>omega
 |succ f=>
  have h:l≠[]:=by intro h;rw[h] at this;simp at this
  simp[decW,h,hc,ha]
theorem decW_step {f:Nat} {l:List UInt8} {acc:List (Int×List UInt8)} {o:Int×List UInt8} {r:List UInt8} (hf:l.length≤f) (hc:cutOne l=some (o,r)) (ha:acc.length≠64): ∃f',r.length≤f'∧decW f l acc=decW f' r (acc++[o]):=by
 have:=cutOne_len hc
 cases f with
 |zero=>omega
 |succ f=>
  have h:l≠[]:=by intro h;rw[h] at this;simp at this
  exact⟨f,by omega,by simp[decW,h,hc,ha]⟩
def DInv (w:World) (l rest:List UInt8) (W:World):Prop:=
 ∃(E:List Ent) (A:Option Addr) (n c f:Nat),rest.length≤f∧decW l.length l []=decW f rest (E.map Ent.o)∧Below w.heap.size w W∧W.heap[w.heap.size]? =some (.cells #[.slice none 0 0] 25 (0,0))∧
  W.heap[w.heap.size+1]? =some (.cells #[.int .i64 0] 35 (0,0))∧W.heap[w.heap.size+1+1]? =some (.cells #[.slice A n c] 25 (0,0))∧n=E.length∧E.length≤64∧OwnOpts W (w.heap.size+1+1+1+1) (.slice A n c) E
def DOut (w:World) (l:List UInt8):Code→World→Prop
 | .ret,W=>Below w.heap.size w W∧(decW l.length l []).1=[]∧W.heap[w.heap.size]? =some (.cells #[.slice none 0 0] 25 (0,0))∧W.heap[w.heap.size+1]? =some (.cells #[.int .i64 (decW l.length l []).2] 35 (0,0))
 |_,_=>False
theorem steps_block {Bn B:Nat} {A C:World} {row:Option Nat} (hg:A.grownBy C row) (hs:Steps Bn B A row) {k:Nat} {o:Obj} (hk:A.heap[k]? =some o) (h1:k≠Bn) (h2:k<B):C.heap[k]? =some o:=by
 refine(hg.block k (lt_of_block hk) fun e=>?_).trans hk
 rcases hs k e.symm with h|⟨h,-⟩<;>omega
theorem dinv_stays (w:World) (l rest:List UInt8) (B:Nat) (hB:w.heap.size+1+1+1≤B):Stays (w.heap.size+1+1+1) B (DInv w l rest):=by
 rintro A C row ⟨E,A1,n,c,f,hf,hd,hb,c0,c1,c2,hn,h64,ho⟩ hg hs
 refine⟨E,A1,n,c,f,hf,hd,hb.grown hg hb.size (fun k e=>?_),steps_block hg hs c0 (by omega) (by omega),steps_block hg hs c1 (by omega) (by omega),steps_block hg hs c2 (by omega) (by omega),hn,h64,ho.stays hg fun r e=>?_⟩
 ·rcases hs k e with h|⟨h,-⟩<;>omega
 ·rcases hs r e with h|⟨-,h⟩
  ·exact .inl (by omega)
  ·exact .inr h
theorem dout_stays (w:World) (l:List UInt8) (cd:Code) (B:Nat) (hB:w.heap.size+1+1+1≤B):Stays (w.heap.size+1+1+1) B (DOut w l cd):=by
 intro A C row h hg hs
 cases cd with
 |ret=>
  obtain⟨hb,hd,c0,c1⟩:=h
  refine⟨hb.grown hg hb.size (fun k e=>?_),hd,steps_block hg hs c0 (by omega) (by omega),steps_block hg hs c1 (by omega) (by omega)⟩
  rcases hs k e with h|⟨h,-⟩<;>omega
 |_=>exact h.elim
def DAx (w:World) (l:List UInt8) (fr:Nat→Bool→Value→Act) (rest:List UInt8) (args:Array Value) (rest':List UInt8) (a₁:Act) (W:World):Prop:=
 ∃(X:Nat) (ok:Bool) (tt:Int) (A2:Option Addr) (m c2:Nat),args=#[.agg #[.int .i64 tt,.slice A2 m c2],.bool ok]∧a₁=fr X ok (.agg #[.int .i64 tt,.slice A2 m c2])∧
  W.heap[X]? =some (.cells #[.int .i64 tt,.slice A2 m c2] 111 (0,0))∧w.heap.size+1+1+1+1≤X∧DInv w l rest W∧
  ((ok=true∧ ∃dd,cutOne rest=some ((tt,dd),rest')∧m=dd.length∧W.ownsRow (w.heap.size+1+1+1+1) 5 1 (.slice A2 m c2) m (dd.map bv))∨(ok=false∧rest≠[]∧cutOne rest=none))
theorem dax_stays (w:World) (l:List UInt8) (fr:Nat→Bool→Value→Act) (rest:List UInt8) (args:Array Value) (rest':List UInt8) (a₁:Act) (B:Nat) (hB:w.heap.size+1+1+1≤B):
  Stays (w.heap.size+1+1+1) B (DAx w l fr rest args rest' a₁):=by
 rintro A C row ⟨X,ok,tt,A2,m,c2,h1,h2,hX,hXl,hI,hG⟩ hg hs
 refine⟨X,ok,tt,A2,m,c2,h1,h2,?_,hXl,dinv_stays w l rest B hB A C row hI hg hs,?_⟩
 ·refine(hg.block X (lt_of_block hX) fun e=>?_).trans hX
  rcases hs X e.symm with h|⟨-,o,h,h'⟩
  ·omega
  ·rw[hX] at h;cases h;cases h'
 ·rcases hG with⟨hk,dd,hc,hm,ho⟩|h
  ·refine .inl ⟨hk,dd,hc,hm,own_stays ho hg fun r e=>?_⟩
   rcases hs r e with h|⟨-,h⟩
   ·exact .inl (by omega)
   ·exact .inr (.inl h)
  ·exact .inr h
theorem ent_map (E:List Ent) (e:Ent):(E++[e]).map Ent.o=E.map Ent.o++[e.o]:=by simp
theorem dec_push {w:World} {l s s':List UInt8} {W w':World} {E:List Ent} {A' A2 A3:Option Addr} {c' c2 c3 f:Nat} {tt:Int} {dd:List UInt8} {o:Obj}
  (hf:s.length≤f) (hd:decW l.length l []=decW f s (E.map Ent.o)) (hcut:cutOne s=some ((tt,dd),s')) (h64:E.length≤64) (h6:E.length≠64)
  (hb:Below w.heap.size w W) (c0:W.heap[w.heap.size]? =some (.cells #[.slice none 0 0] 25 (0,0))) (c1:W.heap[w.heap.size+1]? =some (.cells #[.int .i64 0] 35 (0,0)))
  (ct:W.heap[w.heap.size+1+1]? =some (.cells #[.slice A' E.length c'] 25 (0,0))) (hbx:w.heap.size+1+1+1<W.heap.size)
  (hown:OwnOpts W (w.heap.size+1+1+1+1) (.slice A' E.length c') E) (ho:W.ownsRow (w.heap.size+1+1+1+1) 5 1 (.slice A2 dd.length c2) dd.length (dd.map bv))
  (ho':w'.ownsRow (w.heap.size+1+1+1+1) 111 2 (.slice A3 (E.length+1) c3) (E.length+1) (cellsE E++[.int .i64 tt,.slice A2 dd.length c2]))
  (hg:(W.alloc o).grownBy w' (Value.slice A' E.length c').ownBlock):
  KeepsOthers W (w'.setCell ⟨w.heap.size+1+1,0,none⟩ (.slice A3 (E.length+1) c3))∧RKeep (w.heap.size+1+1+1) w.heap.size W (w'.setCell ⟨w.heap.size+1+1,0,none⟩ (.slice A3 (E.length+1) c3))∧
   DInv w l s' (w'.setCell ⟨w.heap.size+1+1,0,none⟩ (.slice A3 (E.length+1) c3)):=by
 have hrow: ∀k,(Value.slice A' E.length c').ownBlock=some k→w.heap.size+1+1+1+1≤k:=fun k hk=>own_le hown.1 hk
 have old: ∀k,k<w.heap.size+1+1+1+1→w'.heap[k]? =W.heap[k]?:=fun k hk=>
  (hg.block k (by simp;omega) (fun e=>by have:=hrow k e.symm;omega)).trans (Below.heap_alloc W o k (by omega))
 have hsz:W.heap.size+1≤w'.heap.size:=by have:=hg.size;simpa using this
 obtain⟨f',hf',hd'⟩:=decW_step (acc:=E.map Ent.o) hf hcut (by rw[List.length_map];exact h6)
 refine⟨(KeepsOthers.alloc W o).trans ((KeepsOthers.of_grownBy hg ?_).trans (KeepsOthers.setCell _ _ _)),⟨?_,?_⟩,E++[⟨tt,dd,A2,c2⟩],A3,E.length+1,c3,f',hf',?_,?_,?_,?_,?_,by simp,by simp;omega,?_,?_⟩
 ·intro j ob e hj
  obtain⟨cur,hcur⟩:=own_type (own_below hown.1 ((Below.refl _ _).alloc (o:=o) (Nat.le_refl _))) e
  rw[hcur] at hj;cases hj;rfl
 ·exact((((Below.refl _ W).alloc (by omega) o).grown hg (by simp;omega) (fun k e=>by have:=hrow k e;omega)).setCell (p:=⟨w.heap.size+1+1,0,none⟩) (by simp;omega) _)
 ·exact(Below.heap_setCell w' ⟨w.heap.size+1+1,0,none⟩ _ _ (by simp)).trans (old _ (by omega))
 ·rw[hd,hd',ent_map];rfl
 ·exact hb.trans ((((Below.refl _ W).alloc (by omega) o).grown hg (by simp;omega) (fun k e=>by have:=hrow k e;omega)).setCell (p:=⟨w.heap.size+1+1,0,none⟩) (by simp;omega) _)
 ·exact((Below.heap_setCell w' ⟨w.heap.size+1+1,0,none⟩ _ _ (by simp;omega)).trans (old _ (by omega))).trans c0
 ·exact((Below.heap_setCell w' ⟨w.heap.size+1+1,0,none⟩ _ _ (by simp)).trans (old _ (by omega))).trans c1
 ·exact one_setCell ((old _ (by omega)).trans ct)
 ·have e1:(E++[(⟨tt,dd,A2,c2⟩:Ent)]).length=E.length+1:=by simp
  rw[e1,cellsE_snoc]
  exact own_keep ho' fun k hk=>Below.heap_setCell w' ⟨w.heap.size+1+1,0,none⟩ _ k (by have:=own_le ho' hk;simp;omega)
 ·have data: ∀{v:Value} {n:Nat} {xs:List Value},W.ownsRow (w.heap.size+1+1+1+1) 5 1 v n xs→(w'.setCell ⟨w.heap.size+1+1,0,none⟩ (.slice A3 (E.length+1) c3)).ownsRow (w.heap.size+1+1+1+1) 5 1 v n xs:=fun {v n xs} h=>by
   have h1:=own_below h ((Below.refl _ W).alloc (o:=o) (Nat.le_refl _))
   have h2:w'.ownsRow (w.heap.size+1+1+1+1) 5 1 v n xs:=own_stays h1 hg fun r e=>by
    obtain⟨cur,hcur⟩:=own_type (own_below hown.1 ((Below.refl _ _).alloc (o:=o) (Nat.le_refl _))) e
    exact .inr (.inr ⟨cur,_,hcur,by decide⟩)
   exact own_keep h2 fun k hk=>Below.heap_setCell w' ⟨w.heap.size+1+1,0,none⟩ _ k (by have:=own_le h2 hk;simp;omega)
  intro e he
  simp only[List.mem_append,List.mem_singleton] at he
  rcases he with he|rfl
  ·exact data (hown.2 e he)
  ·exact data ho
set_option maxRecDepth 100000 in
theorem dec_in (A:Option Addr) (n c:Nat) (l:List UInt8) (w:World) (B:Nat) (hB:B≤w.heap.size) (hA:At w B A (l.map bv)) (hn:n=l.length) (hc:n≤c) (hl:n≤1488):
  Calls Tryz.prog 96 #[.slice A n c] w (DecP w l):=by
 subst hn
 have HA:=hid hA
 have HB:=hid hB
 have HR:=hid (show decR l=decW l.length l [] by unfold decR;rw[if_neg (by omega)])
 have h9:decide ((1488:Int)<(l.length:Int))=false:=by simp;omega
 clear hA hB
 refine(callsIn_wide (n:=7)).1 (callsIn_of_wp_marks Tryz.func96 rfl trivial ?_ rfl)
 simp only[Tryz.ntmps96,List.size_toArray,List.length_cons,List.length_nil,Nat.reduceAdd,Nat.reduceSub,Array.replicate_succ,Array.replicate_zero,List.push_toArray,List.append_toArray,List.nil_append,List.cons_append]
 refine wpIn_wide.2 ?_
 go_wp2_with (go_at_call 139;refine(each_any _ _ _ _).mono ?_;rintro e w1 ⟨rfl,rfl⟩)
 obtain⟨wl,hwl⟩: ∃wl,wl=(((w.alloc (.cells #[.slice none 0 0] 25)).alloc (.cells #[.int .i64 0] 35)).alloc (.cells #[.slice none 0 0] 25)).alloc (.cells #[.slice A l.length c] 30):=⟨_,rfl⟩
 rw[←hwl]
 have hsz:wl.heap.size=w.heap.size+1+1+1+1:=by rw[hwl];simp
 have hinv:DInv w l l wl:=by
  rw[hwl]
  exact⟨[],none,0,0,l.length,Nat.le_refl _,rfl,by exact bel,by(repeat(first|((refine heap_alloc_at _ _ _ ?_);(simp[go_sem];done))|((refine(heap_ext _ _ _ _ ?_).trans ?_);(focus (simp[go_sem];done)))|((refine(heap_alloc_past _ _ _ ?_).trans ?_);(focus (simp[go_sem];done))))),by(repeat(first|((refine heap_alloc_at _ _ _ ?_);(simp[go_sem];done))|((refine(heap_ext _ _ _ _ ?_).trans ?_);(focus (simp[go_sem];done)))|((refine(heap_alloc_past _ _ _ ?_).trans ?_);(focus (simp[go_sem];done))))),by(repeat(first|((refine heap_alloc_at _ _ _ ?_);(simp[go_sem];done))|((refine(heap_ext _ _ _ _ ?_).trans ?_);(focus (simp[go_sem];done)))|((refine(heap_alloc_past _ _ _ ?_).trans ?_);(focus (simp[go_sem];done))))),rfl,by decide,OwnOpts.nil _ _⟩
 have hbox:wl.heap[w.heap.size+1+1+1]? =some (.cells #[.slice A l.length c] 30 (0,0)):=by rw[hwl];(repeat(first|((refine heap_alloc_at _ _ _ ?_);(simp[go_sem];done))|((refine(heap_ext _ _ _ _ ?_).trans ?_);(focus (simp[go_sem];done)))|((refine(heap_alloc_past _ _ _ ?_).trans ?_);(focus (simp[go_sem];done)))))
 have hAl:At wl B A (l.map bv):=by rw[hwl];have:=HB.out;exact HA.out.keep (by exact bel)
 clear hwl
 refine(wpIn_wide (n:=7)).1 ?_
 refine wpIn_rangeFunc_cell rfl (by decide) (gf:=164) (lb:=#[.pointer (some ⟨w.heap.size+1+1+1,0,none⟩)]) rfl trivial (enters_of Tryz.func164 (by kernel_rfl) rfl)
  (Bn:=w.heap.size+1+1+1) (n0:=w.heap.size) (by omega) (by omega) (G:=Gives (w.heap.size+1+1+1) w.heap.size) (Done:=fun r=>r=[]) (s0:=l) ?hps
  (DInv w l) (DOut w l) (fun s=>dinv_stays w l s _ (by omega)) (fun cd=>dout_stays w l cd _ (by omega)) hinv ?hseq
  (DAx w l (fun X ok g=>({tmps:=#[.slice A l.length c,undef,.pointer (some ⟨w.heap.size,0,none⟩),.pointer (some ⟨w.heap.size+1,0,none⟩),.pointer (some ⟨w.heap.size+1+1,0,none⟩),.pointer (some ⟨X,0,none⟩),.bool ok,.slice A l.length c,.int .i64 l.length,.bool false,.slice A l.length c,.func (.func 164) #[] #[.pointer (some ⟨w.heap.size+1+1+1,0,none⟩)],g,.bool ok,undef,undef,undef,undef,undef,undef,undef,undef,undef,undef],defers:=[]}:Act))) (fun s args s' a'=>dax_stays w l _ s args s' a' _ (by omega)) ?hassign ?hbody ?hdone ?hstop
 case hps=>
  rintro s args s' W (⟨e,-,rfl,-⟩|⟨-,-,rfl⟩)<;>rfl
 case hseq=>
  intro W1 hb1 hi1
  exact iter_ok _ _ _ B _ A c l W1 (by omega) HB.out (hAl.keep (hb1.mono (by have:=HB.out;omega))) (by omega) (by omega) ((hb1.block _ (by omega)).trans hbox)
 case hassign=>
  rintro ll s args s' W hll hlt hi (⟨⟨tt,dd,A2,c2⟩,hcut,rfl,ho⟩|⟨hne,hno,rfl⟩)
  ·have HH:=hid (And.intro hcut ho)
   have HI:=hid hi
   clear hcut ho hi
   simp only[Ent.v,Ent.o] at HH ⊢
   gi_wp2
   exact⟨KeepsOthers.alloc _ _,⟨(Below.refl _ _).alloc (by omega) _,Below.heap_alloc _ _ _ (by omega)⟩,W.heap.size,true,tt,A2,dd.length,c2,rfl,rfl,heap_alloc_new _ _,by omega,
    dinv_stays w l s wl.heap.size (by omega) W _ none HI.out (World.grownBy_alloc W _ none) (fun r e=>by cases e),.inl ⟨rfl,dd,HH.out.1,rfl,own_below HH.out.2 ((Below.refl _ _).alloc (Nat.le_refl _) _)⟩⟩
  ·have HH:=hid (And.intro hne hno)
   have HI:=hid hi
   clear hne hno hi
   gi_wp2
   exact⟨KeepsOthers.alloc _ _,⟨(Below.refl _ _).alloc (by omega) _,Below.heap_alloc _ _ _ (by omega)⟩,W.heap.size,false,0,none,0,0,rfl,rfl,heap_alloc_new _ _,by omega,
    dinv_stays w l s wl.heap.size (by omega) W _ none HI.out (World.grownBy_alloc W _ none) (fun r e=>by cases e),.inr ⟨rfl,HH.out.1,HH.out.2⟩⟩
 case hbody=>
  rintro ll s args s' a₁ W ⟨X,ok,tt,A2,m,c2,rfl,rfl,hX,hXl,⟨E,A',n',c',f,hf,hd,hb,c0,c1,ct,hn',h64,hown⟩,hG⟩
  obtain rfl:=hn'
  have k0:W.cell? ⟨w.heap.size,0,none⟩=some (.slice none 0 0):=cell_of_one c0
  have f0:W.frozen? ⟨w.heap.size,0,none⟩=false:=free_of_one c0
  have k1:W.cell? ⟨w.heap.size+1,0,none⟩=some (.int .i64 0):=cell_of_one c1
  have f1:W.frozen? ⟨w.heap.size+1,0,none⟩=false:=free_of_one c1
  have k2:W.cell? ⟨w.heap.size+1+1,0,none⟩=some (.slice A' E.length c'):=cell_of_one ct
  have f2:W.frozen? ⟨w.heap.size+1+1,0,none⟩=false:=free_of_one ct
  have HF:=hid (And.intro hf hd)
  have HB':=hid hb
  have HC:=hid (And.intro c0 (And.intro c1 ct))
  have HOW:=hid hown
  have hlt0:w.heap.size+1+1<W.heap.size:=lt_of_block ct
  have p0:W.cell? ⟨X,0,none⟩=some (.int .i64 tt):=by rw[cell_of_row W X 0 _ _ (0,0) hX];rfl
  have p1:W.cell? ⟨X,1,none⟩=some (.slice A2 m c2):=by rw[cell_of_row W X 1 _ _ (0,0) hX];rfl
  have hXW:X<W.heap.size:=lt_of_block hX
  clear hf hd hb c0 c1 ct hown hX
  rcases hG with⟨rfl,dd,hcut,rfl,ho⟩|⟨rfl,hne,hno⟩
  ·have HG:=hid (And.intro hcut ho)
   clear hcut ho
   by_cases h6:E.length=64
   ·have HD:=hid (decW_many (acc:=E.map Ent.o) HF.out.1 HG.out.1 (by rw[List.length_map];exact h6))
    have e6:((E.length:Int)==64)=true:=by simp;omega
    clear h6
    gi_wp2
    refine⟨((KeepsOthers.setCell _ _ _).trans (KeepsOthers.setCell _ _ _)),?_,by rw[HF.out.2,HD.out],?_,?_⟩
    ·have:=HB'.out
     exact bel
    ·exact(Below.heap_setCell _ ⟨w.heap.size+1,0,none⟩ _ _ (by simp)).trans (one_setCell HC.out.1)
    ·rw[HF.out.2,HD.out]
     exact one_setCell ((Below.heap_setCell _ ⟨w.heap.size,0,none⟩ _ _ (by simp)).trans HC.out.2.1)
   ·have e6:((E.length:Int)==64)=false:=by simp;omega
    have H6:=hid h6
    clear h6
    have HNEW:=hid (At.newN W #[.int .i64 tt,.slice A2 dd.length c2] 111 [.int .i64 tt,.slice A2 dd.length c2] W.heap.size rfl rfl)
    gi_wp2_with (gi_at_builtin;go_loud (refine wpListIn_appv rfl (.tmp 19) (.tmp 21) 25 rfl 111 Tryz.underlying25 (.agg #[.int .i64 0,.slice none 0 0]) 2 32 infoOpt rfl (by decide) (by decide) (w.heap.size+1+1+1+1) (.slice A' E.length c') E.length (cellsE E) rfl (own_below HOW.out.1 ((Below.refl _ _).alloc (Nat.le_refl _) _)) _ (some ⟨W.heap.size,0,none⟩) 1 1 [.int .i64 tt,.slice A2 dd.length c2] rfl rfl (by omega) HNEW.out (by intro u hu;simp at hu;rcases hu with rfl|rfl<;>rfl) (by simp;omega) ?_);intro A3 c3 w' ho' hc3 hg';have HO':=hid (And.intro ho' hg');have HCT:=hid (show w'.heap[w.heap.size+1+1]? =some (.cells #[.slice A' E.length c'] 25 (0,0)) from((hg'.block _ (by simp;omega) (fun e=>by have:=own_le HOW.out.1 e.symm;omega)).trans (Below.heap_alloc W _ _ (by omega))).trans HC.out.2.2);have q2:=cell_of_one HCT.out;have qf:=free_of_one HCT.out;clear ho' hc3 hg')
    exact dec_push HF.out.1 HF.out.2 HG.out.1 h64 H6.out HB'.out HC.out.1 HC.out.2.1 HC.out.2.2 (by omega) HOW.out HG.out.2 HO'.out.1 HO'.out.2
  ·have HD:=hid (decW_none (acc:=E.map Ent.o) HF.out.1 hne hno)
   clear hne hno
   gi_wp2
   refine⟨((KeepsOthers.setCell _ _ _).trans (KeepsOthers.setCell _ _ _)),?_,by rw[HF.out.2,HD.out],?_,?_⟩
   ·have:=HB'.out
    exact bel
   ·exact(Below.heap_setCell _ ⟨w.heap.size+1,0,none⟩ _ _ (by simp)).trans (one_setCell HC.out.1)
   ·rw[HF.out.2,HD.out]
    exact one_setCell ((Below.heap_setCell _ ⟨w.heap.size,0,none⟩ _ _ (by simp)).trans HC.out.2.1)
 case hdone=>
  rintro s W rfl ⟨E,A',n',c',f,hf,hd,hb,c0,c1,ct,rfl,h64,hown⟩ hD
  have k0:W.cell? ⟨w.heap.size,0,none⟩=some (.slice none 0 0):=cell_of_one c0
  have f0:W.frozen? ⟨w.heap.size,0,none⟩=false:=free_of_one c0
  have k1:W.cell? ⟨w.heap.size+1,0,none⟩=some (.int .i64 0):=cell_of_one c1
  have f1:W.frozen? ⟨w.heap.size+1,0,none⟩=false:=free_of_one c1
  have k2:W.cell? ⟨w.heap.size+1+1,0,none⟩=some (.slice A' E.length c'):=cell_of_one ct
  have hlt0:w.heap.size+1+1<W.heap.size:=lt_of_block ct
  have HH:=hid (And.intro hd (And.intro hb hown))
  have HD:=hid hD
  have hsD:w.heap.size+1+1+1+1=wl.heap.size:=hsz.symm
  have HC:=hid (And.intro c0 c1)
  clear hf hd hb c0 c1 ct hown hD
  gi_wp2
  go_wp2
  have e0:((W.setCell ⟨w.heap.size,0,none⟩ (.slice A' E.length c')).setCell ⟨w.heap.size+1,0,none⟩ (.int .i64 0)).heap[w.heap.size]? =some (.cells #[.slice A' E.length c'] 25 (0,0)):=(Below.heap_setCell _ ⟨w.heap.size+1,0,none⟩ _ _ (by simp)).trans (one_setCell HC.out.1)
  have e1:((W.setCell ⟨w.heap.size,0,none⟩ (.slice A' E.length c')).setCell ⟨w.heap.size+1,0,none⟩ (.int .i64 0)).heap[w.heap.size+1]? =some (.cells #[.int .i64 0] 35 (0,0)):=one_setCell ((Below.heap_setCell _ ⟨w.heap.size,0,none⟩ _ _ (by simp)).trans HC.out.2)
  have eD:((W.setCell ⟨w.heap.size,0,none⟩ (.slice A' E.length c')).setCell ⟨w.heap.size+1,0,none⟩ (.int .i64 0)).heap[wl.heap.size]? =some (.deferred (some [])):=(Below.heap_setCell _ ⟨w.heap.size+1,0,none⟩ _ _ (by simp;omega)).trans ((Below.heap_setCell _ ⟨w.heap.size,0,none⟩ _ _ (by simp;omega)).trans HD.out)
  have r0:=cell_of_one ((World.putObj_heap_other (o:=.deferred none) (show w.heap.size≠wl.heap.size by omega)).trans e0)
  have r1:=cell_of_one ((World.putObj_heap_other (o:=.deferred none) (show w.heap.size+1≠wl.heap.size by omega)).trans e1)
  refine⟨by simp,.inl ⟨_,_,rfl,run_takeDeferred eD,?_⟩⟩
  refine⟨.tuple #[.slice A' E.length c',.int .i64 0],by simp[results,Tryz.results96,go_sem,r0,r1],E,.slice A' E.length c',?_,?_,?_,?_⟩
  ·rw[HR.out,HH.out.1,decW_nil]
  ·have hb:=HH.out.2.1
   have hz:w.heap.size≤W.heap.size:=hb.size
   exact((hb.setCell (p:=⟨w.heap.size,0,none⟩) (Nat.le_refl _) _).setCell (p:=⟨w.heap.size+1,0,none⟩) (by simp) _).trans (RKeep.putObj (Bn:=0) _ _ _ (by omega) (by omega)).below
  ·have ho:=(HH.out.2.2).base (show w.heap.size≤w.heap.size+1+1+1+1 by omega)
   have same: ∀k,w.heap.size+1+1+1+1≤k→k≠wl.heap.size→(((W.setCell ⟨w.heap.size,0,none⟩ (.slice A' E.length c')).setCell ⟨w.heap.size+1,0,none⟩ (.int .i64 0)).putObj wl.heap.size (.deferred none)).heap[k]? =W.heap[k]?:=fun k hk hkD=>
    (World.putObj_heap_other hkD).trans ((Below.heap_setCell _ ⟨w.heap.size+1,0,none⟩ _ _ (by simp;omega)).trans (Below.heap_setCell _ ⟨w.heap.size,0,none⟩ _ _ (by simp;omega)))
   have keep: ∀{e size n:Nat} {v:Value} {xs:List Value},W.ownsRow (w.heap.size+1+1+1+1) e size v n xs→(((W.setCell ⟨w.heap.size,0,none⟩ (.slice A' E.length c')).setCell ⟨w.heap.size+1,0,none⟩ (.int .i64 0)).putObj wl.heap.size (.deferred none)).ownsRow w.heap.size e size v n xs:=fun h=>
    own_base (own_keep h fun k hk=>same k (own_le h hk) (fun e=>by obtain⟨cur,hcur⟩:=own_type h hk;rw[e,HD.out] at hcur;cases hcur)) (by omega)
   exact⟨keep HH.out.2.2.1,fun e he=>keep (HH.out.2.2.2 e he)⟩
  ·rw[HR.out,HH.out.1,decW_nil]
 case hstop=>
  intro cd W h hD
  cases cd with
  |ret=>
   obtain⟨hb,h1,c0,c1⟩:=h
   have k0:W.cell? ⟨w.heap.size,0,none⟩=some (.slice none 0 0):=cell_of_one c0
   have k1:W.cell? ⟨w.heap.size+1,0,none⟩=some (.int .i64 (decW l.length l []).2):=cell_of_one c1
   have HH:=hid (And.intro hb h1)
   have HD:=hid hD
   have HC:=hid (And.intro c0 c1)
   clear hb h1 c0 c1 hD
   gi_wp2
   have r0:=cell_of_one ((World.putObj_heap_other (o:=.deferred none) (show w.heap.size≠wl.heap.size by omega)).trans HC.out.1)
   have r1:=cell_of_one ((World.putObj_heap_other (o:=.deferred none) (show w.heap.size+1≠wl.heap.size by omega)).trans HC.out.2)
   refine⟨by simp,.inl ⟨_,_,rfl,run_takeDeferred HD.out,?_⟩⟩
   refine⟨.tuple #[.slice none 0 0,.int .i64 (decW l.length l []).2],by simp[results,Tryz.results96,go_sem,r0,r1],[],.slice none 0 0,?_,?_,OwnOpts.nil _ _,?_⟩
   ·rw[HR.out]
   ·exact HH.out.1.trans (RKeep.putObj (Bn:=0) _ _ _ (by omega) (by omega)).below
   ·rw[HR.out,HH.out.2];rfl
  |_=>exact h.elim
end Go.Proofs.YtfkgmbknfnhjoaaGreat.Op
namespace Go.Proofs.YtfkgmbknfnhjoaaGreat.Op
open Lib (hid)
open Go.RowKit
set_option linter.unusedSimpArgs false
set_option linter.unusedVariables false
theorem dec_any (A:Option Addr) (n c:Nat) (l:List UInt8) (w:World) (B:Nat) (hB:B≤w.heap.size) (hA:At w B A (l.map bv)) (hn:n=l.length) (hc:n≤c):
  Calls Tryz.prog 96 #[.slice A n c] w (DecP w l):=by
 by_cases hl:n≤1488
 ·exact dec_in A n c l w B hB hA hn hc hl
 ·have HR:=hid (show decR l=([],2) by unfold decR;rw[if_pos (by omega)])
  have h9:1488<n:=by omega
  clear hA hB hn hc hl
  go_enter Tryz.func96,Tryz.ntmps96
  go_wp2
  exact bodyPost_ret (v:=.tuple #[.slice none 0 0,.int .i64 2]) (by simp[results,Tryz.results96,go_sem]) rfl ⟨[],.slice none 0 0,by rw[HR.out],by exact bel,OwnOpts.nil _ _,by rw[HR.out];rfl⟩
theorem within_any (n lo hi:Int) (w:World):Calls Tryz.prog 81 #[.int .i64 n,.int .i64 lo,.int .i64 hi] w fun e w'=>e=.returned (.bool (inB n lo hi))∧w=w':=by
 by_cases h1:lo≤n<;>by_cases h2:n≤hi
 all_goals
  go_enter Tryz.func81,Tryz.ntmps81
  go_wp2
  go_ret
  exact⟨by simp[inB,h1,h2],rfl⟩
def okO (o:Int×List UInt8):Bool:=inB o.1 0 255&&decide (o.2.length≤253)
def encO (o:Int×List UInt8):List UInt8:=UInt8.ofNat o.1.toNat::UInt8.ofNat (o.2.length+2)::o.2
def encs (L:List (Int×List UInt8)):List UInt8:=L.flatMap encO
def encR (L:List (Int×List UInt8)):List UInt8×Int:=
 if 64<L.length then([],3) else if L.all okO=true then(if 1488<(encs L).length then([],2) else(encs L,0)) else([],80)
def EncP (w:World) (L:List (Int×List UInt8)) (x:Ending) (w':World):Prop:=
 ∃v,x=.returned (.tuple #[v,.int .i64 (encR L).2])∧Below w.heap.size w w'∧w'.ownsRow w.heap.size 5 1 v (encR L).1.length ((encR L).1.map bv)
theorem encs_take {L:List (Int×List UInt8)} {k:Nat} (hk:k<L.length):encs (L.take (k+1))=encs (L.take k)++encO L[k]:=by
 unfold encs
 rw[List.take_succ_eq_append_getElem hk,List.flatMap_append]
 simp only[List.flatMap_cons,List.flatMap_nil,List.append_nil]
theorem all_take {L:List (Int×List UInt8)} {k:Nat} (hk:k<L.length) (h:(L.take k).all okO=true) (h2:okO L[k]=true):(L.take (k+1)).all okO=true:=by
 rw[List.take_succ_eq_append_getElem hk,List.all_append,h];simp[h2]
theorem all_not {L:List (Int×List UInt8)} {k:Nat} (hk:k<L.length) (h2:okO L[k]=false):L.all okO=false:=by
 rw[List.all_eq_false]
 exact⟨L[k],List.getElem_mem hk,by rw[h2];simp⟩
end Go.Proofs.YtfkgmbknfnhjoaaGreat.Op
namespace Go.Proofs.YtfkgmbknfnhjoaaGreat.Op
open Lib (hid)
open Go.RowKit
set_option linter.unusedSimpArgs false
set_option linter.unusedVariables false
theorem byteOf {a:Int} (h:inB a 0 255=true): ∃x:UInt8,a=(x.toNat:Int)∧UInt8.ofNat a.toNat=x:=by
 simp only[inB,Bool.and_eq_true,decide_eq_true_eq] at h
 refine⟨UInt8.ofNat a.toNat,?_,rfl⟩
 have:(UInt8.ofNat a.toNat).toNat=a.toNat:=by simp;omega
 omega
theorem wrapU8 (x:UInt8):IntKind.u8.wrap (x.toNat:Int)=(x.toNat:Int):=by
 have:=x.toNat_lt
 simp only[IntKind.wrap,IntKind.signed,IntKind.bits]
 simp
 omega
theorem map_o (E:List Ent) (k:Nat) (hk:k<E.length):(E.map Ent.o)[k]'(by simpa using hk)=(E[k].t,E[k].d):=by simp[Ent.o]
theorem own_ne {w:World} {base size n:Nat} {v:Value} {xs:List Value} {T:Nat} {cs:Array Value} (h:w.ownsRow base 5 size v n xs) (hT:w.heap[T]? =some (.cells cs 111 (0,0))): ∀g,v.ownBlock=some g→g≠T:=by
 intro g hg e
 subst e
 obtain⟨cur,hc⟩:=own_type h hg
 rw[hT] at hc
 simp at hc
set_option maxRecDepth 100000 in
theorem enc_in (A:Option Addr) (c:Nat) (E:List Ent) (w:World) (B:Nat) (hB:B≤w.heap.size) (hE:OptsAt w B A E) (hl:E.length≤64):
  Calls Tryz.prog 45 #[.slice A E.length c] w (EncP w (E.map Ent.o)):=by
 have HE:=hid hE
 have HB:=hid hB
 clear hE hB
 go_enter Tryz.func45,Tryz.ntmps45
 go_wp2
 go_loopw [12,4] (fun i v wr=> ∃(k n c:Nat) (A:Option Addr),k≤E.length∧i=.int .i64 k∧v=.slice A n c∧n≤c∧n≤255*k∧n=(encs ((E.map Ent.o).take k)).length∧((E.map Ent.o).take k).all okO=true∧Below w.heap.size w wr∧wr.ownsRow w.heap.size 5 1 (.slice A n c) n ((encs ((E.map Ent.o).take k)).map bv)) (fun i _ _=>E.length-(intOf i).toNat)
 case atStart=>exact⟨0,0,0,none,Nat.zero_le _,rfl,rfl,Nat.le_refl _,by omega,rfl,rfl,Below.refl _ _,own_nil _ _ _ _⟩
 case round=>
  obtain⟨k,n,c',A',hk,rfl,rfl,hnc,hn5,hn,hall,hb,ho⟩:=hrel
  have HN:=hid (And.intro hn (And.intro hall hnc))
  have HBW:=hid hb
  have HO:=hid ho
  have hsz:=hb.size
  clear hn hall hnc hb ho
  by_cases hlt:k<E.length
  ·obtain⟨b,o,rfl,hbB,hc0,hc1⟩:=(HE.out.keep (HBW.out.mono HB.out)).get hlt
   obtain⟨hd1,hd2⟩:=(HE.out.keep (HBW.out.mono HB.out)).2 E[k] (List.getElem_mem hlt)
   have HO1:=hid (map_o E k hlt)
   obtain⟨⟨t,d,a,c2⟩,he⟩: ∃e,E[k]=e:=⟨_,rfl⟩
   rw[he] at hc0 hc1 hd1 hd2 HO1
   simp only[Ent.v] at hc1 hd1 hd2 HO1
   dsimp only at hc0
   have HD:=hid (And.intro hd1 hd2)
   have hkl:k<(E.map Ent.o).length:=by simpa using hlt
   have HKL:=hid hkl
   have HDW:=hid (show At w B a (d.map bv) by have:=(HE.out.2 E[k] (List.getElem_mem hlt)).1;rw[he] at this;exact this)
   clear he hd1 hd2 hkl
   cases hw:inB t 0 255
   ·go_wp2_with (go_at_call 81;refine(within_any _ _ _ _).mono ?_;rw[hw];rintro e w1 ⟨rfl,rfl⟩)
    have HX:=hid (show(E.map Ent.o).all okO=false from all_not HKL.out (by rw[HO1.out];unfold okO;simp only[hw];rfl))
    have HR:=hid (show encR (E.map Ent.o)=([],80) by unfold encR;rw[if_neg (by rw[List.length_map];omega),if_neg (by rw[HX.out];simp)])
    go_ret2
    exact⟨.slice none 0 0,by rw[HR.out];rfl,by have:=HBW.out;exact bel,by rw[HR.out];exact own_nil _ _ _ _⟩
   ·by_cases h253:253<d.length
    ·have HX:=hid (show(E.map Ent.o).all okO=false from all_not HKL.out (by rw[HO1.out];unfold okO;simp;omega))
     have HR:=hid (show encR (E.map Ent.o)=([],80) by unfold encR;rw[if_neg (by rw[List.length_map];omega),if_neg (by rw[HX.out];simp)])
     go_wp2_with (go_at_call 81;refine(within_any _ _ _ _).mono ?_;rw[hw];rintro e w1 ⟨rfl,rfl⟩)
     go_ret2
     exact⟨.slice none 0 0,by rw[HR.out];rfl,by have:=HBW.out;exact bel,by rw[HR.out];exact own_nil _ _ _ _⟩
    ·obtain⟨x,hx,hx2⟩:=byteOf hw
     have HOK:=hid (show okO (t,d)=true by unfold okO;simp only[hw];simp;omega)
     have HX2:=hid hx2
     subst hx
     obtain⟨y,hy⟩: ∃y:UInt8,(d.length:Int)+2=(y.toNat:Int):=⟨UInt8.ofNat (d.length+2),by simp;omega⟩
     clear hx2
     go_wp2_with (go_at_call 81;refine(within_any _ _ _ _).mono ?_;rw[hw];rintro e w1 ⟨rfl,rfl⟩)
     obtain⟨wz,hwz⟩: ∃wz,wz=wr.alloc (.cells #[.int .i64 (x.toNat:Int),.slice a d.length c2] 111):=⟨_,rfl⟩
     rw[←hwz]
     obtain⟨T,hT⟩: ∃T,T=wr.heap.size:=⟨_,rfl⟩
     rw[←hT]
     have hTz:T<wz.heap.size:=by rw[hwz,hT];simp
     have z0:wz.cell? ⟨T,0,none⟩=some (.int .i64 (x.toNat:Int)):=by rw[hwz,hT,cell_of_row _ _ 0 _ _ (0,0) (heap_alloc_new wr _)];rfl
     have z1:wz.cell? ⟨T,1,none⟩=some (.slice a d.length c2):=by rw[hwz,hT,cell_of_row _ _ 1 _ _ (0,0) (heap_alloc_new wr _)];rfl
     have HTH:=hid (show wz.heap[T]? =some (.cells #[.int .i64 (x.toNat:Int),.slice a d.length c2] 111 (0,0)) by rw[hwz,hT];exact heap_alloc_new wr _)
     have HBZ:=hid (show Below w.heap.size w wz by rw[hwz];exact HBW.out.alloc hsz _)
     have HOZ:=hid (show wz.ownsRow w.heap.size 5 1 (.slice A' n c') n ((encs ((E.map Ent.o).take k)).map bv) by rw[hwz];exact own_below HO.out ((Below.refl _ _).alloc (Nat.le_refl _) _))
     have HTB:=hid (show∀g,(Value.slice A' n c').ownBlock=some g→g<T by intro g hg;rw[hT];exact own_lt HO.out hg)
     have hszz:=HBZ.out.size
     have HNEW:=hid (At.newN wz #[.int .u8 (x.toNat:Int),.int .u8 (y.toNat:Int)] 5 [bv x,bv y] wz.heap.size rfl rfl)
     have x1:((x.toNat:Nat):Int)<256:=by have:=x.toNat_lt;omega
     have y1:((y.toNat:Nat):Int)<256:=by have:=y.toNat_lt;omega
     have i1:IntKind.i64.wrap ((d.length:Int)+2)=(d.length:Int)+2:=IntWalk.i64_in _ (by omega)
     have u1:IntKind.u8.wrap (x.toNat:Int)=(x.toNat:Int):=wrapU8 x
     have u2:IntKind.u8.wrap (y.toNat:Int)=(y.toNat:Int):=wrapU8 y
     have j1:IntKind.i64.wrap (y.toNat:Int)=(y.toNat:Int):=IntWalk.i64_in _ (by omega)
     have hd255:d.length≤253:=by omega
     have hn64:n≤255*64:=by omega
     have HY:=hid hy
     clear hwz hT hc0 hc1
     go_region_held3 (fun w'=>w'.cell? ⟨T,0,none⟩=some (.int .i64 (x.toNat:Int))∧w'.cell? ⟨T,1,none⟩=some (.slice a d.length c2)) (first|(go_keep;done)|(go_simp;done)|(simp[go_sem];done)) (first|(refine step_appv w rfl (.tmp 26) (.tmp 35) 30 rfl 5 Tryz.underlying30 (.int .u8 0) 1 1 infoU8 rfl (by decide) (by decide) (.slice A' n c') n ((encs ((E.map Ent.o).take k)).map bv) rfl (by exact own_below HOZ.out (by exact bel)) (wz.heap.size+1) (some ⟨wz.heap.size,0,none⟩) 2 2 [bv x,bv y] rfl rfl (by omega) (by exact HNEW.out.keep (by exact bel)) (by intro u hu;simp at hu;rcases hu with rfl|rfl<;>rfl) (by have:=HBZ.out;exact bel) ?_;intro A1 c1 w1 ho1 hc1 hb1 hg1;have HT1:=hid (show w1.heap[T]? =some (.cells #[.int .i64 (x.toNat:Int),.slice a d.length c2] 111 (0,0)) from(hg1.block T (by simp;omega) (fun e=>by have:=HTB.out T e.symm;omega)).trans (by exact(Below.heap_alloc wz _ T hTz).trans HTH.out));have q0:w1.cell? ⟨T,0,none⟩=some (.int .i64 (x.toNat:Int)):=(cell_of_row w1 T 0 _ _ (0,0) HT1.out).trans rfl;have q1:w1.cell? ⟨T,1,none⟩=some (.slice a d.length c2):=(cell_of_row w1 T 1 _ _ (0,0) HT1.out).trans rfl;have HTN:=hid (own_ne ho1 HT1.out);have HO1':=hid ho1;have HB1:=hid hb1;clear ho1 hc1 hb1 hg1)|(go_loud (refine step_appv w rfl (.tmp 36) (.tmp 38) 30 rfl 5 Tryz.underlying30 (.int .u8 0) 1 1 infoU8 rfl (by decide) (by decide) (.slice A1 (n+2) c1) (n+2) ((encs ((E.map Ent.o).take k)).map bv++[bv x,bv y]) rfl (by exact own_below HO1'.out (by exact bel)) B a d.length c2 (d.map bv) rfl (by simp) (by omega) (by have hq:=HB1.out;have hqs:=hq.size;have hqb:=HB.out;exact HDW.out.keep (by exact bel)) (bv_all _) (by have:=HB1.out;exact bel) ?_);intro A3 c3 w3 ho3 hc3 hb3 hg3;have HT3:=hid (show w3.heap[T]? =some (.cells #[.int .i64 (x.toNat:Int),.slice a d.length c2] 111 (0,0)) from(hg3.block T (by exact lt_of_block HT1.out) (fun e=>HTN.out T e.symm rfl)).trans (by exact HT1.out));have q0:w3.cell? ⟨T,0,none⟩=some (.int .i64 (x.toNat:Int)):=(cell_of_row w3 T 0 _ _ (0,0) HT3.out).trans rfl;have q1:w3.cell? ⟨T,1,none⟩=some (.slice a d.length c2):=(cell_of_row w3 T 1 _ _ (0,0) HT3.out).trans rfl;have HO3:=hid ho3;have HB3:=hid hb3;have HC3:=hid hc3;clear ho3 hc3 hb3 hg3))
     go_wp2_with fail
     go_roundw
     case rel=>exact⟨k+1,n+2+d.length,_,_,by omega,by go_num,rfl,HC3.out,by omega,by rw[encs_take HKL.out,HO1.out,List.length_append,←HN.out.1];simp[encO];omega,all_take HKL.out HN.out.2.1 (by rw[HO1.out];exact HOK.out),HB3.out,by
      rw[encs_take HKL.out,HO1.out,List.map_append]
      have e:(encO ((x.toNat:Int),d)).map bv=[bv x,bv y]++d.map bv:=by
       simp only[encO,List.map_cons]
       rw[show UInt8.ofNat (x.toNat:Int).toNat=x from HX2.out,show UInt8.ofNat (d.length+2)=y from by apply UInt8.toNat.inj;have:=HY.out;simp;omega]
       rfl
      rw[e,←List.append_assoc]
      exact HO3.out⟩
     case measure=>simp[intOf];omega
  ·obtain rfl:k=E.length:=by omega
   have HT:=hid (show(E.map Ent.o).take E.length=E.map Ent.o from List.take_of_length_le (by simp))
   have HL:=hid (show(E.map Ent.o).all okO=true∧n=(encs (E.map Ent.o)).length by have:=HN.out;rw[HT.out] at this;exact⟨this.2.1,this.1⟩)
   have HEN:=hid (show encR (E.map Ent.o)=if 1488<n then([],2) else(encs (E.map Ent.o),0) by unfold encR;rw[if_neg (by rw[List.length_map];omega),if_pos HL.out.1,←HL.out.2])
   by_cases hbig:1488<n
   ·go_wp2
    go_ret2
    exact⟨.slice none 0 0,by rw[HEN.out,if_pos hbig];rfl,HBW.out,by rw[HEN.out,if_pos hbig];exact own_nil _ _ _ _⟩
   ·go_wp2
    go_ret2
    refine⟨.slice A' n c',by rw[HEN.out,if_neg hbig];rfl,HBW.out,?_⟩
    rw[HEN.out,if_neg hbig]
    have:=HO.out
    rw[HT.out] at this
    have e:=HL.out.2
    simp only
    rw[←e]
    exact this
theorem enc_any (A:Option Addr) (n c:Nat) (E:List Ent) (w:World) (B:Nat) (hB:B≤w.heap.size) (hE:OptsAt w B A E) (hn:n=E.length):
  Calls Tryz.prog 45 #[.slice A n c] w (EncP w (E.map Ent.o)):=by
 subst hn
 by_cases hl:E.length≤64
 ·exact enc_in A c E w B hB hE hl
 ·have HR:=hid (show encR (E.map Ent.o)=([],3) by unfold encR;rw[if_pos (by rw[List.length_map];omega)])
  have h:64<E.length:=by omega
  clear hE hB hl
  go_enter Tryz.func45,Tryz.ntmps45
  go_wp2
  go_ret2
  exact⟨.slice none 0 0,by rw[HR.out];rfl,Below.refl _ _,by rw[HR.out];exact own_nil _ _ _ _⟩
end Go.Proofs.YtfkgmbknfnhjoaaGreat.Op
namespace Go.Proofs.YtfkgmbknfnhjoaaGreat.Op
open Lib (hid)
open Go.RowKit
set_option linter.unusedSimpArgs false
set_option linter.unusedVariables false
end Go.Proofs.YtfkgmbknfnhjoaaGreat.Op
namespace Go.Proofs.YtfkgmbknfnhjoaaGreat.Op
open Lib (hid)
open Go.RowKit
set_option linter.unusedSimpArgs false
set_option linter.unusedVariables false
def oneB (a b:Int×List UInt8):Bool:=a.1==b.1&&a.2==b.2
theorem one_ref (t1 t2:Int) (A1 A2:Option Addr) (n1 n2 c1 c2:Nat) (d1 d2:List UInt8) (w:World) (B:Nat) (hB:B≤w.heap.size) (h1:At w B A1 (d1.map bv)) (h2:At w B A2 (d2.map bv)) (hn1:n1=d1.length) (hn2:n2=d2.length):
  Calls Tryz.prog 102 #[.agg #[.int .i64 t1,.slice A1 n1 c1],.agg #[.int .i64 t2,.slice A2 n2 c2]] w fun x w'=>x=.returned (.bool (oneB (t1,d1) (t2,d2)))∧Below w.heap.size w w':=by
 have q1: ∀W:World,At W B A1 (d1.map bv)→(convert 30 9 (.slice A1 n1 c1)).run Tryz.prog W=.ok (.string ⟨d1.toArray⟩) W:=fun W h=>run_str Tryz.underlying30 Tryz.underlying5 Tryz.underlying9 hn1 h
 have q2: ∀W:World,At W B A2 (d2.map bv)→(convert 30 9 (.slice A2 n2 c2)).run Tryz.prog W=.ok (.string ⟨d2.toArray⟩) W:=fun W h=>run_str Tryz.underlying30 Tryz.underlying5 Tryz.underlying9 hn2 h
 have g1:At ((w.alloc (.cells #[.int .i64 t1,.slice A1 n1 c1] 111)).alloc (.cells #[.int .i64 t2,.slice A2 n2 c2] 111)) B A1 (d1.map bv):=h1.keep (by exact bel)
 have g2:At ((w.alloc (.cells #[.int .i64 t1,.slice A1 n1 c1] 111)).alloc (.cells #[.int .i64 t2,.slice A2 n2 c2] 111)) B A2 (d2.map bv):=h2.keep (by exact bel)
 clear h1 h2 hn1 hn2 hB
 cases ht:(t1==t2)
 ·have HR:=hid (show oneB (t1,d1) (t2,d2)=false by unfold oneB;simp only[ht,Bool.false_and])
  clear q1 q2 g1 g2
  go_enter Tryz.func102,Tryz.ntmps102
  go_wp2
  go_ret
  exact⟨by rw[HR.out];rfl,by exact bel⟩
 ·cases hd:(d1==d2)
  ·have HR:=hid (show oneB (t1,d1) (t2,d2)=false by unfold oneB;simp only[hd,Bool.and_false])
   go_enter Tryz.func102,Tryz.ntmps102
   go_wp2
   go_ret
   exact⟨by rw[HR.out];rfl,by exact bel⟩
  ·have HR:=hid (show oneB (t1,d1) (t2,d2)=true by unfold oneB;simp only[ht,hd,Bool.and_true])
   go_enter Tryz.func102,Tryz.ntmps102
   go_wp2
   go_ret
   exact⟨by rw[HR.out];rfl,by exact bel⟩
theorem one_any (t1 t2:Int) (A1 A2:Option Addr) (n1 n2 c1 c2:Nat) (d1 d2:List UInt8) (w:World) (B:Nat) (hB:B≤w.heap.size) (h1:At w B A1 (d1.map bv)) (h2:At w B A2 (d2.map bv)) (hn1:n1=d1.length) (hn2:n2=d2.length):
  Calls Tryz.prog 149 #[.agg #[.int .i64 t1,.slice A1 n1 c1],.agg #[.int .i64 t2,.slice A2 n2 c2]] w fun x w'=>x=.returned (.bool (oneB (t1,d1) (t2,d2)))∧Below w.heap.size w w':=by
 have q1: ∀W:World,At W B A1 (d1.map bv)→(convert 30 9 (.slice A1 n1 c1)).run Tryz.prog W=.ok (.string ⟨d1.toArray⟩) W:=fun W h=>run_str Tryz.underlying30 Tryz.underlying5 Tryz.underlying9 hn1 h
 have q2: ∀W:World,At W B A2 (d2.map bv)→(convert 30 9 (.slice A2 n2 c2)).run Tryz.prog W=.ok (.string ⟨d2.toArray⟩) W:=fun W h=>run_str Tryz.underlying30 Tryz.underlying5 Tryz.underlying9 hn2 h
 have g1:At ((w.alloc (.cells #[.int .i64 t1,.slice A1 n1 c1] 111)).alloc (.cells #[.int .i64 t2,.slice A2 n2 c2] 111)) B A1 (d1.map bv):=h1.keep (by exact bel)
 have g2:At ((w.alloc (.cells #[.int .i64 t1,.slice A1 n1 c1] 111)).alloc (.cells #[.int .i64 t2,.slice A2 n2 c2] 111)) B A2 (d2.map bv):=h2.keep (by exact bel)
 clear h1 h2 hn1 hn2 hB
 cases ht:(t1==t2)
 ·have HR:=hid (show oneB (t1,d1) (t2,d2)=false by unfold oneB;simp only[ht,Bool.false_and])
  clear q1 q2 g1 g2
  go_enter Tryz.func149,Tryz.ntmps149
  go_wp2
  go_ret
  exact⟨by rw[HR.out];rfl,by exact bel⟩
 ·cases hd:(d1==d2)
  ·have HR:=hid (show oneB (t1,d1) (t2,d2)=false by unfold oneB;simp only[hd,Bool.and_false])
   go_enter Tryz.func149,Tryz.ntmps149
   go_wp2
   go_ret
   exact⟨by rw[HR.out];rfl,by exact bel⟩
  ·have HR:=hid (show oneB (t1,d1) (t2,d2)=true by unfold oneB;simp only[ht,hd,Bool.and_true])
   go_enter Tryz.func149,Tryz.ntmps149
   go_wp2
   go_ret
   exact⟨by rw[HR.out];rfl,by exact bel⟩
end Go.Proofs.YtfkgmbknfnhjoaaGreat.Op
namespace Go.Proofs.YtfkgmbknfnhjoaaGreat.Op
open Lib (hid)
open Go.RowKit
set_option linter.unusedSimpArgs false
set_option linter.unusedVariables false
def sameB (a b:List (Int×List UInt8)):Bool:=decide (a=b)
theorem oneB_iff (a b:Int×List UInt8):oneB a b=decide (a=b):=by
 obtain⟨a1,a2⟩:=a
 obtain⟨b1,b2⟩:=b
 unfold oneB
 rw[Bool.eq_iff_iff]
 simp
theorem take_same {a b:List (Int×List UInt8)} {k:Nat} (h:a.take k=b.take k) (h1:k<a.length) (h2:k<b.length) (he:oneB a[k] b[k]=true):a.take (k+1)=b.take (k+1):=by
 rw[oneB_iff] at he
 rw[List.take_succ_eq_append_getElem h1,List.take_succ_eq_append_getElem h2,h,of_decide_eq_true he]
theorem same_not {a b:List (Int×List UInt8)} {k:Nat} (h1:k<a.length) (h2:k<b.length) (he:oneB a[k] b[k]=false):sameB a b=false:=by
 unfold sameB
 rw[oneB_iff] at he
 have he:=of_decide_eq_false he
 apply decide_eq_false
 intro e
 subst e
 exact he rfl
set_option maxRecDepth 100000 in
theorem same_ref (A1 A2:Option Addr) (n1 n2 k1 k2:Nat) (E1 E2:List Ent) (w:World) (B:Nat) (hB:B≤w.heap.size) (h1:OptsAt w B A1 E1) (h2:OptsAt w B A2 E2) (hn1:n1=E1.length) (hn2:n2=E2.length) (hl:n1≤1000000):
  Calls Tryz.prog 64 #[.slice A1 n1 k1,.slice A2 n2 k2] w fun x w'=>x=.returned (.bool (sameB (E1.map Ent.o) (E2.map Ent.o)))∧Below w.heap.size w w':=by
 subst hn1
 subst hn2
 have HE1:=hid h1
 have HE2:=hid h2
 have HB:=hid hB
 clear h1 h2 hB
 by_cases hlen:E1.length=E2.length
 ·have e6:((E1.length:Int) !=(E2.length:Int))=false:=by simp;omega
  have HL:=hid hlen
  have hl2:E2.length≤1000000:=by omega
  clear hlen
  go_enter Tryz.func64,Tryz.ntmps64
  go_wp2
  go_loopw [5] (fun i wr=> ∃k:Nat,k≤E1.length∧i=.int .i64 k∧(E1.map Ent.o).take k=(E2.map Ent.o).take k∧Below w.heap.size w wr) (fun i _=>E1.length-(intOf i).toNat)
  case atStart=>exact⟨0,Nat.zero_le _,rfl,rfl,Below.refl _ _⟩
  case round=>
   obtain⟨k,hk,rfl,ht,hb⟩:=hrel
   have HT:=hid ht
   have HBW:=hid hb
   have hsz:=hb.size
   clear ht hb
   by_cases hlt:k<E1.length
   ·have hlt2:k<E2.length:=by have:=HL.out;omega
    have HK:=hid (show k<(E1.map Ent.o).length∧k<(E2.map Ent.o).length by simp;exact⟨hlt,hlt2⟩)
    obtain⟨b1,o1,rfl,hb1,hx1,hy1⟩:=(HE1.out.keep (HBW.out.mono HB.out)).get hlt
    obtain⟨hd1,-⟩:=(HE1.out.keep (HBW.out.mono HB.out)).2 E1[k] (List.getElem_mem hlt)
    have HM1:=hid (map_o E1 k hlt)
    obtain⟨⟨t1,d1,a1,c1⟩,he1⟩: ∃e,E1[k]=e:=⟨_,rfl⟩
    rw[he1] at hx1 hy1 hd1 HM1
    simp only[Ent.v] at hy1 hd1 HM1
    dsimp only at hx1
    have HD1:=hid hd1
    clear he1 hd1
    obtain⟨b2,o2,rfl,hb2,hx2,hy2⟩:=(HE2.out.keep (HBW.out.mono HB.out)).get hlt2
    obtain⟨hd2,-⟩:=(HE2.out.keep (HBW.out.mono HB.out)).2 E2[k] (List.getElem_mem hlt2)
    have HM2:=hid (map_o E2 k hlt2)
    obtain⟨⟨t2,d2,a2,c2⟩,he2⟩: ∃e,E2[k]=e:=⟨_,rfl⟩
    rw[he2] at hx2 hy2 hd2 HM2
    simp only[Ent.v] at hy2 hd2 HM2
    dsimp only at hx2
    have HD2:=hid hd2
    clear he2 hd2
    have z1:b1<wr.heap.size:=by have:=HB.out;omega
    have z2:b2<wr.heap.size:=by have:=HB.out;omega
    have j1:(k:Int)<(E1.length:Int):=by omega
    have j2:(k:Int)<(E2.length:Int):=by omega
    have j0:(0:Int)≤(k:Int):=by omega
    clear hb1 hb2
    cases ho:oneB (t1,d1) (t2,d2)
    all_goals
     go_wp2_with fail
     go_region_held3 (fun w'=>w'.cell? ⟨b1,o1+k*2,none⟩=some (.int .i64 t1)∧w'.cell? ⟨b1,o1+k*2+1,none⟩=some (.slice a1 d1.length c1)∧w'.cell? ⟨b2,o2+k*2,none⟩=some (.int .i64 t2)∧w'.cell? ⟨b2,o2+k*2+1,none⟩=some (.slice a2 d2.length c2)) (first|(go_keep;done)|(go_simp;done)|(simp[go_sem];done)) ((go_at_call 102;go_loud (refine(one_ref t1 t2 a1 a2 d1.length d2.length c1 c2 d1 d2 _ B (by have:=HB.out;first|(simp;omega)|omega) (by have:=HB.out;exact HD1.out.keep (by exact bel)) (by have:=HB.out;exact HD2.out.keep (by exact bel)) rfl rfl).mono ?_);rw[ho];rintro e w1 ⟨rfl,hb⟩;obtain⟨xs,d,rfl⟩:=ext_of hb;clear hb))
    ·have HR:=hid (show sameB (E1.map Ent.o) (E2.map Ent.o)=false from same_not HK.out.1 HK.out.2 (by rw[HM1.out,HM2.out];exact ho))
     go_wp2
     go_ret
     exact⟨by rw[HR.out];rfl,by have:=HBW.out;exact bel⟩
    ·go_wp2
     go_roundw
     case rel=>exact⟨k+1,by omega,by go_num,take_same HT.out HK.out.1 HK.out.2 (by rw[HM1.out,HM2.out];exact ho),by have:=HBW.out;exact bel⟩
     case measure=>simp[intOf];omega
   ·have HR:=hid (show sameB (E1.map Ent.o) (E2.map Ent.o)=true by
     have:=HT.out
     rw[List.take_of_length_le (by simp;omega),List.take_of_length_le (by simp;have:=HL.out;omega)] at this
     unfold sameB;rw[this];simp)
    go_wp2
    go_ret
    exact⟨by rw[HR.out];rfl,HBW.out⟩
 ·have e6:((E1.length:Int) !=(E2.length:Int))=true:=by simp;omega
  have HR:=hid (show sameB (E1.map Ent.o) (E2.map Ent.o)=false by
   unfold sameB
   apply decide_eq_false
   intro e
   have:=congrArg List.length e
   simp only[List.length_map] at this
   omega)
  clear hlen
  go_enter Tryz.func64,Tryz.ntmps64
  go_wp2
  go_ret
  exact⟨by rw[HR.out];rfl,Below.refl _ _⟩
end Go.Proofs.YtfkgmbknfnhjoaaGreat.Op
namespace Go.Proofs.YtfkgmbknfnhjoaaGreat.Op
open Lib (hid)
open Go.RowKit
set_option linter.unusedSimpArgs false
set_option linter.unusedVariables false
set_option maxRecDepth 100000 in
theorem eqf_any (A1 A2:Option Addr) (n1 n2 k1 k2:Nat) (E1 E2:List Ent) (w:World) (B:Nat) (hB:B≤w.heap.size) (h1:OptsAt w B A1 E1) (h2:OptsAt w B A2 E2) (hn1:n1=E1.length) (hn2:n2=E2.length) (hl:n1≤1000000):
  Calls Tryz.prog 148 #[.slice A1 n1 k1,.slice A2 n2 k2,.func (.func 149) #[] #[]] w fun x w'=>x=.returned (.bool (sameB (E1.map Ent.o) (E2.map Ent.o)))∧Below w.heap.size w w':=by
 subst hn1
 subst hn2
 have HE1:=hid h1
 have HE2:=hid h2
 have HB:=hid hB
 clear h1 h2 hB
 by_cases hlen:E1.length=E2.length
 ·have e6:((E1.length:Int) !=(E2.length:Int))=false:=by simp;omega
  have HL:=hid hlen
  have hl2:E2.length≤1000000:=by omega
  clear hlen
  go_enter Tryz.func148,Tryz.ntmps148
  go_wp2
  go_loopw [17] (fun i wr=> ∃k:Nat,k≤E1.length∧i=.int .i64 k∧(E1.map Ent.o).take k=(E2.map Ent.o).take k∧Below w.heap.size w wr) (fun i _=>E1.length-(intOf i).toNat)
  case atStart=>exact⟨0,Nat.zero_le _,rfl,rfl,Below.refl _ _⟩
  case round=>
   obtain⟨k,hk,rfl,ht,hb⟩:=hrel
   have HT:=hid ht
   have HBW:=hid hb
   have hsz:=hb.size
   clear ht hb
   by_cases hlt:k<E1.length
   ·have hlt2:k<E2.length:=by have:=HL.out;omega
    have HK:=hid (show k<(E1.map Ent.o).length∧k<(E2.map Ent.o).length by simp;exact⟨hlt,hlt2⟩)
    obtain⟨b1,o1,rfl,hb1,hx1,hy1⟩:=(HE1.out.keep (HBW.out.mono HB.out)).get hlt
    obtain⟨hd1,-⟩:=(HE1.out.keep (HBW.out.mono HB.out)).2 E1[k] (List.getElem_mem hlt)
    have HM1:=hid (map_o E1 k hlt)
    obtain⟨⟨t1,d1,a1,c1⟩,he1⟩: ∃e,E1[k]=e:=⟨_,rfl⟩
    rw[he1] at hx1 hy1 hd1 HM1
    simp only[Ent.v] at hy1 hd1 HM1
    dsimp only at hx1
    have HD1:=hid hd1
    clear he1 hd1
    obtain⟨b2,o2,rfl,hb2,hx2,hy2⟩:=(HE2.out.keep (HBW.out.mono HB.out)).get hlt2
    obtain⟨hd2,-⟩:=(HE2.out.keep (HBW.out.mono HB.out)).2 E2[k] (List.getElem_mem hlt2)
    have HM2:=hid (map_o E2 k hlt2)
    obtain⟨⟨t2,d2,a2,c2⟩,he2⟩: ∃e,E2[k]=e:=⟨_,rfl⟩
    rw[he2] at hx2 hy2 hd2 HM2
    simp only[Ent.v] at hy2 hd2 HM2
    dsimp only at hx2
    have HD2:=hid hd2
    clear he2 hd2
    have z1:b1<wr.heap.size:=by have:=HB.out;omega
    have z2:b2<wr.heap.size:=by have:=HB.out;omega
    have j1:(k:Int)<(E1.length:Int):=by omega
    have j2:(k:Int)<(E2.length:Int):=by omega
    have j0:(0:Int)≤(k:Int):=by omega
    clear hb1 hb2
    cases ho:oneB (t1,d1) (t2,d2)
    all_goals
     go_wp2_with (go_at_call 149;go_loud (refine(one_any t1 t2 a1 a2 d1.length d2.length c1 c2 d1 d2 _ B (by have:=HB.out;first|(simp;omega)|omega) (by have:=HB.out;exact HD1.out.keep (by exact bel)) (by have:=HB.out;exact HD2.out.keep (by exact bel)) rfl rfl).mono ?_);rw[ho];rintro e w1 ⟨rfl,hb⟩;obtain⟨xs,d,rfl⟩:=ext_of hb;clear hb)
    ·have HR:=hid (show sameB (E1.map Ent.o) (E2.map Ent.o)=false from same_not HK.out.1 HK.out.2 (by rw[HM1.out,HM2.out];exact ho))
     go_ret
     exact⟨by rw[HR.out];rfl,by have:=HBW.out;exact bel⟩
    ·go_roundw
     case rel=>exact⟨k+1,by omega,by go_num,take_same HT.out HK.out.1 HK.out.2 (by rw[HM1.out,HM2.out];exact ho),by have:=HBW.out;exact bel⟩
     case measure=>simp[intOf];omega
   ·have HR:=hid (show sameB (E1.map Ent.o) (E2.map Ent.o)=true by
     have:=HT.out
     rw[List.take_of_length_le (by simp;omega),List.take_of_length_le (by simp;have:=HL.out;omega)] at this
     unfold sameB;rw[this];simp)
    go_wp2
    go_ret
    exact⟨by rw[HR.out];rfl,HBW.out⟩
 ·have e6:((E1.length:Int) !=(E2.length:Int))=true:=by simp;omega
  have HR:=hid (show sameB (E1.map Ent.o) (E2.map Ent.o)=false by
   unfold sameB
   apply decide_eq_false
   intro e
   have:=congrArg List.length e
   simp only[List.length_map] at this
   omega)
  clear hlen
  go_enter Tryz.func148,Tryz.ntmps148
  go_wp2
  go_ret
  exact⟨by rw[HR.out];rfl,Below.refl _ _⟩
theorem same_any (A1 A2:Option Addr) (n1 n2 k1 k2:Nat) (E1 E2:List Ent) (w:World) (B:Nat) (hB:B≤w.heap.size) (h1:OptsAt w B A1 E1) (h2:OptsAt w B A2 E2) (hn1:n1=E1.length) (hn2:n2=E2.length) (hl:n1≤1000000):
  Calls Tryz.prog 105 #[.slice A1 n1 k1,.slice A2 n2 k2] w fun x w'=>x=.returned (.bool (sameB (E1.map Ent.o) (E2.map Ent.o)))∧Below w.heap.size w w':=by
 have HH:=hid (And.intro hB (And.intro h1 (And.intro h2 (And.intro hn1 (And.intro hn2 hl)))))
 clear hB h1 h2 hn1 hn2 hl
 go_enter Tryz.func105,Tryz.ntmps105
 go_wp2_with (go_at_call 148;go_loud (refine(eqf_any A1 A2 n1 n2 k1 k2 E1 E2 _ B HH.out.1 HH.out.2.1 HH.out.2.2.1 HH.out.2.2.2.1 HH.out.2.2.2.2.1 HH.out.2.2.2.2.2).mono ?_);rintro e w1 ⟨rfl,hb⟩;obtain⟨xs,d,rfl⟩:=ext_of hb;clear hb)
 go_ret
 exact⟨rfl,by exact bel⟩
end Go.Proofs.YtfkgmbknfnhjoaaGreat.Op
namespace Go.Proofs.YtfkgmbknfnhjoaaGreat.Op
open Lib (hid)
open Go.RowKit
set_option linter.unusedSimpArgs false
set_option linter.unusedVariables false
theorem is_ref (t:Int) (A:Option Addr) (n c:Nat) (d:List UInt8) (w:World) (hn:n=d.length):Calls Tryz.prog 58 #[.agg #[.int .i64 t,.slice A n c]] w fun x w'=>x=.returned (.bool (okO (t,d)))∧Below w.heap.size w w':=by
 by_cases h1:0≤t
 ·by_cases h2:t≤255
  ·by_cases h3:n≤253
   ·have HR:=hid (show okO (t,d)=true by unfold okO inB;simp;omega)
    have k3:decide ((n:Int)≤253)=true:=by simp;omega
    clear hn
    go_enter Tryz.func58,Tryz.ntmps58
    go_wp2
    go_ret
    exact⟨by rw[HR.out];rfl,by exact bel⟩
   ·have HR:=hid (show okO (t,d)=false by unfold okO inB;simp;omega)
    have k3:decide ((n:Int)≤253)=false:=by simp;omega
    have k4:decide (n≤253)=false:=by simp;omega
    clear hn h3
    go_enter Tryz.func58,Tryz.ntmps58
    go_wp2
    go_ret
    exact⟨by rw[HR.out];rfl,by exact bel⟩
  ·have HR:=hid (show okO (t,d)=false by unfold okO inB;simp;omega)
   have k3:decide (t≤255)=false:=by simp;omega
   clear hn h2
   go_enter Tryz.func58,Tryz.ntmps58
   go_wp2
   go_ret
   exact⟨by rw[HR.out];rfl,by exact bel⟩
 ·have HR:=hid (show okO (t,d)=false by unfold okO inB;simp;omega)
  have k3:decide (0≤t)=false:=by simp;omega
  clear hn h1
  go_enter Tryz.func58,Tryz.ntmps58
  go_wp2
  go_ret
  exact⟨by rw[HR.out];rfl,by exact bel⟩
theorem _root_.Go.Proofs.YtfkgmbknfnhjoaaGreat.At.two {w wr w1:World} {B:Nat} {A:Option Addr} {xs:List Value} (h:At wr B A xs) (h1:Below w.heap.size w wr) (h2:Below w.heap.size w w1) (hB:B≤w.heap.size):At w1 B A xs:=by
 rcases h with h|⟨b,o,e,hb,hc⟩
 ·exact .inl h
 ·exact .inr ⟨b,o,e,hb,fun j u hu=>(h2.cell (p:=⟨b,o+j,none⟩) (by simp;omega)).trans ((h1.cell (p:=⟨b,o+j,none⟩) (by simp;omega)).symm.trans (hc j u hu))⟩
set_option maxRecDepth 100000 in
theorem renc_in (A:Option Addr) (c:Nat) (E:List Ent) (w:World) (B:Nat) (hB:B≤w.heap.size) (hE:OptsAt w B A E) (hl:E.length≤64):
  Calls Tryz.prog 18 #[.slice A E.length c] w (EncP w (E.map Ent.o)):=by
 have HE:=hid hE
 have HB:=hid hB
 clear hE hB
 go_enter Tryz.func18,Tryz.ntmps18
 go_wp2
 go_loopw [4] (fun i wr=> ∃(k:Nat),k≤E.length∧i=.int .i64 k∧((E.map Ent.o).take k).all okO=true∧Below w.heap.size w wr) (fun i _=>E.length-(intOf i).toNat)
 case atStart=>exact⟨0,Nat.zero_le _,rfl,rfl,Below.refl _ _⟩
 case round=>
  obtain⟨k,hk,rfl,hall,hb⟩:=hrel
  have HALL:=hid hall
  have HBW:=hid hb
  have hsz:=hb.size
  clear hall hb
  by_cases hlt:k<E.length
  ·obtain⟨b,o,rfl,hbB,hx,hy⟩:=(HE.out.keep (HBW.out.mono HB.out)).get hlt
   obtain⟨hd,hdc⟩:=(HE.out.keep (HBW.out.mono HB.out)).2 E[k] (List.getElem_mem hlt)
   have HM:=hid (map_o E k hlt)
   have HK:=hid (show k<(E.map Ent.o).length by simpa using hlt)
   obtain⟨⟨t,d,a,c2⟩,he⟩: ∃e,E[k]=e:=⟨_,rfl⟩
   rw[he] at hx hy hd hdc HM
   simp only[Ent.v] at hy hd hdc HM
   dsimp only at hx
   have HD:=hid hd
   have HDC:=hid hdc
   clear he hd hdc
   cases ho:okO (t,d)
   ·have HX:=hid (show(E.map Ent.o).all okO=false from all_not HK.out (by rw[HM.out];exact ho))
    have HR:=hid (show encR (E.map Ent.o)=([],80) by unfold encR;rw[if_neg (by rw[List.length_map];omega),if_neg (by rw[HX.out];simp)])
    go_wp2_with (go_at_call 58;refine(is_ref t a d.length c2 d _ rfl).mono ?_;rw[ho];rintro e w1 ⟨rfl,hb⟩;obtain⟨xs,dd,rfl⟩:=ext_of hb;clear hb)
    go_ret2
    exact⟨.slice none 0 0,by rw[HR.out];rfl,by have:=HBW.out;exact bel,by rw[HR.out];exact own_nil _ _ _ _⟩
   ·go_wp2_with (go_at_call 58;refine(is_ref t a d.length c2 d _ rfl).mono ?_;rw[ho];rintro e w1 ⟨rfl,hb⟩;obtain⟨xs,dd,rfl⟩:=ext_of hb;clear hb)
    go_roundw
    case rel=>exact⟨k+1,by omega,by go_num,all_take HK.out HALL.out (by rw[HM.out];exact ho),by have:=HBW.out;exact bel⟩
    case measure=>simp[intOf];omega
  ·obtain rfl:k=E.length:=by omega
   have HALL2:=hid (show(E.map Ent.o).all okO=true by have:=HALL.out;rwa [List.take_of_length_le (by simp)] at this)
   obtain⟨w0,hw0⟩: ∃w0,w0=wr:=⟨_,rfl⟩
   rw[←hw0] at HBW hsz ⊢
   clear hw0
   go_wp2
   go_loopw [6,5] (fun i v wr=> ∃(k n c:Nat) (A:Option Addr),k≤E.length∧i=.int .i64 k∧v=.slice A n c∧n≤c∧n≤255*k∧n=(encs ((E.map Ent.o).take k)).length∧Below w.heap.size w wr∧wr.ownsRow w.heap.size 5 1 (.slice A n c) n ((encs ((E.map Ent.o).take k)).map bv)) (fun i _ _=>E.length-(intOf i).toNat)
   case atStart=>exact⟨0,0,0,none,Nat.zero_le _,rfl,rfl,Nat.le_refl _,by omega,rfl,HBW.out,own_nil _ _ _ _⟩
   case round=>
    obtain⟨k,n,c',A',hk,rfl,rfl,hnc,hn5,hn,hb,ho⟩:=hrel
    have HN:=hid (And.intro hn hnc)
    have HBW:=hid hb
    have HO:=hid ho
    have hsz:=hb.size
    clear hn hnc hb ho
    by_cases hlt:k<E.length
    ·obtain⟨b,o,rfl,hbB,hx,hy⟩:=(HE.out.keep (HBW.out.mono HB.out)).get hlt
     obtain⟨hd,hdc⟩:=(HE.out.keep (HBW.out.mono HB.out)).2 E[k] (List.getElem_mem hlt)
     have HM:=hid (map_o E k hlt)
     have HK:=hid (show k<(E.map Ent.o).length by simpa using hlt)
     obtain⟨⟨t,d,a,c2⟩,he⟩: ∃e,E[k]=e:=⟨_,rfl⟩
     rw[he] at hx hy hd hdc HM
     simp only[Ent.v] at hy hd hdc HM
     dsimp only at hx
     have HD:=hid hd
     have HDC:=hid hdc
     clear he hd hdc
     have HOK:=hid (show okO (t,d)=true by have:=List.all_eq_true.1 HALL2.out _ (List.getElem_mem HK.out);rw[HM.out] at this;exact this)
     have hin:inB t 0 255=true:=by have:=HOK.out;unfold okO at this;simp at this;exact this.1
     have h253:d.length≤253:=by have:=HOK.out;unfold okO at this;simp at this;exact this.2
     obtain⟨x,hx1,hx2⟩:=byteOf hin
     have HX2:=hid hx2
     subst hx1
     obtain⟨y,hy1⟩: ∃y:UInt8,(d.length:Int)+2=(y.toNat:Int):=⟨UInt8.ofNat (d.length+2),by simp;omega⟩
     have HY:=hid hy1
     have z1:b<wr.heap.size:=by have:=HB.out;omega
     have x1:((x.toNat:Nat):Int)<256:=by have:=x.toNat_lt;omega
     have y1:((y.toNat:Nat):Int)<256:=by have:=y.toNat_lt;omega
     have i1:IntKind.i64.wrap ((d.length:Int)+2)=(d.length:Int)+2:=IntWalk.i64_in _ (by omega)
     have u1:IntKind.u8.wrap (x.toNat:Int)=(x.toNat:Int):=wrapU8 x
     have u2:IntKind.u8.wrap (y.toNat:Int)=(y.toNat:Int):=wrapU8 y
     have j1:IntKind.i64.wrap (y.toNat:Int)=(y.toNat:Int):=IntWalk.i64_in _ (by omega)
     have hn64:n≤255*64:=by omega
     have jj1:(k:Int)<(E.length:Int):=by omega
     have jj0:(0:Int)≤(k:Int):=by omega
     have hbw:b<w.heap.size:=by have:=HB.out;omega
     have HXY:=hid (And.intro hx hy)
     have HNEW:=hid (At.newN wr #[.int .u8 (x.toNat:Int),.int .u8 (y.toNat:Int)] 5 [bv x,bv y] wr.heap.size rfl rfl)
     have HDW:=hid (show At wr B a (d.map bv) from HD.out)
     clear hx2 hin hbB
     go_wp2_with fail
     go_region_held3 (fun w'=>w'.cell? ⟨b,o+k*2,none⟩=some (.int .i64 (x.toNat:Int))∧w'.cell? ⟨b,o+k*2+1,none⟩=some (.slice a d.length c2)) (first|(go_keep;done)|(go_simp;done)|(simp[go_sem];done)) ((refine step_appv w rfl (.tmp 28) (.tmp 43) 30 rfl 5 Tryz.underlying30 (.int .u8 0) 1 1 infoU8 rfl (by decide) (by decide) (.slice A' n c') n ((encs ((E.map Ent.o).take k)).map bv) rfl (by exact own_below HO.out (by exact bel)) (wr.heap.size+1) (some ⟨wr.heap.size,0,none⟩) 2 2 [bv x,bv y] rfl rfl (by omega) (by exact HNEW.out.keep (by exact bel)) (by intro u hu;simp at hu;rcases hu with rfl|rfl<;>rfl) (by have:=HBW.out;exact bel) ?_;intro A1 c1 w1 ho1 hc1 hb1 hg1;have q0:w1.cell? ⟨b,o+k*2,none⟩=some (.int .i64 (x.toNat:Int)):=(hb1.cell (p:=⟨b,_,none⟩) hbw).trans ((HBW.out.cell (p:=⟨b,_,none⟩) hbw).symm.trans HXY.out.1);have q1:w1.cell? ⟨b,o+k*2+1,none⟩=some (.slice a d.length c2):=(hb1.cell (p:=⟨b,_,none⟩) hbw).trans ((HBW.out.cell (p:=⟨b,_,none⟩) hbw).symm.trans HXY.out.2);have z2:b<w1.heap.size:=(by have:=hb1.size;omega);have HO1:=hid ho1;have HB1:=hid hb1;have HG1:=hid hg1;clear ho1 hc1 hb1 hg1))
     go_wp2_with (at_builtin;go_loud (refine wpList_appv w rfl (.tmp 45) (.tmp 50) 30 rfl 5 Tryz.underlying30 (.int .u8 0) 1 1 infoU8 rfl (by decide) (by decide) (.slice A1 (n+2) c1) (n+2) ((encs ((E.map Ent.o).take k)).map bv++[bv x,bv y]) rfl (by exact own_below HO1.out (by exact bel)) B a d.length c2 (d.map bv) rfl (by simp) (by omega) (by exact At.two HDW.out HBW.out HB1.out HB.out) (bv_all _) (by have:=HB1.out;exact bel) ?_);intro A3 c3 w3 ho3 hc3 hb3 hg3;have HO3:=hid ho3;have HB3:=hid hb3;have HC3:=hid hc3;clear ho3 hc3 hb3 hg3)
     go_roundw
     case rel=>exact⟨k+1,n+2+d.length,_,_,by omega,by go_num,rfl,HC3.out,by omega,by rw[encs_take HK.out,HM.out,List.length_append,←HN.out.1];simp[encO];omega,HB3.out,by
      rw[encs_take HK.out,HM.out,List.map_append]
      have e:(encO ((x.toNat:Int),d)).map bv=[bv x,bv y]++d.map bv:=by
       simp only[encO,List.map_cons]
       rw[show UInt8.ofNat (x.toNat:Int).toNat=x from HX2.out,show UInt8.ofNat (d.length+2)=y from by apply UInt8.toNat.inj;have:=HY.out;simp;omega]
       rfl
      rw[e,←List.append_assoc]
      exact HO3.out⟩
     case measure=>simp[intOf];omega
    ·obtain rfl:k=E.length:=by omega
     have HT:=hid (show(E.map Ent.o).take E.length=E.map Ent.o from List.take_of_length_le (by simp))
     have HL:=hid (show n=(encs (E.map Ent.o)).length by have:=HN.out;rw[HT.out] at this;exact this.1)
     have HEN:=hid (show encR (E.map Ent.o)=if 1488<n then([],2) else(encs (E.map Ent.o),0) by unfold encR;rw[if_neg (by rw[List.length_map];omega),if_pos HALL2.out,←HL.out])
     by_cases hbig:1488<n
     ·go_wp2
      go_ret2
      exact⟨.slice none 0 0,by rw[HEN.out,if_pos hbig];rfl,HBW.out,by rw[HEN.out,if_pos hbig];exact own_nil _ _ _ _⟩
     ·go_wp2
      go_ret2
      refine⟨.slice A' n c',by rw[HEN.out,if_neg hbig];rfl,HBW.out,?_⟩
      rw[HEN.out,if_neg hbig]
      have:=HO.out
      rw[HT.out] at this
      have e:=HL.out
      simp only
      rw[←e]
      exact this
end Go.Proofs.YtfkgmbknfnhjoaaGreat.Op
namespace Go.Proofs.YtfkgmbknfnhjoaaGreat.Op
open Lib (hid)
open Go.RowKit
set_option linter.unusedSimpArgs false
set_option linter.unusedVariables false
theorem renc_any (A:Option Addr) (n c:Nat) (E:List Ent) (w:World) (B:Nat) (hB:B≤w.heap.size) (hE:OptsAt w B A E) (hn:n=E.length):
  Calls Tryz.prog 18 #[.slice A n c] w (EncP w (E.map Ent.o)):=by
 subst hn
 by_cases hl:E.length≤64
 ·exact renc_in A c E w B hB hE hl
 ·have HR:=hid (show encR (E.map Ent.o)=([],3) by unfold encR;rw[if_pos (by rw[List.length_map];omega)])
  have h:64<E.length:=by omega
  clear hE hB hl
  go_enter Tryz.func18,Tryz.ntmps18
  go_wp2
  go_ret2
  exact⟨.slice none 0 0,by rw[HR.out];rfl,Below.refl _ _,by rw[HR.out];exact own_nil _ _ _ _⟩
theorem _root_.Go.Proofs.YtfkgmbknfnhjoaaGreat.At.sub {W:World} {B b o:Nat} {l:List UInt8} (q:Nat) (h:At W B (some ⟨b,o,none⟩) (l.map bv)):At W B (some ⟨b,o+q,none⟩) ((l.drop q).map bv):=by
 rcases h with h|⟨b',o',e,hb,hc⟩
 ·have:l=[]:=by simpa using h
  subst this;exact .inl (by simp)
 ·cases e
  refine .inr ⟨b,o+q,rfl,hb,fun j u hu=>?_⟩
  have:=hc (q+j) u (by simpa[List.getElem?_map,List.getElem?_drop] using hu)
  rwa [←Nat.add_assoc] at this
theorem drop_two {l:List UInt8} {p:Nat} (h:p+2≤l.length): ∃t m,l.drop p=t::m::l.drop (p+2):=by
 refine⟨l[p],l[p+1],?_⟩
 rw[List.drop_eq_getElem_cons (show p<l.length by omega),List.drop_eq_getElem_cons (show p+1<l.length by omega)]
theorem drop_one {l:List UInt8} {p:Nat} (h:p+1=l.length): ∃t,l.drop p=[t]:=by
 refine⟨l[p],?_⟩
 rw[List.drop_eq_getElem_cons (show p<l.length by omega),List.drop_eq_nil_of_le (by omega)]
theorem _root_.Go.Proofs.YtfkgmbknfnhjoaaGreat.OwnOpts.pushed {W W2:World} {base:Nat} {v v3:Value} {E:List Ent} {tt:Int} {A2:Option Addr} {dd:List UInt8} {c2:Nat} (h:OwnOpts W base v E)
  (h2:W.ownsRow base 5 1 (.slice A2 dd.length c2) dd.length (dd.map bv)) (h3:W2.ownsRow base 111 2 v3 (E.length+1) (cellsE E++[.int .i64 tt,.slice A2 dd.length c2]))
  (hg:W.grownBy W2 v.ownBlock):OwnOpts W2 base v3 (E++[⟨tt,dd,A2,c2⟩]):=by
 have hr: ∀r,v.ownBlock=some r→r<base∨(∃o:Obj,W.heap[r]? =some o∧o.isCells=false)∨(∃cur e',W.heap[r]? =some (.cells cur e' (0,0))∧e'≠5):=fun r e=>by
  obtain⟨cur,hc⟩:=own_type h.1 e
  exact .inr (.inr ⟨cur,111,hc,by decide⟩)
 refine⟨by rw[cellsE_snoc];simpa[Ent.v] using h3,fun e he=>?_⟩
 rcases List.mem_append.1 he with he|he
 ·exact own_stays (h.2 e he) hg hr
 ·simp only[List.mem_singleton] at he
  subst he
  exact own_stays h2 hg hr
theorem meas_lt {N p:Nat} {y:Int} (h:(p:Int)<y) (h2:p<N):N-(intOf (.int .i64 y)).toNat<N-(intOf (.int .i64 (p:Int))).toNat:=by
 simp only[intOf];omega
set_option maxRecDepth 100000 in
theorem rdec_in (A:Option Addr) (N c:Nat) (l:List UInt8) (w:World) (B:Nat) (hB:B≤w.heap.size) (hA:At w B A (l.map bv)) (hn:N=l.length) (hc:N≤c) (hl:N≤1488):
  Calls Tryz.prog 99 #[.slice A N c] w (DecP w l):=by
 have HR:=hid (show decR l=decW l.length l [] by unfold decR;rw[if_neg (by omega)])
 have HA:=hid hA
 have HB:=hid hB
 have HN:=hid hn
 clear hA hB hn
 go_enter Tryz.func99,Tryz.ntmps99
 go_wp2
 go_loopw [5,4] (fun i v wr=> ∃(p f n c':Nat) (A':Option Addr) (E:List Ent),p≤N∧i=.int .i64 p∧v=.slice A' n c'∧n=E.length∧n≤64∧(l.drop p).length≤f∧decW l.length l []=decW f (l.drop p) (E.map Ent.o)∧Below w.heap.size w wr∧OwnOpts wr w.heap.size (.slice A' n c') E) (fun i _ _=>N-(intOf i).toNat)
 case atStart=>exact⟨0,l.length,0,0,none,[],Nat.zero_le _,rfl,rfl,rfl,by decide,by simp,by simp,Below.refl _ _,OwnOpts.nil _ _⟩
 case round=>
  obtain⟨p,f,n,c',A',E,hp,rfl,rfl,rfl,h64,hf,hd,hb,ho⟩:=hrel
  have HF:=hid (And.intro hf hd)
  have HBW:=hid hb
  have HO:=hid ho
  have hsz:=hb.size
  clear hf hd hb ho
  by_cases hlt:p<N
  ·by_cases h1:N-p<2
   ·obtain⟨t,ht⟩:=drop_one (l:=l) (p:=p) (by have:=HN.out;omega)
    have HD:=hid (decW_none (acc:=E.map Ent.o) HF.out.1 (by rw[ht];simp) (by rw[ht];rfl))
    clear ht
    have h1':decide ((N:Int)-(p:Int)<2)=true:=by simp;omega
    go_wp2
    go_ret2
    exact⟨[],.slice none 0 0,by rw[HR.out,HF.out.2,HD.out];rfl,HBW.out,OwnOpts.nil _ _,by rw[HR.out,HF.out.2,HD.out];rfl⟩
   ·obtain⟨t,m,hdr⟩:=drop_two (l:=l) (p:=p) (by have:=HN.out;omega)
    obtain⟨b,o,rfl,hbB,hcs⟩:=(HA.out.keep (HBW.out.mono HB.out)).get (by simp;have:=HN.out;omega)
    have g0:l[p]? =some t:=by have:=congrArg (fun q=>q[0]?) hdr;simpa[List.getElem?_drop] using this
    have g1:l[p+1]? =some m:=by have:=congrArg (fun q=>q[1]?) hdr;simpa[List.getElem?_drop] using this
    have c0:wr.cell? ⟨b,o+p,none⟩=some (.int .u8 (t.toNat:Int)):=by have:=hcs p (bv t) (by rw[List.getElem?_map,g0];rfl);simpa[bv] using this
    have c1:wr.cell? ⟨b,o+(p+1),none⟩=some (.int .u8 (m.toNat:Int)):=by have:=hcs (p+1) (bv m) (by rw[List.getElem?_map,g1];rfl);simpa[bv] using this
    obtain⟨x,hx⟩: ∃x:Nat,m.toNat=x:=⟨_,rfl⟩
    rw[hx] at c1
    have HX:=hid hx
    have HDR:=hid hdr
    have x256:(x:Int)<256:=by have:=m.toNat_lt;omega
    have hrl:(l.drop (p+2)).length=N-p-2:=by rw[List.length_drop];have:=HN.out;omega
    have HRL:=hid hrl
    have h1':decide ((N:Int)-(p:Int)<2)=false:=by simp;omega
    have z1:b<wr.heap.size:=by have:=HB.out;omega
    clear hcs g0 g1 hx hdr hrl
    by_cases hx2:x<2
    ·have HD:=hid (decW_none (acc:=E.map Ent.o) HF.out.1 (by rw[HDR.out];simp) (by rw[HDR.out,cutOne_cons,HX.out,if_neg (by omega)]))
     go_wp2
     go_ret2
     exact⟨[],.slice none 0 0,by rw[HR.out,HF.out.2,HD.out];rfl,HBW.out,OwnOpts.nil _ _,by rw[HR.out,HF.out.2,HD.out];rfl⟩
    ·by_cases hx3:N-p<x
     ·have HD:=hid (decW_none (acc:=E.map Ent.o) HF.out.1 (by rw[HDR.out];simp) (by rw[HDR.out,cutOne_cons,HX.out,if_neg (by have:=HRL.out;omega)]))
      have h2':decide ((N:Int)-(p:Int)<(x:Int))=true:=by simp;omega
      go_wp2
      go_ret2
      exact⟨[],.slice none 0 0,by rw[HR.out,HF.out.2,HD.out];rfl,HBW.out,OwnOpts.nil _ _,by rw[HR.out,HF.out.2,HD.out];rfl⟩
     ·have h2':decide ((N:Int)-(p:Int)<(x:Int))=false:=by simp;omega
      have HCUT:=hid (show cutOne (l.drop p)=some (((t.toNat:Int),(l.drop (p+2)).take (x-2)),l.drop (p+x)) by
       rw[HDR.out,cutOne_cons,HX.out,if_pos (by have:=HRL.out;omega),List.drop_drop]
       congr 3
       omega)
      by_cases h6:E.length=64
      ·have HD:=hid (decW_many (acc:=E.map Ent.o) HF.out.1 HCUT.out (by rw[List.length_map];exact h6))
       have e6:((E.length:Int)==64)=true:=by simp;omega
       clear h6
       go_wp2
       go_ret2
       exact⟨[],.slice none 0 0,by rw[HR.out,HF.out.2,HD.out];rfl,HBW.out,OwnOpts.nil _ _,by rw[HR.out,HF.out.2,HD.out];rfl⟩
      ·have e6:((E.length:Int)==64)=false:=by simp;omega
       have H6:=hid h6
       clear h6
       have t256:((t.toNat:Nat):Int)<256:=by have:=t.toNat_lt;omega
       have i1:IntKind.i64.wrap (t.toNat:Int)=(t.toNat:Int):=IntWalk.i64_in _ (by omega)
       have i2:IntKind.i64.wrap ((p:Int)+2)=(p:Int)+2:=IntWalk.i64_in _ (by omega)
       have i3:IntKind.i64.wrap ((p:Int)+(x:Int))=(p:Int)+(x:Int):=IntWalk.i64_in _ (by omega)
       have n2:((p:Int)+2).toNat=p+2:=by omega
       have n3:((p:Int)+(x:Int)).toNat=p+x:=by omega
       have a2:(0:Int)≤(p:Int)+2:=by omega
       have a3:(p:Int)+2≤(p:Int)+(x:Int):=by omega
       have a4:(p:Int)+(x:Int)≤(c:Int):=by omega
       have a5:p+2≤p+x:=by omega
       have a6:p+x≤c:=by omega
       have n4:p+x-(p+2)=x-2:=by omega
       have zw:b<w.heap.size:=by have:=HB.out;omega
       have a7:(p:Int)<(N:Int):=by omega
       have HSUB:=hid ((HA.out.keep (HBW.out.mono HB.out)).sub (p+2))
       have HSUB:=hid (HSUB.out.take (x-2))
       rw[←List.map_take] at HSUB
       by_cases hcc:c=p+2
       ·have hx0:x=2:=by omega
        subst hx0
        subst hcc
        have HC0:=hid (show cutOne (l.drop p)=some (((t.toNat:Int),[]),l.drop (p+2)) by rw[HCUT.out];rfl)
        go_wp2_with fail
        go_region_held3 (fun w'=>w'.cell? ⟨b,o+p,none⟩=some (.int .u8 (t.toNat:Int))) (first|(go_keep;done)|(go_simp;done)|(simp[go_sem];done)) (first|((refine step_appv wr rfl (.tmp 44) (.tmp 51) 30 rfl 5 Tryz.underlying30 (.int .u8 0) 1 1 infoU8 rfl (by decide) (by decide) (.slice (some ⟨wr.heap.size,0,none⟩) 0 0) 0 [] rfl (by exact own_empty wr wr.heap.size 5 1 (Nat.le_refl _)) B _ 0 _ [] rfl rfl (by omega) (At.nil _ _ _) (by intro u hu;cases hu) (by exact bel) ?_);intro A1 c1 w1 ho1 hc1 hb1 hg1;clear hg1;have q0:w1.cell? ⟨b,o+p,none⟩=some (.int .u8 (t.toNat:Int)):=(hb1.cell (p:=⟨b,_,none⟩) z1).trans c0;have HO1:=hid ho1;simp only[Nat.zero_add,List.nil_append] at ho1;have HO1:=hid ho1;have HB1:=hid hb1;have HNEW:=hid (At.newN w1 #[.int .i64 (t.toNat:Int),.slice A1 0 c1] 111 [.int .i64 (t.toNat:Int),.slice A1 0 c1] w1.heap.size rfl rfl);have HOB:=hid (HO.out.below hb1);have HBW1:=hid (HBW.out.trans (hb1.mono hsz));clear ho1 hc1 hb1)|((refine step_appv w rfl (.tmp 38) (.tmp 54) 25 rfl 111 Tryz.underlying25 (.agg #[.int .i64 0,.slice none 0 0]) 2 32 infoOpt rfl (by decide) (by decide) (.slice A' E.length c') E.length (cellsE E) rfl (by exact own_below HOB.out.1 (by exact bel)) (w1.heap.size+1) (some ⟨w1.heap.size,0,none⟩) 1 1 [.int .i64 (t.toNat:Int),.slice A1 0 c1] rfl rfl (by omega) (by exact HNEW.out) (by intro u hu;simp at hu;rcases hu with rfl|rfl<;>rfl) (by have:=HBW1.out;have:=this.size;exact bel) ?_);intro A3 c3 w3 ho3 hc3 hb3 hg3;have q3:w3.cell? ⟨b,o+p,none⟩=some (.int .u8 (t.toNat:Int)):=(hb3.cell (p:=⟨b,_,none⟩) zw).trans ((HBW.out.cell (p:=⟨b,_,none⟩) zw).symm.trans c0);have HO3:=hid ho3;have HB3:=hid hb3;have HC3:=hid hc3;have HG3:=hid hg3;clear ho3 hc3 hb3 hg3))
        have HOE:=hid (OwnOpts.pushed (tt:=(t.toNat:Int)) (dd:=[]) (A2:=A1) (c2:=c1) (HOB.out.below (Below.alloc (Below.refl _ w1) (Nat.le_refl _) _)) (by have h:=own_base HO1.out hsz;exact own_below h (Below.alloc (Below.refl _ w1) (Nat.le_refl _) _)) (by exact HO3.out) HG3.out)
        obtain⟨f',hf',hd'⟩:=decW_step (acc:=E.map Ent.o) HF.out.1 HC0.out (by rw[List.length_map];exact H6.out)
        have HF':=hid (And.intro hf' (HF.out.2.trans hd'))
        clear hf' hd'
        go_wp2_with fail
        go_roundw
        case rel=>exact⟨p+2,f',E.length+1,c3,A3,_,by omega,by go_num,rfl,by simp,by have:=H6.out;omega,HF'.out.1,by rw[HF'.out.2,ent_map];rfl,HB3.out,HOE.out⟩
        case measure=>exact meas_lt (by omega) (by omega)
       ·have c5:decide (c=p+2)=false:=by simpa using hcc
        go_wp2_with fail
        go_region_held3 (fun w'=>w'.cell? ⟨b,o+p,none⟩=some (.int .u8 (t.toNat:Int))) (first|(go_keep;done)|(go_simp;done)|(simp[go_sem];done)) (first|((refine step_appv wr rfl (.tmp 44) (.tmp 51) 30 rfl 5 Tryz.underlying30 (.int .u8 0) 1 1 infoU8 rfl (by decide) (by decide) (.slice (some ⟨wr.heap.size,0,none⟩) 0 0) 0 [] rfl (by exact own_empty wr wr.heap.size 5 1 (Nat.le_refl _)) B _ (x-2) _ (((l.drop (p+2)).take (x-2)).map bv) rfl (by have:=HRL.out;have:=HN.out;simp;omega) (by omega) (by exact HSUB.out.keep (by have:=HBW.out;have:=HB.out;exact bel)) (bv_all _) (by exact bel) ?_);intro A1 c1 w1 ho1 hc1 hb1 hg1;clear hg1;have q0:w1.cell? ⟨b,o+p,none⟩=some (.int .u8 (t.toNat:Int)):=(hb1.cell (p:=⟨b,_,none⟩) z1).trans c0;have HO1:=hid ho1;simp only[Nat.zero_add,List.nil_append] at ho1;have HO1:=hid ho1;have HB1:=hid hb1;have HNEW:=hid (At.newN w1 #[.int .i64 (t.toNat:Int),.slice A1 (x-2) c1] 111 [.int .i64 (t.toNat:Int),.slice A1 (x-2) c1] w1.heap.size rfl rfl);have HOB:=hid (HO.out.below hb1);have HBW1:=hid (HBW.out.trans (hb1.mono hsz));clear ho1 hc1 hb1)|((refine step_appv w rfl (.tmp 38) (.tmp 54) 25 rfl 111 Tryz.underlying25 (.agg #[.int .i64 0,.slice none 0 0]) 2 32 infoOpt rfl (by decide) (by decide) (.slice A' E.length c') E.length (cellsE E) rfl (by exact own_below HOB.out.1 (by exact bel)) (w1.heap.size+1) (some ⟨w1.heap.size,0,none⟩) 1 1 [.int .i64 (t.toNat:Int),.slice A1 (x-2) c1] rfl rfl (by omega) (by exact HNEW.out) (by intro u hu;simp at hu;rcases hu with rfl|rfl<;>rfl) (by have:=HBW1.out;have:=this.size;exact bel) ?_);intro A3 c3 w3 ho3 hc3 hb3 hg3;have q3:w3.cell? ⟨b,o+p,none⟩=some (.int .u8 (t.toNat:Int)):=(hb3.cell (p:=⟨b,_,none⟩) zw).trans ((HBW.out.cell (p:=⟨b,_,none⟩) zw).symm.trans c0);have HO3:=hid ho3;have HB3:=hid hb3;have HC3:=hid hc3;have HG3:=hid hg3;clear ho3 hc3 hb3 hg3))
        have HOE:=hid (OwnOpts.pushed (tt:=(t.toNat:Int)) (dd:=(l.drop (p+2)).take (x-2)) (A2:=A1) (c2:=c1) (HOB.out.below (Below.alloc (Below.refl _ w1) (Nat.le_refl _) _)) (by have h:=own_base HO1.out hsz;rw[show((l.drop (p+2)).take (x-2)).length=x-2 by have:=HRL.out;have:=HN.out;simp;omega];exact own_below h (Below.alloc (Below.refl _ w1) (Nat.le_refl _) _)) (by rw[show((l.drop (p+2)).take (x-2)).length=x-2 by have:=HRL.out;have:=HN.out;simp;omega];exact HO3.out) HG3.out)
        obtain⟨f',hf',hd'⟩:=decW_step (acc:=E.map Ent.o) HF.out.1 HCUT.out (by rw[List.length_map];exact H6.out)
        have HF':=hid (And.intro hf' (HF.out.2.trans hd'))
        clear hf' hd'
        go_wp2_with fail
        go_roundw
        case rel=>exact⟨p+x,f',E.length+1,c3,A3,_,by omega,by go_num,rfl,by simp,by have:=H6.out;omega,HF'.out.1,by rw[HF'.out.2,ent_map];rfl,HB3.out,HOE.out⟩
        case measure=>exact meas_lt (by omega) (by omega)
  ·obtain rfl:p=N:=by omega
   have HE0:=hid (show decW l.length l []=(E.map Ent.o,0) by rw[HF.out.2,List.drop_eq_nil_of_le (by have:=HN.out;omega),decW_nil])
   go_wp2
   go_ret2
   exact⟨E,_,by rw[HR.out,HE0.out];rfl,HBW.out,HO.out,by rw[HR.out,HE0.out]⟩
end Go.Proofs.YtfkgmbknfnhjoaaGreat.Op
namespace Go.Proofs.YtfkgmbknfnhjoaaGreat.Op
open Lib (hid)
open Go.RowKit
set_option linter.unusedSimpArgs false
set_option linter.unusedVariables false
theorem rdec_any (A:Option Addr) (N c:Nat) (l:List UInt8) (w:World) (B:Nat) (hB:B≤w.heap.size) (hA:At w B A (l.map bv)) (hn:N=l.length) (hc:N≤c):
  Calls Tryz.prog 99 #[.slice A N c] w (DecP w l):=by
 by_cases hl:N≤1488
 ·exact rdec_in A N c l w B hB hA hn hc hl
 ·have HR:=hid (show decR l=([],2) by unfold decR;rw[if_pos (by omega)])
  have h9:1488<N:=by omega
  clear hA hB hn hc hl
  go_enter Tryz.func99,Tryz.ntmps99
  go_wp2
  go_ret2
  exact⟨[],.slice none 0 0,by rw[HR.out];rfl,Below.refl _ _,OwnOpts.nil _ _,by rw[HR.out];rfl⟩
end Go.Proofs.YtfkgmbknfnhjoaaGreat.Op
namespace Go.Proofs.YtfkgmbknfnhjoaaGreat.Op
open Lib (hid)
open Go.ChangeShapes Go.WideShapes Go.ChangeAt Go.RowKit Go.Joins Go.Deep
set_option linter.unusedSimpArgs false
set_option linter.unusedVariables false
theorem encs_cons (o:Int×List UInt8) (L:List (Int×List UInt8)):encs (o::L)=encO o++encs L:=rfl
theorem cutOne_back {l:List UInt8} {o:Int×List UInt8} {r:List UInt8} (h:cutOne l=some (o,r)):okO o=true∧l=encO o++r:=by
 match l,h with
 |t::n::q,h=>
  rw[cutOne_cons] at h
  by_cases hh:2≤n.toNat∧n.toNat≤q.length+2
  ·rw[if_pos hh] at h
   simp only[Option.some.injEq,Prod.mk.injEq] at h
   obtain⟨rfl,rfl⟩:=h
   have ht:=t.toNat_lt
   have hn:=n.toNat_lt
   have hl:(q.take (n.toNat-2)).length=n.toNat-2:=by rw[List.length_take];omega
   refine⟨?_,?_⟩
   ·unfold okO inB
    simp only[hl]
    simp
    omega
   ·simp only[encO,hl,List.cons_append,List.take_append_drop]
    have e1:UInt8.ofNat (t.toNat:Int).toNat=t:=by simp
    have e2:UInt8.ofNat (n.toNat-2+2)=n:=by rw[show n.toNat-2+2=n.toNat by omega];simp
    rw[e1,e2]
  ·rw[if_neg hh] at h;cases h
theorem decW_back: ∀(f:Nat) (l:List UInt8) (acc Y:List (Int×List UInt8)),l.length≤f→acc.length≤64→decW f l acc=(Y,0)→ ∃L,Y=acc++L∧encs L=l∧L.all okO=true∧Y.length≤64
 |0,l,acc,Y,hl,ha,h=>by
  have:l=[]:=List.eq_nil_of_length_eq_zero (by omega)
  subst this
  simp only[decW,Prod.mk.injEq,and_true] at h
  subst h
  exact⟨[],by simp,rfl,rfl,ha⟩
 |f+1,l,acc,Y,hl,ha,h=>by
  unfold decW at h
  by_cases h0:l=[]
  ·rw[if_pos h0] at h
   simp only[Prod.mk.injEq,and_true] at h
   subst h h0
   exact⟨[],by simp,rfl,rfl,ha⟩
  ·rw[if_neg h0] at h
   cases hc:cutOne l with
   |none=>rw[hc] at h;simp at h
   |some x=>
    obtain⟨o,r⟩:=x
    rw[hc] at h
    simp only at h
    by_cases h6:acc.length=64
    ·rw[if_pos h6] at h;simp at h
    ·rw[if_neg h6] at h
     obtain⟨ok,hle⟩:=cutOne_back hc
     have:=cutOne_len hc
     obtain⟨L,h1,h2,h3,h4⟩:=decW_back f r (acc++[o]) Y (by omega) (by simp;omega) h
     refine⟨o::L,by rw[h1];simp,by rw[encs_cons,h2,hle],by simp[ok];simpa using h3,h4⟩
theorem back_dec {l:List UInt8} {Y:List (Int×List UInt8)} (h:decR l=(Y,0)):encR Y=(l,0):=by
 unfold decR at h
 split at h
 ·simp at h
 ·rename_i h1
  obtain⟨L,hL,h2,h3,h4⟩:=decW_back _ _ _ _ (Nat.le_refl _) (by simp) h
  obtain rfl:Y=L:=hL
  unfold encR
  rw[if_neg (by omega),if_pos h3,h2,if_neg h1]
theorem decW_err: ∀(f:Nat) (l:List UInt8) (acc Y:List (Int×List UInt8)) (e:Int),decW f l acc=(Y,e)→e≠0→Y=[]
 |0,l,acc,Y,e,h,he=>by simp only[decW,Prod.mk.injEq] at h;omega
 |f+1,l,acc,Y,e,h,he=>by
  unfold decW at h
  by_cases h0:l=[]
  ·rw[if_pos h0] at h;simp only[Prod.mk.injEq] at h;omega
  ·rw[if_neg h0] at h
   cases hc:cutOne l with
   |none=>rw[hc] at h;simp at h;exact h.1
   |some x=>
    obtain⟨o,r⟩:=x
    rw[hc] at h
    simp only at h
    by_cases h6:acc.length=64
    ·rw[if_pos h6] at h;simp at h;exact h.1
    ·rw[if_neg h6] at h;exact decW_err f _ _ _ _ h he
theorem decR_err {l:List UInt8} {Y:List (Int×List UInt8)} {e:Int} (h:decR l=(Y,e)) (he:e≠0):Y=[]:=by
 unfold decR at h
 split at h
 ·simp at h;exact h.1
 ·exact decW_err _ _ _ _ _ h he
end Go.Proofs.YtfkgmbknfnhjoaaGreat.Op
