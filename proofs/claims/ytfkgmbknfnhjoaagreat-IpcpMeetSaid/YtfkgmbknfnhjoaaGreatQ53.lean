/- Rows of packets that are eaten at their head and grow at their end. -/
import Derived.Test.YtfkgmbknfnhjoaaGreatPD
import Derived.ArgAppend
import Derived.Deep.Upon
namespace Go.Proofs.YtfkgmbknfnhjoaaGreat
open Go.RowKit
set_option linter.unusedSimpArgs false
set_option linter.unusedVariables false
set_option linter.ambiguousOpen false
structure Tl (W:World) (lo:Nat) (A:Option Addr) (n c:Nat) (P:List Pe):Prop where
 len:n=P.length
 le:n≤c
 data: ∀e∈P,∃b,W.ownsRow b 5 1 e.v e.d.length (e.d.map bv)
 row:(A=none∧c=0)∨ ∃(g o:Nat) (cur:Array Value),A=some ⟨g,o,none⟩∧lo≤g∧W.heap[g]? =some (.cells cur 32 (0,0))∧o+c*3≤cur.size∧ ∀j u,(cellsP P)[j]? =some u→cur[o+j]? =some u
def tlB (A:Option Addr):Option Nat:=A.map (·.block)
section
variable {W W':World} {lo n c:Nat} {A:Option Addr} {P:List Pe}
theorem Tl.of_own {base:Nat} (h:OwnPks W base (.slice A n c) P) (hlo:lo≤base):Tl W lo A n c P:=by
 obtain⟨hl,h'|⟨g,cap,cur,hv,hb,hg,hn,hm,hs,ht⟩⟩:=h.1
 ·obtain⟨hv,h0⟩:=h'
  cases hv
  exact⟨h0.symm,Nat.le_refl _,fun e he=>⟨_,h.2 e he⟩,.inl ⟨rfl,rfl⟩⟩
 ·cases hv
  refine⟨rfl,hn,fun e he=>⟨_,h.2 e he⟩,.inr ⟨g,0,cur,rfl,by omega,hg,by omega,fun j u hu=>?_⟩⟩
  have hj:j<(cellsP P).length:=(List.getElem?_eq_some_iff.1 hu).1
  rw[←ht,List.getElem?_take,if_pos (by rw[hl] at hj;exact hj)] at hu
  rw[Nat.zero_add]
  simpa using hu
theorem Tl.pop {g o:Nat} {e:Pe} (h:Tl W lo (some ⟨g,o,none⟩) n c (e::P)):Tl W lo (some ⟨g,o+3,none⟩) (n-1) (c-1) P:=by
 have h1:=h.len
 have h2:=h.le
 simp only[List.length_cons] at h1
 refine⟨by omega,by omega,fun x hx=>h.data x (List.mem_cons_of_mem _ hx),?_⟩
 rcases h.row with⟨hA,-⟩|⟨g',o',cur,hA,hlo,hg,hs,hc⟩
 ·cases hA
 ·cases hA
  refine .inr ⟨g,o+3,cur,rfl,hlo,hg,by omega,fun j u hu=>?_⟩
  have:=hc (j+3) u (by simpa[cellsP] using hu)
  rwa [show o+3+j=o+(j+3) by omega]
theorem Tl.pop1 {g o:Nat} {e:Pe} (h:Tl W lo (some ⟨g,o,none⟩) n c (e::P)) (hc1:c=1):Tl W lo (some ⟨g,o,none⟩) (n-1) 0 P:=by
 have h1:=h.len
 have h2:=h.le
 simp only[List.length_cons] at h1
 obtain rfl:P=[]:=List.eq_nil_of_length_eq_zero (by omega)
 refine⟨by simp only[List.length_nil];omega,by omega,fun x hx=>(by cases hx),?_⟩
 rcases h.row with⟨hA,-⟩|⟨g',o',cur,hA,hlo,hg,hs,hc⟩
 ·cases hA
 ·cases hA
  exact .inr ⟨g,o,cur,rfl,hlo,hg,by omega,fun j u hu=>by cases hu⟩
theorem Tl.head {e:Pe} (h:Tl W lo A n c (e::P)): ∃g o,A=some ⟨g,o,none⟩∧lo≤g∧g<W.heap.size∧W.cell? ⟨g,o,none⟩=some (.int .i64 e.code)∧W.cell? ⟨g,o+1,none⟩=some (.int .i64 e.id)∧W.cell? ⟨g,o+2,none⟩=some e.v∧At W W.heap.size e.a (e.d.map bv)∧e.d.length≤e.c:=by
 obtain⟨b,hd⟩:=h.data e (List.mem_cons_self ..)
 have h2:=h.le
 have h1:=h.len
 simp only[List.length_cons] at h1
 rcases h.row with⟨hA,h0⟩|⟨g,o,cur,rfl,hlo,hg,hs,hc⟩
 ·omega
 ·have hx: ∀j u,(cellsP (e::P))[j]? =some u→W.cell? ⟨g,o+j,none⟩=some u:=fun j u hu=>by
   rw[cell_of_row W g (o+j) cur _ (0,0) hg]
   exact hc j u hu
  obtain⟨A',c',hv,hcc,-⟩:=ownsRow_form hd
  unfold Pe.v at hd hv
  cases hv
  exact⟨g,o,rfl,hlo,lt_blk hg,hx 0 _ rfl,hx 1 _ rfl,hx 2 _ rfl,At.of_own hd,hcc⟩
theorem Tl.stays {r:Nat} {cur:Array Value} {e':TypeId} (h:Tl W lo A n c P) (hg:W.grownBy W' (some r)) (hr:tlB A≠some r) (hX:W.heap[r]? =some (.cells cur e' (0,0))) (h1:e'≠5):Tl W' lo A n c P:=by
 refine⟨h.len,h.le,fun e he=>?_,?_⟩
 ·obtain⟨b,hd⟩:=h.data e he
  exact⟨b,own_stays hd hg fun q e2=>by cases e2;exact .inr (.inr ⟨_,_,hX,h1⟩)⟩
 ·rcases h.row with h|⟨g,o,cur,rfl,hlo,hgg,hs,hc⟩
  ·exact .inl h
  ·exact .inr ⟨g,o,cur,rfl,hlo,(hg.block g (lt_blk hgg) (fun e2=>hr (by unfold tlB;exact e2))).trans hgg,hs,hc⟩
theorem Tl.below (h:Tl W lo A n c P) (hb:Below W.heap.size W W'):Tl W' lo A n c P:=by
 refine⟨h.len,h.le,fun e he=>?_,?_⟩
 ·obtain⟨b,hd⟩:=h.data e he
  exact⟨b,own_below hd hb⟩
 ·rcases h.row with h|⟨g,o,cur,rfl,hlo,hgg,hs,hc⟩
  ·exact .inl h
  ·exact .inr ⟨g,o,cur,rfl,hlo,(hb.block g (lt_blk hgg)).trans hgg,hs,hc⟩
theorem Tl.lt (h:Tl W lo A n c P): ∀g,tlB A=some g→g<W.heap.size:=by
 intro g hg
 rcases h.row with⟨rfl,-⟩|⟨g',o,cur,rfl,hlo,hgg,hs,hc⟩
 ·cases hg
 ·cases hg;exact lt_blk hgg
theorem set3_cells (W:World) (g o:Nat) (a b d:Value):W.setCells g o [a,b,d]=((W.setCell ⟨g,o,none⟩ a).setCell ⟨g,o+1,none⟩ b).setCell ⟨g,o+2,none⟩ d:=rfl
theorem tl_one (P:List Pe): ∀u∈cellsP P,u.oneCell'=true:=by
 intro u hu
 simp only[cellsP,List.mem_flatMap,List.mem_cons,List.not_mem_nil,or_false] at hu
 obtain⟨e,_,rfl|rfl|rfl⟩:=hu<;>rfl
theorem tl_append (h:Tl W lo A n c P) (hlo:lo≤W.heap.size) (hn:n≤1000) (ty:TypeId) {A1:Option Addr} {c1 lo1:Nat} {e:Pe} (h1:Tl W lo1 A1 1 c1 [e]):
  ∃A' c' W',(Builtin.append_ #[43,43] ty #[.slice A n c,.slice A1 1 c1]).run Tryz.prog W=.ok (.slice A' (n+1) c') W'∧Tl W' lo A' (n+1) c' (P++[e])∧W.grownBy W' (tlB A)∧(tlB A'=tlB A∨ ∃g,tlB A'=some g∧W.heap.size≤g):=by
 obtain⟨i0,hi,hz0,hz1,hz2⟩:=info_parts infoCtl
 obtain⟨g1,o1,rfl,hlo1,hlt1,x0,x1,x2,-,-⟩:=h1.head
 have hnews: ∀j u,(cellsP [e])[j]? =some u→W.cell? ((⟨g1,o1,none⟩:Addr).add j)=some u:=by
  intro j u hu
  have hj:j<3:=by have:=(List.getElem?_eq_some_iff.1 hu).1;rwa [cellsP_len] at this
  rw[Addr.add_lit]
  match j,hj with
  |0,_=>cases hu;exact x0
  |1,_=>cases hu;exact x1
  |2,_=>cases hu;exact x2
 have hlen:(cellsP [e]).length=1*3:=by rw[cellsP_len];rfl
 have hnl:=h.len
 have hnc:=h.le
 have hdata: ∀x∈P++[e],∃b,W.ownsRow b 5 1 x.v x.d.length (x.d.map bv):=fun x hx=>by
  rcases List.mem_append.1 hx with hx|hx
  ·exact h.data x hx
  ·exact h1.data x hx
 have hcat:cellsP (P++[e])=cellsP P++cellsP [e]:=by simp[cellsP]
 -- a new row, of the world's own
 have fresh: ∀v' W',W'.ownsRow W.heap.size 32 3 v' (n+1) (cellsP P++cellsP [e])→W.grownBy W' none→ ∃A' c',v'=.slice A' (n+1) c'∧Tl W' lo A' (n+1) c' (P++[e])∧ ∃g,tlB A'=some g∧W.heap.size≤g:=by
  intro v' W' ho hg
  obtain⟨hl,h'|⟨g,cap,cur,rfl,hb,hgg,hnn,hm,hs,ht⟩⟩:=ho
  ·exact absurd h'.2 (by omega)
  ·refine⟨_,_,rfl,⟨by rw[List.length_append];simp;omega,hnn,fun x hx=>?_,.inr ⟨g,0,cur,rfl,by omega,hgg,by omega,fun j u hu=>?_⟩⟩,g,rfl,hb⟩
   ·obtain⟨b,hd⟩:=hdata x hx
    exact⟨b,own_stays hd hg fun q e2=>by cases e2⟩
   ·rw[hcat] at hu
    have hj:j<(cellsP P++cellsP [e]).length:=(List.getElem?_eq_some_iff.1 hu).1
    rw[←ht,List.getElem?_take,if_pos (by rw[hl] at hj;exact hj)] at hu
    rw[Nat.zero_add]
    simpa using hu
 rcases h.row with⟨rfl,hc0⟩|⟨g,o,cur,rfl,hgl,hg,hs,hc⟩
 ·subst hc0
  obtain rfl:n=0:=by omega
  obtain rfl:P=[]:=List.eq_nil_of_length_eq_zero hnl.symm
  obtain⟨v',W',hrun,h2,h3,-⟩:=run_append_own (P:=Tryz.prog) W W.heap.size 43 ty 32 i0 _ 3 40 Tryz.underlying43 hi hz0 hz1 hz2 rfl (by decide) (.slice none 0 0) 0 [] (World.ownsRow_nil W _ 32 3) ⟨g1,o1,none⟩ 1 c1 (cellsP [e]) hlen hnews (tl_one _) (by unfold maxLen;omega) (by omega) (Nat.le_refl _)
  obtain⟨A',c',rfl,ht,hf⟩:=fresh v' W' (by simpa[cellsP] using h2) h3
  exact⟨A',c',W',hrun,ht,h3,.inr hf⟩
 ·have hol:(cellsP P).length=n*3:=by rw[cellsP_len];omega
  by_cases hr:n+1≤c
  ·have hcell: ∀j,j<3→ ∃u,W.cell? ⟨g,o+n*3+j,none⟩=some u:=fun j hj=>by
    rw[cell_of_row W g _ cur _ (0,0) hg]
    exact⟨_,Array.getElem?_eq_getElem (by omega)⟩
   have hrun:=run_append_room_cells (P:=Tryz.prog) W 43 ty 32 i0 Tryz.underlying43 hi g o n c ⟨g1,o1,none⟩ 1 c1 (cellsP [e]) (by rw[hz1];exact hlen) hnews (tl_one _) hr
    (fun j hj=>by obtain⟨u,hu⟩:=hcell j (by rw[hlen] at hj;omega);rw[hz1,hu];rfl) (fun j hj=>frozen_of_row W g _ cur _ hg)
   rw[hz1] at hrun
   have hgr:W.grownBy (W.setCells g (o+n*3) (cellsP [e])) (some g):=grown_store (grown_store (grown_set _ _ _ _) _ _) _ _
   refine⟨_,c,_,hrun,⟨by rw[List.length_append];simp;omega,hr,fun x hx=>?_,.inr ⟨g,o,((cur.setIfInBounds (o+n*3) (.int .i64 e.code)).setIfInBounds (o+n*3+1) (.int .i64 e.id)).setIfInBounds (o+n*3+2) e.v,rfl,hgl,?_,by simp;omega,fun j u hu=>?_⟩⟩,hgr,.inl rfl⟩
   ·obtain⟨b,hd⟩:=hdata x hx
    exact⟨b,own_stays hd hgr fun q e2=>by cases e2;exact .inr (.inr ⟨_,_,hg,by decide⟩)⟩
   ·exact heap_setCell_same _ g _ _ _ _ (heap_setCell_same _ g _ _ _ _ (heap_setCell_same _ g _ _ _ _ hg))
   ·rw[hcat] at hu
    by_cases hj:j<(cellsP P).length
    ·rw[List.getElem?_append_left hj] at hu
     have:=hc j u hu
     rw[Array.getElem?_setIfInBounds_ne (by omega),Array.getElem?_setIfInBounds_ne (by omega),Array.getElem?_setIfInBounds_ne (by omega)]
     exact this
    ·rw[List.getElem?_append_right (by omega)] at hu
     have hj2:j-(cellsP P).length<3:=by have:=(List.getElem?_eq_some_iff.1 hu).1;rw[hlen] at this;omega
     obtain⟨q,hq⟩: ∃q,j-(cellsP P).length=q:=⟨_,rfl⟩
     rw[hq] at hu hj2
     have hoj:o+j=o+n*3+q:=by omega
     rw[hoj]
     match q,hj2 with
     |0,_=>
      cases hu
      rw[Array.getElem?_setIfInBounds_ne (by omega),Array.getElem?_setIfInBounds_ne (by omega),Array.getElem?_setIfInBounds]
      simp;omega
     |1,_=>
      cases hu
      rw[Array.getElem?_setIfInBounds_ne (by omega),Array.getElem?_setIfInBounds]
      simp;omega
     |2,_=>
      cases hu
      rw[Array.getElem?_setIfInBounds]
      simp;omega
  ·obtain⟨v',W',hrun,h2,h3⟩:=run_append_arg_grows (P:=Tryz.prog) W 43 ty 32 i0 _ 3 40 Tryz.underlying43 hi hz0 hz1 hz2 rfl (by decide) ⟨g,o,none⟩ n c (cellsP P) hol (fun j u hu=>by rw[Addr.add_lit,cell_of_row W g _ cur _ (0,0) hg];exact hc j u hu) ⟨g1,o1,none⟩ 1 c1 (cellsP [e]) hlen hnews (by omega) (by unfold maxLen;omega) (by omega)
   obtain⟨A',c',rfl,ht,hf⟩:=fresh v' W' h2 h3
   exact⟨A',c',W',hrun,ht,⟨h3.os,h3.tape,h3.output,h3.size,fun k hk _=>h3.block k hk (fun e2=>by cases e2)⟩,.inr hf⟩
theorem tl_append_any (h:Tl W lo A n c P) (hlo:lo≤W.heap.size) (hn:n≤1000) (ty:TypeId) {A1:Option Addr} {n1 c1 lo1:Nat} {P1:List Pe} (h1:Tl W lo1 A1 n1 c1 P1) (hn1:n1≤1):
  ∃A' c' W',(Builtin.append_ #[43,43] ty #[.slice A n c,.slice A1 n1 c1]).run Tryz.prog W=.ok (.slice A' (n+n1) c') W'∧Tl W' lo A' (n+n1) c' (P++P1)∧W.grownBy W' (tlB A)∧(tlB A'=tlB A∨ ∃g,tlB A'=some g∧W.heap.size≤g):=by
 have hl:=h1.len
 match P1,hl with
 |[],hl=>
  obtain rfl:n1=0:=hl
  obtain⟨i0,hi,hz0,hz1,hz2⟩:=info_parts infoCtl
  have hs:Src Tryz.prog i0.size 43 (.slice A1 0 c1) 0 [] W:=by
   rw[hz1]
   cases A1 with
   |none=>exact Src.ofNil W Tryz.underlying43 c1
   |some a=>exact Src.ofSlice W Tryz.underlying43 a 0 c1 [] rfl (fun j u hu=>by cases hu) (fun u hu=>by cases hu)
  exact⟨A,c,W,run_append_nothing W 43 43 ty 32 i0 Tryz.underlying43 hi A n c h.le _ hs,by rw[List.append_nil];exact h,⟨rfl,rfl,rfl,Nat.le_refl _,fun _ _ _=>rfl⟩,.inl rfl⟩
 |[e],hl=>
  obtain rfl:n1=1:=hl
  exact tl_append h hlo hn ty h1
 |_::_::_,hl=>exact absurd hn1 (by rw[hl];simp)
end
section
variable {ops:Array Oper} {rest:List Oper} {o:Oper} {a:Act} {K:Act→World→Prop} {Q:Exit→Act→World→Prop} {w:World} {lo n c:Nat} {A:Option Addr} {P:List Pe}
theorem wpList_tl (hgd:o.guard=none) (s x:Operand) (ho:o.op=.call {callee:=.builtin .append,args:=#[s,x],argTypes:=#[43,43]})
  (h:Tl w lo A n c P) (hs:a.eval s=.slice A n c) (hlo:lo≤w.heap.size) (hn:n≤1000) {A1:Option Addr} {n1 c1 lo1:Nat} {P1:List Pe} (h1:Tl w lo1 A1 n1 c1 P1) (hx:a.eval x=.slice A1 n1 c1) (hn1:n1≤1)
  (hk: ∀A' c' w',Tl w' lo A' (n+n1) c' (P++P1)→w.grownBy w' (tlB A)→(tlB A'=tlB A∨ ∃g,tlB A'=some g∧w.heap.size≤g)→wpList Tryz.prog ops Q rest (a.put o.dst (.slice A' (n+n1) c')) w'):
  wpList Tryz.prog ops Q (o::rest) a w:=
 wpList_plain hgd fun K hK=>by
  obtain⟨A',c',w',hrun,h2,h3,h4⟩:=tl_append_any h hlo hn o.type h1 hn1
  unfold Oper.wp execOp
  simp only[ho,resolve,invoke,builtin,Sem.run_bind,Sem.run_pure,Result.andThen_ok,List.map_toArray,List.map_cons,List.map_nil,hs,hx,hrun]
  exact hK _ _ (hk A' c' w' h2 h3 h4)
end
end Go.Proofs.YtfkgmbknfnhjoaaGreat
