/- Bundle PC. -/
import Derived.Test.YtfkgmbknfnhjoaaGreatRPA
import Derived.Test.YtfkgmbknfnhjoaaGreatRC
import Derived.Deep.RegionLaw
set_option maxHeartbeats 2000000
namespace Go.Proofs.YtfkgmbknfnhjoaaGreat
open Lib (hid)
open Go.RowKit
set_option linter.ambiguousOpen false
open Ne (Rl Opt RulesAt areB)
set_option linter.unusedSimpArgs false
set_option linter.unusedVariables false
structure Pe where
 code:Int
 id:Int
 d:List UInt8
 a:Option Addr
 c:Nat
def Pe.v (e:Pe):Value:=.slice e.a e.d.length e.c
def Pe.o (e:Pe):Pk:=⟨e.code,e.id,e.d⟩
def cellsP (P:List Pe):List Value:=P.flatMap fun e=>[.int .i64 e.code,.int .i64 e.id,e.v]
def OwnPks (W:World) (base:Nat) (v:Value) (P:List Pe):Prop:=
 W.ownsRow base 32 3 v P.length (cellsP P)∧ ∀e∈P,W.ownsRow base 5 1 e.v e.d.length (e.d.map bv)
def PksAt (W:World) (B:Nat) (A:Option Addr) (P:List Pe):Prop:=
 At W B A (cellsP P)∧ ∀e∈P,At W B e.a (e.d.map bv)∧e.d.length≤e.c
theorem infoCtl:(Tryz.prog.info? 32).map (fun i=>(i.zero,i.size,i.bytes))=some (some (.agg #[.int .i64 0,.int .i64 0,.slice none 0 0]),3,40):=by kernel_rfl
theorem cellsP_len (P:List Pe):(cellsP P).length=3*P.length:=by
 induction P with
 |nil=>rfl
 |cons e E ih=>simp only[cellsP,List.flatMap_cons,List.length_append,List.length_cons,List.length_nil] at*;omega
theorem cellsP_snoc (P:List Pe) (e:Pe):cellsP (P++[e])=cellsP P++[.int .i64 e.code,.int .i64 e.id,e.v]:=by simp[cellsP]
theorem cellsP_get: ∀(P:List Pe) (k:Nat) (hk:k<P.length),(cellsP P)[3*k]? =some (.int .i64 P[k].code)∧(cellsP P)[3*k+1]? =some (.int .i64 P[k].id)∧(cellsP P)[3*k+2]? =some P[k].v
 |e::E,0,_=>⟨rfl,rfl,rfl⟩
 |e::E,k+1,hk=>by
  have:=cellsP_get E k (by simpa using hk)
  have e1:cellsP (e::E)=.int .i64 e.code:: .int .i64 e.id::e.v::cellsP E:=rfl
  rw[e1]
  have h2:3*(k+1)=3*k+1+1+1:=by omega
  rw[h2]
  simpa using this
theorem PksAt.keep {W W':World} {B:Nat} {A:Option Addr} {P:List Pe} (h:PksAt W B A P) (hb:Below B W W'):PksAt W' B A P:=
 ⟨h.1.keep hb,fun e he=>⟨(h.2 e he).1.keep hb,(h.2 e he).2⟩⟩
theorem PksAt.more {W:World} {B B':Nat} {A:Option Addr} {P:List Pe} (h:PksAt W B A P) (hB:B≤B'):PksAt W B' A P:=
 ⟨h.1.more hB,fun e he=>⟨(h.2 e he).1.more hB,(h.2 e he).2⟩⟩
theorem OwnPks.at {W:World} {base:Nat} {A:Option Addr} {n c:Nat} {P:List Pe} (h:OwnPks W base (.slice A n c) P):PksAt W W.heap.size A P:=by
 refine⟨?_,fun e he=>?_⟩
 ·have:=h.1
  obtain⟨A',c',hv,-,-⟩:=ownsRow_form this
  cases hv
  exact At.of_own this
 ·have:=h.2 e he
  obtain⟨A',c',hv,hc,-⟩:=ownsRow_form this
  cases hv
  exact⟨At.of_own this,hc⟩
theorem PksAt.get {W:World} {B:Nat} {A:Option Addr} {P:List Pe} (h:PksAt W B A P) {k:Nat} (hk:k<P.length):
  ∃b o,A=some ⟨b,o,none⟩∧b<B∧W.cell? ⟨b,o+k*3,none⟩=some (.int .i64 P[k].code)∧W.cell? ⟨b,o+k*3+1,none⟩=some (.int .i64 P[k].id)∧W.cell? ⟨b,o+k*3+2,none⟩=some P[k].v:=by
 obtain⟨b,o,hA,hB,hc⟩:=h.1.get (by rw[cellsP_len];omega)
 obtain⟨h0,h1,h2⟩:=cellsP_get P k hk
 exact⟨b,o,hA,hB,by have:=hc _ _ h0;rwa [show o+3*k=o+k*3 by omega] at this,by have:=hc _ _ h1;rwa [show o+(3*k+1)=o+k*3+1 by omega] at this,by have:=hc _ _ h2;rwa [show o+(3*k+2)=o+k*3+2 by omega] at this⟩
theorem OwnPks.below {A C:World} {base:Nat} {v:Value} {P:List Pe} (h:OwnPks A base v P) (hb:Below A.heap.size A C):OwnPks C base v P:=
 ⟨own_below h.1 hb,fun x hx=>own_below (h.2 x hx) hb⟩
theorem OwnPks.base {A:World} {b b':Nat} {v:Value} {P:List Pe} (h:OwnPks A b v P) (hb:b'≤b):OwnPks A b' v P:=
 ⟨own_base h.1 hb,fun x hx=>own_base (h.2 x hx) hb⟩
theorem OwnPks.nil (A:World) (b:Nat):OwnPks A b (.slice none 0 0) []:=⟨own_nil _ _ _ _,fun _ h=>by cases h⟩
theorem OwnPks.stays {A C:World} {base:Nat} {v:Value} {P:List Pe} {row:Option Nat} (h:OwnPks A base v P) (hg:A.grownBy C row) (hr: ∀r,row=some r→r<base):OwnPks C base v P:=
 ⟨own_stays h.1 hg fun r e=>.inl (hr r e),fun x hx=>own_stays (h.2 x hx) hg fun r e=>.inl (hr r e)⟩
theorem OwnPks.pushed {W W2:World} {base:Nat} {v v3:Value} {P:List Pe} {co id:Int} {A2:Option Addr} {dd:List UInt8} {c2:Nat} (h:OwnPks W base v P)
  (h2:W.ownsRow base 5 1 (.slice A2 dd.length c2) dd.length (dd.map bv)) (h3:W2.ownsRow base 32 3 v3 (P.length+1) (cellsP P++[.int .i64 co,.int .i64 id,.slice A2 dd.length c2]))
  (hg:W.grownBy W2 v.ownBlock):OwnPks W2 base v3 (P++[⟨co,id,dd,A2,c2⟩]):=by
 have hr: ∀r,v.ownBlock=some r→r<base∨(∃o:Obj,W.heap[r]? =some o∧o.isCells=false)∨(∃cur e',W.heap[r]? =some (.cells cur e' (0,0))∧e'≠5):=fun r e=>by
  obtain⟨cur,hc⟩:=own_type h.1 e
  exact .inr (.inr ⟨cur,32,hc,by decide⟩)
 refine⟨by rw[cellsP_snoc];simpa[Pe.v] using h3,fun e he=>?_⟩
 rcases List.mem_append.1 he with he|he
 ·exact own_stays (h.2 e he) hg hr
 ·simp only[List.mem_singleton] at he
  subst he
  exact own_stays h2 hg hr
structure Rm where
 vr:Value
 mc:Int
 mt:Int
 mf:Int
 wt:Int
 st:Int
 id:Int
 req:Int
 va:Value
 cnt:Int
 tim:Int
 nak:Int
 ic:Int
 ii:Int
 vi:Value
 ac:Int
 ai:Int
 vn:Value
 tick:Int
 vd:Value
 vo:Value
def Rm.cs (s:Rm):Array Value:=#[s.vr,.int .i64 s.mc,.int .i64 s.mt,.int .i64 s.mf,.int .i64 s.wt,.int .i64 s.st,.int .i64 s.id,.int .i64 s.req,s.va,.int .i64 s.cnt,.int .i64 s.tim,.int .i64 s.nak,.int .i64 s.ic,.int .i64 s.ii,s.vi,.int .i64 s.ac,.int .i64 s.ai,s.vn,.int .i64 s.tick,s.vd,s.vo]
def RunAt (W:World) (b:Nat) (s:Rm):Prop:=W.heap[b]? =some (.cells s.cs 102 (0,0))
section
variable {W W':World} {b:Nat} {s:Rm}
theorem RunAt.lt (h:RunAt W b s):b<W.heap.size:=by have h2:=h;unfold RunAt at h2;rw[Array.getElem?_eq_some_iff] at h2;exact h2.1
theorem RunAt.cell (h:RunAt W b s) (i:Nat) {v:Value} (hv:s.cs[i]? =some v):W.cell? ⟨b,i,none⟩=some v:=(cell_of_row W b i _ _ _ h).trans hv
theorem RunAt.free (h:RunAt W b s) (i:Nat):W.frozen? ⟨b,i,none⟩=false:=frozen_of_row W b i _ _ h
theorem RunAt.keep (h:RunAt W b s) (hb:Below W.heap.size W W'):RunAt W' b s:=(hb.block b h.lt).trans h
theorem RunAt.apart (h:RunAt W b s) {row:Option Nat} (hg:W.grownBy W' row) (hr:row≠some b):RunAt W' b s:=(hg.block b h.lt (fun e=>hr e.symm)).trans h
theorem RunAt.id (h:RunAt W b s) (x:Int):RunAt (W.setCell ⟨b,6,none⟩ (.int .i64 x)) b {s with id:=x}:=heap_setCell_same W b 6 _ _ _ h
theorem RunAt.req (h:RunAt W b s) (x:Int):RunAt (W.setCell ⟨b,7,none⟩ (.int .i64 x)) b {s with req:=x}:=heap_setCell_same W b 7 _ _ _ h
theorem RunAt.cnt (h:RunAt W b s) (x:Int):RunAt (W.setCell ⟨b,9,none⟩ (.int .i64 x)) b {s with cnt:=x}:=heap_setCell_same W b 9 _ _ _ h
theorem RunAt.tim (h:RunAt W b s) (x:Int):RunAt (W.setCell ⟨b,10,none⟩ (.int .i64 x)) b {s with tim:=x}:=heap_setCell_same W b 10 _ _ _ h
theorem RunAt.nak (h:RunAt W b s) (x:Int):RunAt (W.setCell ⟨b,11,none⟩ (.int .i64 x)) b {s with nak:=x}:=heap_setCell_same W b 11 _ _ _ h
theorem RunAt.out (h:RunAt W b s) (v:Value):RunAt (W.setCell ⟨b,20,none⟩ v) b {s with vo:=v}:=heap_setCell_same W b 20 _ _ _ h
end
theorem grown_set (w:World) (b i:Nat) (v:Value):w.grownBy (w.setCell ⟨b,i,none⟩ v) (some b):=
 ⟨rfl,rfl,rfl,by simp,fun k hk hne=>heap_setCell_other _ _ _ _ (by simpa using hne)⟩
section
variable {w w':World} {r:Option Nat} {b:Nat}
theorem grown_drewN (h:w.grownBy w' r) (n:Nat):w.grownBy (w'.drewN n) r:=⟨h.os,h.tape,h.output,h.size,h.block⟩
theorem grown_drew (h:w.grownBy w' r):w.grownBy w'.drew r:=⟨h.os,h.tape,h.output,h.size,h.block⟩
theorem grown_store (h:w.grownBy w' (some b)) (i:Nat) (v:Value):w.grownBy (w'.setCell ⟨b,i,none⟩ v) (some b):=h.trans (grown_set _ _ _ _)
theorem grown_high (h:w.grownBy w' r) (p:Addr) (hp:w.heap.size≤p.block) (v:Value):w.grownBy (w'.setCell p v) r:=
 ⟨h.os,h.tape,h.output,by rw[World.size_setCell];exact h.size,fun k hk hne=>(heap_setCell_other _ _ _ _ (by omega)).trans (h.block k hk hne)⟩
theorem grown_ext (h:w.grownBy w' r) (xs:List Obj) (d:Nat):w.grownBy (ext w' xs d) r:=
 ⟨h.os,h.tape,h.output,by have:=h.size;simp[size_ext,grow];omega,fun k hk hne=>(ext_block w' xs d k (by have:=h.size;omega)).trans (h.block k hk hne)⟩
theorem grown_alloc (h:w.grownBy w' r) (o:Obj):w.grownBy (w'.alloc o) r:=
 ⟨h.os,h.tape,h.output,by have:=h.size;simp;omega,fun k hk hne=>(Below.heap_alloc w' o k (by have:=h.size;omega)).trans (h.block k hk hne)⟩
theorem grn {w W:World} {r:Option Nat} (h:w.grownBy W r:=by(repeat(first|with_reducible exact World.grownBy.refl _ _|with_reducible assumption|with_reducible refine grown_drew ?_|with_reducible refine grown_drewN ?_ _|with_reducible refine grown_store ?_ _ _|with_reducible refine grown_ext ?_ _ _|with_reducible refine grown_alloc ?_ _|(with_reducible refine grown_high ?_ _ (by first|(simp[size_ext,grow];done)|(simp[size_ext,grow];omega)|omega) _)))):w.grownBy W r:=h
end
section
variable {P:Program} {ops:Array Oper} {rest:List Oper} {o:Oper} {a:Act} {K:Act→World→Prop} {Q:Exit→Act→World→Prop} {w:World}
theorem wp_appg (base:Nat) (s x:Operand) (t:TypeId)
  (ho:o.op=.call {callee:=.builtin .append,args:=#[s,x],argTypes:=#[t,t]})
  (e:TypeId) (ht:P.underlying t=some (.slice e)) (z:Value) (size bytes:Nat) (hinfo:(P.info? e).map (fun i=>(i.zero,i.size,i.bytes))=some (some z,size,bytes)) (hzs:z.cells.size=size) (hsz:0<size) (hby:bytes≤256)
  (v:Value) (n:Nat) (xs:List Value) (hs:a.eval s=v) (hown:w.ownsRow base e size v n xs)
  (B:Nat) (A:Option Addr) (m c:Nat) (news:List Value) (hx:a.eval x=.slice A m c) (hl:news.length=m*size) (hm:n+m≤500000000) (hr:At w B A news) (h1: ∀u∈news,u.oneCell'=true) (hb:base≤w.heap.size)
  (h: ∀A' c' w',w'.ownsRow base e size (.slice A' (n+m) c') (n+m) (xs++news)→n+m≤c'→w.grownBy w' v.ownBlock→K (a.put o.dst (.slice A' (n+m) c')) w'):o.wp P a w K Q:=by
 obtain⟨i0,hi,hz0,hz1,hz2⟩:=info_parts hinfo
 obtain⟨v',w',hrun,h2,h3,h4⟩:=run_app (P:=P) base t o.type e i0 z size bytes ht hi hz0 hz1 hz2 hzs hsz _ n xs hown B A m c news hl hr h1 (by unfold maxLen;omega)
  (by have:(n+m)*bytes≤500000000*256:=Nat.mul_le_mul hm hby;omega) hb
 obtain⟨A',c',rfl,hc',-⟩:=ownsRow_form h2
 unfold Oper.wp execOp
 simp only[ho,resolve,invoke,builtin,Sem.run_bind,Sem.run_pure,Result.andThen_ok,List.map_toArray,List.map_cons,List.map_nil,hs,hx,hrun]
 exact h A' c' w' h2 hc' h3
theorem wpList_appg (base:Nat) (hgd:o.guard=none) (s x:Operand) (t:TypeId)
  (ho:o.op=.call {callee:=.builtin .append,args:=#[s,x],argTypes:=#[t,t]})
  (e:TypeId) (ht:P.underlying t=some (.slice e)) (z:Value) (size bytes:Nat) (hinfo:(P.info? e).map (fun i=>(i.zero,i.size,i.bytes))=some (some z,size,bytes)) (hzs:z.cells.size=size) (hsz:0<size) (hby:bytes≤256)
  (v:Value) (n:Nat) (xs:List Value) (hs:a.eval s=v) (hown:w.ownsRow base e size v n xs)
  (B:Nat) (A:Option Addr) (m c:Nat) (news:List Value) (hx:a.eval x=.slice A m c) (hl:news.length=m*size) (hm:n+m≤500000000) (hr:At w B A news) (h1: ∀u∈news,u.oneCell'=true) (hb:base≤w.heap.size)
  (h: ∀A' c' w',w'.ownsRow base e size (.slice A' (n+m) c') (n+m) (xs++news)→n+m≤c'→w.grownBy w' v.ownBlock→wpList P ops Q rest (a.put o.dst (.slice A' (n+m) c')) w'):
  wpList P ops Q (o::rest) a w:=
 wpList_plain hgd fun K hK=>wp_appg base s x t ho e ht z size bytes hinfo hzs hsz hby v n xs hs hown B A m c news hx hl hm hr h1 hb fun A' c' w' h1 h2 h3=>hK _ _ (h A' c' w' h1 h2 h3)
theorem step_appg {E:Prop} (base:Nat) (hgd:o.guard=none) (s x:Operand) (t:TypeId)
  (ho:o.op=.call {callee:=.builtin .append,args:=#[s,x],argTypes:=#[t,t]})
  (e:TypeId) (ht:P.underlying t=some (.slice e)) (z:Value) (size bytes:Nat) (hinfo:(P.info? e).map (fun i=>(i.zero,i.size,i.bytes))=some (some z,size,bytes)) (hzs:z.cells.size=size) (hsz:0<size) (hby:bytes≤256)
  (v:Value) (n:Nat) (xs:List Value) (hs:a.eval s=v) (hown:w.ownsRow base e size v n xs)
  (B:Nat) (A:Option Addr) (m c:Nat) (news:List Value) (hx:a.eval x=.slice A m c) (hl:news.length=m*size) (hm:n+m≤500000000) (hr:At w B A news) (h1: ∀u∈news,u.oneCell'=true) (hb:base≤w.heap.size)
  (h: ∀A' c' w',w'.ownsRow base e size (.slice A' (n+m) c') (n+m) (xs++news)→n+m≤c'→w.grownBy w' v.ownBlock→K (a.put o.dst (.slice A' (n+m) c')) w'):
  if Region.wanted o (yielded ops a.tmps)=true then Oper.wp P o a w K Q else E:=by
 rw[if_pos (by simp[Region.wanted,hgd])]
 exact wp_appg base s x t ho e ht z size bytes hinfo hzs hsz hby v n xs hs hown B A m c news hx hl hm hr h1 hb h
end
end Go.Proofs.YtfkgmbknfnhjoaaGreat
namespace Go.Proofs.YtfkgmbknfnhjoaaGreat
open Lib (hid)
open Go.RowKit
set_option linter.unusedSimpArgs false
set_option linter.unusedVariables false
def NumP (b:Nat) (s':Rm) (v:Value) (w:World) (x:Ending) (w':World):Prop:=x=.returned v∧RunAt w' b s'∧w.grownBy w' (some b)
theorem nothing_any (b:Nat) (s:Rm) (w:World) (h:RunAt w b s):Calls Tryz.prog 134 #[.pointer (some ⟨b,0,none⟩)] w (NumP b s (.tuple #[]) w):=by
 go_enter Tryz.func134,Tryz.ntmps134
 go_wp2
 exact bodyPost_ret (v:=.tuple #[]) (by simp[results,Tryz.results134,go_sem]) rfl ⟨rfl,h,World.grownBy.refl _ _⟩
theorem next_set (b:Nat) (s:Rm) (w:World) (h:RunAt w b s) (h0:0≤s.id) (h1:s.id≤255):
  Calls Tryz.prog 158 #[.pointer (some ⟨b,0,none⟩)] w fun x w'=>x=.returned (.int .i64 ((s.id+1)%256))∧w'=w.setCell ⟨b,6,none⟩ (.int .i64 ((s.id+1)%256)):=by
 obtain⟨vr,mc,mt,mf,wt,st,id,req,va,cnt,tim,nak,ic,ii,vi,ac,ai,vn,tick,vd,vo⟩:=s
 dsimp only at*
 have H:=hid h
 have hb:=h.lt
 have c6:=h.cell 6 (v:=.int .i64 id) rfl
 have f6:=h.free 6
 have e1:Int.tmod (id+1) 256=(id+1)%256:=Int.tmod_eq_emod_of_nonneg (by omega)
 have e2:0≤(id+1)%256:=by omega
 have e3:(id+1)%256<256:=by omega
 clear h
 go_enter Tryz.func158,Tryz.ntmps158
 go_wp2
 go_ret
 exact⟨rfl,rfl⟩
theorem next_any (b:Nat) (s:Rm) (w:World) (h:RunAt w b s) (h0:0≤s.id) (h1:s.id≤255):
  Calls Tryz.prog 158 #[.pointer (some ⟨b,0,none⟩)] w (NumP b {s with id:=(s.id+1)%256} (.int .i64 ((s.id+1)%256)) w):=
 (next_set b s w h h0 h1).mono fun x w' hx=>by obtain⟨rfl,rfl⟩:=hx;exact⟨rfl,h.id _,grown_set _ _ _ _⟩
theorem zero_any (b:Nat) (s:Rm) (w:World) (h:RunAt w b s) (h0:0≤s.tick) (h1:s.tick≤1099511627776) (h2:1≤s.wt) (h3:s.wt≤1048576):
  Calls Tryz.prog 126 #[.pointer (some ⟨b,0,none⟩)] w (NumP b {s with cnt:=0,tim:=s.tick+s.wt} (.tuple #[]) w):=by
 obtain⟨vr,mc,mt,mf,wt,st,id,req,va,cnt,tim,nak,ic,ii,vi,ac,ai,vn,tick,vd,vo⟩:=s
 dsimp only at*
 have H:=hid h
 have hb:=h.lt
 have c4:=h.cell 4 (v:=.int .i64 wt) rfl
 have c9:=h.cell 9 (v:=.int .i64 cnt) rfl
 have c10:=h.cell 10 (v:=.int .i64 tim) rfl
 have c18:=h.cell 18 (v:=.int .i64 tick) rfl
 have f9:=h.free 9
 have f10:=h.free 10
 have e1:IntKind.i64.wrap (tick+wt)=tick+wt:=IntWalk.i64_in _ (by omega)
 clear h
 go_enter Tryz.func126,Tryz.ntmps126
 go_wp2
 go_region_held3 (fun w'=>w'.cell? ⟨b,18,none⟩=some (.int .i64 tick)∧w'.cell? ⟨b,4,none⟩=some (.int .i64 wt)) (first|(go_keep;done)|(go_simp;done)|(simp[go_sem];done)) (fail)
 all_goals
  refine bodyPost_ret (v:=.tuple #[]) (by simp[results,Tryz.results126,go_sem]) rfl ⟨rfl,?_,?_⟩
  ·exact(H.out.cnt _).tim _
  ·exact grn
theorem timed_any (b:Nat) (s:Rm) (w:World) (h:RunAt w b s) (h0:0≤s.tick) (h1:s.tick≤1099511627776) (h2:1≤s.wt) (h3:s.wt≤1048576) (h4:0≤s.cnt) (h5:s.cnt≤1000):
  Calls Tryz.prog 160 #[.pointer (some ⟨b,0,none⟩)] w (NumP b {s with cnt:=if 0<s.cnt then s.cnt-1 else s.cnt,tim:=s.tick+s.wt} (.tuple #[]) w):=by
 obtain⟨vr,mc,mt,mf,wt,st,id,req,va,cnt,tim,nak,ic,ii,vi,ac,ai,vn,tick,vd,vo⟩:=s
 dsimp only at*
 have H:=hid h
 have hb:=h.lt
 have c4:=h.cell 4 (v:=.int .i64 wt) rfl
 have c9:=h.cell 9 (v:=.int .i64 cnt) rfl
 have c10:=h.cell 10 (v:=.int .i64 tim) rfl
 have c18:=h.cell 18 (v:=.int .i64 tick) rfl
 have f9:=h.free 9
 have f10:=h.free 10
 have e1:IntKind.i64.wrap (tick+wt)=tick+wt:=IntWalk.i64_in _ (by omega)
 clear h
 by_cases hc:0<cnt
 ·rw[if_pos hc]
  go_enter Tryz.func160,Tryz.ntmps160
  go_wp2
  go_region_held3 (fun w'=>w'.cell? ⟨b,18,none⟩=some (.int .i64 tick)∧w'.cell? ⟨b,4,none⟩=some (.int .i64 wt)) (first|(go_keep;done)|(go_simp;done)|(simp[go_sem];done)) (fail)
  all_goals
   refine bodyPost_ret (v:=.tuple #[]) (by simp[results,Tryz.results160,go_sem]) rfl ⟨rfl,?_,?_⟩
   ·exact(H.out.cnt _).tim _
   ·exact grn
 ·obtain rfl:cnt=0:=by omega
  rw[if_neg hc]
  go_enter Tryz.func160,Tryz.ntmps160
  go_wp2
  go_region_held3 (fun w'=>w'.cell? ⟨b,18,none⟩=some (.int .i64 tick)∧w'.cell? ⟨b,4,none⟩=some (.int .i64 wt)) (first|(go_keep;done)|(go_simp;done)|(simp[go_sem];done)) (fail)
  all_goals
   refine bodyPost_ret (v:=.tuple #[]) (by simp[results,Tryz.results160,go_sem]) rfl ⟨rfl,?_,?_⟩
   ·exact(H.out.cnt _).tim _
   ·exact grn
end Go.Proofs.YtfkgmbknfnhjoaaGreat
namespace Go.Proofs.YtfkgmbknfnhjoaaGreat
open Lib (hid)
open Go.RowKit
set_option linter.unusedSimpArgs false
set_option linter.unusedVariables false
def OwnCP (co id:Int) (n:Nat) (l:List UInt8) (w:World) (x:Ending) (w':World):Prop:=
 ∃(A:Option Addr) (c:Nat),x=.returned (.agg #[.int .i64 co,.int .i64 id,.slice A n c])∧Below w.heap.size w w'∧n≤c∧w'.ownsRow w.heap.size 5 1 (.slice A n c) n (l.map bv)
theorem ownc_any (co id:Int) (A:Option Addr) (n c:Nat) (l:List UInt8) (w:World) (B:Nat) (hB:B≤w.heap.size) (hA:At w B A (l.map bv)) (hn:n=l.length) (hl:n≤400000000) (hc:n≤c):
  Calls Tryz.prog 171 #[.agg #[.int .i64 co,.int .i64 id,.slice A n c]] w (OwnCP co id n l w):=by
 have HA:=hid hA
 have HN:=hid hn
 have HB:=hid hB
 clear hA hn hB
 go_enter Tryz.func171,Tryz.ntmps171
 go_wp2_with fail
 refine(Ne.clone_any A n c l _ B (by have:=HB.out;simp;omega) (by exact HA.out.keep (by have:=HB.out;exact bel)) HN.out hl hc).mono ?_
 rintro e w1 ⟨v,rfl,hb,ho⟩
 obtain⟨A2,c2,rfl,hc2,-⟩:=ownsRow_form ho
 obtain⟨xs,dr,rfl⟩:=ext_of hb
 have HO:=hid ho
 have HC2:=hid hc2
 clear hb ho hc2
 go_wp2_with fail
 refine bodyPost_ret (v:=.agg #[.int .i64 co,.int .i64 id,.slice A2 n c2]) (by simp[results,Tryz.results171,go_sem]) rfl ⟨A2,c2,rfl,by exact bel,HC2.out,?_⟩
 exact own_base (own_swap HO.out (by simp) (by simp)) (by simp;omega)
theorem enter_aown (args:Array Value) (w:World):(callFunc 171 args).run Tryz.prog w=.ok (.enter 171 args) w:=by kernel_rfl
set_option maxRecDepth 100000 in
theorem send_any (b:Nat) (s:Rm) (P:List Pe) (co id':Int) (A:Option Addr) (n c:Nat) (l:List UInt8) (w:World) (h:RunAt w b s) (hp:OwnPks w (b+1) s.vo P) (hA:At w w.heap.size A (l.map bv)) (hn:n=l.length) (hl:n≤400000000) (hc:n≤c) (hP:P.length≤1000):
  Calls Tryz.prog 159 #[.pointer (some ⟨b,0,none⟩),.agg #[.int .i64 co,.int .i64 id',.slice A n c]] w fun x w'=>x=.returned (.tuple #[])∧ ∃vo P',RunAt w' b {s with vo:=vo}∧OwnPks w' (b+1) vo P'∧P'.map Pe.o=P.map Pe.o++[⟨co,id',l⟩]∧Below b w w':=by
 obtain⟨vr,mc,mt,mf,wt,st,id,req,va,cnt,tim,nak,ic,ii,vi,ac,ai,vn,tick,vd,vo⟩:=s
 dsimp only at*
 obtain⟨Ao,co',hvo,-,-⟩:=ownsRow_form hp.1
 subst hvo
 obtain⟨pn,hpn⟩: ∃pn,P.length=pn:=⟨_,rfl⟩
 rw[hpn] at hP hp h
 have HPN:=hid hpn
 have H:=hid h
 have HP:=hid hp
 have HA:=hid hA
 have HN:=hid hn
 have hb:=h.lt
 have c20:=h.cell 20 (v:=.slice Ao pn co') rfl
 have f20:=h.free 20
 clear h hp hA hn hpn
 go_enter Tryz.func159,Tryz.ntmps159
 go_wp2_with fail
 obtain⟨wz,hwz⟩: ∃wz,wz=w.alloc (.cells #[.int .i64 co,.int .i64 id',.slice A n c] 32):=⟨_,rfl⟩
 rw[←hwz]
 obtain⟨T,hT⟩: ∃T,T=w.heap.size:=⟨_,rfl⟩
 rw[←hT]
 have HTH:=hid (show wz.heap[T]? =some (.cells #[.int .i64 co,.int .i64 id',.slice A n c] 32 (0,0)) by rw[hwz,hT];exact heap_alloc_new w _)
 have hTz:T<wz.heap.size:=by rw[hwz,hT];simp
 have HTZ:=hid hTz
 have z0:wz.cell? ⟨T,0,none⟩=some (.int .i64 co):=(cell_of_row _ _ 0 _ _ (0,0) HTH.out).trans rfl
 have z1:wz.cell? ⟨T,1,none⟩=some (.int .i64 id'):=(cell_of_row _ _ 1 _ _ (0,0) HTH.out).trans rfl
 have z2:wz.cell? ⟨T,2,none⟩=some (.slice A n c):=(cell_of_row _ _ 2 _ _ (0,0) HTH.out).trans rfl
 have HBZ:=hid (show Below w.heap.size w wz by rw[hwz];exact(Below.refl _ _).alloc (Nat.le_refl _) _)
 have hszz:=HBZ.out.size
 have HZ:=hid (H.out.keep HBZ.out)
 have HPZ:=hid (show OwnPks wz (b+1) (.slice Ao pn co') P from HP.out.below HBZ.out)
 have hbz:b<wz.heap.size:=HZ.out.lt
 have z20:=HZ.out.cell 20 (v:=.slice Ao pn co') rfl
 have zf:=HZ.out.free 20
 have HVB:=hid (show∀g,(Value.slice Ao pn co').ownBlock=some g→g<T from fun g e=>by rw[hT];exact own_lt HP.out.1 e)
 clear hwz hT c20 f20
 go_region_law (first|(refine step_call1 rfl 171 (.tmp 9) #[32] rfl enter_aown (.agg #[.int .i64 co,.int .i64 id',.slice A n c]) rfl ?_;go_must (refine(ownc_any co id' A n c l _ w.heap.size (by first|omega|(simp;omega)) (by exact HA.out.keep (by have:=HBZ.out;exact bel)) HN.out hl hc).mono ?_);rintro e w2 ⟨A3,c3,rfl,hb,hc3,ho⟩;obtain⟨xs2,dr2,rfl⟩:=ext_of hb;have HO2:=hid ho;clear hb ho hc3;refine⟨_,rfl,?_⟩)|(refine step_appg (b+1) rfl (.tmp 8) (.tmp 11) 43 rfl 32 Tryz.underlying43 (.agg #[.int .i64 0,.int .i64 0,.slice none 0 0]) 3 40 infoCtl rfl (by decide) (by decide) (.slice Ao pn co') pn (cellsP P) rfl (by have h:=HPZ.out.1;rw[HPN.out] at h;exact own_below h (by exact bel)) (grow wz.heap.size xs2+1) (some ⟨grow wz.heap.size xs2,0,none⟩) 1 1 [.int .i64 co,.int .i64 id',.slice A3 n c3] rfl rfl (by omega) (by exact At.newN _ _ _ _ _ (by simp[size_ext]) rfl) (by intro u hu;simp at hu;rcases hu with rfl|rfl|rfl<;>rfl) (by simp[size_ext,grow];omega) ?_;intro A4 c4 w3 ho3 hc3 hg3;have HO3:=hid ho3;have HG3:=hid hg3;have HR3:=hid (RunAt.apart (HZ.out.keep (by exact bel)) hg3 (fun e=>by have:=own_le HPZ.out.1 e;omega));have q20:=HR3.out.cell 20 (v:=.slice Ao pn co') rfl;have qf:=HR3.out.free 20;have qb:=HR3.out.lt;clear ho3 hc3 hg3))
 all_goals
  change bodyPost _ _ _ Exit.normal _ _
  refine bodyPost_end (v:=.tuple #[]) ?_ ?_ ?_
  ·simp[results,Tryz.results159,go_sem]
  ·rfl
  refine⟨rfl,_,P++[⟨co,id',l,A3,c3⟩],HR3.out.out _,by
   have hq:=OwnPks.pushed (co:=co) (id:=id') (HPZ.out.below (by exact bel)) (by have h:=HO2.out;rw[HN.out] at h;exact own_below (own_base h (by first|omega|(simp;omega))) (by exact bel)) (by rw[HPN.out];have h:=HO3.out;rwa [HN.out] at h) HG3.out
   exact hq.stays (row:=some b) (grown_set _ _ _ _) (fun r e=>by cases e;omega),by rw[List.map_append];rfl,by
   have h1:=HBZ.out.mono (show b≤w.heap.size by omega)
   exact(Below.trans h1 (Below.grown (by exact bel) HG3.out (by first|omega|(simp[size_ext,grow];omega)) (fun k hk=>by have:=own_le HPZ.out.1 hk;omega))).setCell (Nat.le_refl _) _⟩
end Go.Proofs.YtfkgmbknfnhjoaaGreat
namespace Go.Proofs.YtfkgmbknfnhjoaaGreat
open Lib (hid)
open Go.RowKit
set_option linter.unusedSimpArgs false
set_option linter.unusedVariables false
set_option linter.ambiguousOpen false
open Ne (Rl Opt RulesAt areB)
open Fs (av)
def BytesV (w:World) (B:Nat) (v:Value) (l:List UInt8):Prop:= ∃(A:Option Addr) (n c:Nat),v=.slice A n c∧At w B A (l.map bv)∧n=l.length∧n≤c
def OptsV (w:World) (B:Nat) (v:Value) (L:List Opt):Prop:= ∃(A:Option Addr) (n c:Nat) (E:List Ent),v=.slice A n c∧OptsAt w B A E∧n=E.length∧n≤c∧E.map Ent.o=L
def ActsV (w:World) (B:Nat) (v:Value) (l:List Int):Prop:= ∃(A:Option Addr) (n c:Nat),v=.slice A n c∧At w B A (l.map av)∧n=l.length∧n≤c
theorem BytesV.keep {w w':World} {B:Nat} {v:Value} {l:List UInt8} (h:BytesV w B v l) (hb:Below B w w'):BytesV w' B v l:=by
 obtain⟨A,n,c,rfl,h1,h2,h3⟩:=h;exact⟨A,n,c,rfl,h1.keep hb,h2,h3⟩
theorem OptsV.keep {w w':World} {B:Nat} {v:Value} {L:List Opt} (h:OptsV w B v L) (hb:Below B w w'):OptsV w' B v L:=by
 obtain⟨A,n,c,E,rfl,h1,h2,h3,h4⟩:=h;exact⟨A,n,c,E,rfl,h1.keep hb,h2,h3,h4⟩
theorem ActsV.keep {w w':World} {B:Nat} {v:Value} {l:List Int} (h:ActsV w B v l) (hb:Below B w w'):ActsV w' B v l:=by
 obtain⟨A,n,c,rfl,h1,h2,h3⟩:=h;exact⟨A,n,c,rfl,h1.keep hb,h2,h3⟩
theorem OptsV.more {w:World} {B B':Nat} {v:Value} {L:List Opt} (h:OptsV w B v L) (hb:B≤B'):OptsV w B' v L:=by
 obtain⟨A,n,c,E,rfl,h1,h2,h3,h4⟩:=h;exact⟨A,n,c,E,rfl,h1.more hb,h2,h3,h4⟩
theorem ActsV.more {w:World} {B B':Nat} {v:Value} {l:List Int} (h:ActsV w B v l) (hb:B≤B'):ActsV w B' v l:=by
 obtain⟨A,n,c,rfl,h1,h2,h3⟩:=h;exact⟨A,n,c,rfl,h1.more hb,h2,h3⟩
def PksO (w:World) (base:Nat) (v:Value) (out:List Pk):Prop:= ∃P,OwnPks w base v P∧P.map Pe.o=out
structure RunI (w:World) (b:Nat) (s:Rm) (L:List Opt) (li ln:List UInt8) (acts:List Int) (out:List Pk):Prop where
 run:RunAt w b s
 ask:OptsV w b s.va L
 inn:BytesV w b s.vi li
 ans:BytesV w b s.vn ln
 did:ActsV w b s.vd acts
 ot:PksO w (b+1) s.vo out
 hli:li.length≤400000000
 hln:ln.length≤400000000
 hlo:out.length≤1000
section
variable {w w':World} {b:Nat} {s:Rm} {L:List Opt} {li ln:List UInt8} {acts:List Int} {out:List Pk}
theorem below_of_grown (h:w.grownBy w' (some b)) (hb:b≤w.heap.size):Below b w w':=⟨h.os,h.tape,h.output,h.size,fun k hk=>h.block k (by omega) (by simp;omega)⟩
theorem RunI.num (h:RunI w b s L li ln acts out) (s':Rm) (hr:RunAt w' b s') (hg:w.grownBy w' (some b)) (ha:s'.va=s.va) (hi:s'.vi=s.vi) (hn:s'.vn=s.vn) (hd:s'.vd=s.vd) (ho:s'.vo=s.vo):RunI w' b s' L li ln acts out:=by
 have hb:=below_of_grown hg (Nat.le_of_lt h.run.lt)
 obtain⟨P,hp,he⟩:=h.ot
 exact⟨hr,by rw[ha];exact h.ask.keep hb,by rw[hi];exact h.inn.keep hb,by rw[hn];exact h.ans.keep hb,by rw[hd];exact h.did.keep hb,⟨P,by rw[ho];exact hp.stays hg (fun r e=>by cases e;omega),he⟩,h.hli,h.hln,h.hlo⟩
theorem RunI.keep (h:RunI w b s L li ln acts out) (hb:Below w.heap.size w w'):RunI w' b s L li ln acts out:=by
 have hbb:=hb.mono (Nat.le_of_lt h.run.lt)
 obtain⟨P,hp,he⟩:=h.ot
 exact⟨h.run.keep hb,h.ask.keep hbb,h.inn.keep hbb,h.ans.keep hbb,h.did.keep hbb,⟨P,hp.below hb,he⟩,h.hli,h.hln,h.hlo⟩
end
def ActP (b:Nat) (s':Rm) (L:List Opt) (li ln:List UInt8) (acts:List Int) (out:List Pk) (w:World) (x:Ending) (w':World):Prop:=
 x=.returned (.tuple #[])∧Below b w w'∧ ∃vo,RunI w' b {s' with vo:=vo} L li ln acts out
theorem NumP.act {b:Nat} {s s':Rm} {L:List Opt} {li ln:List UInt8} {acts:List Int} {out:List Pk} {w:World} {x:Ending} {w':World} (h:NumP b s' (.tuple #[]) w x w') (hi:RunI w b s L li ln acts out)
  (ha:s'.va=s.va) (hi2:s'.vi=s.vi) (hn:s'.vn=s.vn) (hd:s'.vd=s.vd) (ho:s'.vo=s.vo):ActP b s' L li ln acts out w x w':=by
 obtain⟨rfl,hr,hg⟩:=h
 exact⟨rfl,below_of_grown hg (Nat.le_of_lt hi.run.lt),s'.vo,hi.num s' hr hg ha hi2 hn hd ho⟩
theorem send_run (b:Nat) (s:Rm) (L:List Opt) (li ln:List UInt8) (acts:List Int) (out:List Pk) (co id':Int) (A:Option Addr) (n c:Nat) (l:List UInt8) (w:World) (h:RunI w b s L li ln acts out) (hl:At w w.heap.size A (l.map bv)) (hn:n=l.length) (hc:n≤c) (hm:n≤400000000) (hlo:out.length≤999):
  Calls Tryz.prog 159 #[.pointer (some ⟨b,0,none⟩),.agg #[.int .i64 co,.int .i64 id',.slice A n c]] w (ActP b s L li ln acts (out++[⟨co,id',l⟩]) w):=by
 obtain⟨P,hp,he⟩:=h.ot
 refine(send_any b s P co id' A n c l w h.run hp hl hn hm hc (by have:=congrArg List.length he;rw[List.length_map] at this;omega)).mono ?_
 rintro x w' ⟨rfl,vo,P',hr,hp',he',hb⟩
 exact⟨rfl,hb,vo,hr,h.ask.keep hb,h.inn.keep hb,h.ans.keep hb,h.did.keep hb,⟨P',hp',by rw[he',he]⟩,h.hli,h.hln,by rw[List.length_append];simp;omega⟩
end Go.Proofs.YtfkgmbknfnhjoaaGreat
namespace Go.Proofs.YtfkgmbknfnhjoaaGreat
open Lib (hid)
open Go.RowKit
set_option linter.unusedSimpArgs false
set_option linter.unusedVariables false
set_option linter.ambiguousOpen false
open Ne (Rl Opt RulesAt areB)
open Fs (av hasB)
theorem index_any (A:Option Addr) (n c:Nat) (l:List Int) (a:Int) (w:World) (B:Nat) (hA:At w B A (l.map av)) (hn:n=l.length) (hl:n≤1000000000):
  Calls Tryz.prog 170 #[.slice A n c,.int .i64 a] w fun e w'=> ∃i:Int,e=.returned (.int .i64 i)∧decide (0≤i)=hasB l a∧w=w':=by
 subst hn
 have HA:=hid hA
 clear hA
 go_enter Tryz.func170,Tryz.ntmps170
 go_wp2
 go_loop [8] (fun i=> ∃k:Nat,k≤l.length∧i=.int .i64 k∧hasB (l.take k) a=false) (fun i=>l.length-(intOf i).toNat)
 case atStart=>exact⟨0,Nat.zero_le _,rfl,by simp[hasB]⟩
 case round=>
  obtain⟨k,hk,rfl,hh⟩:=hrel
  have HH:=hid hh
  clear hh
  by_cases hlt:k<l.length
  ·obtain⟨b,o,rfl,-⟩:=HA.out.cellAt hlt
   obtain⟨x,hx,hc⟩:=HA.out.readAt hlt
   have HX:=hid hx
   clear hx
   cases he:(a==x)
   ·have HE:=hid (show(l.getD k 0==a)=false by rw[HX.out];simp at he ⊢;omega)
    go_wp2
    go_round
    case rel=>exact⟨k+1,by omega,by go_num,Fs.hasB_take hlt HH.out HE.out⟩
    case measure=>simp[intOf];omega
   ·have HE:=hid (show(l.getD k 0==a)=true by rw[HX.out];simp at he ⊢;omega)
    go_wp2
    go_ret
    exact⟨_,rfl,by rw[Fs.hasB_at hlt HE.out];simp,rfl⟩
  ·have HL:=hid (show hasB l a=false by have:=HH.out;rwa [List.take_of_length_le (by omega)] at this)
   go_wp2
   go_ret
   exact⟨_,rfl,by rw[HL.out];rfl,rfl⟩
theorem contains_any (A:Option Addr) (n c:Nat) (l:List Int) (a:Int) (w:World) (B:Nat) (hA:At w B A (l.map av)) (hn:n=l.length) (hl:n≤1000000000):
  Calls Tryz.prog 157 #[.slice A n c,.int .i64 a] w fun e w'=>e=.returned (.bool (hasB l a))∧w=w':=by
 have HA:=hid hA
 have HN:=hid hn
 obtain⟨bb,hbb⟩: ∃bb,hasB l a=bb:=⟨_,rfl⟩
 have HBB:=hid hbb
 rw[hbb]
 clear hA hn hbb
 go_enter Tryz.func157,Tryz.ntmps157
 go_wp2_with fail
 refine(index_any A n c l a _ B HA.out HN.out hl).mono ?_
 rintro e w' ⟨i,rfl,hi,rfl⟩
 rw[HBB.out] at hi
 cases bb
 ·have hi2:decide (0≤i)=false:=hi
  clear hi
  go_wp2_with fail
  go_ret
  exact⟨rfl,rfl⟩
 ·have hi2:(0:Int)≤i:=by simpa using hi
  clear hi
  go_wp2_with fail
  go_ret
  exact⟨rfl,rfl⟩
theorem begin_any (b:Nat) (s:Rm) (L:List Opt) (li ln:List UInt8) (acts:List Int) (out:List Pk) (w:World) (h:RunI w b s L li ln acts out) (hm:acts.length≤1000):
  Calls Tryz.prog 125 #[.pointer (some ⟨b,0,none⟩)] w (ActP b {s with cnt:=if hasB acts 10=true then s.mt else s.mc} L li ln acts out w):=by
 obtain⟨A,n,c,hvd,hat,hn,hc⟩:=h.did
 have HI:=hid h
 have HH:=hid h.run
 have hb:=h.run.lt
 have c1:=h.run.cell 1 (v:=.int .i64 s.mc) rfl
 have c2:=h.run.cell 2 (v:=.int .i64 s.mt) rfl
 have c9:=h.run.cell 9 (v:=.int .i64 s.cnt) rfl
 have c19:=h.run.cell 19 (v:=.slice A n c) (by rw[←hvd];rfl)
 have f9:=h.run.free 9
 have HAT:=hid hat
 have HN:=hid hn
 have hn2:n≤1000:=by omega
 clear h hvd hat hn
 cases hh:hasB acts 10
 ·have HB:=hid hh
  simp only[Bool.false_eq_true,if_false]
  clear hh
  go_enter Tryz.func125,Tryz.ntmps125
  go_wp2_with fail
  refine(contains_any A n c acts 10 _ b (HAT.out.keep (by exact below_of_grown grn (Nat.le_of_lt hb))) HN.out (by omega)).mono ?_
  rw[HB.out]
  rintro e w1 ⟨rfl,rfl⟩
  go_wp2_with fail
  exact bodyPost_end (v:=.tuple #[]) (by simp[results,Tryz.results125,go_sem]) rfl (NumP.act ⟨rfl,HH.out.cnt _,grn⟩ HI.out rfl rfl rfl rfl rfl)
 ·have HB:=hid hh
  simp only[if_true]
  clear hh
  go_enter Tryz.func125,Tryz.ntmps125
  go_wp2_with fail
  refine(contains_any A n c acts 10 _ b (HAT.out.keep (by exact below_of_grown grn (Nat.le_of_lt hb))) HN.out (by omega)).mono ?_
  rw[HB.out]
  rintro e w1 ⟨rfl,rfl⟩
  go_wp2_with fail
  exact bodyPost_end (v:=.tuple #[]) (by simp[results,Tryz.results125,go_sem]) rfl (NumP.act ⟨rfl,(HH.out.cnt _).cnt _,grn⟩ HI.out rfl rfl rfl rfl rfl)
end Go.Proofs.YtfkgmbknfnhjoaaGreat
namespace Go.Proofs.YtfkgmbknfnhjoaaGreat
open Lib (hid)
open Go.RowKit
set_option linter.unusedSimpArgs false
set_option linter.unusedVariables false
set_option linter.ambiguousOpen false
open Ne (Rl Opt RulesAt areB)
open Fs (av hasB)
def nxt (i:Int):Int:=(i+1)%256
def dec (n:Int):Int:=if 0<n then n-1 else n
theorem nxt_in (i:Int):0≤nxt i∧nxt i≤255:=by unfold nxt;omega
theorem encR_len (L:List Opt):(Op.encR L).1.length≤1488:=by
 unfold Op.encR
 split
 ·simp
 ·split
  ·split
   ·simp
   ·simp only;omega
  ·simp
theorem ActP.fin {b:Nat} {s1 s2 s':Rm} {L:List Opt} {li ln:List UInt8} {acts:List Int} {out:List Pk} {w w1 w':World} (hi:RunI w1 b s1 L li ln acts out) (hb:Below b w w1) (hr:RunAt w' b s2) (hg:w1.grownBy w' (some b))
  (e:s2={s' with vo:=s1.vo}) (ha:s'.va=s1.va) (hi2:s'.vi=s1.vi) (hn:s'.vn=s1.vn) (hd:s'.vd=s1.vd):ActP b s' L li ln acts out w (.returned (.tuple #[])) w':=by
 refine⟨rfl,hb.trans (below_of_grown hg (Nat.le_of_lt hi.run.lt)),s1.vo,?_⟩
 rw[←e]
 exact hi.num s2 hr hg (by rw[e];exact ha) (by rw[e];exact hi2) (by rw[e];exact hn) (by rw[e];exact hd) (by rw[e])
theorem echo_any (b:Nat) (s:Rm) (L:List Opt) (li ln:List UInt8) (acts:List Int) (out:List Pk) (w:World) (h:RunI w b s L li ln acts out) (hlo:out.length≤999):Calls Tryz.prog 133 #[.pointer (some ⟨b,0,none⟩)] w (ActP b s L li ln acts (out++[⟨s.ac,s.ai,ln⟩]) w):=by
 obtain⟨A,n,c,hvn,hat,hn,hc⟩:=h.ans
 have hb:=h.run.lt
 have c15:=h.run.cell 15 (v:=.int .i64 s.ac) rfl
 have c16:=h.run.cell 16 (v:=.int .i64 s.ai) rfl
 have c17:=h.run.cell 17 (v:=.slice A n c) (by rw[←hvn];rfl)
 have HI:=hid h
 have HAT:=hid (hat.more (Nat.le_of_lt hb))
 have HN:=hid hn
 have HM:=hid (show n≤400000000 by have:=h.hln;omega)
 clear h hvn hat hn
 go_enter Tryz.func133,Tryz.ntmps133
 go_wp2_with fail
 refine(send_run b s L li ln acts out s.ac s.ai A n c ln _ HI.out HAT.out HN.out hc HM.out hlo).mono ?_
 rintro e w1 ⟨rfl,hb1,vo,hi⟩
 go_wp2_with fail
 exact bodyPost_end (v:=.tuple #[]) (by simp[results,Tryz.results133,go_sem]) rfl ⟨rfl,hb1,vo,hi⟩
theorem ended_any (b:Nat) (s:Rm) (L:List Opt) (li ln:List UInt8) (acts:List Int) (out:List Pk) (w:World) (h:RunI w b s L li ln acts out) (hlo:out.length≤999):Calls Tryz.prog 131 #[.pointer (some ⟨b,0,none⟩)] w (ActP b s L li ln acts (out++[⟨6,s.ii,[]⟩]) w):=by
 have hb:=h.run.lt
 have c13:=h.run.cell 13 (v:=.int .i64 s.ii) rfl
 have HI:=hid h
 clear h
 go_enter Tryz.func131,Tryz.ntmps131
 go_wp2_with fail
 refine(send_run b s L li ln acts out 6 s.ii none 0 0 [] _ HI.out (At.nil _ _ _) rfl (Nat.le_refl _) (by omega) hlo).mono ?_
 rintro e w1 ⟨rfl,hb1,vo,hi⟩
 go_wp2_with fail
 exact bodyPost_end (v:=.tuple #[]) (by simp[results,Tryz.results131,go_sem]) rfl ⟨rfl,hb1,vo,hi⟩
theorem ack_any (b:Nat) (s:Rm) (L:List Opt) (li ln:List UInt8) (acts:List Int) (out:List Pk) (w:World) (h:RunI w b s L li ln acts out) (hlo:out.length≤999):Calls Tryz.prog 128 #[.pointer (some ⟨b,0,none⟩)] w (ActP b {s with nak:=0} L li ln acts (out++[⟨s.ac,s.ai,ln⟩]) w):=by
 obtain⟨vr,mc,mt,mf,wt,st,id,req,va,cnt,tim,nak,ic,ii,vi,ac,ai,vn,tick,vd,vo⟩:=s
 dsimp only at*
 obtain⟨A,n,c,hvn,hat,hn,hc⟩:=h.ans
 dsimp only at hvn
 subst hvn
 have hb:=h.run.lt
 have c15:=h.run.cell 15 (v:=.int .i64 ac) rfl
 have c16:=h.run.cell 16 (v:=.int .i64 ai) rfl
 have c17:=h.run.cell 17 (v:=.slice A n c) rfl
 have HI:=hid h
 have HAT:=hid (hat.more (Nat.le_of_lt hb))
 have HN:=hid hn
 have HM:=hid (show n≤400000000 by have:=h.hln;omega)
 clear h hat hn
 go_enter Tryz.func128,Tryz.ntmps128
 go_wp2_with fail
 refine(send_run b _ L li ln acts out ac ai A n c ln _ HI.out HAT.out HN.out hc HM.out hlo).mono ?_
 rintro e w1 ⟨rfl,hb1,vo1,hi⟩
 have HI1:=hid hi
 have HB1:=hid hb1
 have hbz:=hi.run.lt
 have c11:=hi.run.cell 11 (v:=.int .i64 nak) rfl
 have f11:=hi.run.free 11
 clear hi hb1
 go_wp2_with fail
 exact bodyPost_end (v:=.tuple #[]) (by simp[results,Tryz.results128,go_sem]) rfl (ActP.fin HI1.out HB1.out (HI1.out.run.nak _) grn rfl rfl rfl rfl rfl)
theorem nak_any (b:Nat) (s:Rm) (L:List Opt) (li ln:List UInt8) (acts:List Int) (out:List Pk) (w:World) (h:RunI w b s L li ln acts out) (hlo:out.length≤999) (h0:0≤s.nak) (h1:s.nak≤1000):Calls Tryz.prog 129 #[.pointer (some ⟨b,0,none⟩)] w (ActP b {s with nak:=if s.ac=3 then(if s.nak<1000 then s.nak+1 else s.nak) else s.nak} L li ln acts (out++[⟨s.ac,s.ai,ln⟩]) w):=by
 obtain⟨vr,mc,mt,mf,wt,st,id,req,va,cnt,tim,nak,ic,ii,vi,ac,ai,vn,tick,vd,vo⟩:=s
 dsimp only at*
 obtain⟨A,n,c,hvn,hat,hn,hc⟩:=h.ans
 dsimp only at hvn
 subst hvn
 have hb:=h.run.lt
 have c15:=h.run.cell 15 (v:=.int .i64 ac) rfl
 have c16:=h.run.cell 16 (v:=.int .i64 ai) rfl
 have c17:=h.run.cell 17 (v:=.slice A n c) rfl
 have HI:=hid h
 have HAT:=hid (hat.more (Nat.le_of_lt hb))
 have HN:=hid hn
 have HM:=hid (show n≤400000000 by have:=h.hln;omega)
 clear h hat hn
 by_cases h3:ac=3
 ·subst h3
  by_cases hk0:nak<1000
  ·have HQ:=hid (show(if (3:Int)=3 then(if nak<1000 then nak+1 else nak) else nak)=nak+1 by simp[hk0])
   rw[HQ.out]
   go_enter Tryz.func129,Tryz.ntmps129
   go_wp2_with fail
   refine(send_run b _ L li ln acts out 3 ai A n c ln _ HI.out HAT.out HN.out hc HM.out hlo).mono ?_
   rintro e w1 ⟨rfl,hb1,vo1,hi⟩
   have HI1:=hid hi
   have HB1:=hid hb1
   have hbz:=hi.run.lt
   have c15':=hi.run.cell 15 (v:=.int .i64 3) rfl
   have c11:=hi.run.cell 11 (v:=.int .i64 nak) rfl
   have f11:=hi.run.free 11
   clear hi hb1 c15
   go_wp2_with fail
   exact bodyPost_end (v:=.tuple #[]) (by simp[results,Tryz.results129,go_sem]) rfl (ActP.fin HI1.out HB1.out (HI1.out.run.nak _) grn rfl rfl rfl rfl rfl)
  ·obtain rfl:nak=1000:=by omega
   have HQ:=hid (show(if (3:Int)=3 then(if (1000:Int)<1000 then(1000:Int)+1 else 1000) else 1000)=1000 by decide)
   rw[HQ.out]
   go_enter Tryz.func129,Tryz.ntmps129
   go_wp2_with fail
   refine(send_run b _ L li ln acts out 3 ai A n c ln _ HI.out HAT.out HN.out hc HM.out hlo).mono ?_
   rintro e w1 ⟨rfl,hb1,vo1,hi⟩
   have HI1:=hid hi
   have HB1:=hid hb1
   have hbz:=hi.run.lt
   have c15':=hi.run.cell 15 (v:=.int .i64 3) rfl
   have c11:=hi.run.cell 11 (v:=.int .i64 1000) rfl
   have f11:=hi.run.free 11
   clear hi hb1 c15
   go_wp2_with fail
   exact bodyPost_end (v:=.tuple #[]) (by simp[results,Tryz.results129,go_sem]) rfl (ActP.fin HI1.out HB1.out (HI1.out.run.nak _) grn rfl rfl rfl rfl rfl)
 ·have HQ:=hid (show(if ac=3 then(if nak<1000 then nak+1 else nak) else nak)=nak by rw[if_neg h3])
  have h4:(ac==3)=false:=by simpa using h3
  rw[HQ.out]
  clear h3
  go_enter Tryz.func129,Tryz.ntmps129
  go_wp2_with fail
  refine(send_run b _ L li ln acts out ac ai A n c ln _ HI.out HAT.out HN.out hc HM.out hlo).mono ?_
  rintro e w1 ⟨rfl,hb1,vo1,hi⟩
  have HI1:=hid hi
  have HB1:=hid hb1
  have hbz:=hi.run.lt
  have c15':=hi.run.cell 15 (v:=.int .i64 ac) rfl
  have c11:=hi.run.cell 11 (v:=.int .i64 nak) rfl
  have f11:=hi.run.free 11
  clear hi hb1 c15
  go_wp2_with fail
  exact bodyPost_end (v:=.tuple #[]) (by simp[results,Tryz.results129,go_sem]) rfl ⟨rfl,HB1.out,vo1,HI1.out⟩
end Go.Proofs.YtfkgmbknfnhjoaaGreat
namespace Go.Proofs.YtfkgmbknfnhjoaaGreat
open Lib (hid)
open Go.RowKit
set_option linter.unusedSimpArgs false
set_option linter.unusedVariables false
set_option linter.ambiguousOpen false
open Ne (Rl Opt RulesAt areB)
open Fs (av hasB)
theorem next_j (b:Nat) (s:Rm) (w:World) (j:Int) (h:RunAt w b s) (h0:0≤s.id) (h1:s.id≤255) (hj:nxt s.id=j):
  Calls Tryz.prog 158 #[.pointer (some ⟨b,0,none⟩)] w (NumP b {s with id:=j} (.int .i64 j) w):=by
 subst hj
 exact next_any b s w h h0 h1
theorem next_jset (b:Nat) (s:Rm) (w:World) (j:Int) (h:RunAt w b s) (h0:0≤s.id) (h1:s.id≤255) (hj:nxt s.id=j):
  Calls Tryz.prog 158 #[.pointer (some ⟨b,0,none⟩)] w fun x w'=>x=.returned (.int .i64 j)∧w'=w.setCell ⟨b,6,none⟩ (.int .i64 j):=by
 subst hj
 exact next_set b s w h h0 h1
theorem ask_any (b:Nat) (s:Rm) (L:List Opt) (li ln:List UInt8) (acts:List Int) (out:List Pk) (w:World) (h:RunI w b s L li ln acts out) (hlo:out.length≤999) (h0:0≤s.tick) (h1:s.tick≤1099511627776) (h2:1≤s.wt) (h3:s.wt≤1048576) (h4:0≤s.cnt) (h5:s.cnt≤1000) (h6:0≤s.id) (h7:s.id≤255):Calls Tryz.prog 127 #[.pointer (some ⟨b,0,none⟩)] w (ActP b {s with id:=nxt s.id,req:=nxt s.id,cnt:=dec s.cnt,tim:=s.tick+s.wt} L li ln acts (out++[⟨1,nxt s.id,(Op.encR L).1⟩]) w):=by
 obtain⟨vr,mc,mt,mf,wt,st,id,req,va,cnt,tim,nak,ic,ii,vi,ac,ai,vn,tick,vd,vo⟩:=s
 dsimp only at*
 obtain⟨A,n,c,E,hva,hat,hn,hc,hL⟩:=h.ask
 dsimp only at hva
 subst hva
 have HAT:=hid hat
 have HN:=hid hn
 have HL:=hid hL
 have hb:=h.run.lt
 have HI:=hid h
 clear h hat hn hL
 obtain⟨j,hj⟩: ∃j,nxt id=j:=⟨_,rfl⟩
 have HJ:=hid hj
 rw[hj]
 clear hj
 have HEL:=hid (encR_len L)
 obtain⟨⟨eb,ee⟩,henc⟩: ∃y,Op.encR L=y:=⟨_,rfl⟩
 have HENC:=hid henc
 rw[henc] at HEL
 rw[henc]
 clear henc
 go_enter Tryz.func127,Tryz.ntmps127
 go_wp2_with fail
 refine(next_j b _ w j HI.out.run h6 h7 HJ.out).mono ?_
 rintro e w1 ⟨rfl,hr1,hg1⟩
 have HI1:=hid (HI.out.num _ hr1 hg1 rfl rfl rfl rfl rfl)
 have HB1:=hid (below_of_grown hg1 (Nat.le_of_lt hb))
 have HI2:=hid (HI1.out.num _ (hr1.req j) (grown_set _ _ _ _) rfl rfl rfl rfl rfl)
 have HB2:=hid (HB1.out.trans (below_of_grown (grown_set w1 b 7 (.int .i64 j)) (Nat.le_of_lt hr1.lt)))
 have hb1:=hr1.lt
 have c7:=hr1.cell 7 (v:=.int .i64 req) rfl
 have c8:=hr1.cell 8 (v:=.slice A n c) rfl
 have f7:=hr1.free 7
 clear hr1 hg1
 go_wp2_with fail
 refine(Op.enc_any A n c E _ b (by simp;omega) (HAT.out.keep HB2.out) HN.out).mono ?_
 rw[HL.out]
 unfold Op.EncP
 rw[HENC.out]
 rintro e w3 ⟨v,rfl,hb3,ho3⟩
 obtain⟨A3,c3,rfl,hc3,-⟩:=ownsRow_form ho3
 have HA3:=hid (At.of_own ho3)
 have HI3:=hid (HI2.out.keep hb3)
 have HB3:=hid (HB2.out.trans (hb3.mono (by simp;omega)))
 have hbz3:=HI3.out.run.lt
 have c7':=HI3.out.run.cell 7 (v:=.int .i64 j) rfl
 have HC3:=hid hc3
 clear ho3 hb3 hc3 c7 c8 f7
 go_wp2_with fail
 refine(send_run b _ L li ln acts out 1 j A3 eb.length c3 eb _ HI3.out HA3.out rfl HC3.out (by have:=HEL.out;omega) hlo).mono ?_
 rintro e w4 ⟨rfl,hb4,vo4,hi4⟩
 have HI4:=hid hi4
 have HB4:=hid (HB3.out.trans hb4)
 clear hi4 hb4
 go_wp2_with fail
 refine(timed_any b _ w4 HI4.out.run h0 h1 h2 h3 h4 h5).mono ?_
 rintro e w5 ⟨rfl,hr5,hg5⟩
 have HR5:=hid hr5
 have HG5:=hid hg5
 clear hr5 hg5
 go_wp2_with fail
 exact bodyPost_end (v:=.tuple #[]) (by simp[results,Tryz.results127,go_sem]) rfl (ActP.fin HI4.out HB4.out HR5.out HG5.out (by unfold dec;rfl) rfl rfl rfl rfl)
theorem end_any (b:Nat) (s:Rm) (L:List Opt) (li ln:List UInt8) (acts:List Int) (out:List Pk) (w:World) (h:RunI w b s L li ln acts out) (hlo:out.length≤999) (h0:0≤s.tick) (h1:s.tick≤1099511627776) (h2:1≤s.wt) (h3:s.wt≤1048576) (h4:0≤s.cnt) (h5:s.cnt≤1000) (h6:0≤s.id) (h7:s.id≤255):Calls Tryz.prog 130 #[.pointer (some ⟨b,0,none⟩)] w (ActP b {s with id:=nxt s.id,cnt:=dec s.cnt,tim:=s.tick+s.wt} L li ln acts (out++[⟨5,nxt s.id,[]⟩]) w):=by
 obtain⟨vr,mc,mt,mf,wt,st,id,req,va,cnt,tim,nak,ic,ii,vi,ac,ai,vn,tick,vd,vo⟩:=s
 dsimp only at*
 have hb:=h.run.lt
 have HI:=hid h
 clear h
 obtain⟨j,hj⟩: ∃j,nxt id=j:=⟨_,rfl⟩
 have HJ:=hid hj
 rw[hj]
 clear hj
 go_enter Tryz.func130,Tryz.ntmps130
 go_wp2_with fail
 refine(next_j b _ w j HI.out.run h6 h7 HJ.out).mono ?_
 rintro e w1 ⟨rfl,hr1,hg1⟩
 have HI1:=hid (HI.out.num _ hr1 hg1 rfl rfl rfl rfl rfl)
 have HB1:=hid (below_of_grown hg1 (Nat.le_of_lt hb))
 clear hr1 hg1
 go_wp2_with fail
 refine(send_run b _ L li ln acts out 5 j none 0 0 [] _ HI1.out (At.nil _ _ _) rfl (Nat.le_refl _) (by omega) hlo).mono ?_
 rintro e w4 ⟨rfl,hb4,vo4,hi4⟩
 have HI4:=hid hi4
 have HB4:=hid (HB1.out.trans hb4)
 clear hi4 hb4
 go_wp2_with fail
 refine(timed_any b _ w4 HI4.out.run h0 h1 h2 h3 h4 h5).mono ?_
 rintro e w5 ⟨rfl,hr5,hg5⟩
 have HR5:=hid hr5
 have HG5:=hid hg5
 clear hr5 hg5
 go_wp2_with fail
 exact bodyPost_end (v:=.tuple #[]) (by simp[results,Tryz.results130,go_sem]) rfl (ActP.fin HI4.out HB4.out HR5.out HG5.out (by unfold dec;rfl) rfl rfl rfl rfl)
def rejO (co id':Int) (l:List UInt8) (i:Int):List Pk:=if Cp.encErr co id' l.length=0 then [⟨7,i,(Cp.encB co id' l).take 1488⟩] else []
theorem rej_zero {co id':Int} {l:List UInt8} {j:Int} (hj:inB j 0 255=true):Cp.rejE j (Cp.encErr co id' l.length)=Cp.encErr co id' l.length:=by
 unfold Cp.rejE;rw[hj];rfl
theorem rej_ok (ic ii j:Int) (A:Option Addr) (n c:Nat) (l:List UInt8) (w:World) (B:Nat) (hB:B≤w.heap.size) (hA:At w B A (l.map bv)) (hn:n=l.length) (hl:n≤1000000000) (hj:inB j 0 255=true) (he:Cp.encErr ic ii l.length=0):
  Calls Tryz.prog 161 #[.agg #[.int .i64 ic,.int .i64 ii,.slice A n c],.int .i64 j] w fun x w'=> ∃(A3:Option Addr) (n3 c3:Nat),x=.returned (.tuple #[.agg #[.int .i64 7,.int .i64 j,.slice A3 n3 c3],.int .i64 0])∧n3≤c3∧n3=((Cp.encB ic ii l).take 1488).length∧Below w.heap.size w w'∧w'.ownsRow w.heap.size 5 1 (.slice A3 n3 c3) n3 (((Cp.encB ic ii l).take 1488).map bv):=by
 refine(Cp.rej_any ic ii A n c l j w B hB hA hn hl).mono ?_
 rw[rej_zero hj,he]
 rintro e w2 ⟨v,rfl,hb2,ho2⟩
 obtain⟨A3,c3,rfl,hc3,-⟩:=ownsRow_form ho2
 exact⟨A3,_,c3,rfl,hc3,rfl,hb2,ho2⟩
theorem rej_bad (ic ii j er:Int) (A:Option Addr) (n c:Nat) (l:List UInt8) (w:World) (B:Nat) (hB:B≤w.heap.size) (hA:At w B A (l.map bv)) (hn:n=l.length) (hl:n≤1000000000) (hj:inB j 0 255=true) (he:Cp.encErr ic ii l.length=er) (h0:er≠0):
  Calls Tryz.prog 161 #[.agg #[.int .i64 ic,.int .i64 ii,.slice A n c],.int .i64 j] w fun x w'=> ∃(A3:Option Addr) (n3 c3:Nat),x=.returned (.tuple #[.agg #[.int .i64 0,.int .i64 0,.slice A3 n3 c3],.int .i64 er])∧Below w.heap.size w w':=by
 refine(Cp.rej_any ic ii A n c l j w B hB hA hn hl).mono ?_
 rw[rej_zero hj,he]
 rintro e w2 ⟨v,rfl,hb2,ho2⟩
 obtain⟨A3,c3,rfl,hc3,-⟩:=ownsRow_form ho2
 exact⟨A3,_,c3,by unfold Cp.rK;rw[if_neg h0,if_neg h0],hb2⟩
set_option maxRecDepth 100000 in
theorem strange_any (b:Nat) (s:Rm) (L:List Opt) (li ln:List UInt8) (acts:List Int) (out:List Pk) (w:World) (h:RunI w b s L li ln acts out) (hlo:out.length≤999) (h6:0≤s.id) (h7:s.id≤255):Calls Tryz.prog 132 #[.pointer (some ⟨b,0,none⟩)] w (ActP b {s with id:=nxt s.id} L li ln acts (out++rejO s.ic s.ii li (nxt s.id)) w):=by
 obtain⟨vr,mc,mt,mf,wt,st,id,req,va,cnt,tim,nak,ic,ii,vi,ac,ai,vn,tick,vd,vo⟩:=s
 dsimp only at*
 obtain⟨A,n,c,hvi,hat,hn,hc⟩:=h.inn
 dsimp only at hvi
 subst hvi
 have HAT:=hid hat
 have HN:=hid hn
 have HM:=hid (show n≤1000000000 by have:=h.hli;omega)
 have hb:=h.run.lt
 have HI:=hid h
 have c12:=h.run.cell 12 (v:=.int .i64 ic) rfl
 have c13:=h.run.cell 13 (v:=.int .i64 ii) rfl
 have c14:=h.run.cell 14 (v:=.slice A n c) rfl
 have HRUN:=hid h.run
 clear h hat hn
 obtain⟨j,hj⟩: ∃j,nxt id=j:=⟨_,rfl⟩
 have HJ:=hid hj
 have HJ2:=hid (show inB j 0 255=true by rw[←hj];have:=nxt_in id;simp[inB];omega)
 rw[hj]
 clear hj
 obtain⟨er,her⟩: ∃er,Cp.encErr ic ii li.length=er:=⟨_,rfl⟩
 have HER:=hid her
 clear her
 have HI1:=hid (HI.out.num _ (HRUN.out.id j) (grown_set _ _ _ _) rfl rfl rfl rfl rfl)
 have HBX:=hid (below_of_grown (grown_set w b 6 (.int .i64 j)) (Nat.le_of_lt hb))
 by_cases h0:er=0
 ·subst h0
  have HRO:=hid (show rejO ic ii li j=[⟨7,j,(Cp.encB ic ii li).take 1488⟩] by unfold rejO;rw[if_pos HER.out])
  rw[HRO.out]
  go_enter Tryz.func132,Tryz.ntmps132
  go_wp2_with fail
  go_region_held3 (fun w'=>w'.cell? ⟨b,12,none⟩=some (.int .i64 ic)∧w'.cell? ⟨b,13,none⟩=some (.int .i64 ii)∧w'.cell? ⟨b,14,none⟩=some (.slice A n c)) (first|(go_keep;done)|(go_simp;done)|(simp[go_sem];done)) (first|((go_at_call 158;go_must (refine(next_jset b _ _ j (HRUN.out.keep (by exact bel)) h6 h7 HJ.out).mono ?_);rintro e w1 ⟨rfl,rfl⟩))|((go_at_call 161;go_must (refine(rej_ok ic ii j A n c li _ b (by first|omega|(simp;omega)) (HAT.out.keep (by exact below_of_grown grn (Nat.le_of_lt hb))) HN.out HM.out HJ2.out HER.out).mono ?_);rintro e w2 ⟨A3,n3,c3,rfl,hc3,hn3,hb2,ho2⟩;obtain⟨xs2,d2,rfl⟩:=ext_of hb2;have HO2:=hid ho2;have HC3:=hid hc3;have HN3:=hid hn3;clear hb2 ho2 hc3 hn3)))
  all_goals
   go_wp2_with fail
   refine(send_run b _ L li ln acts out 7 j A3 n3 c3 ((Cp.encB ic ii li).take 1488) _ (HI1.out.keep (by exact bel)) (by first|exact At.of_own (own_swap HO2.out (by simp) (by simp))|exact(At.of_own HO2.out).move (by exact bel) (by first|exact Nat.le_refl _|(simp[size_ext,grow];done)|(simp[size_ext,grow];omega))) HN3.out HC3.out (by rw[HN3.out,List.length_take];omega) hlo).mono ?_
   rintro e w4 ⟨rfl,hb4,vo4,hi4⟩
   have HI4:=hid hi4
   have HB4:=hid hb4
   clear hi4 hb4
   go_wp2_with fail
   exact bodyPost_end (v:=.tuple #[]) (by simp[results,Tryz.results132,go_sem]) rfl ⟨rfl,Below.trans (HBX.out.trans (by have hbs:b≤(w.setCell ⟨b,6,none⟩ (.int .i64 j)).heap.size:=(by simp;omega);exact bel)) HB4.out,vo4,HI4.out⟩
 ·have h0':(er==0)=false:=by simpa using h0
  have HRO:=hid (show rejO ic ii li j=[] by unfold rejO;rw[HER.out,if_neg h0])
  rw[HRO.out,List.append_nil]
  go_enter Tryz.func132,Tryz.ntmps132
  go_wp2_with fail
  go_region_held3 (fun w'=>w'.cell? ⟨b,12,none⟩=some (.int .i64 ic)∧w'.cell? ⟨b,13,none⟩=some (.int .i64 ii)∧w'.cell? ⟨b,14,none⟩=some (.slice A n c)) (first|(go_keep;done)|(go_simp;done)|(simp[go_sem];done)) (first|((go_at_call 158;go_must (refine(next_jset b _ _ j (HRUN.out.keep (by exact bel)) h6 h7 HJ.out).mono ?_);rintro e w1 ⟨rfl,rfl⟩))|((go_at_call 161;go_must (refine(rej_bad ic ii j er A n c li _ b (by first|omega|(simp;omega)) (HAT.out.keep (by exact below_of_grown grn (Nat.le_of_lt hb))) HN.out HM.out HJ2.out HER.out h0).mono ?_);rintro e w2 ⟨A3,n3,c3,rfl,hb2⟩;obtain⟨xs2,d2,rfl⟩:=ext_of hb2;clear hb2)))
  all_goals
   go_wp2_with fail
   exact bodyPost_end (v:=.tuple #[]) (by simp[results,Tryz.results132,go_sem]) rfl ⟨rfl,HBX.out.trans (by have hbs:b≤(w.setCell ⟨b,6,none⟩ (.int .i64 j)).heap.size:=(by simp;omega);exact bel),_,HI1.out.keep (by exact bel)⟩
end Go.Proofs.YtfkgmbknfnhjoaaGreat
namespace Go.Proofs.YtfkgmbknfnhjoaaGreat
open Lib (hid)
open Go.RowKit
set_option linter.unusedSimpArgs false
set_option linter.unusedVariables false
set_option linter.ambiguousOpen false
open Ne (Rl Opt RulesAt areB)
open Fs (av hasB)
def actO (c:Cf) (inn ans:Pk) (tick:Int) (acts:List Int) (a:Au) (x:Int):Au×List Pk:=
 if x=5 then({a with cnt:=if hasB acts 10=true then c.mt else c.mc},[])
 else if x=6 then({a with cnt:=0,tim:=tick+c.wt},[])
 else if x=7 then({a with id:=nxt a.id,req:=nxt a.id,cnt:=dec a.cnt,tim:=tick+c.wt},[⟨1,nxt a.id,(Op.encR a.ask).1⟩])
 else if x=8 then({a with nak:=0},[ans])
 else if x=9 then({a with nak:=if ans.code=3 then(if a.nak<1000 then a.nak+1 else a.nak) else a.nak},[ans])
 else if x=10 then({a with id:=nxt a.id,cnt:=dec a.cnt,tim:=tick+c.wt},[⟨5,nxt a.id,[]⟩])
 else if x=11 then(a,[⟨6,inn.id,[]⟩])
 else if x=12 then({a with id:=nxt a.id},rejO inn.code inn.id inn.data (nxt a.id))
 else if x=13 then(a,[ans])
 else(a,[])
def rm (c:Cf) (a:Au) (inn ans:Pk) (tick:Int) (vr va vi vn vd vo:Value):Rm:=
 ⟨vr,c.mc,c.mt,c.mf,c.wt,a.st,a.id,a.req,va,a.cnt,a.tim,a.nak,inn.code,inn.id,vi,ans.code,ans.id,vn,tick,vd,vo⟩
structure NumOk (c:Cf) (a:Au) (tick:Int):Prop where
 t0:0≤tick
 t1:tick≤1099511627776
 w0:1≤c.wt
 w1:c.wt≤1048576
 m0:1≤c.mc
 m1:c.mc≤1000
 n0:1≤c.mt
 n1:c.mt≤1000
 c0:0≤a.cnt
 c1:a.cnt≤1000
 i0:0≤a.id
 i1:a.id≤255
 r0:0≤a.req
 r1:a.req≤255
 k0:0≤a.nak
 k1:a.nak≤1000
theorem NumOk.act {c:Cf} {a:Au} {tick:Int} (h:NumOk c a tick) (inn ans:Pk) (acts:List Int) (x:Int):NumOk c (actO c inn ans tick acts a x).1 tick:=by
 have hj:=nxt_in a.id
 obtain⟨t0,t1,w0,w1,m0,m1,n0,n1,c0,c1,i0,i1,r0,r1,k0,k1⟩:=h
 have hd:0≤dec a.cnt∧dec a.cnt≤1000:=by unfold dec;split<;>omega
 unfold actO
 repeat' split
 all_goals(constructor<;>(try dsimp only)<;>(try split)<;>first|assumption|omega)
theorem act_ask (c:Cf) (inn ans:Pk) (tick:Int) (acts:List Int) (a:Au) (x:Int):(actO c inn ans tick acts a x).1.ask=a.ask:=by
 unfold actO
 repeat' split
 all_goals rfl
theorem act_out (c:Cf) (inn ans:Pk) (tick:Int) (acts:List Int) (a:Au) (x:Int):(actO c inn ans tick acts a x).2.length≤1:=by
 unfold actO rejO
 repeat' split
 all_goals(first|exact Nat.le_refl _|(simp;done)|omega)
def wayF (x:Int):Nat:=if x=5 then 125 else if x=6 then 126 else if x=7 then 127 else if x=8 then 128 else if x=9 then 129 else if x=10 then 130 else if x=11 then 131 else if x=12 then 132 else if x=13 then 133 else 134
theorem way_any (x:Int) (w:World):Calls Tryz.prog 86 #[.int .i64 x] w fun e w'=>e=.returned (.func (.func (wayF x)) #[] #[])∧w=w':=by
 have hx:x=5∨x=6∨x=7∨x=8∨x=9∨x=10∨x=11∨x=12∨x=13∨(x≠5∧x≠6∧x≠7∧x≠8∧x≠9∧x≠10∧x≠11∧x≠12∧x≠13):=by omega
 rcases hx with rfl|rfl|rfl|rfl|rfl|rfl|rfl|rfl|rfl|⟨h5,h6,h7,h8,h9,h10,h11,h12,h13⟩
 iterate 9
  ·go_enter Tryz.func86,Tryz.ntmps86
   go_wp2_with fail
   go_ret
   exact⟨rfl,rfl⟩
 ·have HW:=hid (show wayF x=134 by simp[wayF,h5,h6,h7,h8,h9,h10,h11,h12,h13])
  rw[HW.out]
  have e5:(x==5)=false:=by simpa using h5
  have e6:(x==6)=false:=by simpa using h6
  have e7:(x==7)=false:=by simpa using h7
  have e8:(x==8)=false:=by simpa using h8
  have e9:(x==9)=false:=by simpa using h9
  have e10:(x==10)=false:=by simpa using h10
  have e11:(x==11)=false:=by simpa using h11
  have e12:(x==12)=false:=by simpa using h12
  have e13:(x==13)=false:=by simpa using h13
  clear h5 h6 h7 h8 h9 h10 h11 h12 h13
  go_enter Tryz.func86,Tryz.ntmps86
  go_wp2_with fail
  go_ret
  exact⟨rfl,rfl⟩
set_option maxRecDepth 100000 in
theorem act_any (b:Nat) (c:Cf) (a:Au) (inn ans:Pk) (tick:Int) (vr va vi vn vd vo:Value) (acts:List Int) (out:List Pk) (x:Int) (w:World) (h:RunI w b (rm c a inn ans tick vr va vi vn vd vo) a.ask inn.data ans.data acts out) (hlo:out.length≤999) (hla:acts.length≤1000) (hk:NumOk c a tick):
  Calls Tryz.prog 52 #[.pointer (some ⟨b,0,none⟩),.int .i64 x] w (ActP b (rm c (actO c inn ans tick acts a x).1 inn ans tick vr va vi vn vd vo) a.ask inn.data ans.data acts (out++(actO c inn ans tick acts a x).2) w):=by
 have H:=hid h
 have HK:=hid hk
 clear h hk
 have hx:x=5∨x=6∨x=7∨x=8∨x=9∨x=10∨x=11∨x=12∨x=13∨(x≠5∧x≠6∧x≠7∧x≠8∧x≠9∧x≠10∧x≠11∧x≠12∧x≠13):=by omega
 rcases hx with rfl|rfl|rfl|rfl|rfl|rfl|rfl|rfl|rfl|⟨h5,h6,h7,h8,h9,h10,h11,h12,h13⟩
 ·show Calls _ _ _ _ (ActP b {rm c a inn ans tick vr va vi vn vd vo with cnt:=if hasB acts 10=true then c.mt else c.mc} a.ask inn.data ans.data acts (out++[]) w)
  rw[List.append_nil]
  obtain⟨cn,hcn⟩: ∃cn,(if hasB acts 10=true then c.mt else c.mc)=cn:=⟨_,rfl⟩
  have HBG:=hid (show Calls Tryz.prog 125 #[.pointer (some ⟨b,0,none⟩)] w (ActP b {rm c a inn ans tick vr va vi vn vd vo with cnt:=cn} a.ask inn.data ans.data acts out w) by rw[←hcn];exact begin_any b _ _ _ _ _ _ w H.out hla)
  rw[hcn]
  clear hcn
  go_enter Tryz.func52,Tryz.ntmps52
  go_wp2_with fail
  refine(way_any 5 w).mono ?_
  rintro e w1 ⟨rfl,rfl⟩
  go_wp2_with fail
  refine(HBG.out).mono ?_
  rintro e w1 ⟨rfl,hb1,vo1,hi1⟩
  have HB1:=hid hb1
  have HI1:=hid hi1
  clear hb1 hi1
  go_wp2_with fail
  exact bodyPost_end (v:=.tuple #[]) (by simp[results,Tryz.results52,go_sem]) rfl ⟨rfl,HB1.out,vo1,HI1.out⟩
 ·show Calls _ _ _ _ (ActP b {rm c a inn ans tick vr va vi vn vd vo with cnt:=0,tim:=tick+c.wt} a.ask inn.data ans.data acts (out++[]) w)
  rw[List.append_nil]
  go_enter Tryz.func52,Tryz.ntmps52
  go_wp2_with fail
  refine(way_any 6 w).mono ?_
  rintro e w1 ⟨rfl,rfl⟩
  go_wp2_with fail
  refine((zero_any b _ w H.out.run HK.out.t0 HK.out.t1 HK.out.w0 HK.out.w1).mono (fun _ _ hq=>NumP.act hq H.out rfl rfl rfl rfl rfl)).mono ?_
  rintro e w1 ⟨rfl,hb1,vo1,hi1⟩
  have HB1:=hid hb1
  have HI1:=hid hi1
  clear hb1 hi1
  go_wp2_with fail
  exact bodyPost_end (v:=.tuple #[]) (by simp[results,Tryz.results52,go_sem]) rfl ⟨rfl,HB1.out,vo1,HI1.out⟩
 ·go_enter Tryz.func52,Tryz.ntmps52
  go_wp2_with fail
  refine(way_any 7 w).mono ?_
  rintro e w1 ⟨rfl,rfl⟩
  go_wp2_with fail
  refine(ask_any b _ _ _ _ _ _ w H.out hlo HK.out.t0 HK.out.t1 HK.out.w0 HK.out.w1 HK.out.c0 HK.out.c1 HK.out.i0 HK.out.i1).mono ?_
  rintro e w1 ⟨rfl,hb1,vo1,hi1⟩
  have HB1:=hid hb1
  have HI1:=hid hi1
  clear hb1 hi1
  go_wp2_with fail
  exact bodyPost_end (v:=.tuple #[]) (by simp[results,Tryz.results52,go_sem]) rfl ⟨rfl,HB1.out,vo1,HI1.out⟩
 ·go_enter Tryz.func52,Tryz.ntmps52
  go_wp2_with fail
  refine(way_any 8 w).mono ?_
  rintro e w1 ⟨rfl,rfl⟩
  go_wp2_with fail
  refine(ack_any b _ _ _ _ _ _ w H.out hlo).mono ?_
  rintro e w1 ⟨rfl,hb1,vo1,hi1⟩
  have HB1:=hid hb1
  have HI1:=hid hi1
  clear hb1 hi1
  go_wp2_with fail
  exact bodyPost_end (v:=.tuple #[]) (by simp[results,Tryz.results52,go_sem]) rfl ⟨rfl,HB1.out,vo1,HI1.out⟩
 ·go_enter Tryz.func52,Tryz.ntmps52
  go_wp2_with fail
  refine(way_any 9 w).mono ?_
  rintro e w1 ⟨rfl,rfl⟩
  go_wp2_with fail
  refine(nak_any b _ _ _ _ _ _ w H.out hlo HK.out.k0 HK.out.k1).mono ?_
  rintro e w1 ⟨rfl,hb1,vo1,hi1⟩
  have HB1:=hid hb1
  have HI1:=hid hi1
  clear hb1 hi1
  go_wp2_with fail
  exact bodyPost_end (v:=.tuple #[]) (by simp[results,Tryz.results52,go_sem]) rfl ⟨rfl,HB1.out,vo1,HI1.out⟩
 ·go_enter Tryz.func52,Tryz.ntmps52
  go_wp2_with fail
  refine(way_any 10 w).mono ?_
  rintro e w1 ⟨rfl,rfl⟩
  go_wp2_with fail
  refine(end_any b _ _ _ _ _ _ w H.out hlo HK.out.t0 HK.out.t1 HK.out.w0 HK.out.w1 HK.out.c0 HK.out.c1 HK.out.i0 HK.out.i1).mono ?_
  rintro e w1 ⟨rfl,hb1,vo1,hi1⟩
  have HB1:=hid hb1
  have HI1:=hid hi1
  clear hb1 hi1
  go_wp2_with fail
  exact bodyPost_end (v:=.tuple #[]) (by simp[results,Tryz.results52,go_sem]) rfl ⟨rfl,HB1.out,vo1,HI1.out⟩
 ·go_enter Tryz.func52,Tryz.ntmps52
  go_wp2_with fail
  refine(way_any 11 w).mono ?_
  rintro e w1 ⟨rfl,rfl⟩
  go_wp2_with fail
  refine(ended_any b _ _ _ _ _ _ w H.out hlo).mono ?_
  rintro e w1 ⟨rfl,hb1,vo1,hi1⟩
  have HB1:=hid hb1
  have HI1:=hid hi1
  clear hb1 hi1
  go_wp2_with fail
  exact bodyPost_end (v:=.tuple #[]) (by simp[results,Tryz.results52,go_sem]) rfl ⟨rfl,HB1.out,vo1,HI1.out⟩
 ·go_enter Tryz.func52,Tryz.ntmps52
  go_wp2_with fail
  refine(way_any 12 w).mono ?_
  rintro e w1 ⟨rfl,rfl⟩
  go_wp2_with fail
  refine(strange_any b _ _ _ _ _ _ w H.out hlo HK.out.i0 HK.out.i1).mono ?_
  rintro e w1 ⟨rfl,hb1,vo1,hi1⟩
  have HB1:=hid hb1
  have HI1:=hid hi1
  clear hb1 hi1
  go_wp2_with fail
  exact bodyPost_end (v:=.tuple #[]) (by simp[results,Tryz.results52,go_sem]) rfl ⟨rfl,HB1.out,vo1,HI1.out⟩
 ·go_enter Tryz.func52,Tryz.ntmps52
  go_wp2_with fail
  refine(way_any 13 w).mono ?_
  rintro e w1 ⟨rfl,rfl⟩
  go_wp2_with fail
  refine(echo_any b _ _ _ _ _ _ w H.out hlo).mono ?_
  rintro e w1 ⟨rfl,hb1,vo1,hi1⟩
  have HB1:=hid hb1
  have HI1:=hid hi1
  clear hb1 hi1
  go_wp2_with fail
  exact bodyPost_end (v:=.tuple #[]) (by simp[results,Tryz.results52,go_sem]) rfl ⟨rfl,HB1.out,vo1,HI1.out⟩
 ·have HW:=hid (show wayF x=134 by simp[wayF,h5,h6,h7,h8,h9,h10,h11,h12,h13])
  have HO:=hid (show actO c inn ans tick acts a x=(a,[]) by simp[actO,h5,h6,h7,h8,h9,h10,h11,h12,h13])
  rw[HO.out]
  dsimp only
  rw[List.append_nil]
  clear h5 h6 h7 h8 h9 h10 h11 h12 h13
  go_enter Tryz.func52,Tryz.ntmps52
  go_wp2_with fail
  refine(way_any x w).mono ?_
  rw[HW.out]
  rintro e w1 ⟨rfl,rfl⟩
  go_wp2_with fail
  refine((nothing_any b _ w H.out.run).mono (fun _ _ hq=>NumP.act hq H.out rfl rfl rfl rfl rfl)).mono ?_
  rintro e w1 ⟨rfl,hb1,vo1,hi1⟩
  have HB1:=hid hb1
  have HI1:=hid hi1
  clear hb1 hi1
  go_wp2_with fail
  exact bodyPost_end (v:=.tuple #[]) (by simp[results,Tryz.results52,go_sem]) rfl ⟨rfl,HB1.out,vo1,HI1.out⟩
end Go.Proofs.YtfkgmbknfnhjoaaGreat
