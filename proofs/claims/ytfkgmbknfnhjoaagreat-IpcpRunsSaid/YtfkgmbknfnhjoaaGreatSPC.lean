/- PC -/
import Derived.Test.YtfkgmbknfnhjoaaGreatSPA
import Derived.Test.YtfkgmbknfnhjoaaGreatSC
import Derived.Deep.RegionLaw
set_option linter.all false
set_option linter.ambiguousOpen false
set_option maxHeartbeats 2000000
namespace Go.Proofs.YtfkgmbknfnhjoaaGreat
open Lib (hid)
open Go.RowKit
open Ne (Rl bF aD bM)
structure Pe where
 code:Int
 id:Int
 d:List UInt8
 a:Option Addr
 c:Nat
def Pe.v (e:Pe):Value:=.slice e.a e.d.length e.c
def Pe.o (e:Pe):Pk:=⟨e.code,e.id,e.d⟩
def eX (P:List Pe):List Value:=P.flatMap fun e=>[.int .i64 e.code,.int .i64 e.id,e.v]
def dM (W:World) (base:Nat) (v:Value) (P:List Pe):Prop:=
 W.ownsRow base 32 3 v P.length (eX P)∧ ∀e∈P,W.ownsRow base 5 1 e.v e.d.length (e.d.map bv)
def mW (W:World) (B:Nat) (A:Option Addr) (P:List Pe):Prop:=
 At W B A (eX P)∧ ∀e∈P,At W B e.a (e.d.map bv)∧e.d.length≤e.c
theorem kV:(Tryz.prog.info? 32).map (fun i=>(i.zero,i.size,i.bytes))=some (some (.agg #[.int .i64 0,.int .i64 0,.slice none 0 0]),3,40):=by kernel_rfl
theorem Co (P:List Pe):(eX P).length=3*P.length:=by
 induction P with
 |nil=>rfl
 |cons e E ih=>simp only[eX,List.flatMap_cons,List.length_append,List.length_cons,List.length_nil] at*;omega
theorem rZ (P:List Pe) (e:Pe):eX (P++[e])=eX P++[.int .i64 e.code,.int .i64 e.id,e.v]:=by simp[eX]
theorem uF: ∀(P:List Pe) (k:Nat) (hk:k<P.length),(eX P)[3*k]? =some (.int .i64 P[k].code)∧(eX P)[3*k+1]? =some (.int .i64 P[k].id)∧(eX P)[3*k+2]? =some P[k].v
 |e::E,0,_=>⟨rfl,rfl,rfl⟩
 |e::E,k+1,hk=>by
  have:=uF E k (by simpa using hk)
  have e1:eX (e::E)=.int .i64 e.code:: .int .i64 e.id::e.v::eX E:=rfl
  rw[e1]
  have h2:3*(k+1)=3*k+1+1+1:=by omega
  rw[h2]
  simpa using this
theorem mW.keep {W W':World} {B:Nat} {A:Option Addr} {P:List Pe} (h:mW W B A P) (hb:Below B W W'):mW W' B A P:=
 ⟨h.1.keep hb,fun e he=>⟨(h.2 e he).1.keep hb,(h.2 e he).2⟩⟩
theorem mW.more {W:World} {B B':Nat} {A:Option Addr} {P:List Pe} (h:mW W B A P) (hB:B≤B'):mW W B' A P:=
 ⟨h.1.more hB,fun e he=>⟨(h.2 e he).1.more hB,(h.2 e he).2⟩⟩
theorem dM.at {W:World} {base:Nat} {A:Option Addr} {n c:Nat} {P:List Pe} (h:dM W base (.slice A n c) P):mW W W.heap.size A P:=by
 refine⟨?_,fun e he=>?_⟩
 ·have:=h.1
  obtain⟨A',c',hv,-,-⟩:=ownsRow_form this
  cases hv
  exact At.bq this
 ·have:=h.2 e he
  obtain⟨A',c',hv,hc,-⟩:=ownsRow_form this
  cases hv
  exact⟨At.bq this,hc⟩
theorem mW.get {W:World} {B:Nat} {A:Option Addr} {P:List Pe} (h:mW W B A P) {k:Nat} (hk:k<P.length):
  ∃b o,A=some ⟨b,o,none⟩∧b<B∧W.cell? ⟨b,o+k*3,none⟩=some (.int .i64 P[k].code)∧W.cell? ⟨b,o+k*3+1,none⟩=some (.int .i64 P[k].id)∧W.cell? ⟨b,o+k*3+2,none⟩=some P[k].v:=by
 obtain⟨b,o,hA,hB,hc⟩:=h.1.get (by rw[Co];omega)
 obtain⟨h0,h1,h2⟩:=uF P k hk
 exact⟨b,o,hA,hB,by have:=hc _ _ h0;rwa [show o+3*k=o+k*3 by omega] at this,by have:=hc _ _ h1;rwa [show o+(3*k+1)=o+k*3+1 by omega] at this,by have:=hc _ _ h2;rwa [show o+(3*k+2)=o+k*3+2 by omega] at this⟩
theorem dM.below {A C:World} {base:Nat} {v:Value} {P:List Pe} (h:dM A base v P) (hb:Below A.heap.size A C):dM C base v P:=
 ⟨own_below h.1 hb,fun x hx=>own_below (h.2 x hx) hb⟩
theorem dM.base {A:World} {b b':Nat} {v:Value} {P:List Pe} (h:dM A b v P) (hb:b'≤b):dM A b' v P:=
 ⟨aK h.1 hb,fun x hx=>aK (h.2 x hx) hb⟩
theorem dM.nil (A:World) (b:Nat):dM A b (.slice none 0 0) []:=⟨aN _ _ _ _,fun _ h=>by cases h⟩
theorem dM.stays {A C:World} {base:Nat} {v:Value} {P:List Pe} {row:Option Nat} (h:dM A base v P) (hg:A.grownBy C row) (hr: ∀r,row=some r→r<base):dM C base v P:=
 ⟨aW h.1 hg fun r e=>.inl (hr r e),fun x hx=>aW (h.2 x hx) hg fun r e=>.inl (hr r e)⟩
theorem dM.pushed {W W2:World} {base:Nat} {v v3:Value} {P:List Pe} {co id:Int} {A2:Option Addr} {dd:List UInt8} {c2:Nat} (h:dM W base v P)
  (h2:W.ownsRow base 5 1 (.slice A2 dd.length c2) dd.length (dd.map bv)) (h3:W2.ownsRow base 32 3 v3 (P.length+1) (eX P++[.int .i64 co,.int .i64 id,.slice A2 dd.length c2]))
  (hg:W.grownBy W2 v.ownBlock):dM W2 base v3 (P++[⟨co,id,dd,A2,c2⟩]):=by
 have hr: ∀r,v.ownBlock=some r→r<base∨(∃o:Obj,W.heap[r]? =some o∧o.isCells=false)∨(∃cur e',W.heap[r]? =some (.cells cur e' (0,0))∧e'≠5):=fun r e=>by
  obtain⟨cur,hc⟩:=bL h.1 e
  exact .inr (.inr ⟨cur,32,hc,by decide⟩)
 refine⟨by rw[rZ];simpa[Pe.v] using h3,fun e he=>?_⟩
 rcases List.mem_append.1 he with he|he
 ·exact aW (h.2 e he) hg hr
 ·simp only[List.mem_singleton] at he
  subst he
  exact aW h2 hg hr
structure Rm where
 vr:Value
 mc:Int
 mt:Int
 mf:Int
 wt:Int
 st:Int
 id:Int
 req:Int
 va:Value
 cnt:Int
 ay:Int
 au:Int
 ic:Int
 ii:Int
 vi:Value
 ac:Int
 ai:Int
 vn:Value
 tick:Int
 vd:Value
 vo:Value
def Rm.cs (s:Rm):Array Value:=#[s.vr,.int .i64 s.mc,.int .i64 s.mt,.int .i64 s.mf,.int .i64 s.wt,.int .i64 s.st,.int .i64 s.id,.int .i64 s.req,s.va,.int .i64 s.cnt,.int .i64 s.ay,.int .i64 s.au,.int .i64 s.ic,.int .i64 s.ii,s.vi,.int .i64 s.ac,.int .i64 s.ai,s.vn,.int .i64 s.tick,s.vd,s.vo]
def dH (W:World) (b:Nat) (s:Rm):Prop:=W.heap[b]? =some (.cells s.cs 102 (0,0))
section
variable {W W':World} {b:Nat} {s:Rm}
theorem dH.lt (h:dH W b s):b<W.heap.size:=by have h2:=h;unfold dH at h2;rw[Array.getElem?_eq_some_iff] at h2;exact h2.1
theorem dH.cell (h:dH W b s) (i:Nat) {v:Value} (hv:s.cs[i]? =some v):W.cell? ⟨b,i,none⟩=some v:=(cell_of_row W b i _ _ _ h).trans hv
theorem dH.free (h:dH W b s) (i:Nat):W.frozen? ⟨b,i,none⟩=false:=frozen_of_row W b i _ _ h
theorem dH.keep (h:dH W b s) (hb:Below W.heap.size W W'):dH W' b s:=(hb.block b h.lt).trans h
theorem dH.apart (h:dH W b s) {row:Option Nat} (hg:W.grownBy W' row) (hr:row≠some b):dH W' b s:=(hg.block b h.lt (fun e=>hr e.symm)).trans h
theorem dH.id (h:dH W b s) (x:Int):dH (W.setCell ⟨b,6,none⟩ (.int .i64 x)) b {s with id:=x}:=heap_setCell_same W b 6 _ _ _ h
theorem dH.req (h:dH W b s) (x:Int):dH (W.setCell ⟨b,7,none⟩ (.int .i64 x)) b {s with req:=x}:=heap_setCell_same W b 7 _ _ _ h
theorem dH.cnt (h:dH W b s) (x:Int):dH (W.setCell ⟨b,9,none⟩ (.int .i64 x)) b {s with cnt:=x}:=heap_setCell_same W b 9 _ _ _ h
theorem dH.ay (h:dH W b s) (x:Int):dH (W.setCell ⟨b,10,none⟩ (.int .i64 x)) b {s with ay:=x}:=heap_setCell_same W b 10 _ _ _ h
theorem dH.au (h:dH W b s) (x:Int):dH (W.setCell ⟨b,11,none⟩ (.int .i64 x)) b {s with au:=x}:=heap_setCell_same W b 11 _ _ _ h
theorem dH.out (h:dH W b s) (v:Value):dH (W.setCell ⟨b,20,none⟩ v) b {s with vo:=v}:=heap_setCell_same W b 20 _ _ _ h
end
theorem bV (w:World) (b i:Nat) (v:Value):w.grownBy (w.setCell ⟨b,i,none⟩ v) (some b):=
 ⟨rfl,rfl,rfl,by simp,fun k hk hne=>heap_setCell_other _ _ _ _ (by simpa using hne)⟩
section
variable {w w':World} {r:Option Nat} {b:Nat}
theorem Ak (h:w.grownBy w' r) (n:Nat):w.grownBy (w'.drewN n) r:=⟨h.os,h.tape,h.output,h.size,h.block⟩
theorem uQ (h:w.grownBy w' r):w.grownBy w'.drew r:=⟨h.os,h.tape,h.output,h.size,h.block⟩
theorem aM (h:w.grownBy w' (some b)) (i:Nat) (v:Value):w.grownBy (w'.setCell ⟨b,i,none⟩ v) (some b):=h.trans (bV _ _ _ _)
theorem Cv (h:w.grownBy w' r) (p:Addr) (hp:w.heap.size≤p.block) (v:Value):w.grownBy (w'.setCell p v) r:=
 ⟨h.os,h.tape,h.output,by rw[World.size_setCell];exact h.size,fun k hk hne=>(heap_setCell_other _ _ _ _ (by omega)).trans (h.block k hk hne)⟩
theorem EX (h:w.grownBy w' r) (xs:List Obj) (d:Nat):w.grownBy (ext w' xs d) r:=
 ⟨h.os,h.tape,h.output,by have:=h.size;simp[size_ext,grow];omega,fun k hk hne=>(gQ w' xs d k (by have:=h.size;omega)).trans (h.block k hk hne)⟩
theorem Aj (h:w.grownBy w' r) (o:Obj):w.grownBy (w'.alloc o) r:=
 ⟨h.os,h.tape,h.output,by have:=h.size;simp;omega,fun k hk hne=>(Below.heap_alloc w' o k (by have:=h.size;omega)).trans (h.block k hk hne)⟩
theorem grn {w W:World} {r:Option Nat} (h:w.grownBy W r:=by(repeat(first|with_reducible exact World.grownBy.refl _ _|with_reducible assumption|with_reducible refine uQ ?_|with_reducible refine Ak ?_ _|with_reducible refine aM ?_ _ _|with_reducible refine EX ?_ _ _|with_reducible refine Aj ?_ _|(with_reducible refine Cv ?_ _ (by first|(simp[size_ext,grow];done)|(simp[size_ext,grow];omega)|omega) _)))):w.grownBy W r:=h
end
section
variable {P:Program} {ops:Array Oper} {rest:List Oper} {o:Oper} {a:Act} {K:Act→World→Prop} {Q:Exit→Act→World→Prop} {w:World}
theorem Ei (base:Nat) (s x:Operand) (t:TypeId)
  (ho:o.op=.call {callee:=.builtin .append,args:=#[s,x],argTypes:=#[t,t]})
  (e:TypeId) (ht:P.underlying t=some (.slice e)) (z:Value) (size bytes:Nat) (hinfo:(P.info? e).map (fun i=>(i.zero,i.size,i.bytes))=some (some z,size,bytes)) (hzs:z.cells.size=size) (hsz:0<size) (hby:bytes≤256)
  (v:Value) (n:Nat) (xs:List Value) (hs:a.eval s=v) (hown:w.ownsRow base e size v n xs)
  (B:Nat) (A:Option Addr) (m c:Nat) (news:List Value) (hx:a.eval x=.slice A m c) (hl:news.length=m*size) (hm:n+m≤500000000) (hr:At w B A news) (h1: ∀u∈news,u.oneCell'=true) (hb:base≤w.heap.size)
  (h: ∀A' c' w',w'.ownsRow base e size (.slice A' (n+m) c') (n+m) (xs++news)→n+m≤c'→w.grownBy w' v.ownBlock→K (a.put o.dst (.slice A' (n+m) c')) w'):o.wp P a w K Q:=by
 obtain⟨i0,hi,hz0,hz1,hz2⟩:=info_parts hinfo
 obtain⟨v',w',hrun,h2,h3,h4⟩:=tO (P:=P) base t o.type e i0 z size bytes ht hi hz0 hz1 hz2 hzs hsz _ n xs hown B A m c news hl hr h1 (by unfold maxLen;omega)
  (by have:(n+m)*bytes≤500000000*256:=Nat.mul_le_mul hm hby;omega) hb
 obtain⟨A',c',rfl,hc',-⟩:=ownsRow_form h2
 unfold Oper.wp execOp
 simp only[ho,resolve,invoke,builtin,Sem.run_bind,Sem.run_pure,Result.andThen_ok,List.map_toArray,List.map_cons,List.map_nil,hs,hx,hrun]
 exact h A' c' w' h2 hc' h3
theorem iy (base:Nat) (hgd:o.guard=none) (s x:Operand) (t:TypeId)
  (ho:o.op=.call {callee:=.builtin .append,args:=#[s,x],argTypes:=#[t,t]})
  (e:TypeId) (ht:P.underlying t=some (.slice e)) (z:Value) (size bytes:Nat) (hinfo:(P.info? e).map (fun i=>(i.zero,i.size,i.bytes))=some (some z,size,bytes)) (hzs:z.cells.size=size) (hsz:0<size) (hby:bytes≤256)
  (v:Value) (n:Nat) (xs:List Value) (hs:a.eval s=v) (hown:w.ownsRow base e size v n xs)
  (B:Nat) (A:Option Addr) (m c:Nat) (news:List Value) (hx:a.eval x=.slice A m c) (hl:news.length=m*size) (hm:n+m≤500000000) (hr:At w B A news) (h1: ∀u∈news,u.oneCell'=true) (hb:base≤w.heap.size)
  (h: ∀A' c' w',w'.ownsRow base e size (.slice A' (n+m) c') (n+m) (xs++news)→n+m≤c'→w.grownBy w' v.ownBlock→wpList P ops Q rest (a.put o.dst (.slice A' (n+m) c')) w'):
  wpList P ops Q (o::rest) a w:=
 wpList_plain hgd fun K hK=>Ei base s x t ho e ht z size bytes hinfo hzs hsz hby v n xs hs hown B A m c news hx hl hm hr h1 hb fun A' c' w' h1 h2 h3=>hK _ _ (h A' c' w' h1 h2 h3)
theorem Ga {E:Prop} (base:Nat) (hgd:o.guard=none) (s x:Operand) (t:TypeId)
  (ho:o.op=.call {callee:=.builtin .append,args:=#[s,x],argTypes:=#[t,t]})
  (e:TypeId) (ht:P.underlying t=some (.slice e)) (z:Value) (size bytes:Nat) (hinfo:(P.info? e).map (fun i=>(i.zero,i.size,i.bytes))=some (some z,size,bytes)) (hzs:z.cells.size=size) (hsz:0<size) (hby:bytes≤256)
  (v:Value) (n:Nat) (xs:List Value) (hs:a.eval s=v) (hown:w.ownsRow base e size v n xs)
  (B:Nat) (A:Option Addr) (m c:Nat) (news:List Value) (hx:a.eval x=.slice A m c) (hl:news.length=m*size) (hm:n+m≤500000000) (hr:At w B A news) (h1: ∀u∈news,u.oneCell'=true) (hb:base≤w.heap.size)
  (h: ∀A' c' w',w'.ownsRow base e size (.slice A' (n+m) c') (n+m) (xs++news)→n+m≤c'→w.grownBy w' v.ownBlock→K (a.put o.dst (.slice A' (n+m) c')) w'):
  if Region.wanted o (yielded ops a.tmps)=true then Oper.wp P o a w K Q else E:=by
 rw[if_pos (by simp[Region.wanted,hgd])]
 exact Ei base s x t ho e ht z size bytes hinfo hzs hsz hby v n xs hs hown B A m c news hx hl hm hr h1 hb h
end
def uq (b:Nat) (s':Rm) (v:Value) (w:World) (x:Ending) (w':World):Prop:=x=.returned v∧dH w' b s'∧w.grownBy w' (some b)
theorem AO (b:Nat) (s:Rm) (w:World) (h:dH w b s):Calls Tryz.prog 134 #[.pointer (some ⟨b,0,none⟩)] w (uq b s (.tuple #[]) w):=by
 go_enter Tryz.func134,Tryz.ntmps134
 go_wp2
 exact bodyPost_ret (v:=.tuple #[]) (by simp[results,Tryz.results134,go_sem]) rfl ⟨rfl,h,World.grownBy.refl _ _⟩
theorem AJ (b:Nat) (s:Rm) (w:World) (h:dH w b s) (h0:0≤s.id) (h1:s.id≤255):
  Calls Tryz.prog 158 #[.pointer (some ⟨b,0,none⟩)] w fun x w'=>x=.returned (.int .i64 ((s.id+1)%256))∧w'=w.setCell ⟨b,6,none⟩ (.int .i64 ((s.id+1)%256)):=by
 obtain⟨vr,mc,mt,mf,wt,st,id,req,va,cnt,ay,au,ic,ii,vi,ac,ai,vn,tick,vd,vo⟩:=s
 dsimp only at*
 have H:=hid h
 have hb:=h.lt
 have c6:=h.cell 6 (v:=.int .i64 id) rfl
 have f6:=h.free 6
 have e1:Int.tmod (id+1) 256=(id+1)%256:=Int.tmod_eq_emod_of_nonneg (by omega)
 have e2:0≤(id+1)%256:=by omega
 have e3:(id+1)%256<256:=by omega
 clear h
 go_enter Tryz.func158,Tryz.ntmps158
 go_wp2
 go_ret
 exact⟨rfl,rfl⟩
theorem IW (b:Nat) (s:Rm) (w:World) (h:dH w b s) (h0:0≤s.id) (h1:s.id≤255):
  Calls Tryz.prog 158 #[.pointer (some ⟨b,0,none⟩)] w (uq b {s with id:=(s.id+1)%256} (.int .i64 ((s.id+1)%256)) w):=
 (AJ b s w h h0 h1).mono fun x w' hx=>by obtain⟨rfl,rfl⟩:=hx;exact⟨rfl,h.id _,bV _ _ _ _⟩
theorem JZ (b:Nat) (s:Rm) (w:World) (h:dH w b s) (h0:0≤s.tick) (h1:s.tick≤1099511627776) (h2:1≤s.wt) (h3:s.wt≤1048576):
  Calls Tryz.prog 126 #[.pointer (some ⟨b,0,none⟩)] w (uq b {s with cnt:=0,ay:=s.tick+s.wt} (.tuple #[]) w):=by
 obtain⟨vr,mc,mt,mf,wt,st,id,req,va,cnt,ay,au,ic,ii,vi,ac,ai,vn,tick,vd,vo⟩:=s
 dsimp only at*
 have H:=hid h
 have hb:=h.lt
 have c4:=h.cell 4 (v:=.int .i64 wt) rfl
 have c9:=h.cell 9 (v:=.int .i64 cnt) rfl
 have c10:=h.cell 10 (v:=.int .i64 ay) rfl
 have c18:=h.cell 18 (v:=.int .i64 tick) rfl
 have f9:=h.free 9
 have f10:=h.free 10
 have e1:IntKind.i64.wrap (tick+wt)=tick+wt:=IntWalk.i64_in _ (by omega)
 clear h
 go_enter Tryz.func126,Tryz.ntmps126
 go_wp2
 go_region_held3 (fun w'=>w'.cell? ⟨b,18,none⟩=some (.int .i64 tick)∧w'.cell? ⟨b,4,none⟩=some (.int .i64 wt)) (first|(go_keep;done)|(go_simp;done)|(simp[go_sem];done)) (fail)
 all_goals
  refine bodyPost_ret (v:=.tuple #[]) (by simp[results,Tryz.results126,go_sem]) rfl ⟨rfl,?_,?_⟩
  ·exact(H.out.cnt _).ay _
  ·exact grn
theorem kC (b:Nat) (s:Rm) (w:World) (h:dH w b s) (h0:0≤s.tick) (h1:s.tick≤1099511627776) (h2:1≤s.wt) (h3:s.wt≤1048576) (h4:0≤s.cnt) (h5:s.cnt≤1000):
  Calls Tryz.prog 160 #[.pointer (some ⟨b,0,none⟩)] w (uq b {s with cnt:=if 0<s.cnt then s.cnt-1 else s.cnt,ay:=s.tick+s.wt} (.tuple #[]) w):=by
 obtain⟨vr,mc,mt,mf,wt,st,id,req,va,cnt,ay,au,ic,ii,vi,ac,ai,vn,tick,vd,vo⟩:=s
 dsimp only at*
 have H:=hid h
 have hb:=h.lt
 have c4:=h.cell 4 (v:=.int .i64 wt) rfl
 have c9:=h.cell 9 (v:=.int .i64 cnt) rfl
 have c10:=h.cell 10 (v:=.int .i64 ay) rfl
 have c18:=h.cell 18 (v:=.int .i64 tick) rfl
 have f9:=h.free 9
 have f10:=h.free 10
 have e1:IntKind.i64.wrap (tick+wt)=tick+wt:=IntWalk.i64_in _ (by omega)
 clear h
 by_cases hc:0<cnt
 focus
  rw[if_pos hc]
 rotate_left
 focus
  obtain rfl:cnt=0:=by omega
  rw[if_neg hc]
 rotate_left
 all_goals
  go_enter Tryz.func160,Tryz.ntmps160
  go_wp2
  go_region_held3 (fun w'=>w'.cell? ⟨b,18,none⟩=some (.int .i64 tick)∧w'.cell? ⟨b,4,none⟩=some (.int .i64 wt)) (first|(go_keep;done)|(go_simp;done)|(simp[go_sem];done)) (fail)
  all_goals
   refine bodyPost_ret (v:=.tuple #[]) (by simp[results,Tryz.results160,go_sem]) rfl ⟨rfl,?_,?_⟩
   ·exact(H.out.cnt _).ay _
   ·exact grn
def Wd (co id:Int) (n:Nat) (l:List UInt8) (w:World) (x:Ending) (w':World):Prop:=
 ∃(A:Option Addr) (c:Nat),x=.returned (.agg #[.int .i64 co,.int .i64 id,.slice A n c])∧Below w.heap.size w w'∧n≤c∧w'.ownsRow w.heap.size 5 1 (.slice A n c) n (l.map bv)
theorem I5 (co id:Int) (A:Option Addr) (n c:Nat) (l:List UInt8) (w:World) (B:Nat) (hB:B≤w.heap.size) (hA:At w B A (l.map bv)) (hn:n=l.length) (hl:n≤400000000) (hc:n≤c):
  Calls Tryz.prog 171 #[.agg #[.int .i64 co,.int .i64 id,.slice A n c]] w (Wd co id n l w):=by
 have HA:=hid hA
 have HN:=hid hn
 have HB:=hid hB
 clear hA hn hB
 go_enter Tryz.func171,Tryz.ntmps171
 go_wp2_with fail
 refine(Ne.jD A n c l _ B (by have:=HB.out;simp;omega) (by exact HA.out.keep (by have:=HB.out;exact aA)) HN.out hl hc).mono ?_
 rintro e w1 ⟨v,rfl,hb,ho⟩
 obtain⟨A2,c2,rfl,hc2,-⟩:=ownsRow_form ho
 obtain⟨xs,dr,rfl⟩:=aB hb
 have HO:=hid ho
 have xR:=hid hc2
 clear hb ho hc2
 go_wp2_with fail
 refine bodyPost_ret (v:=.agg #[.int .i64 co,.int .i64 id,.slice A2 n c2]) (by simp[results,Tryz.results171,go_sem]) rfl ⟨A2,c2,rfl,by exact aA,xR.out,?_⟩
 exact aK (dI HO.out (by simp) (by simp)) (by simp;omega)
theorem Cu (args:Array Value) (w:World):(callFunc 171 args).run Tryz.prog w=.ok (.enter 171 args) w:=by kernel_rfl
set_option maxRecDepth 100000 in
theorem JF (b:Nat) (s:Rm) (P:List Pe) (co id':Int) (A:Option Addr) (n c:Nat) (l:List UInt8) (w:World) (h:dH w b s) (hp:dM w (b+1) s.vo P) (hA:At w w.heap.size A (l.map bv)) (hn:n=l.length) (hl:n≤400000000) (hc:n≤c) (hP:P.length≤1000):
  Calls Tryz.prog 159 #[.pointer (some ⟨b,0,none⟩),.agg #[.int .i64 co,.int .i64 id',.slice A n c]] w fun x w'=>x=.returned (.tuple #[])∧ ∃vo P',dH w' b {s with vo:=vo}∧dM w' (b+1) vo P'∧P'.map Pe.o=P.map Pe.o++[⟨co,id',l⟩]∧Below b w w':=by
 obtain⟨vr,mc,mt,mf,wt,st,id,req,va,cnt,ay,au,ic,ii,vi,ac,ai,vn,tick,vd,vo⟩:=s
 dsimp only at*
 obtain⟨Ao,fq,Zz,-,-⟩:=ownsRow_form hp.1
 subst Zz
 obtain⟨pn,hpn⟩: ∃pn,P.length=pn:=⟨_,rfl⟩
 rw[hpn] at hP hp h
 have qo:=hid hpn
 have H:=hid h
 have HP:=hid hp
 have HA:=hid hA
 have HN:=hid hn
 have hb:=h.lt
 have c20:=h.cell 20 (v:=.slice Ao pn fq) rfl
 have f20:=h.free 20
 clear h hp hA hn hpn
 go_enter Tryz.func159,Tryz.ntmps159
 go_wp2_with fail
 obtain⟨wz,hwz⟩: ∃wz,wz=w.alloc (.cells #[.int .i64 co,.int .i64 id',.slice A n c] 32):=⟨_,rfl⟩
 rw[←hwz]
 obtain⟨T,hT⟩: ∃T,T=w.heap.size:=⟨_,rfl⟩
 rw[←hT]
 have KN:=hid (show wz.heap[T]? =some (.cells #[.int .i64 co,.int .i64 id',.slice A n c] 32 (0,0)) by rw[hwz,hT];exact heap_alloc_new w _)
 have Iq:T<wz.heap.size:=by rw[hwz,hT];simp
 have O7:=hid Iq
 have z0:wz.cell? ⟨T,0,none⟩=some (.int .i64 co):=(cell_of_row _ _ 0 _ _ (0,0) KN.out).trans rfl
 have z1:wz.cell? ⟨T,1,none⟩=some (.int .i64 id'):=(cell_of_row _ _ 1 _ _ (0,0) KN.out).trans rfl
 have z2:wz.cell? ⟨T,2,none⟩=some (.slice A n c):=(cell_of_row _ _ 2 _ _ (0,0) KN.out).trans rfl
 have zH:=hid (show Below w.heap.size w wz by rw[hwz];exact(Below.refl _ _).alloc (aaE _) _)
 have hszz:=zH.out.size
 have HZ:=hid (H.out.keep zH.out)
 have XC:=hid (show dM wz (b+1) (.slice Ao pn fq) P from HP.out.below zH.out)
 have hbz:b<wz.heap.size:=HZ.out.lt
 have z20:=HZ.out.cell 20 (v:=.slice Ao pn fq) rfl
 have zf:=HZ.out.free 20
 have XE:=hid (show∀g,(Value.slice Ao pn fq).ownBlock=some g→g<T from fun g e=>by rw[hT];exact eY HP.out.1 e)
 clear hwz hT c20 f20
 go_region_law (first|(refine mJ rfl 171 (.tmp 9) #[32] rfl Cu (.agg #[.int .i64 co,.int .i64 id',.slice A n c]) rfl ?_;go_must (refine(I5 co id' A n c l _ w.heap.size (by first|omega|(simp;omega)) (by exact HA.out.keep (by have:=zH.out;exact aA)) HN.out hl hc).mono ?_);rintro e w2 ⟨A3,c3,rfl,hb,hc3,ho⟩;obtain⟨xs2,Y2,rfl⟩:=aB hb;have j_:=hid ho;clear hb ho hc3;refine⟨_,rfl,?_⟩)|(refine Ga (b+1) rfl (.tmp 8) (.tmp 11) 43 rfl 32 Tryz.underlying43 (.agg #[.int .i64 0,.int .i64 0,.slice none 0 0]) 3 40 kV rfl (by decide) (by decide) (.slice Ao pn fq) pn (eX P) rfl (by have h:=XC.out.1;rw[qo.out] at h;exact own_below h (by exact aA)) (grow wz.heap.size xs2+1) (some ⟨grow wz.heap.size xs2,0,none⟩) 1 1 [.int .i64 co,.int .i64 id',.slice A3 n c3] rfl rfl (by omega) (by exact At.gW _ _ _ _ _ (by simp[size_ext]) rfl) (by intro u hu;simp at hu;rcases hu with rfl|rfl|rfl<;>rfl) (by simp[size_ext,grow];omega) ?_;intro A4 c4 w3 ho3 hc3 hg3;have gZ:=hid ho3;have sQ:=hid hg3;have HR3:=hid (dH.apart (HZ.out.keep (by exact aA)) hg3 (fun e=>by have:=eu XC.out.1 e;omega));have q20:=HR3.out.cell 20 (v:=.slice Ao pn fq) rfl;have qf:=HR3.out.free 20;have qb:=HR3.out.lt;clear ho3 hc3 hg3))
 all_goals
  change bodyPost _ _ _ Exit.normal _ _
  refine bodyPost_end (v:=.tuple #[]) ?_ ?_ ?_
  ·simp[results,Tryz.results159,go_sem]
  ·rfl
  refine⟨rfl,_,P++[⟨co,id',l,A3,c3⟩],HR3.out.out _,by
   have hq:=dM.pushed (co:=co) (id:=id') (XC.out.below (by exact aA)) (by have h:=j_.out;rw[HN.out] at h;exact own_below (aK h (by first|omega|(simp;omega))) (by exact aA)) (by rw[qo.out];have h:=gZ.out;rwa [HN.out] at h) sQ.out
   exact hq.stays (row:=some b) (bV _ _ _ _) (fun r e=>by cases e;omega),by rw[List.map_append];rfl,by
   have h1:=zH.out.mono (show b≤w.heap.size by omega)
   exact(Below.trans h1 (Below.grown (by exact aA) sQ.out (by first|omega|(simp[size_ext,grow];omega)) (fun k hk=>by have:=eu XC.out.1 hk;omega))).setCell (aaE _) _⟩
open Fs (av)
def qL (w:World) (B:Nat) (v:Value) (l:List UInt8):Prop:= ∃(A:Option Addr) (n c:Nat),v=.slice A n c∧At w B A (l.map bv)∧n=l.length∧n≤c
def uy (w:World) (B:Nat) (v:Value) (L:List bF):Prop:= ∃(A:Option Addr) (n c:Nat) (E:List aH),v=.slice A n c∧aJ w B A E∧n=E.length∧n≤c∧E.map aH.o=L
def lG (w:World) (B:Nat) (v:Value) (l:List Int):Prop:= ∃(A:Option Addr) (n c:Nat),v=.slice A n c∧At w B A (l.map av)∧n=l.length∧n≤c
theorem qL.keep {w w':World} {B:Nat} {v:Value} {l:List UInt8} (h:qL w B v l) (hb:Below B w w'):qL w' B v l:=by
 obtain⟨A,n,c,rfl,h1,h2,h3⟩:=h;exact⟨A,n,c,rfl,h1.keep hb,h2,h3⟩
theorem uy.keep {w w':World} {B:Nat} {v:Value} {L:List bF} (h:uy w B v L) (hb:Below B w w'):uy w' B v L:=by
 obtain⟨A,n,c,E,rfl,h1,h2,h3,h4⟩:=h;exact⟨A,n,c,E,rfl,h1.keep hb,h2,h3,h4⟩
theorem lG.keep {w w':World} {B:Nat} {v:Value} {l:List Int} (h:lG w B v l) (hb:Below B w w'):lG w' B v l:=by
 obtain⟨A,n,c,rfl,h1,h2,h3⟩:=h;exact⟨A,n,c,rfl,h1.keep hb,h2,h3⟩
theorem lG.more {w:World} {B B':Nat} {v:Value} {l:List Int} (h:lG w B v l) (hb:B≤B'):lG w B' v l:=by
 obtain⟨A,n,c,rfl,h1,h2,h3⟩:=h;exact⟨A,n,c,rfl,h1.more hb,h2,h3⟩
def dP (w:World) (base:Nat) (v:Value) (out:List Pk):Prop:= ∃P,dM w base v P∧P.map Pe.o=out
structure lq (w:World) (b:Nat) (s:Rm) (L:List bF) (li ln:List UInt8) (acts:List Int) (out:List Pk):Prop where
 run:dH w b s
 ask:uy w b s.va L
 inn:qL w b s.vi li
 ans:qL w b s.vn ln
 did:lG w b s.vd acts
 ot:dP w (b+1) s.vo out
 iF:li.length≤400000000
 hln:ln.length≤400000000
 hlo:out.length≤1000
section
variable {w w':World} {b:Nat} {s:Rm} {L:List bF} {li ln:List UInt8} {acts:List Int} {out:List Pk}
theorem bE (h:w.grownBy w' (some b)) (hb:b≤w.heap.size):Below b w w':=⟨h.os,h.tape,h.output,h.size,fun k hk=>h.block k (by omega) (by simp;omega)⟩
theorem lq.num (h:lq w b s L li ln acts out) (s':Rm) (hr:dH w' b s') (hg:w.grownBy w' (some b)) (ha:s'.va=s.va) (hi:s'.vi=s.vi) (hn:s'.vn=s.vn) (hd:s'.vd=s.vd) (ho:s'.vo=s.vo):lq w' b s' L li ln acts out:=by
 have hb:=bE hg (Nat.le_of_lt h.run.lt)
 obtain⟨P,hp,he⟩:=h.ot
 exact⟨hr,by rw[ha];exact h.ask.keep hb,by rw[hi];exact h.inn.keep hb,by rw[hn];exact h.ans.keep hb,by rw[hd];exact h.did.keep hb,⟨P,by rw[ho];exact hp.stays hg (fun r e=>by cases e;omega),he⟩,h.iF,h.hln,h.hlo⟩
theorem lq.keep (h:lq w b s L li ln acts out) (hb:Below w.heap.size w w'):lq w' b s L li ln acts out:=by
 have hbb:=hb.mono (Nat.le_of_lt h.run.lt)
 obtain⟨P,hp,he⟩:=h.ot
 exact⟨h.run.keep hb,h.ask.keep hbb,h.inn.keep hbb,h.ans.keep hbb,h.did.keep hbb,⟨P,hp.below hb,he⟩,h.iF,h.hln,h.hlo⟩
end
def lF (b:Nat) (s':Rm) (L:List bF) (li ln:List UInt8) (acts:List Int) (out:List Pk) (w:World) (x:Ending) (w':World):Prop:=
 x=.returned (.tuple #[])∧Below b w w'∧ ∃vo,lq w' b {s' with vo:=vo} L li ln acts out
theorem uq.act {b:Nat} {s s':Rm} {L:List bF} {li ln:List UInt8} {acts:List Int} {out:List Pk} {w:World} {x:Ending} {w':World} (h:uq b s' (.tuple #[]) w x w') (hi:lq w b s L li ln acts out)
  (ha:s'.va=s.va) (hi2:s'.vi=s.vi) (hn:s'.vn=s.vn) (hd:s'.vd=s.vd) (ho:s'.vo=s.vo):lF b s' L li ln acts out w x w':=by
 obtain⟨rfl,hr,hg⟩:=h
 exact⟨rfl,bE hg (Nat.le_of_lt hi.run.lt),s'.vo,hi.num s' hr hg ha hi2 hn hd ho⟩
theorem jR (b:Nat) (s:Rm) (L:List bF) (li ln:List UInt8) (acts:List Int) (out:List Pk) (co id':Int) (A:Option Addr) (n c:Nat) (l:List UInt8) (w:World) (h:lq w b s L li ln acts out) (hl:At w w.heap.size A (l.map bv)) (hn:n=l.length) (hc:n≤c) (hm:n≤400000000) (hlo:out.length≤999):
  Calls Tryz.prog 159 #[.pointer (some ⟨b,0,none⟩),.agg #[.int .i64 co,.int .i64 id',.slice A n c]] w (lF b s L li ln acts (out++[⟨co,id',l⟩]) w):=by
 obtain⟨P,hp,he⟩:=h.ot
 refine(JF b s P co id' A n c l w h.run hp hl hn hm hc (by have:=congrArg List.length he;rw[List.length_map] at this;omega)).mono ?_
 rintro x w' ⟨rfl,vo,P',hr,hp',he',hb⟩
 exact⟨rfl,hb,vo,hr,h.ask.keep hb,h.inn.keep hb,h.ans.keep hb,h.did.keep hb,⟨P',hp',by rw[he',he]⟩,h.iF,h.hln,by rw[List.length_append];simp;omega⟩
open Fs (av hasB)
theorem rH (A:Option Addr) (n c:Nat) (l:List Int) (a:Int) (w:World) (B:Nat) (hA:At w B A (l.map av)) (hn:n=l.length) (hl:n≤1000000000):
  Calls Tryz.prog 170 #[.slice A n c,.int .i64 a] w fun e w'=> ∃i:Int,e=.returned (.int .i64 i)∧decide (0≤i)=hasB l a∧w=w':=by
 subst hn
 have HA:=hid hA
 clear hA
 go_enter Tryz.func170,Tryz.ntmps170
 go_wp2
 go_loop [8] (fun i=> ∃k:Nat,k≤l.length∧i=.int .i64 k∧hasB (l.take k) a=false) (fun i=>l.length-(intOf i).toNat)
 case atStart=>exact⟨0,Nat.zero_le _,rfl,by simp[hasB]⟩
 case round=>
  obtain⟨k,hk,rfl,hh⟩:=hrel
  have HH:=hid hh
  clear hh
  by_cases hlt:k<l.length
  ·obtain⟨b,o,rfl,-⟩:=HA.out.cellAt hlt
   obtain⟨x,hx,hc⟩:=HA.out.rP hlt
   have HX:=hid hx
   clear hx
   cases he:(a==x)
   ·have HE:=hid (show(l.getD k 0==a)=false by rw[HX.out];simp at he ⊢;omega)
    go_wp2
    go_round
    case rel=>exact⟨k+1,by omega,by go_num,Fs.w_ hlt HH.out HE.out⟩
    case measure=>simp[intOf];omega
   ·have HE:=hid (show(l.getD k 0==a)=true by rw[HX.out];simp at he ⊢;omega)
    go_wp2
    go_ret
    exact⟨_,rfl,by rw[Fs.DY hlt HE.out];simp,rfl⟩
  ·have HL:=hid (show hasB l a=false by have:=HH.out;rwa [List.take_of_length_le (by omega)] at this)
   go_wp2
   go_ret
   exact⟨_,rfl,by rw[HL.out];rfl,rfl⟩
theorem yB (A:Option Addr) (n c:Nat) (l:List Int) (a:Int) (w:World) (B:Nat) (hA:At w B A (l.map av)) (hn:n=l.length) (hl:n≤1000000000):
  Calls Tryz.prog 157 #[.slice A n c,.int .i64 a] w fun e w'=>e=.returned (.bool (hasB l a))∧w=w':=by
 have HA:=hid hA
 have HN:=hid hn
 obtain⟨bb,hbb⟩: ∃bb,hasB l a=bb:=⟨_,rfl⟩
 have OQ:=hid hbb
 rw[hbb]
 clear hA hn hbb
 go_enter Tryz.func157,Tryz.ntmps157
 go_wp2_with fail
 refine(rH A n c l a _ B HA.out HN.out hl).mono ?_
 rintro e w' ⟨i,rfl,hi,rfl⟩
 rw[OQ.out] at hi
 cases bb
 ·have hi2:decide (0≤i)=false:=hi
  clear hi
  go_wp2_with fail
  go_ret
  exact⟨rfl,rfl⟩
 ·have hi2:(0:Int)≤i:=by simpa using hi
  clear hi
  go_wp2_with fail
  go_ret
  exact⟨rfl,rfl⟩
theorem EJ (b:Nat) (s:Rm) (L:List bF) (li ln:List UInt8) (acts:List Int) (out:List Pk) (w:World) (h:lq w b s L li ln acts out) (hm:acts.length≤1000):
  Calls Tryz.prog 125 #[.pointer (some ⟨b,0,none⟩)] w (lF b {s with cnt:=if hasB acts 10=true then s.mt else s.mc} L li ln acts out w):=by
 obtain⟨A,n,c,hvd,hat,hn,hc⟩:=h.did
 have HI:=hid h
 have HH:=hid h.run
 have hb:=h.run.lt
 have c1:=h.run.cell 1 (v:=.int .i64 s.mc) rfl
 have c2:=h.run.cell 2 (v:=.int .i64 s.mt) rfl
 have c9:=h.run.cell 9 (v:=.int .i64 s.cnt) rfl
 have c19:=h.run.cell 19 (v:=.slice A n c) (by rw[←hvd];rfl)
 have f9:=h.run.free 9
 have HAT:=hid hat
 have HN:=hid hn
 have hn2:n≤1000:=by omega
 clear h hvd hat hn
 cases hh:hasB acts 10
 focus
  have HB:=hid hh
  simp only[Bool.false_eq_true,if_false]
 rotate_left
 focus
  have HB:=hid hh
  simp only[if_true]
 rotate_left
 all_goals
  clear hh
  go_enter Tryz.func125,Tryz.ntmps125
  go_wp2_with fail
  refine(yB A n c acts 10 _ b (HAT.out.keep (by exact bE grn (Nat.le_of_lt hb))) HN.out (by omega)).mono ?_
  rw[HB.out]
  rintro e w1 ⟨rfl,rfl⟩
  go_wp2_with fail
 ·exact bodyPost_end (v:=.tuple #[]) (by simp[results,Tryz.results125,go_sem]) rfl (uq.act ⟨rfl,HH.out.cnt _,grn⟩ HI.out rfl rfl rfl rfl rfl)
 ·exact bodyPost_end (v:=.tuple #[]) (by simp[results,Tryz.results125,go_sem]) rfl (uq.act ⟨rfl,(HH.out.cnt _).cnt _,grn⟩ HI.out rfl rfl rfl rfl rfl)
def jY (i:Int):Int:=(i+1)%256
def dec (n:Int):Int:=if 0<n then n-1 else n
theorem yN (i:Int):0≤jY i∧jY i≤255:=by unfold jY;omega
theorem qy (L:List bF):(Op.encR L).1.length≤1488:=by
 unfold Op.encR
 split
 ·simp
 ·split
  ·split
   ·simp
   ·simp only;omega
  ·simp
theorem lF.fin {b:Nat} {s1 s2 s':Rm} {L:List bF} {li ln:List UInt8} {acts:List Int} {out:List Pk} {w w1 w':World} (hi:lq w1 b s1 L li ln acts out) (hb:Below b w w1) (hr:dH w' b s2) (hg:w1.grownBy w' (some b))
  (e:s2={s' with vo:=s1.vo}) (ha:s'.va=s1.va) (hi2:s'.vi=s1.vi) (hn:s'.vn=s1.vn) (hd:s'.vd=s1.vd):lF b s' L li ln acts out w (.returned (.tuple #[])) w':=by
 refine⟨rfl,hb.trans (bE hg (Nat.le_of_lt hi.run.lt)),s1.vo,?_⟩
 rw[←e]
 exact hi.num s2 hr hg (by rw[e];exact ha) (by rw[e];exact hi2) (by rw[e];exact hn) (by rw[e];exact hd) (by rw[e])
theorem Ia (b:Nat) (s:Rm) (L:List bF) (li ln:List UInt8) (acts:List Int) (out:List Pk) (w:World) (h:lq w b s L li ln acts out) (hlo:out.length≤999):Calls Tryz.prog 133 #[.pointer (some ⟨b,0,none⟩)] w (lF b s L li ln acts (out++[⟨s.ac,s.ai,ln⟩]) w):=by
 obtain⟨A,n,c,P6,hat,hn,hc⟩:=h.ans
 have hb:=h.run.lt
 have c15:=h.run.cell 15 (v:=.int .i64 s.ac) rfl
 have c16:=h.run.cell 16 (v:=.int .i64 s.ai) rfl
 have c17:=h.run.cell 17 (v:=.slice A n c) (by rw[←P6];rfl)
 have HI:=hid h
 have HAT:=hid (hat.more (Nat.le_of_lt hb))
 have HN:=hid hn
 have HM:=hid (show n≤400000000 by have:=h.hln;omega)
 clear h P6 hat hn
 go_enter Tryz.func133,Tryz.ntmps133
 go_wp2_with fail
 refine(jR b s L li ln acts out s.ac s.ai A n c ln _ HI.out HAT.out HN.out hc HM.out hlo).mono ?_
 rintro e w1 ⟨rfl,hb1,vo,hi⟩
 go_wp2_with fail
 exact bodyPost_end (v:=.tuple #[]) (by simp[results,Tryz.results133,go_sem]) rfl ⟨rfl,hb1,vo,hi⟩
theorem ET (b:Nat) (s:Rm) (L:List bF) (li ln:List UInt8) (acts:List Int) (out:List Pk) (w:World) (h:lq w b s L li ln acts out) (hlo:out.length≤999):Calls Tryz.prog 131 #[.pointer (some ⟨b,0,none⟩)] w (lF b s L li ln acts (out++[⟨6,s.ii,[]⟩]) w):=by
 have hb:=h.run.lt
 have c13:=h.run.cell 13 (v:=.int .i64 s.ii) rfl
 have HI:=hid h
 clear h
 go_enter Tryz.func131,Tryz.ntmps131
 go_wp2_with fail
 refine(jR b s L li ln acts out 6 s.ii none 0 0 [] _ HI.out (At.nil _ _ _) rfl (aaE _) (by omega) hlo).mono ?_
 rintro e w1 ⟨rfl,hb1,vo,hi⟩
 go_wp2_with fail
 exact bodyPost_end (v:=.tuple #[]) (by simp[results,Tryz.results131,go_sem]) rfl ⟨rfl,hb1,vo,hi⟩
theorem KQ (b:Nat) (s:Rm) (L:List bF) (li ln:List UInt8) (acts:List Int) (out:List Pk) (w:World) (h:lq w b s L li ln acts out) (hlo:out.length≤999):Calls Tryz.prog 128 #[.pointer (some ⟨b,0,none⟩)] w (lF b {s with au:=0} L li ln acts (out++[⟨s.ac,s.ai,ln⟩]) w):=by
 obtain⟨vr,mc,mt,mf,wt,st,id,req,va,cnt,ay,au,ic,ii,vi,ac,ai,vn,tick,vd,vo⟩:=s
 dsimp only at*
 obtain⟨A,n,c,P6,hat,hn,hc⟩:=h.ans
 dsimp only at P6
 subst P6
 have hb:=h.run.lt
 have c15:=h.run.cell 15 (v:=.int .i64 ac) rfl
 have c16:=h.run.cell 16 (v:=.int .i64 ai) rfl
 have c17:=h.run.cell 17 (v:=.slice A n c) rfl
 have HI:=hid h
 have HAT:=hid (hat.more (Nat.le_of_lt hb))
 have HN:=hid hn
 have HM:=hid (show n≤400000000 by have:=h.hln;omega)
 clear h hat hn
 go_enter Tryz.func128,Tryz.ntmps128
 go_wp2_with fail
 refine(jR b _ L li ln acts out ac ai A n c ln _ HI.out HAT.out HN.out hc HM.out hlo).mono ?_
 rintro e w1 ⟨rfl,hb1,U1,hi⟩
 have HI1:=hid hi
 have HB1:=hid hb1
 have hbz:=hi.run.lt
 have c11:=hi.run.cell 11 (v:=.int .i64 au) rfl
 have f11:=hi.run.free 11
 clear hi hb1
 go_wp2_with fail
 exact bodyPost_end (v:=.tuple #[]) (by simp[results,Tryz.results128,go_sem]) rfl (lF.fin HI1.out HB1.out (HI1.out.run.au _) grn rfl rfl rfl rfl rfl)
theorem yM (b:Nat) (s:Rm) (L:List bF) (li ln:List UInt8) (acts:List Int) (out:List Pk) (w:World) (h:lq w b s L li ln acts out) (hlo:out.length≤999) (h0:0≤s.au) (h1:s.au≤1000):Calls Tryz.prog 129 #[.pointer (some ⟨b,0,none⟩)] w (lF b {s with au:=if s.ac=3 then(if s.au<1000 then s.au+1 else s.au) else s.au} L li ln acts (out++[⟨s.ac,s.ai,ln⟩]) w):=by
 obtain⟨vr,mc,mt,mf,wt,st,id,req,va,cnt,ay,au,ic,ii,vi,ac,ai,vn,tick,vd,vo⟩:=s
 dsimp only at*
 obtain⟨A,n,c,P6,hat,hn,hc⟩:=h.ans
 dsimp only at P6
 subst P6
 have hb:=h.run.lt
 have c15:=h.run.cell 15 (v:=.int .i64 ac) rfl
 have c16:=h.run.cell 16 (v:=.int .i64 ai) rfl
 have c17:=h.run.cell 17 (v:=.slice A n c) rfl
 have HI:=hid h
 have HAT:=hid (hat.more (Nat.le_of_lt hb))
 have HN:=hid hn
 have HM:=hid (show n≤400000000 by have:=h.hln;omega)
 clear h hat hn
 by_cases h3:ac=3
 focus
  subst h3
  by_cases hk0:au<1000
 focus
  have HQ:=hid (show(if (3:Int)=3 then(if au<1000 then au+1 else au) else au)=au+1 by simp[hk0])
 rotate_left
 focus
  obtain rfl:au=1000:=by omega
  have HQ:=hid (show(if (3:Int)=3 then(if (1000:Int)<1000 then(1000:Int)+1 else 1000) else 1000)=1000 by decide)
 rotate_left
 ·have HQ:=hid (show(if ac=3 then(if au<1000 then au+1 else au) else au)=au by rw[if_neg h3])
  have h4:(ac==3)=false:=by simpa using h3
  rw[HQ.out]
  clear h3
  go_enter Tryz.func129,Tryz.ntmps129
  go_wp2_with fail
  refine(jR b _ L li ln acts out ac ai A n c ln _ HI.out HAT.out HN.out hc HM.out hlo).mono ?_
  rintro e w1 ⟨rfl,hb1,U1,hi⟩
  have HI1:=hid hi
  have HB1:=hid hb1
  have hbz:=hi.run.lt
  have YW:=hi.run.cell 15 (v:=.int .i64 ac) rfl
  have c11:=hi.run.cell 11 (v:=.int .i64 au) rfl
  have f11:=hi.run.free 11
  clear hi hb1 c15
  go_wp2_with fail
  exact bodyPost_end (v:=.tuple #[]) (by simp[results,Tryz.results129,go_sem]) rfl ⟨rfl,HB1.out,U1,HI1.out⟩
 all_goals
  rw[HQ.out]
  go_enter Tryz.func129,Tryz.ntmps129
  go_wp2_with fail
  refine(jR b _ L li ln acts out 3 ai A n c ln _ HI.out HAT.out HN.out hc HM.out hlo).mono ?_
  rintro e w1 ⟨rfl,hb1,U1,hi⟩
  have HI1:=hid hi
  have HB1:=hid hb1
  have hbz:=hi.run.lt
  have YW:=hi.run.cell 15 (v:=.int .i64 3) rfl
 focus
  have c11:=hi.run.cell 11 (v:=.int .i64 au) rfl
 rotate_left
 focus
  have c11:=hi.run.cell 11 (v:=.int .i64 1000) rfl
 rotate_left
 all_goals
  have f11:=hi.run.free 11
  clear hi hb1 c15
  go_wp2_with fail
  exact bodyPost_end (v:=.tuple #[]) (by simp[results,Tryz.results129,go_sem]) rfl (lF.fin HI1.out HB1.out (HI1.out.run.au _) grn rfl rfl rfl rfl rfl)
theorem IX (b:Nat) (s:Rm) (w:World) (j:Int) (h:dH w b s) (h0:0≤s.id) (h1:s.id≤255) (hj:jY s.id=j):
  Calls Tryz.prog 158 #[.pointer (some ⟨b,0,none⟩)] w (uq b {s with id:=j} (.int .i64 j) w):=by
 subst hj
 exact IW b s w h h0 h1
theorem xC (b:Nat) (s:Rm) (w:World) (j:Int) (h:dH w b s) (h0:0≤s.id) (h1:s.id≤255) (hj:jY s.id=j):
  Calls Tryz.prog 158 #[.pointer (some ⟨b,0,none⟩)] w fun x w'=>x=.returned (.int .i64 j)∧w'=w.setCell ⟨b,6,none⟩ (.int .i64 j):=by
 subst hj
 exact AJ b s w h h0 h1
theorem KV (b:Nat) (s:Rm) (L:List bF) (li ln:List UInt8) (acts:List Int) (out:List Pk) (w:World) (h:lq w b s L li ln acts out) (hlo:out.length≤999) (h0:0≤s.tick) (h1:s.tick≤1099511627776) (h2:1≤s.wt) (h3:s.wt≤1048576) (h4:0≤s.cnt) (h5:s.cnt≤1000) (h6:0≤s.id) (h7:s.id≤255):Calls Tryz.prog 127 #[.pointer (some ⟨b,0,none⟩)] w (lF b {s with id:=jY s.id,req:=jY s.id,cnt:=dec s.cnt,ay:=s.tick+s.wt} L li ln acts (out++[⟨1,jY s.id,(Op.encR L).1⟩]) w):=by
 obtain⟨vr,mc,mt,mf,wt,st,id,req,va,cnt,ay,au,ic,ii,vi,ac,ai,vn,tick,vd,vo⟩:=s
 dsimp only at*
 obtain⟨A,n,c,E,hva,hat,hn,hc,hL⟩:=h.ask
 dsimp only at hva
 subst hva
 have HAT:=hid hat
 have HN:=hid hn
 have HL:=hid hL
 have hb:=h.run.lt
 have HI:=hid h
 clear h hat hn hL
 obtain⟨j,hj⟩: ∃j,jY id=j:=⟨_,rfl⟩
 have HJ:=hid hj
 rw[hj]
 clear hj
 have oI:=hid (qy L)
 obtain⟨⟨eb,ee⟩,henc⟩: ∃y,Op.encR L=y:=⟨_,rfl⟩
 have jc:=hid henc
 rw[henc] at oI
 rw[henc]
 clear henc
 go_enter Tryz.func127,Tryz.ntmps127
 go_wp2_with fail
 refine(IX b _ w j HI.out.run h6 h7 HJ.out).mono ?_
 rintro e w1 ⟨rfl,hr1,hg1⟩
 have HI1:=hid (HI.out.num _ hr1 hg1 rfl rfl rfl rfl rfl)
 have HB1:=hid (bE hg1 (Nat.le_of_lt hb))
 have HI2:=hid (HI1.out.num _ (hr1.req j) (bV _ _ _ _) rfl rfl rfl rfl rfl)
 have HB2:=hid (HB1.out.trans (bE (bV w1 b 7 (.int .i64 j)) (Nat.le_of_lt hr1.lt)))
 have hb1:=hr1.lt
 have c7:=hr1.cell 7 (v:=.int .i64 req) rfl
 have c8:=hr1.cell 8 (v:=.slice A n c) rfl
 have f7:=hr1.free 7
 clear hr1 hg1
 go_wp2_with fail
 refine(Op.dZ A n c E _ b (by simp;omega) (HAT.out.keep HB2.out) HN.out).mono ?_
 rw[HL.out]
 unfold Op.gK
 rw[jc.out]
 rintro e w3 ⟨v,rfl,hb3,ho3⟩
 obtain⟨A3,c3,rfl,hc3,-⟩:=ownsRow_form ho3
 have BO:=hid (At.bq ho3)
 have HI3:=hid (HI2.out.keep hb3)
 have HB3:=hid (HB2.out.trans (hb3.mono (by simp;omega)))
 have aan:=HI3.out.run.lt
 have c7':=HI3.out.run.cell 7 (v:=.int .i64 j) rfl
 have zk:=hid hc3
 clear ho3 hb3 hc3 c7 c8 f7
 go_wp2_with fail
 refine(jR b _ L li ln acts out 1 j A3 eb.length c3 eb _ HI3.out BO.out rfl zk.out (by have:=oI.out;omega) hlo).mono ?_
 rintro e w4 ⟨rfl,hb4,vo4,hi4⟩
 have HI4:=hid hi4
 have fu:=hid (HB3.out.trans hb4)
 clear hi4 hb4
 go_wp2_with fail
 refine(kC b _ w4 HI4.out.run h0 h1 h2 h3 h4 h5).mono ?_
 rintro e w5 ⟨rfl,sW,hg5⟩
 have VZ:=hid sW
 have Yx:=hid hg5
 clear sW hg5
 go_wp2_with fail
 exact bodyPost_end (v:=.tuple #[]) (by simp[results,Tryz.results127,go_sem]) rfl (lF.fin HI4.out fu.out VZ.out Yx.out (by unfold dec;rfl) rfl rfl rfl rfl)
theorem K7 (b:Nat) (s:Rm) (L:List bF) (li ln:List UInt8) (acts:List Int) (out:List Pk) (w:World) (h:lq w b s L li ln acts out) (hlo:out.length≤999) (h0:0≤s.tick) (h1:s.tick≤1099511627776) (h2:1≤s.wt) (h3:s.wt≤1048576) (h4:0≤s.cnt) (h5:s.cnt≤1000) (h6:0≤s.id) (h7:s.id≤255):Calls Tryz.prog 130 #[.pointer (some ⟨b,0,none⟩)] w (lF b {s with id:=jY s.id,cnt:=dec s.cnt,ay:=s.tick+s.wt} L li ln acts (out++[⟨5,jY s.id,[]⟩]) w):=by
 obtain⟨vr,mc,mt,mf,wt,st,id,req,va,cnt,ay,au,ic,ii,vi,ac,ai,vn,tick,vd,vo⟩:=s
 dsimp only at*
 have hb:=h.run.lt
 have HI:=hid h
 clear h
 obtain⟨j,hj⟩: ∃j,jY id=j:=⟨_,rfl⟩
 have HJ:=hid hj
 rw[hj]
 clear hj
 go_enter Tryz.func130,Tryz.ntmps130
 go_wp2_with fail
 refine(IX b _ w j HI.out.run h6 h7 HJ.out).mono ?_
 rintro e w1 ⟨rfl,hr1,hg1⟩
 have HI1:=hid (HI.out.num _ hr1 hg1 rfl rfl rfl rfl rfl)
 have HB1:=hid (bE hg1 (Nat.le_of_lt hb))
 clear hr1 hg1
 go_wp2_with fail
 refine(jR b _ L li ln acts out 5 j none 0 0 [] _ HI1.out (At.nil _ _ _) rfl (aaE _) (by omega) hlo).mono ?_
 rintro e w4 ⟨rfl,hb4,vo4,hi4⟩
 have HI4:=hid hi4
 have fu:=hid (HB1.out.trans hb4)
 clear hi4 hb4
 go_wp2_with fail
 refine(kC b _ w4 HI4.out.run h0 h1 h2 h3 h4 h5).mono ?_
 rintro e w5 ⟨rfl,sW,hg5⟩
 have VZ:=hid sW
 have Yx:=hid hg5
 clear sW hg5
 go_wp2_with fail
 exact bodyPost_end (v:=.tuple #[]) (by simp[results,Tryz.results130,go_sem]) rfl (lF.fin HI4.out fu.out VZ.out Yx.out (by unfold dec;rfl) rfl rfl rfl rfl)
def rQ (co id':Int) (l:List UInt8) (i:Int):List Pk:=if Cp.aV co id' l.length=0 then [⟨7,i,(Cp.fZ co id' l).take 1488⟩] else []
theorem qH {co id':Int} {l:List UInt8} {j:Int} (hj:bC j 0 255=true):Cp.oM j (Cp.aV co id' l.length)=Cp.aV co id' l.length:=by
 unfold Cp.oM;rw[hj];rfl
theorem UO (ic ii j:Int) (A:Option Addr) (n c:Nat) (l:List UInt8) (w:World) (B:Nat) (hB:B≤w.heap.size) (hA:At w B A (l.map bv)) (hn:n=l.length) (hl:n≤1000000000) (hj:bC j 0 255=true) (he:Cp.aV ic ii l.length=0):
  Calls Tryz.prog 161 #[.agg #[.int .i64 ic,.int .i64 ii,.slice A n c],.int .i64 j] w fun x w'=> ∃(A3:Option Addr) (n3 c3:Nat),x=.returned (.tuple #[.agg #[.int .i64 7,.int .i64 j,.slice A3 n3 c3],.int .i64 0])∧n3≤c3∧n3=((Cp.fZ ic ii l).take 1488).length∧Below w.heap.size w w'∧w'.ownsRow w.heap.size 5 1 (.slice A3 n3 c3) n3 (((Cp.fZ ic ii l).take 1488).map bv):=by
 refine(Cp.qG ic ii A n c l j w B hB hA hn hl).mono ?_
 rw[qH hj,he]
 rintro e w2 ⟨v,rfl,hb2,ho2⟩
 obtain⟨A3,c3,rfl,hc3,-⟩:=ownsRow_form ho2
 exact⟨A3,_,c3,rfl,hc3,rfl,hb2,ho2⟩
theorem Om (ic ii j er:Int) (A:Option Addr) (n c:Nat) (l:List UInt8) (w:World) (B:Nat) (hB:B≤w.heap.size) (hA:At w B A (l.map bv)) (hn:n=l.length) (hl:n≤1000000000) (hj:bC j 0 255=true) (he:Cp.aV ic ii l.length=er) (h0:er≠0):
  Calls Tryz.prog 161 #[.agg #[.int .i64 ic,.int .i64 ii,.slice A n c],.int .i64 j] w fun x w'=> ∃(A3:Option Addr) (n3 c3:Nat),x=.returned (.tuple #[.agg #[.int .i64 0,.int .i64 0,.slice A3 n3 c3],.int .i64 er])∧Below w.heap.size w w':=by
 refine(Cp.qG ic ii A n c l j w B hB hA hn hl).mono ?_
 rw[qH hj,he]
 rintro e w2 ⟨v,rfl,hb2,ho2⟩
 obtain⟨A3,c3,rfl,hc3,-⟩:=ownsRow_form ho2
 exact⟨A3,_,c3,by unfold Cp.rK;rw[if_neg h0,if_neg h0],hb2⟩
set_option maxRecDepth 100000 in
theorem Bq (b:Nat) (s:Rm) (L:List bF) (li ln:List UInt8) (acts:List Int) (out:List Pk) (w:World) (h:lq w b s L li ln acts out) (hlo:out.length≤999) (h6:0≤s.id) (h7:s.id≤255):Calls Tryz.prog 132 #[.pointer (some ⟨b,0,none⟩)] w (lF b {s with id:=jY s.id} L li ln acts (out++rQ s.ic s.ii li (jY s.id)) w):=by
 obtain⟨vr,mc,mt,mf,wt,st,id,req,va,cnt,ay,au,ic,ii,vi,ac,ai,vn,tick,vd,vo⟩:=s
 dsimp only at*
 obtain⟨A,n,c,hvi,hat,hn,hc⟩:=h.inn
 dsimp only at hvi
 subst hvi
 have HAT:=hid hat
 have HN:=hid hn
 have HM:=hid (show n≤1000000000 by have:=h.iF;omega)
 have hb:=h.run.lt
 have HI:=hid h
 have c12:=h.run.cell 12 (v:=.int .i64 ic) rfl
 have c13:=h.run.cell 13 (v:=.int .i64 ii) rfl
 have c14:=h.run.cell 14 (v:=.slice A n c) rfl
 have Tt:=hid h.run
 clear h hat hn
 obtain⟨j,hj⟩: ∃j,jY id=j:=⟨_,rfl⟩
 have HJ:=hid hj
 have HJ2:=hid (show bC j 0 255=true by rw[←hj];have:=yN id;simp[bC];omega)
 rw[hj]
 clear hj
 obtain⟨er,her⟩: ∃er,Cp.aV ic ii li.length=er:=⟨_,rfl⟩
 have tC:=hid her
 clear her
 have HI1:=hid (HI.out.num _ (Tt.out.id j) (bV _ _ _ _) rfl rfl rfl rfl rfl)
 have Xv:=hid (bE (bV w b 6 (.int .i64 j)) (Nat.le_of_lt hb))
 by_cases h0:er=0
 ·subst h0
  have KL:=hid (show rQ ic ii li j=[⟨7,j,(Cp.fZ ic ii li).take 1488⟩] by unfold rQ;rw[if_pos tC.out])
  rw[KL.out]
  go_enter Tryz.func132,Tryz.ntmps132
  go_wp2_with fail
  go_region_held3 (fun w'=>w'.cell? ⟨b,12,none⟩=some (.int .i64 ic)∧w'.cell? ⟨b,13,none⟩=some (.int .i64 ii)∧w'.cell? ⟨b,14,none⟩=some (.slice A n c)) (first|(go_keep;done)|(go_simp;done)|(simp[go_sem];done)) (first|((go_at_call 158;go_must (refine(xC b _ _ j (Tt.out.keep (by exact aA)) h6 h7 HJ.out).mono ?_);rintro e w1 ⟨rfl,rfl⟩))|((go_at_call 161;go_must (refine(UO ic ii j A n c li _ b (by first|omega|(simp;omega)) (HAT.out.keep (by exact bE grn (Nat.le_of_lt hb))) HN.out HM.out HJ2.out tC.out).mono ?_);rintro e w2 ⟨A3,n3,c3,rfl,hc3,ji,hb2,ho2⟩;obtain⟨xs2,d2,rfl⟩:=aB hb2;have j_:=hid ho2;have zk:=hid hc3;have wK:=hid ji;clear hb2 ho2 hc3 ji)))
  all_goals
   go_wp2_with fail
   refine(jR b _ L li ln acts out 7 j A3 n3 c3 ((Cp.fZ ic ii li).take 1488) _ (HI1.out.keep (by exact aA)) (by first|exact At.bq (dI j_.out (by simp) (by simp))|exact(At.bq j_.out).move (by exact aA) (by first|exact aaE _|(simp[size_ext,grow];done)|(simp[size_ext,grow];omega))) wK.out zk.out (by rw[wK.out,List.length_take];omega) hlo).mono ?_
   rintro e w4 ⟨rfl,hb4,vo4,hi4⟩
   have HI4:=hid hi4
   have fu:=hid hb4
   clear hi4 hb4
   go_wp2_with fail
   exact bodyPost_end (v:=.tuple #[]) (by simp[results,Tryz.results132,go_sem]) rfl ⟨rfl,Below.trans (Xv.out.trans (by have hbs:b≤(w.setCell ⟨b,6,none⟩ (.int .i64 j)).heap.size:=(by simp;omega);exact aA)) fu.out,vo4,HI4.out⟩
 ·have h0':(er==0)=false:=by simpa using h0
  have KL:=hid (show rQ ic ii li j=[] by unfold rQ;rw[tC.out,if_neg h0])
  rw[KL.out,List.append_nil]
  go_enter Tryz.func132,Tryz.ntmps132
  go_wp2_with fail
  go_region_held3 (fun w'=>w'.cell? ⟨b,12,none⟩=some (.int .i64 ic)∧w'.cell? ⟨b,13,none⟩=some (.int .i64 ii)∧w'.cell? ⟨b,14,none⟩=some (.slice A n c)) (first|(go_keep;done)|(go_simp;done)|(simp[go_sem];done)) (first|((go_at_call 158;go_must (refine(xC b _ _ j (Tt.out.keep (by exact aA)) h6 h7 HJ.out).mono ?_);rintro e w1 ⟨rfl,rfl⟩))|((go_at_call 161;go_must (refine(Om ic ii j er A n c li _ b (by first|omega|(simp;omega)) (HAT.out.keep (by exact bE grn (Nat.le_of_lt hb))) HN.out HM.out HJ2.out tC.out h0).mono ?_);rintro e w2 ⟨A3,n3,c3,rfl,hb2⟩;obtain⟨xs2,d2,rfl⟩:=aB hb2;clear hb2)))
  all_goals
   go_wp2_with fail
   exact bodyPost_end (v:=.tuple #[]) (by simp[results,Tryz.results132,go_sem]) rfl ⟨rfl,Xv.out.trans (by have hbs:b≤(w.setCell ⟨b,6,none⟩ (.int .i64 j)).heap.size:=(by simp;omega);exact aA),_,HI1.out.keep (by exact aA)⟩
def fK (c:Cf) (inn ans:Pk) (tick:Int) (acts:List Int) (a:Au) (x:Int):Au×List Pk:=
 if x=5 then({a with cnt:=if hasB acts 10=true then c.mt else c.mc},[])
 else if x=6 then({a with cnt:=0,ay:=tick+c.wt},[])
 else if x=7 then({a with id:=jY a.id,req:=jY a.id,cnt:=dec a.cnt,ay:=tick+c.wt},[⟨1,jY a.id,(Op.encR a.ask).1⟩])
 else if x=8 then({a with au:=0},[ans])
 else if x=9 then({a with au:=if ans.code=3 then(if a.au<1000 then a.au+1 else a.au) else a.au},[ans])
 else if x=10 then({a with id:=jY a.id,cnt:=dec a.cnt,ay:=tick+c.wt},[⟨5,jY a.id,[]⟩])
 else if x=11 then(a,[⟨6,inn.id,[]⟩])
 else if x=12 then({a with id:=jY a.id},rQ inn.code inn.id inn.data (jY a.id))
 else if x=13 then(a,[ans])
 else(a,[])
def rm (c:Cf) (a:Au) (inn ans:Pk) (tick:Int) (vr va vi vn vd vo:Value):Rm:=
 ⟨vr,c.mc,c.mt,c.mf,c.wt,a.st,a.id,a.req,va,a.cnt,a.ay,a.au,inn.code,inn.id,vi,ans.code,ans.id,vn,tick,vd,vo⟩
structure gN (c:Cf) (a:Au) (tick:Int):Prop where
 t0:0≤tick
 t1:tick≤1099511627776
 w0:1≤c.wt
 w1:c.wt≤1048576
 m0:1≤c.mc
 m1:c.mc≤1000
 n0:1≤c.mt
 n1:c.mt≤1000
 c0:0≤a.cnt
 c1:a.cnt≤1000
 i0:0≤a.id
 i1:a.id≤255
 r0:0≤a.req
 r1:a.req≤255
 k0:0≤a.au
 k1:a.au≤1000
theorem gN.act {c:Cf} {a:Au} {tick:Int} (h:gN c a tick) (inn ans:Pk) (acts:List Int) (x:Int):gN c (fK c inn ans tick acts a x).1 tick:=by
 have hj:=yN a.id
 obtain⟨t0,t1,w0,w1,m0,m1,n0,n1,c0,c1,i0,i1,r0,r1,k0,k1⟩:=h
 have hd:0≤dec a.cnt∧dec a.cnt≤1000:=by unfold dec;split<;>omega
 unfold fK
 repeat' split
 all_goals(constructor<;>(try dsimp only)<;>(try split)<;>first|assumption|omega)
theorem KS (c:Cf) (inn ans:Pk) (tick:Int) (acts:List Int) (a:Au) (x:Int):(fK c inn ans tick acts a x).1.ask=a.ask:=by
 unfold fK
 repeat' split
 all_goals rfl
theorem KT (c:Cf) (inn ans:Pk) (tick:Int) (acts:List Int) (a:Au) (x:Int):(fK c inn ans tick acts a x).2.length≤1:=by
 unfold fK rQ
 repeat' split
 all_goals(first|exact aaE _|(simp;done)|omega)
def JV (x:Int):Nat:=if x=5 then 125 else if x=6 then 126 else if x=7 then 127 else if x=8 then 128 else if x=9 then 129 else if x=10 then 130 else if x=11 then 131 else if x=12 then 132 else if x=13 then 133 else 134
theorem jI (x:Int) (w:World):Calls Tryz.prog 86 #[.int .i64 x] w fun e w'=>e=.returned (.func (.func (JV x)) #[] #[])∧w=w':=by
 have hx:x=5∨x=6∨x=7∨x=8∨x=9∨x=10∨x=11∨x=12∨x=13∨(x≠5∧x≠6∧x≠7∧x≠8∧x≠9∧x≠10∧x≠11∧x≠12∧x≠13):=by omega
 rcases hx with rfl|rfl|rfl|rfl|rfl|rfl|rfl|rfl|rfl|⟨h5,h6,h7,h8,h9,h10,h11,h12,bR⟩
 iterate 9
  ·go_enter Tryz.func86,Tryz.ntmps86
   go_wp2_with fail
   go_ret
   exact⟨rfl,rfl⟩
 ·have HW:=hid (show JV x=134 by simp[JV,h5,h6,h7,h8,h9,h10,h11,h12,bR])
  rw[HW.out]
  have e5:(x==5)=false:=by simpa using h5
  have e6:(x==6)=false:=by simpa using h6
  have e7:(x==7)=false:=by simpa using h7
  have e8:(x==8)=false:=by simpa using h8
  have e9:(x==9)=false:=by simpa using h9
  have e10:(x==10)=false:=by simpa using h10
  have e11:(x==11)=false:=by simpa using h11
  have e12:(x==12)=false:=by simpa using h12
  have e13:(x==13)=false:=by simpa using bR
  clear h5 h6 h7 h8 h9 h10 h11 h12 bR
  go_enter Tryz.func86,Tryz.ntmps86
  go_wp2_with fail
  go_ret
  exact⟨rfl,rfl⟩
set_option maxRecDepth 100000 in
theorem KR (b:Nat) (c:Cf) (a:Au) (inn ans:Pk) (tick:Int) (vr va vi vn vd vo:Value) (acts:List Int) (out:List Pk) (x:Int) (w:World) (h:lq w b (rm c a inn ans tick vr va vi vn vd vo) a.ask inn.data ans.data acts out) (hlo:out.length≤999) (hla:acts.length≤1000) (hk:gN c a tick):
  Calls Tryz.prog 52 #[.pointer (some ⟨b,0,none⟩),.int .i64 x] w (lF b (rm c (fK c inn ans tick acts a x).1 inn ans tick vr va vi vn vd vo) a.ask inn.data ans.data acts (out++(fK c inn ans tick acts a x).2) w):=by
 have H:=hid h
 have HK:=hid hk
 clear h hk
 have hx:x=5∨x=6∨x=7∨x=8∨x=9∨x=10∨x=11∨x=12∨x=13∨(x≠5∧x≠6∧x≠7∧x≠8∧x≠9∧x≠10∧x≠11∧x≠12∧x≠13):=by omega
 rcases hx with rfl|rfl|rfl|rfl|rfl|rfl|rfl|rfl|rfl|⟨h5,h6,h7,h8,h9,h10,h11,h12,bR⟩
 focus
  show Calls _ _ _ _ (lF b {rm c a inn ans tick vr va vi vn vd vo with cnt:=if hasB acts 10=true then c.mt else c.mc} a.ask inn.data ans.data acts (out++[]) w)
  rw[List.append_nil]
  obtain⟨cn,hcn⟩: ∃cn,(if hasB acts 10=true then c.mt else c.mc)=cn:=⟨_,rfl⟩
  have VH:=hid (show Calls Tryz.prog 125 #[.pointer (some ⟨b,0,none⟩)] w (lF b {rm c a inn ans tick vr va vi vn vd vo with cnt:=cn} a.ask inn.data ans.data acts out w) by rw[←hcn];exact EJ b _ _ _ _ _ _ w H.out hla)
  rw[hcn]
  clear hcn
 rotate_left
 focus
  show Calls _ _ _ _ (lF b {rm c a inn ans tick vr va vi vn vd vo with cnt:=0,ay:=tick+c.wt} a.ask inn.data ans.data acts (out++[]) w)
  rw[List.append_nil]
 rotate_left
 rotate_left
 rotate_left
 rotate_left
 rotate_left
 rotate_left
 rotate_left
 rotate_left
 focus
  have HW:=hid (show JV x=134 by simp[JV,h5,h6,h7,h8,h9,h10,h11,h12,bR])
  have HO:=hid (show fK c inn ans tick acts a x=(a,[]) by simp[fK,h5,h6,h7,h8,h9,h10,h11,h12,bR])
  rw[HO.out]
  dsimp only
  rw[List.append_nil]
  clear h5 h6 h7 h8 h9 h10 h11 h12 bR
 rotate_left
 all_goals
  go_enter Tryz.func52,Tryz.ntmps52
  go_wp2_with fail
 focus
  refine(jI 5 w).mono ?_
  rintro e w1 ⟨rfl,rfl⟩
  go_wp2_with fail
  refine(VH.out).mono ?_
 rotate_left
 focus
  refine(jI 6 w).mono ?_
  rintro e w1 ⟨rfl,rfl⟩
  go_wp2_with fail
  refine((JZ b _ w H.out.run HK.out.t0 HK.out.t1 HK.out.w0 HK.out.w1).mono (fun _ _ hq=>uq.act hq H.out rfl rfl rfl rfl rfl)).mono ?_
 rotate_left
 focus
  refine(jI 7 w).mono ?_
  rintro e w1 ⟨rfl,rfl⟩
  go_wp2_with fail
  refine(KV b _ _ _ _ _ _ w H.out hlo HK.out.t0 HK.out.t1 HK.out.w0 HK.out.w1 HK.out.c0 HK.out.c1 HK.out.i0 HK.out.i1).mono ?_
 rotate_left
 focus
  refine(jI 8 w).mono ?_
  rintro e w1 ⟨rfl,rfl⟩
  go_wp2_with fail
  refine(KQ b _ _ _ _ _ _ w H.out hlo).mono ?_
 rotate_left
 focus
  refine(jI 9 w).mono ?_
  rintro e w1 ⟨rfl,rfl⟩
  go_wp2_with fail
  refine(yM b _ _ _ _ _ _ w H.out hlo HK.out.k0 HK.out.k1).mono ?_
 rotate_left
 focus
  refine(jI 10 w).mono ?_
  rintro e w1 ⟨rfl,rfl⟩
  go_wp2_with fail
  refine(K7 b _ _ _ _ _ _ w H.out hlo HK.out.t0 HK.out.t1 HK.out.w0 HK.out.w1 HK.out.c0 HK.out.c1 HK.out.i0 HK.out.i1).mono ?_
 rotate_left
 focus
  refine(jI 11 w).mono ?_
  rintro e w1 ⟨rfl,rfl⟩
  go_wp2_with fail
  refine(ET b _ _ _ _ _ _ w H.out hlo).mono ?_
 rotate_left
 focus
  refine(jI 12 w).mono ?_
  rintro e w1 ⟨rfl,rfl⟩
  go_wp2_with fail
  refine(Bq b _ _ _ _ _ _ w H.out hlo HK.out.i0 HK.out.i1).mono ?_
 rotate_left
 focus
  refine(jI 13 w).mono ?_
  rintro e w1 ⟨rfl,rfl⟩
  go_wp2_with fail
  refine(Ia b _ _ _ _ _ _ w H.out hlo).mono ?_
 rotate_left
 focus
  refine(jI x w).mono ?_
  rw[HW.out]
  rintro e w1 ⟨rfl,rfl⟩
  go_wp2_with fail
  refine((AO b _ w H.out.run).mono (fun _ _ hq=>uq.act hq H.out rfl rfl rfl rfl rfl)).mono ?_
 rotate_left
 all_goals
  rintro e w1 ⟨rfl,hb1,U1,hi1⟩
  have HB1:=hid hb1
  have HI1:=hid hi1
  clear hb1 hi1
  go_wp2_with fail
  exact bodyPost_end (v:=.tuple #[]) (by simp[results,Tryz.results52,go_sem]) rfl ⟨rfl,HB1.out,U1,HI1.out⟩
end Go.Proofs.YtfkgmbknfnhjoaaGreat
