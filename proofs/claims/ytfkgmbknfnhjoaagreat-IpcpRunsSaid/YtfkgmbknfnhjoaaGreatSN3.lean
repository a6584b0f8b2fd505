/- N3 -/
import Derived.Test.YtfkgmbknfnhjoaaGreatSA
import Derived.Test.YtfkgmbknfnhjoaaGreatSN2
import Derived.OneCell
import Derived.Deep.DrawnRows
import Derived.Deep.RegionLaw
set_option linter.all false
set_option maxHeartbeats 4000000
namespace Go.Proofs.YtfkgmbknfnhjoaaGreat.Ne
open Lib (hid)
open Go.RowKit
theorem Hf {d:List UInt8} (h:d.length≤4):be d<4294967296:=by
 have h1:=Pb d
 have h2:256^d.length≤256^4:=Nat.pow_le_pow_right (by omega) h
 have h3:(256:Nat)^4=4294967296:=by decide
 omega
theorem vv (t:Int) (A:Option Addr) (n c:Nat) (d:List UInt8) (w:World) (B:Nat) (hB:B≤w.heap.size) (hA:At w B A (d.map bv)) (hn:n=d.length) (h4:n≤4) (hc:n≤c):
  Calls Tryz.prog 176 #[.agg #[.int .i64 t,.slice A n c]] w fun x w'=>x=.returned (.int .i64 (be d:Int))∧Below w.heap.size w w':=by
 have HA:=hid hA
 have HB:=hid hB
 rcases Nat.eq_zero_or_pos n with h0|h0
 ·subst h0
  have hd:d=[]:=List.length_eq_zero_iff.1 hn.symm
  subst hd
  clear hA hB hn
  go_enter Tryz.func176,Tryz.ntmps176
  go_wp2_with fail
  refine(Oz A 0 c 0 _ (.inl (by decide))).mono ?_
  rintro e w1 ⟨rfl,rfl⟩
  go_wp2_with fail
  go_ret
  exact⟨rfl,by exact aA⟩
 ·have hb4:=Hf (d:=d) (by omega)
  obtain⟨q,hq⟩: ∃q,be d=q:=⟨_,rfl⟩
  rw[hq] at hb4 ⊢
  have HQ:=hid hq
  have HN:=hid hn
  have e1:IntKind.i64.wrap (q:Int)=(q:Int):=IntWalk.i64_in _ (by omega)
  have q4:(q:Int)<4294967296:=by omega
  clear hA hB hn hq hb4
  go_enter Tryz.func176,Tryz.ntmps176
  go_wp2_with fail
  refine(JO A n c d (n:Int) _ B (by have:=HB.out;simp;omega) (HA.out.keep (by have:=HB.out;exact aA)) HN.out (by omega) (by omega) (by omega) (by omega) hc).mono ?_
  rintro e w1 ⟨v,rfl,hb,ho⟩
  have HT:=hid (show be (d.take ((n:Int).toNat))=q by rw[List.take_of_length_le (by have:=HN.out;omega)];exact HQ.out)
  rw[HT.out]
  obtain⟨xs,dr,rfl⟩:=aB hb
  clear hb ho
  go_wp2_with fail
  go_ret
  exact⟨rfl,by exact aA⟩
theorem sI (t:Int) (A:Option Addr) (n c:Nat) (d:List UInt8) (w:World) (B:Nat) (hB:B≤w.heap.size) (hA:At w B A (d.map bv)) (hn:n=d.length) (h4:n≤4):
  Calls Tryz.prog 145 #[.agg #[.int .i64 t,.slice A n c]] w fun x w'=>x=.returned (.int .i64 (be d:Int))∧Below w.heap.size w w':=by
 have HA:=hid (hA.more hB)
 have HN:=hid hn
 clear hA hn hB
 go_enter Tryz.func145,Tryz.ntmps145
 go_wp2_with fail
 go_loopw [3,4] (fun v i wr=> ∃(k q:Nat),k≤n∧i=.int .i64 k∧v=.int .i64 q∧be (d.take k)=q∧Below w.heap.size w wr∧wr.heap[w.heap.size]? =some (.cells #[.int .i64 t,.slice A n c] 111 (0,0))) (fun _ i _=>n-(intOf i).toNat)
 case atStart=>exact⟨0,0,Nat.zero_le _,rfl,rfl,rfl,by exact aA,by rw[heap_alloc_new]⟩
 case round=>
  obtain⟨k,q,hk,rfl,rfl,hq,hb,nP⟩:=hrel
  have HQ:=hid hq
  have cu:=hid hb
  have Ep:=hid nP
  obtain⟨g0,g1,g2,g3⟩:=iW nP
  have hsz:=hb.size
  clear hq hb nP
  by_cases hlt:k<n
  ·have HK:=hid (show k<d.length by have:=HN.out;omega)
   obtain⟨b,o,rfl,tL,hx⟩:=rA (HA.out.keep cu.out) HK.out
   obtain⟨x,ZB⟩: ∃x,d[k]'HK.out=x:=⟨_,rfl⟩
   rw[ZB] at hx
   have hx8:=x.toNat_lt
   have hq4:q<4294967296:=by rw[←HQ.out];exact Hf (by rw[List.length_take];omega)
   have gD:=hid (show be (d.take (k+1))=256*q+x.toNat by rw[List.take_succ_eq_append_getElem HK.out,yh,HQ.out,ZB];omega)
   have z1:b<wr.heap.size:=by omega
   have CS:(0:Int)≤(k:Int):=by omega
   have Fj:(k:Int)<(n:Int):=by omega
   have q4:(q:Int)<4294967296:=by omega
   have x8:((x.toNat:Nat):Int)<256:=by omega
   have e1:IntKind.i64.wrap ((x.toNat:Nat):Int)=((x.toNat:Nat):Int):=IntWalk.i64_in _ (by omega)
   have e2:IntKind.i64.wrap (256*(q:Int))=256*(q:Int):=IntWalk.i64_in _ (by omega)
   have e3:IntKind.i64.wrap (256*(q:Int)+((x.toNat:Nat):Int))=256*(q:Int)+((x.toNat:Nat):Int):=IntWalk.i64_in _ (by omega)
   clear ZB
   go_wp2_with fail
   go_roundw
   case rel=>exact⟨k+1,256*q+x.toNat,by omega,by go_num,by go_num,gD.out,by have:=cu.out;exact aA,by exact Ep.out⟩
   case measure=>simp[intOf];omega
  ·obtain rfl:k=n:=by omega
   have HR:=hid (show be d=q by rw[←HQ.out,List.take_of_length_le (by have:=HN.out;omega)])
   go_wp2_with fail
   go_ret
   exact⟨by rw[HR.out];rfl,cu.out⟩
theorem uP (t kd lo hi:Int) (s g:Nat) (m:Bool) (w:World) (hs:s≤4) (hg:g<4294967296):
  Calls Tryz.prog 163 #[.agg #[.int .i64 t,.int .i64 (s:Int),.int .i64 kd,.int .i64 lo,.int .i64 hi,.int .i64 (g:Int),.bool m]] w (TB t s (bX g s) w):=by
 have e1:IntKind.u64.wrap (g:Int)=(g:Int):=by unfold IntKind.wrap;simp[IntKind.signed,IntKind.bits];omega
 have hg4:(g:Int)<4294967296:=by omega
 rcases Nat.eq_zero_or_pos s with h0|h0
 ·subst h0
  go_enter Tryz.func163,Tryz.ntmps163
  go_upto_region 1 with(fail)
  go_region_held3 (fun w'=>w'.cell? ⟨w.heap.size,0,none⟩=some (.int .i64 t)∧w'.cell? ⟨w.heap.size,1,none⟩=some (.int .i64 0)∧w'.cell? ⟨w.heap.size,5,none⟩=some (.int .i64 (g:Int))) (first|(go_keep;done)|(go_simp;done)|(simp[go_sem];done)) ((go_at_call 94;go_must (refine(UH (g:Int) 0 _ (by decide)).mono ?_);(rintro e w1 ⟨rfl,rfl⟩)))
  all_goals
   go_wp2_with fail
   refine bodyPost_ret (v:=.agg #[.int .i64 t,.slice none 0 0]) (by simp[results,Tryz.results163,go_sem]) rfl ?_
  exact⟨none,0,rfl,by exact aA,aN _ _ _ _⟩
 ·go_enter Tryz.func163,Tryz.ntmps163
  go_upto_region 1 with(fail)
  go_region_held3 (fun w'=>w'.cell? ⟨w.heap.size,0,none⟩=some (.int .i64 t)∧w'.cell? ⟨w.heap.size,1,none⟩=some (.int .i64 (s:Int))∧w'.cell? ⟨w.heap.size,5,none⟩=some (.int .i64 (g:Int))) (first|(go_keep;done)|(go_simp;done)|(simp[go_sem];done)) ((go_at_call 94;go_must (refine(oC g s _ (by omega) h0 (by omega)).mono ?_);(rintro e w1 ⟨v,rfl,hb,ho⟩;obtain⟨A2,c2,rfl,-,-⟩:=ownsRow_form ho;obtain⟨xs,dr,rfl⟩:=aB hb;have HO:=hid ho;clear hb ho)))
  all_goals
   go_wp2_with fail
   refine bodyPost_ret (v:=.agg #[.int .i64 t,.slice A2 s c2]) (by simp[results,Tryz.results163,go_sem]) rfl ?_
  refine⟨A2,c2,rfl,by exact aA,?_⟩
  have h:=aK (base':=w.heap.size) HO.out (by simp;omega)
  exact dx h fun k hk=>nK _ _ xs dr dr k (by simp) (eu HO.out hk)
theorem xG (t kd lo hi:Int) (s g:Nat) (m:Bool) (w:World) (hs:s≤4) (hg:g<4294967296):
  Calls Tryz.prog 146 #[.agg #[.int .i64 t,.int .i64 (s:Int),.int .i64 kd,.int .i64 lo,.int .i64 hi,.int .i64 (g:Int),.bool m]] w (TB t s (bX g s) w):=by
 have e1:IntKind.u64.wrap (g:Int)=(g:Int):=by unfold IntKind.wrap;simp[IntKind.signed,IntKind.bits];omega
 have hg4:(g:Int)<4294967296:=by omega
 rcases Nat.eq_zero_or_pos s with h0|h0
 ·subst h0
  go_enter Tryz.func146,Tryz.ntmps146
  go_upto_region 1 with(fail)
  go_region_held3 (fun w'=>w'.cell? ⟨w.heap.size,0,none⟩=some (.int .i64 t)∧w'.cell? ⟨w.heap.size,1,none⟩=some (.int .i64 0)∧w'.cell? ⟨w.heap.size,5,none⟩=some (.int .i64 (g:Int))) (first|(go_keep;done)|(go_simp;done)|(simp[go_sem];done)) ((go_at_call 29;go_must (refine(Ou (g:Int) 0 _ (by decide)).mono ?_);(rintro e w1 ⟨rfl,rfl⟩)))
  all_goals
   go_wp2_with fail
   refine bodyPost_ret (v:=.agg #[.int .i64 t,.slice none 0 0]) (by simp[results,Tryz.results146,go_sem]) rfl ?_
  exact⟨none,0,rfl,by exact aA,aN _ _ _ _⟩
 ·go_enter Tryz.func146,Tryz.ntmps146
  go_upto_region 1 with(fail)
  go_region_held3 (fun w'=>w'.cell? ⟨w.heap.size,0,none⟩=some (.int .i64 t)∧w'.cell? ⟨w.heap.size,1,none⟩=some (.int .i64 (s:Int))∧w'.cell? ⟨w.heap.size,5,none⟩=some (.int .i64 (g:Int))) (first|(go_keep;done)|(go_simp;done)|(simp[go_sem];done)) ((go_at_call 29;go_must (refine(vH g s _ (by omega) h0 (by omega)).mono ?_);(rintro e w1 ⟨v,rfl,hb,ho⟩;obtain⟨A2,c2,rfl,-,-⟩:=ownsRow_form ho;obtain⟨xs,dr,rfl⟩:=aB hb;have HO:=hid ho;clear hb ho)))
  all_goals
   go_wp2_with fail
   refine bodyPost_ret (v:=.agg #[.int .i64 t,.slice A2 s c2]) (by simp[results,Tryz.results146,go_sem]) rfl ?_
  refine⟨A2,c2,rfl,by exact aA,?_⟩
  have h:=aK (base':=w.heap.size) HO.out (by simp;omega)
  exact dx h fun k hk=>nK _ _ xs dr dr k (by simp) (eu HO.out hk)
def oJ (o:bF) (r:Rl):Bool:=r.t==o.1&&r.sz==(o.2.length:Int)
def nM (R:List Rl) (o:bF):Option Nat:=R.findIdx? (oJ o)
theorem wY {R:List Rl} {o:bF} (h: ∀j,(hj:j<R.length)→oJ o R[j]=false):nM R o=none:=by
 unfold nM
 rw[List.findIdx?_eq_none_iff]
 intro x hx
 obtain⟨j,hj,rfl⟩:=List.mem_iff_getElem.1 hx
 exact h j hj
theorem wZ {R:List Rl} {o:bF} {k:Nat} (hk:k<R.length) (h1:oJ o R[k]=true) (h: ∀j,(hj:j<k)→oJ o (R[j]'(by omega))=false):nM R o=some k:=by
 unfold nM
 rw[List.findIdx?_eq_some_iff_getElem]
 exact⟨hk,h1,fun j hj=>by rw[h j hj];simp⟩
theorem yE {R:List Rl} {o:bF} {k:Nat} (h:nM R o=some k): ∃hk:k<R.length,oJ o R[k]=true:=by
 unfold nM at h
 obtain⟨hk,h1,-⟩:=List.findIdx?_eq_some_iff_getElem.1 h
 exact⟨hk,h1⟩
theorem tK (A:Option Addr) (n c:Nat) (E:List aH) (ty:Int) (w:World) (B:Nat) (hB:B≤w.heap.size) (hA:aJ w B A E) (hn:n=E.length) (hl:n≤1000000):
  Calls Tryz.prog 144 #[.slice A n c,.int .i64 ty] w fun x w'=>x=.returned (.bool (vC (E.map aH.o) ty).isSome)∧w=w':=by
 have HA:=hid hA
 have HN:=hid hn
 clear hA hn
 go_enter Tryz.func144,Tryz.ntmps144
 go_wp2_with fail
 go_loop [5] (fun i=> ∃k:Nat,k≤n∧i=.int .i64 k∧ ∀j,j<k→ ∀hj:j<E.length,(E[j].t==ty)=false) (fun i=>n-(intOf i).toNat)
 case atStart=>exact⟨0,Nat.zero_le _,rfl,fun j hj=>absurd hj (Nat.not_lt_zero j)⟩
 case round=>
  obtain⟨k,hk,rfl,hp⟩:=hrel
  have HP:=hid hp
  clear hp
  by_cases hlt:k<n
  ·have HK:=hid (show k<E.length by have:=HN.out;omega)
   obtain⟨b,o,rfl,tL,hx,hy⟩:=HA.out.get HK.out
   obtain⟨e0,he0⟩: ∃e0,E[k]'HK.out=e0:=⟨_,rfl⟩
   rw[he0] at hx hy
   obtain⟨t,d,a,ce⟩:=e0
   have BD:=hid he0
   have CS:(0:Int)≤(k:Int):=by omega
   have Fj:(k:Int)<(n:Int):=by omega
   simp only at hx
   clear he0 hy
   cases ht:(t==ty)
   ·have HT:=hid ht
    go_wp2_with fail
    go_round
    case rel=>exact⟨k+1,by omega,by go_num,fun j hj hl=>by(by_cases e:j=k;(subst e;rw[BD.out];exact HT.out);exact HP.out j (by omega) hl)⟩
    case measure=>simp[intOf];omega
   ·have HR:=hid (show vC (E.map aH.o) ty=some k from AV (by simp;exact HK.out) (by simp only[List.getElem_map];rw[BD.out];exact ht) (fun j hj=>by simp only[List.getElem_map];exact HP.out j hj (by have:=HK.out;omega)))
    go_wp2_with fail
    go_ret
    exact⟨by rw[HR.out];rfl,rfl⟩
  ·obtain rfl:k=n:=by omega
   have HR:=hid (show vC (E.map aH.o) ty=none from AU (fun j hj=>by simp only[List.getElem_map];exact HP.out j (by simp at hj;have:=HN.out;omega) (by simpa using hj)))
   go_wp2_with fail
   go_ret
   exact⟨by rw[HR.out];rfl,rfl⟩
theorem Jz (A:Option Addr) (n c:Nat) (R:List Rl) (ty:Int) (a:Option Addr) (ce:Nat) (d:List UInt8) (w:World) (B:Nat) (hB:B≤w.heap.size) (hR:aD w B A R) (hn:n=R.length) (hl:n≤1000000):
  Calls Tryz.prog 143 #[.slice A n c,.agg #[.int .i64 ty,.slice a d.length ce]] w fun x w'=>x=.returned (.int .i64 (Di (nM R (ty,d))))∧Below w.heap.size w w':=by
 have HR:=hid hR
 have HN:=hid hn
 have HB:=hid hB
 clear hR hn hB
 obtain⟨l,hl0⟩: ∃l,d.length=l:=⟨_,rfl⟩
 have HL:=hid hl0
 rw[hl0]
 clear hl0
 go_enter Tryz.func143,Tryz.ntmps143
 go_wp2_with fail
 go_loopw [5] (fun i wr=> ∃k:Nat,k≤n∧i=.int .i64 k∧(∀j,j<k→ ∀hj:j<R.length,oJ (ty,d) R[j]=false)∧Below w.heap.size w wr∧wr.heap[w.heap.size]? =some (.cells #[.int .i64 ty,.slice a l ce] 111 (0,0))) (fun i _=>n-(intOf i).toNat)
 case atStart=>exact⟨0,Nat.zero_le _,rfl,fun j hj=>absurd hj (Nat.not_lt_zero j),by exact aA,by rw[heap_alloc_new]⟩
 case round=>
  obtain⟨k,hk,rfl,hp,hbl,nP⟩:=hrel
  have HP:=hid hp
  have cu:=hid hbl
  have Ep:=hid nP
  obtain⟨g0,g1,g2,g3⟩:=iW nP
  have hsz:=hbl.size
  clear hp hbl nP
  by_cases hlt:k<n
  ·have HK:=hid (show k<R.length by have:=HN.out;omega)
   obtain⟨b,o,rfl,tL,hat⟩:=(HR.out.keep (cu.out.mono HB.out)).get HK.out
   obtain⟨r,hr⟩: ∃r,R[k]'HK.out=r:=⟨_,rfl⟩
   rw[hr] at hat
   have Gj:=hid hr
   clear hr
   obtain⟨t,sz,kd,lo,hi,gd,mu⟩:=r
   obtain⟨c0,c1,c2,c3,c4,c5,c6⟩:=hat
   simp only at c0 c1 c2 c3 c4 c5 c6
   have hblt:b<wr.heap.size:=by have:=HB.out;omega
   have wm:(0:Int)≤(k:Int):=by omega
   have wu:(k:Int)<(n:Int):=by omega
   cases hf:oJ (ty,d) ⟨t,sz,kd,lo,hi,gd,mu⟩
   ·have HF:=hid hf
    have h12:(t==ty)=false∨((t==ty)=true∧(sz==(l:Int))=false):=by
     have:=hf;unfold oJ at this;simp only[HL.out] at this
     cases h1:(t==ty)
     ·exact .inl rfl
     ·rw[h1] at this;exact .inr ⟨rfl,by simpa using this⟩
    clear hf
    rcases h12 with h1|⟨h1,h2⟩
    all_goals
     go_upto_region 5 with(fail)
     go_quiet (fail)
     go_wp2_with fail
     go_roundw
     case rel=>exact⟨k+1,by omega,by go_num,fun j hj hl=>by(by_cases e:j=k;(subst e;rw[Gj.out];exact HF.out);exact HP.out j (by omega) hl),by have:=cu.out;exact aA,by exact Ep.out⟩
     case measure=>simp[intOf];omega
   ·have Tq:=hid (show nM R (ty,d)=some k from wZ HK.out (by rw[Gj.out];exact hf) (fun j hj=>HP.out j hj (by have:=HK.out;omega)))
    have h12:(t==ty)=true∧(sz==(l:Int))=true:=by have:=hf;unfold oJ at this;simp only[HL.out] at this;simpa using this
    clear hf
    obtain⟨h1,h2⟩:=h12
    go_upto_region 5 with(fail)
    go_quiet (fail)
    go_wp2_with fail
    go_ret
    exact⟨by rw[Tq.out];rfl,by have:=cu.out;exact aA⟩
  ·obtain rfl:k=n:=by omega
   have Tq:=hid (show nM R (ty,d)=none from wY (fun j hj=>HP.out j (by have:=HN.out;omega) hj))
   go_wp2_with fail
   go_ret
   exact⟨by rw[Tq.out];rfl,cu.out⟩
theorem Wv (t sz kd lo hi gd:Int) (mu:Bool) (ty:Int) (a:Option Addr) (d:List UInt8) (ce X:Nat) (w:World) (hX:w.cell? ⟨X,0,none⟩=some (.int .i64 ty)) (hY:w.cell? ⟨X,1,none⟩=some (.slice a d.length ce)) (hz:X<w.heap.size):
  Calls Tryz.prog 175 #[.agg #[.int .i64 t,.int .i64 sz,.int .i64 kd,.int .i64 lo,.int .i64 hi,.int .i64 gd,.bool mu],.pointer (some ⟨X,0,none⟩)] w fun x w'=>x=.returned (.bool (oJ (ty,d) ⟨t,sz,kd,lo,hi,gd,mu⟩))∧Below w.heap.size w w':=by
 unfold oJ
 obtain⟨l,hl0⟩: ∃l,d.length=l:=⟨_,rfl⟩
 simp only[hl0]
 rw[hl0] at hY
 clear hl0
 cases h1:(t==ty)<;>cases h2:(sz==(l:Int))
 all_goals
  go_enter Tryz.func175,Tryz.ntmps175
  go_wp2_with fail
  go_ret
  exact⟨rfl,by exact aA⟩
theorem CP (A:Option Addr) (n c:Nat) (R:List Rl) (ty:Int) (a:Option Addr) (d:List UInt8) (ce X:Nat) (w:World) (B:Nat) (hB:B≤w.heap.size) (hR:aD w B A R) (hn:n=R.length) (hl:n≤1000000) (hX:w.cell? ⟨X,0,none⟩=some (.int .i64 ty)) (hY:w.cell? ⟨X,1,none⟩=some (.slice a d.length ce)) (hz:X<w.heap.size):
  Calls Tryz.prog 174 #[.slice A n c,.func (.func 175) #[] #[.pointer (some ⟨X,0,none⟩)]] w fun x w'=>x=.returned (.int .i64 (Di (nM R (ty,d))))∧Below w.heap.size w w':=by
 have HR:=hid hR
 have HN:=hid hn
 have HB:=hid hB
 have HX:=hid hX
 have HY:=hid hY
 clear hR hn hB hX hY
 go_enter Tryz.func174,Tryz.ntmps174
 go_wp2_with fail
 go_loopw [8] (fun i wr=> ∃k:Nat,k≤n∧i=.int .i64 k∧(∀j,j<k→ ∀hj:j<R.length,oJ (ty,d) R[j]=false)∧Below w.heap.size w wr) (fun i _=>n-(intOf i).toNat)
 case atStart=>exact⟨0,Nat.zero_le _,rfl,fun j hj=>absurd hj (Nat.not_lt_zero j),Below.refl _ _⟩
 case round=>
  obtain⟨k,hk,rfl,hp,hb⟩:=hrel
  have HP:=hid hp
  have cu:=hid hb
  have hsz:=hb.size
  clear hp hb
  by_cases hlt:k<n
  focus
   have HK:=hid (show k<R.length by have:=HN.out;omega)
   obtain⟨b,o,rfl,tL,hat⟩:=(HR.out.keep (cu.out.mono HB.out)).get HK.out
   obtain⟨r,hr⟩: ∃r,R[k]'HK.out=r:=⟨_,rfl⟩
   rw[hr] at hat
   have Gj:=hid hr
   clear hr
   obtain⟨t,sz,kd,lo,hi,gd,mu⟩:=r
   obtain⟨c0,c1,c2,c3,c4,c5,c6⟩:=hat
   simp only at c0 c1 c2 c3 c4 c5 c6
   have hblt:b<wr.heap.size:=by have:=HB.out;omega
   have wm:(0:Int)≤(k:Int):=by omega
   have wu:(k:Int)<(n:Int):=by omega
   cases hf:oJ (ty,d) ⟨t,sz,kd,lo,hi,gd,mu⟩
  focus
   have HF:=hid hf
  rotate_left
  focus
   have HF:=hid hf
   have Tq:=hid (show nM R (ty,d)=some k from wZ HK.out (by rw[Gj.out];exact hf) (fun j hj=>HP.out j hj (by have:=HK.out;omega)))
  rotate_left
  ·obtain rfl:k=n:=by omega
   have Tq:=hid (show nM R (ty,d)=none from wY (fun j hj=>HP.out j (by have:=HN.out;omega) hj))
   go_wp2_with fail
   go_ret
   exact⟨by rw[Tq.out];rfl,cu.out⟩
  all_goals
   clear hf
   go_wp2_with (go_at_call 175;refine(Wv t sz kd lo hi gd mu ty a d ce X _ ((cu.out.cell (p:=⟨X,0,none⟩) hz).trans HX.out) ((cu.out.cell (p:=⟨X,1,none⟩) hz).trans HY.out) (by omega)).mono ?_;rw[HF.out];rintro e w2 ⟨rfl,hb⟩;have HB2:=hid (cu.out.trans (hb.mono hsz));clear hb)
  ·go_roundw
   case rel=>exact⟨k+1,by omega,by go_num,fun j hj hl=>by(by_cases e:j=k;(subst e;rw[Gj.out];exact HF.out);exact HP.out j (by omega) hl),HB2.out⟩
   case measure=>simp[intOf];omega
  ·go_ret
   exact⟨by rw[Tq.out];rfl,HB2.out⟩
theorem Ij (A:Option Addr) (n c:Nat) (R:List Rl) (ty:Int) (a:Option Addr) (d:List UInt8) (ce X:Nat) (w:World) (B:Nat) (hB:B≤w.heap.size) (hR:aD w B A R) (hn:n=R.length) (hl:n≤1000000) (hX:w.cell? ⟨X,0,none⟩=some (.slice A n c)) (hz:X<w.heap.size):
  Calls Tryz.prog 173 #[.agg #[.int .i64 ty,.slice a d.length ce],.pointer (some ⟨X,0,none⟩)] w fun x w'=>x=.returned (.int .i64 (Di (nM R (ty,d))))∧Below w.heap.size w w':=by
 have HR:=hid hR
 have HB:=hid hB
 have HN:=hid hn
 clear hR hB hn
 go_enter Tryz.func173,Tryz.ntmps173
 go_wp2_with fail
 refine(CP A n c R ty a d ce w.heap.size _ B (by have:=HB.out;simp;omega) (HR.out.keep (by have:=HB.out;exact aA)) HN.out hl (by simp[go_sem]) (by simp[go_sem]) (by simp)).mono ?_
 rintro e w1 ⟨rfl,hb⟩;obtain⟨xs,d,rfl⟩:=aB hb;clear hb
 go_wp2_with fail
 go_ret
 exact⟨rfl,by exact aA⟩
def nR (R:List Rl) (L:List bF) (i:Nat) (o:bF):Option Rl:=
 match nM R o with
 |none=>none
 |some k=>if (vC (L.take i) o.1).isSome=true then none else R[k]?
def mY (R:List Rl) (L:List bF) (s:List bF×List bF×List Rl) (i:Nat):List bF×List bF×List Rl:=
 match L[i]? with
 |none=>s
 |some o=>match nR R L i o with
  |none=>(s.1++[o],s.2.1,s.2.2)
  |some r=>if r.takes (be o.2:Int)=true then s else(s.1,s.2.1++[o],s.2.2++[r])
def aX (R:List Rl) (L:List bF) (k:Nat):List bF×List bF×List Rl:=(List.range k).foldl (mY R L) ([],[],[])
theorem fP (R:List Rl) (L:List bF) (k:Nat):aX R L (k+1)=mY R L (aX R L k) k:=by
 unfold aX
 rw[List.range_succ,List.foldl_append];rfl
theorem jS (R:List Rl) (L:List bF): ∀k,(aX R L k).1.length+(aX R L k).2.1.length≤k∧(aX R L k).2.2.length=(aX R L k).2.1.length
 |0=>⟨by simp[aX],rfl⟩
 |k+1=>by
  have ih:=jS R L k
  rw[fP]
  unfold mY
  split
  ·exact⟨by omega,ih.2⟩
  ·split
   ·exact⟨by simp;omega,ih.2⟩
   ·split
    ·exact⟨by omega,ih.2⟩
    ·exact⟨by simp;omega,by simp;omega⟩
theorem Fp {R:List Rl} {L:List bF} {i:Nat} {o:bF} {r:Rl} (h:nR R L i o=some r):r∈R∧oJ o r=true:=by
 unfold nR at h
 cases hf:nM R o with
 |none=>rw[hf] at h;cases h
 |some k=>
  rw[hf] at h
  simp only at h
  split at h
  ·cases h
  ·obtain⟨hk,h2⟩:=yE hf
   rw[List.getElem?_eq_getElem hk] at h
   cases h
   exact⟨List.getElem_mem hk,h2⟩
theorem nV (R:List Rl) (L:List bF): ∀k,∀r∈(aX R L k).2.2,r∈R
 |0=>by intro r h;cases h
 |k+1=>by
  have ih:=nV R L k
  intro r hr
  rw[fP] at hr
  unfold mY at hr
  split at hr
  ·exact ih r hr
  ·split at hr
   ·exact ih r hr
   ·split at hr
    ·exact ih r hr
    ·rename_i r' hk _
     rcases List.mem_append.1 hr with h|h
     ·exact ih r h
     ·simp only[List.mem_singleton] at h
      subst h
      exact(Fp hk).1
def fT (L:List bF) (r:Rl):Bool:=r.must&& !(vC L r.t).isSome
def gH (R:List Rl) (L:List bF):List Rl:=R.filter (fT L)
theorem sj {α:Type} (f:α→Bool) (R:List α) (k:Nat) (hk:k<R.length):(R.take (k+1)).filter f=(R.take k).filter f++if f R[k]=true then [R[k]] else []:=by
 rw[List.take_succ_eq_append_getElem hk,List.filter_append]
 by_cases h:f R[k]=true<;>simp[h]
theorem qC (R:List Rl) (L:List bF) (k:Nat):((R.take k).filter (fT L)).length≤k:=by
 have h1:=List.length_filter_le (fT L) (R.take k)
 have h2:=List.length_take_le k R
 omega
def kQ (r:Rl):List Value:=[.int .i64 r.t,.int .i64 r.sz,.int .i64 r.kd,.int .i64 r.lo,.int .i64 r.hi,.int .i64 r.gd,.bool r.must]
def dN (R:List Rl):List Value:=R.flatMap kQ
theorem r_ (R:List Rl) (r:Rl):dN (R++[r])=dN R++kQ r:=by simp[dN]
theorem Cq (R:List Rl):(dN R).length=7*R.length:=by
 induction R with
 |nil=>rfl
 |cons e E ih=>simp only[dN,kQ,List.flatMap_cons,List.length_append,List.length_cons,List.length_nil] at*;omega
theorem uG: ∀(R:List Rl) (k:Nat) (hk:k<R.length) (j:Nat) (hj:j<7),(dN R)[7*k+j]? =(kQ R[k])[j]?
 |e::E,0,_,j,hj=>by
  have e1:dN (e::E)=kQ e++dN E:=rfl
  rw[e1,List.getElem?_append_left (by show 7*0+j<7;omega)]
  simp
 |e::E,k+1,hk,j,hj=>by
  have:=uG E k (by simpa using hk) j hj
  have e1:dN (e::E)=kQ e++dN E:=rfl
  rw[e1,List.getElem?_append_right (by show 7≤7*(k+1)+j;omega)]
  rw[show 7*(k+1)+j-(kQ e).length=7*k+j by show 7*(k+1)+j-7=_;omega]
  simpa using this
theorem wU (r:Rl): ∀u∈kQ r,u.oneCell'=true:=by
 intro u hu
 simp only[kQ,List.mem_cons,List.not_mem_nil,or_false] at hu
 rcases hu with rfl|rfl|rfl|rfl|rfl|rfl|rfl<;>rfl
theorem aD.of_cells {W:World} {B:Nat} {A:Option Addr} {R:List Rl} (h:At W B A (dN R)) (hw: ∀r∈R,dJ r.t∧dJ r.sz∧dJ r.lo∧dJ r.hi∧dJ r.gd):aD W B A R:=by
 refine⟨?_,hw⟩
 rcases h with h|⟨b,o,e,hb,hc⟩
 ·refine .inl ?_
  have:=congrArg List.length h
  rw[Cq] at this
  exact List.length_eq_zero_iff.1 (by have h7:7*R.length=0:=this;omega)
 ·refine .inr ⟨b,o,e,hb,fun k hk=>?_⟩
  have key: ∀j (hj:j<7) u,(kQ R[k])[j]? =some u→W.cell? ⟨b,o+k*7+j,none⟩=some u:=fun j hj u hu=>by
   have:=hc (7*k+j) u (by rw[uG R k hk j hj];exact hu)
   rwa [show o+(7*k+j)=o+k*7+j by omega] at this
  exact⟨key 0 (by omega) _ rfl,key 1 (by omega) _ rfl,key 2 (by omega) _ rfl,key 3 (by omega) _ rfl,key 4 (by omega) _ rfl,key 5 (by omega) _ rfl,key 6 (by omega) _ rfl⟩
theorem IG:(Tryz.prog.info? 136).map (fun i=>(i.zero,i.size,i.bytes))=some (some (.agg #[.int .i64 0,.int .i64 0,.int .i64 0,.int .i64 0,.int .i64 0,.int .i64 0,.bool false]),7,56):=by kernel_rfl
theorem aY {w:World} {base:Nat} {e e':TypeId} {size n:Nat} {v:Value} {xs:List Value} (h:w.ownsRow base e size v n xs) {X:Nat} {cs:Array Value} (hX:w.heap[X]? =some (.cells cs e' (0,0))) (hne:e≠e'):v.ownBlock≠some X:=by
 intro hk
 obtain⟨cur,hc⟩:=bL h hk
 rw[hX] at hc
 cases hc
 exact hne rfl
structure SW (wr:World) (base X2 X4 X5:Nat) (q:Value) (vo vb vr vl:Value) (Eo Eb:List aH) (Rr Rk:List Rl):Prop where
 o:aI wr base vo Eo
 b:aI wr base vb Eb
 r:wr.ownsRow base 136 7 vr Rr.length (dN Rr)
 l:wr.ownsRow base 136 7 vl Rk.length (dN Rk)
 s:wr.heap[X5]? =some (.cells #[vo,vb,vr,vl] 193 (0,0))
 x4:wr.heap[X4]? =some (.cells #[.slice none 0 0,.slice none 0 0,.slice none 0 0,.slice none 0 0] 193 (0,0))
 x2:wr.heap[X2]? =some (.cells #[q] 22 (0,0))
 ne:X4≠X5
 ob: ∀g,vo.ownBlock=some g→vb.ownBlock≠some g
 rl: ∀g,vr.ownBlock=some g→vl.ownBlock≠some g
theorem lt_of_block {w:World} {b:Nat} {o:Obj} (h:w.heap[b]? =some o):b<w.heap.size:=by
 rw[Array.getElem?_eq_some_iff] at h;exact h.1
section
variable {wr w':World} {base X2 X4 X5:Nat} {q vo vb vr vl v3:Value} {Eo Eb:List aH} {Rr Rk:List Rl}
theorem SW.keep (h:SW wr base X2 X4 X5 q vo vb vr vl Eo Eb Rr Rk) (hb:Below wr.heap.size wr w'):SW w' base X2 X4 X5 q vo vb vr vl Eo Eb Rr Rk:=
 ⟨h.o.below hb,h.b.below hb,own_below h.r hb,own_below h.l hb,(hb.block _ (lt_of_block h.s)).trans h.s,(hb.block _ (lt_of_block h.x4)).trans h.x4,(hb.block _ (lt_of_block h.x2)).trans h.x2,h.ne,h.ob,h.rl⟩
theorem _root_.Go.Proofs.YtfkgmbknfnhjoaaGreat.aI.apart {base:Nat} {v:Value} {E:List aH} {row:Option Nat} (h:aI wr base v E) (hg:wr.grownBy w' row) (hne: ∀g,row=some g→v.ownBlock≠some g) (ht: ∀g,row=some g→ ∃cur e',wr.heap[g]? =some (.cells cur e' (0,0))∧e'≠5):aI w' base v E:=
 ⟨eH h.1 hg (fun k hk hkr=>hne k hkr.symm hk),fun x hx=>aW (h.2 x hx) hg fun r e=>.inr (.inr (ht r e))⟩
theorem dh {X:Nat} {o:Obj} {row:Option Nat} (h:wr.heap[X]? =some o) (hg:wr.grownBy w' row) (hne:row≠some X):w'.heap[X]? =some o:=
 (hg.block X (lt_of_block h) (fun e=>hne e.symm)).trans h
theorem _root_.Go.Proofs.YtfkgmbknfnhjoaaGreat.iN.apart {wr w':World} {v v3 u:Value} (h:iN wr w' v v3) (hu: ∀g,v.ownBlock=some g→u.ownBlock≠some g) (hlt: ∀g,u.ownBlock=some g→g<wr.heap.size): ∀g,v3.ownBlock=some g→u.ownBlock≠some g:=by
 intro g hg e
 rcases h with h|⟨h,-⟩
 ·exact hu g (h▸hg) e
 ·rw[h] at hg;cases hg;have:=hlt _ e;omega
theorem _root_.Go.Proofs.YtfkgmbknfnhjoaaGreat.aI.set {w:World} {base X j:Nat} {v:Value} {E:List aH} {cs:Array Value} {e':TypeId} (h:aI w base v E) (hX:w.heap[X]? =some (.cells cs e' (0,0))) (h1:111≠e') (h2:5≠e') (u:Value):aI (w.setCell ⟨X,j,none⟩ u) base v E:=
 ⟨ownsRow_setCell_other h.1 (aY h.1 hX h1) u,fun x hx=>ownsRow_setCell_other (h.2 x hx) (aY (h.2 x hx) hX h2) u⟩
theorem SW.odd {tt:Int} {dd:List UInt8} {A2:Option Addr} {c2:Nat} (h:SW wr base X2 X4 X5 q vo vb vr vl Eo Eb Rr Rk) (h2:wr.ownsRow base 5 1 (.slice A2 dd.length c2) dd.length (dd.map bv))
  (h3:w'.ownsRow base 111 2 v3 (Eo.length+1) (cellsE Eo++[.int .i64 tt,.slice A2 dd.length c2])) (hg:wr.grownBy w' vo.ownBlock) (hw:iN wr w' vo v3):
  SW (w'.setCell ⟨X5,0,none⟩ v3) base X2 X4 X5 q v3 vb vr vl (Eo++[⟨tt,dd,A2,c2⟩]) Eb Rr Rk:=by
 have ho:=aI.jO h.o h2 h3 hg
 have ht: ∀g,vo.ownBlock=some g→ ∃cur e',wr.heap[g]? =some (.cells cur e' (0,0))∧e'≠5:=fun g e=>by obtain⟨cur,hc⟩:=bL h.o.1 e;exact⟨cur,_,hc,by decide⟩
 have hbb:aI w' base vb Eb:=h.b.apart hg h.ob ht
 have hr: ∀g,vo.ownBlock=some g→vr.ownBlock≠some g:=fun g e e2=>by obtain⟨c1,h1⟩:=bL h.o.1 e;obtain⟨c2,h2⟩:=bL h.r e2;rw[h1] at h2;cases h2
 have hl: ∀g,vo.ownBlock=some g→vl.ownBlock≠some g:=fun g e e2=>by obtain⟨c1,h1⟩:=bL h.o.1 e;obtain⟨c2,h2⟩:=bL h.l e2;rw[h1] at h2;cases h2
 have hrr:=eH h.r hg (fun k hk hkr=>hr k hkr.symm hk)
 have hll:=eH h.l hg (fun k hk hkr=>hl k hkr.symm hk)
 have hs:=dh h.s hg (aY h.o.1 h.s (by decide))
 have h4:=dh h.x4 hg (aY h.o.1 h.x4 (by decide))
 have hx2:=dh h.x2 hg (aY h.o.1 h.x2 (by decide))
 refine⟨ho.set hs (by decide) (by decide) _,hbb.set hs (by decide) (by decide) _,ownsRow_setCell_other hrr (aY hrr hs (by decide)) _,ownsRow_setCell_other hll (aY hll hs (by decide)) _,?_,?_,?_,h.ne,hw.apart h.ob (fun g e=>eY h.b.1 e),h.rl⟩
 ·rw[heap_setCell_same _ X5 0 _ _ _ hs];rfl
 ·rw[heap_setCell_other _ _ _ _ (by simp;exact h.ne)];exact h4
 ·rw[heap_setCell_other _ _ _ _ (by simp;intro e;rw[e] at hx2;rw[hs] at hx2;cases hx2)];exact hx2
theorem SW.bad {tt:Int} {dd:List UInt8} {A2:Option Addr} {c2:Nat} (h:SW wr base X2 X4 X5 q vo vb vr vl Eo Eb Rr Rk) (h2:wr.ownsRow base 5 1 (.slice A2 dd.length c2) dd.length (dd.map bv))
  (h3:w'.ownsRow base 111 2 v3 (Eb.length+1) (cellsE Eb++[.int .i64 tt,.slice A2 dd.length c2])) (hg:wr.grownBy w' vb.ownBlock) (hw:iN wr w' vb v3):
  SW (w'.setCell ⟨X5,1,none⟩ v3) base X2 X4 X5 q vo v3 vr vl Eo (Eb++[⟨tt,dd,A2,c2⟩]) Rr Rk:=by
 have ho:=aI.jO h.b h2 h3 hg
 have ht: ∀g,vb.ownBlock=some g→ ∃cur e',wr.heap[g]? =some (.cells cur e' (0,0))∧e'≠5:=fun g e=>by obtain⟨cur,hc⟩:=bL h.b.1 e;exact⟨cur,_,hc,by decide⟩
 have BM: ∀g,vb.ownBlock=some g→vo.ownBlock≠some g:=fun g e e2=>h.ob g e2 e
 have hbb:aI w' base vo Eo:=h.o.apart hg BM ht
 have hr: ∀g,vb.ownBlock=some g→vr.ownBlock≠some g:=fun g e e2=>by obtain⟨c1,h1⟩:=bL h.b.1 e;obtain⟨c2,h2⟩:=bL h.r e2;rw[h1] at h2;cases h2
 have hl: ∀g,vb.ownBlock=some g→vl.ownBlock≠some g:=fun g e e2=>by obtain⟨c1,h1⟩:=bL h.b.1 e;obtain⟨c2,h2⟩:=bL h.l e2;rw[h1] at h2;cases h2
 have hrr:=eH h.r hg (fun k hk hkr=>hr k hkr.symm hk)
 have hll:=eH h.l hg (fun k hk hkr=>hl k hkr.symm hk)
 have hs:=dh h.s hg (aY h.b.1 h.s (by decide))
 have h4:=dh h.x4 hg (aY h.b.1 h.x4 (by decide))
 have hx2:=dh h.x2 hg (aY h.b.1 h.x2 (by decide))
 refine⟨hbb.set hs (by decide) (by decide) _,ho.set hs (by decide) (by decide) _,ownsRow_setCell_other hrr (aY hrr hs (by decide)) _,ownsRow_setCell_other hll (aY hll hs (by decide)) _,?_,?_,?_,h.ne,fun g e e2=>hw.apart BM (fun g e=>eY h.o.1 e) g e2 e,h.rl⟩
 ·rw[heap_setCell_same _ X5 1 _ _ _ hs];rfl
 ·rw[heap_setCell_other _ _ _ _ (by simp;exact h.ne)];exact h4
 ·rw[heap_setCell_other _ _ _ _ (by simp;intro e;rw[e] at hx2;rw[hs] at hx2;cases hx2)];exact hx2
theorem SW.rule {r:Rl} (h:SW wr base X2 X4 X5 q vo vb vr vl Eo Eb Rr Rk) (h3:w'.ownsRow base 136 7 v3 (Rr.length+1) (dN Rr++kQ r)) (hg:wr.grownBy w' vr.ownBlock) (hw:iN wr w' vr v3):
  SW (w'.setCell ⟨X5,2,none⟩ v3) base X2 X4 X5 q vo vb v3 vl Eo Eb (Rr++[r]) Rk:=by
 have ht: ∀g,vr.ownBlock=some g→ ∃cur e',wr.heap[g]? =some (.cells cur e' (0,0))∧e'≠5:=fun g e=>by obtain⟨cur,hc⟩:=bL h.r e;exact⟨cur,_,hc,by decide⟩
 have h1: ∀g,vr.ownBlock=some g→vo.ownBlock≠some g:=fun g e e2=>by obtain⟨c1,h1⟩:=bL h.r e;obtain⟨c2,h2⟩:=bL h.o.1 e2;rw[h1] at h2;cases h2
 have h2: ∀g,vr.ownBlock=some g→vb.ownBlock≠some g:=fun g e e2=>by obtain⟨c1,h1⟩:=bL h.r e;obtain⟨c2,h2⟩:=bL h.b.1 e2;rw[h1] at h2;cases h2
 have WM:aI w' base vo Eo:=h.o.apart hg h1 ht
 have hbb:aI w' base vb Eb:=h.b.apart hg h2 ht
 have hll:=eH h.l hg (fun k hk hkr=>h.rl k hkr.symm hk)
 have hs:=dh h.s hg (aY h.r h.s (by decide))
 have h4:=dh h.x4 hg (aY h.r h.x4 (by decide))
 have hx2:=dh h.x2 hg (aY h.r h.x2 (by decide))
 refine⟨WM.set hs (by decide) (by decide) _,hbb.set hs (by decide) (by decide) _,?_,ownsRow_setCell_other hll (aY hll hs (by decide)) _,?_,?_,?_,h.ne,h.ob,hw.apart h.rl (fun g e=>eY h.l e)⟩
 ·rw[r_,List.length_append];exact ownsRow_setCell_other h3 (aY h3 hs (by decide)) _
 ·rw[heap_setCell_same _ X5 2 _ _ _ hs];rfl
 ·rw[heap_setCell_other _ _ _ _ (by simp;exact h.ne)];exact h4
 ·rw[heap_setCell_other _ _ _ _ (by simp;intro e;rw[e] at hx2;rw[hs] at hx2;cases hx2)];exact hx2
theorem SW.lack {r:Rl} (h:SW wr base X2 X4 X5 q vo vb vr vl Eo Eb Rr Rk) (h3:w'.ownsRow base 136 7 v3 (Rk.length+1) (dN Rk++kQ r)) (hg:wr.grownBy w' vl.ownBlock) (hw:iN wr w' vl v3):
  SW (w'.setCell ⟨X5,3,none⟩ v3) base X2 X4 X5 q vo vb vr v3 Eo Eb Rr (Rk++[r]):=by
 have ht: ∀g,vl.ownBlock=some g→ ∃cur e',wr.heap[g]? =some (.cells cur e' (0,0))∧e'≠5:=fun g e=>by obtain⟨cur,hc⟩:=bL h.l e;exact⟨cur,_,hc,by decide⟩
 have h1: ∀g,vl.ownBlock=some g→vo.ownBlock≠some g:=fun g e e2=>by obtain⟨c1,h1⟩:=bL h.l e;obtain⟨c2,h2⟩:=bL h.o.1 e2;rw[h1] at h2;cases h2
 have h2: ∀g,vl.ownBlock=some g→vb.ownBlock≠some g:=fun g e e2=>by obtain⟨c1,h1⟩:=bL h.l e;obtain⟨c2,h2⟩:=bL h.b.1 e2;rw[h1] at h2;cases h2
 have hlr: ∀g,vl.ownBlock=some g→vr.ownBlock≠some g:=fun g e e2=>h.rl g e2 e
 have WM:aI w' base vo Eo:=h.o.apart hg h1 ht
 have hbb:aI w' base vb Eb:=h.b.apart hg h2 ht
 have hrr:=eH h.r hg (fun k hk hkr=>hlr k hkr.symm hk)
 have hs:=dh h.s hg (aY h.l h.s (by decide))
 have h4:=dh h.x4 hg (aY h.l h.x4 (by decide))
 have hx2:=dh h.x2 hg (aY h.l h.x2 (by decide))
 refine⟨WM.set hs (by decide) (by decide) _,hbb.set hs (by decide) (by decide) _,ownsRow_setCell_other hrr (aY hrr hs (by decide)) _,?_,?_,?_,?_,h.ne,h.ob,fun g e e2=>hw.apart hlr (fun g e=>eY h.r e) g e2 e⟩
 ·rw[r_,List.length_append];exact ownsRow_setCell_other h3 (aY h3 hs (by decide)) _
 ·rw[heap_setCell_same _ X5 3 _ _ _ hs];rfl
 ·rw[heap_setCell_other _ _ _ _ (by simp;exact h.ne)];exact h4
 ·rw[heap_setCell_other _ _ _ _ (by simp;intro e;rw[e] at hx2;rw[hs] at hx2;cases hx2)];exact hx2
theorem SW.s_o {wa:World} (h:SW wr base X2 X4 X5 q vo vb vr vl Eo Eb Rr Rk) (hb:Below wr.heap.size wr wa) (hg:wa.grownBy w' vo.ownBlock):w'.heap[X5]? =some (.cells #[vo,vb,vr,vl] 193 (0,0)):=
 dh (h.keep hb).s hg (aY (h.keep hb).o.1 (h.keep hb).s (by decide))
theorem SW.s_b {wa:World} (h:SW wr base X2 X4 X5 q vo vb vr vl Eo Eb Rr Rk) (hb:Below wr.heap.size wr wa) (hg:wa.grownBy w' vb.ownBlock):w'.heap[X5]? =some (.cells #[vo,vb,vr,vl] 193 (0,0)):=
 dh (h.keep hb).s hg (aY (h.keep hb).b.1 (h.keep hb).s (by decide))
theorem SW.s_r {wa:World} (h:SW wr base X2 X4 X5 q vo vb vr vl Eo Eb Rr Rk) (hb:Below wr.heap.size wr wa) (hg:wa.grownBy w' vr.ownBlock):w'.heap[X5]? =some (.cells #[vo,vb,vr,vl] 193 (0,0)):=
 dh (h.keep hb).s hg (aY (h.keep hb).r (h.keep hb).s (by decide))
theorem SW.s_l {wa:World} (h:SW wr base X2 X4 X5 q vo vb vr vl Eo Eb Rr Rk) (hb:Below wr.heap.size wr wa) (hg:wa.grownBy w' vl.ownBlock):w'.heap[X5]? =some (.cells #[vo,vb,vr,vl] 193 (0,0)):=
 dh (h.keep hb).s hg (aY (h.keep hb).l (h.keep hb).s (by decide))
end
theorem dw {W:World} {X:Nat} {a b c d:Value} {T:TypeId} (h:W.heap[X]? =some (.cells #[a,b,c,d] T (0,0))):W.cell? ⟨X,0,none⟩=some a∧W.cell? ⟨X,1,none⟩=some b∧W.cell? ⟨X,2,none⟩=some c∧W.cell? ⟨X,3,none⟩=some d∧W.frozen? ⟨X,0,none⟩=false∧W.frozen? ⟨X,1,none⟩=false∧W.frozen? ⟨X,2,none⟩=false∧W.frozen? ⟨X,3,none⟩=false:=by
 refine⟨?_,?_,?_,?_,frozen_of_row W X 0 _ _ h,frozen_of_row W X 1 _ _ h,frozen_of_row W X 2 _ _ h,frozen_of_row W X 3 _ _ h⟩
 ·rw[cell_of_row W X 0 _ _ _ h];rfl
 ·rw[cell_of_row W X 1 _ _ _ h];rfl
 ·rw[cell_of_row W X 2 _ _ _ h];rfl
 ·rw[cell_of_row W X 3 _ _ _ h];rfl
theorem Z0 {w:World} {X:Nat} {cs:Array Value} {T:TypeId} (h:w.heap[X]? =some (.cells cs T (0,0))) (hc:cs.size=4) (a b c d:Value):
  ((((w.setCell ⟨X,0,none⟩ a).setCell ⟨X,1,none⟩ b).setCell ⟨X,2,none⟩ c).setCell ⟨X,3,none⟩ d).heap[X]? =some (.cells #[a,b,c,d] T (0,0)):=by
 obtain⟨l⟩:=cs
 match l,hc with
 |[x0,x1,x2,x3],_=>
  rw[heap_setCell_same _ X 3 _ _ _ (heap_setCell_same _ X 2 _ _ _ (heap_setCell_same _ X 1 _ _ _ (heap_setCell_same _ X 0 _ _ _ h)))]
  rfl
structure qw (w':World) (base:Nat) (vo vb vr vl:Value) (Eo Eb:List aH) (Rr Rk:List Rl):Prop where
 o:aI w' base vo Eo
 b:aI w' base vb Eb
 r:w'.ownsRow base 136 7 vr Rr.length (dN Rr)
 l:w'.ownsRow base 136 7 vl Rk.length (dN Rk)
theorem SW.out {wr:World} {base X2 X4 X5:Nat} {q vo vb vr vl:Value} {Eo Eb:List aH} {Rr Rk:List Rl} (h:SW wr base X2 X4 X5 q vo vb vr vl Eo Eb Rr Rk) (a b c d:Value):
  qw ((((wr.setCell ⟨X4,0,none⟩ a).setCell ⟨X4,1,none⟩ b).setCell ⟨X4,2,none⟩ c).setCell ⟨X4,3,none⟩ d) base vo vb vr vl Eo Eb Rr Rk:=by
 have h1:=heap_setCell_same wr X4 0 _ _ a h.x4
 have h2:=heap_setCell_same _ X4 1 _ _ b h1
 have h3:=heap_setCell_same _ X4 2 _ _ c h2
 have ho: ∀{e:TypeId} {size n:Nat} {v:Value} {xs:List Value},e≠193→wr.ownsRow base e size v n xs→((((wr.setCell ⟨X4,0,none⟩ a).setCell ⟨X4,1,none⟩ b).setCell ⟨X4,2,none⟩ c).setCell ⟨X4,3,none⟩ d).ownsRow base e size v n xs:=fun he hr=>by
  have k0:=aY hr h.x4 he
  exact ownsRow_setCell_other (ownsRow_setCell_other (ownsRow_setCell_other (ownsRow_setCell_other hr k0 _) k0 _) k0 _) k0 _
 exact⟨⟨ho (by decide) h.o.1,fun e he=>ho (by decide) (h.o.2 e he)⟩,⟨ho (by decide) h.b.1,fun e he=>ho (by decide) (h.b.2 e he)⟩,ho (by decide) h.r,ho (by decide) h.l⟩
def Wj (w:World) (R:List Rl) (L:List bF) (x:Ending) (w':World):Prop:=
 ∃(Ao Ab Ar Al:Option Addr) (no nb nr nl co cb cr cl:Nat) (Eo Eb:List aH),x=.returned (.agg #[.slice Ao no co,.slice Ab nb cb,.slice Ar nr cr,.slice Al nl cl])∧Below w.heap.size w w'∧
  qw w' w.heap.size (.slice Ao no co) (.slice Ab nb cb) (.slice Ar nr cr) (.slice Al nl cl) Eo Eb (aX R L L.length).2.2 (gH R L)∧Eo.map aH.o=(aX R L L.length).1∧Eb.map aH.o=(aX R L L.length).2.1∧no=Eo.length∧nb=Eb.length∧nr=(aX R L L.length).2.2.length∧nl=(gH R L).length
theorem qY {R:List Rl} (h:bM R=true) {r:Rl} (hr:r∈R):r.ok=true:=by
 obtain⟨k,hk,rfl⟩:=List.mem_iff_getElem.1 hr
 unfold bM nN at h
 simp only[Bool.and_eq_true,List.all_eq_true,List.mem_range] at h
 have h2:=h.2 k hk
 rw[yK hk] at h2
 simp only[Bool.and_eq_true] at h2
 exact h2.1
theorem kg {r:Rl} (h:r.ok=true):0≤r.sz∧r.sz≤4∧0≤r.gd∧r.gd<4294967296∧r.takes r.gd=true∧r.gd<lim r.sz:=by
 unfold Rl.ok okB preB eG at h
 simp only[Bool.and_eq_true,decide_eq_true_eq] at h
 obtain⟨⟨⟨⟨⟨h1,h2⟩,h3⟩,h4⟩,h5⟩,h6,h7,⟨h8,h9⟩,h10,h11⟩:=h
 have hl:lim r.sz≤4294967296:=by
  have:r.sz=0∨r.sz=1∨r.sz=2∨r.sz=3∨r.sz=4:=by omega
  rcases this with e|e|e|e|e<;>rw[e]<;>decide
 exact⟨h3,h4,h8,by omega,h11,h9⟩
theorem zY (E:List aH) (k:Nat):cellsE (E.take k)=(cellsE E).take (2*k):=by
 induction E generalizing k with
 |nil=>simp[cellsE]
 |cons e E ih=>
  cases k with
  |zero=>simp[cellsE]
  |succ k=>
   have e1: ∀(y:aH) (F:List aH),cellsE (y::F)=.int .i64 y.t::y.v::cellsE F:=fun _ _=>rfl
   rw[List.take_succ_cons,e1,e1,ih,show 2*(k+1)=2*k+1+1 by omega,List.take_succ_cons,List.take_succ_cons]
theorem _root_.Go.Proofs.YtfkgmbknfnhjoaaGreat.aJ.take {W:World} {B:Nat} {A:Option Addr} {E:List aH} (h:aJ W B A E) (k:Nat):aJ W B A (E.take k):=
 ⟨by rw[zY];exact h.1.take _,fun e he=>h.2 e (List.mem_of_mem_take he)⟩
theorem iM {P:Program} {c:Code} {Q:Exit→Act→World→Prop} {a:Act} {w:World} (S:World→Prop) (hS:S w) (h: ∀W,S W→c.wp P Q a W):c.wp P Q a w:=h w hS
attribute [local go_sem ↓] Go.wp_at_zero Go.wp_at_succ
theorem rD (args:Array Value) (w:World):(callFunc 165 args).run Tryz.prog w=.ok (.enter 165 args) w:=by kernel_rfl
set_option maxRecDepth 100000 in
theorem Bl (A A2:Option Addr) (n c n2 c2:Nat) (R:List Rl) (E:List aH) (w:World) (B:Nat) (hB:B≤w.heap.size) (hR:aD w B A R) (hn:n=R.length) (hl:n≤1000000)
  (L:List bF) (hL:E.map aH.o=L) (hA:aJ w B A2 E) (hn2:n2=E.length) (hc2:n2≤c2) (hl2:n2≤1000000) (hd: ∀e∈E,e.d.length≤1000000) (hok:bM R=true):
  Calls Tryz.prog 162 #[.slice A n c,.slice A2 n2 c2] w (Wj w R L):=by
 have HR:=hid hR
 have HN:=hid hn
 have HB:=hid hB
 have HA:=hid hA
 have iA:=hid hn2
 have HD:=hid hd
 have jU:=hid hok
 clear hR hn hB hA hn2 hd hok
 have HL:=hid hL
 clear hL
 go_enter Tryz.func162,Tryz.ntmps162
 go_wp2_with fail
 go_loopw [15] (fun i wr=> ∃(k no co nb cb nr cr:Nat) (Ao Ab Ar:Option Addr) (Eo Eb:List aH),k≤n2∧i=.int .i64 k∧Below w.heap.size w wr∧SW wr w.heap.size w.heap.size (w.heap.size+1) (w.heap.size+1+1) (.slice A n c) (.slice Ao no co) (.slice Ab nb cb) (.slice Ar nr cr) (.slice none 0 0) Eo Eb (aX R L k).2.2 []∧Eo.map aH.o=(aX R L k).1∧Eb.map aH.o=(aX R L k).2.1∧no=Eo.length∧nb=Eb.length∧nr=(aX R L k).2.2.length) (fun i _=>n2-(intOf i).toNat)
 case atStart=>exact⟨0,0,0,0,0,0,0,none,none,none,[],[],Nat.zero_le _,rfl,by exact aA,⟨aI.nil _ _,aI.nil _ _,aN _ _ _ _,aN _ _ _ _,by(repeat(first|((refine aF _ _ _ ?_);(simp[go_sem];done))|((refine(aO _ _ _ _ ?_).trans ?_);(focus (simp[go_sem];done)))|((refine(aC _ _ _ ?_).trans ?_);(focus (simp[go_sem];done))))),by(repeat(first|((refine aF _ _ _ ?_);(simp[go_sem];done))|((refine(aO _ _ _ _ ?_).trans ?_);(focus (simp[go_sem];done)))|((refine(aC _ _ _ ?_).trans ?_);(focus (simp[go_sem];done))))),by(repeat(first|((refine aF _ _ _ ?_);(simp[go_sem];done))|((refine(aO _ _ _ _ ?_).trans ?_);(focus (simp[go_sem];done)))|((refine(aC _ _ _ ?_).trans ?_);(focus (simp[go_sem];done))))),by omega,(fun _ h=>by cases h),(fun _ h=>by cases h)⟩,rfl,rfl,rfl,rfl,rfl⟩
 case round=>
  obtain⟨k,no,co,nb,cb,nr,cr,Ao,Ab,Ar,Eo,Eb,hk,rfl,hbl,hsw,pF,Ap,hno,hnb,hnr⟩:=hrel
  have cu:=hid hbl
  have Ew:=hid hsw
  have o8:=hid pF
  have zm:=hid Ap
  have oQ:=hid hno
  have jK:=hid hnb
  have gB:=hid hnr
  have hsz:=hbl.size
  have hnk:no+nb≤k∧nr≤k:=by
   have h:=jS R L k
   rw[←pF,←Ap,List.length_map,List.length_map] at h
   omega
  obtain⟨s0,s1,s2,s3,f0,f1,f2,f3⟩:=dw hsw.s
  have x2:wr.cell? ⟨w.heap.size,0,none⟩=some (.slice A n c):=by rw[cell_of_row _ _ 0 _ _ _ hsw.x2];rfl
  have hz5:=lt_of_block hsw.s
  have hz2:=lt_of_block hsw.x2
  clear hbl hsw pF Ap hno hnb hnr
  by_cases hlt:k<n2
  ·have HK:=hid (show k<E.length by have:=iA.out;omega)
   obtain⟨b,o,rfl,tL,hx,hy⟩:=(HA.out.keep (cu.out.mono HB.out)).get HK.out
   obtain⟨e0,he0⟩: ∃e0,E[k]'HK.out=e0:=⟨_,rfl⟩
   have hat:=HA.out.2 _ (List.getElem_mem HK.out)
   have hdl:=HD.out _ (List.getElem_mem HK.out)
   have hlk:L[k]? =some e0.o:=by rw[←HL.out,List.getElem?_map,List.getElem?_eq_getElem HK.out,he0];rfl
   rw[he0] at hx hy hat hdl
   obtain⟨t,d,a,ce⟩:=e0
   have hbz:b<wr.heap.size:=by have:=HB.out;omega
   have CS:(0:Int)≤(k:Int):=by omega
   have Fj:(k:Int)<(n2:Int):=by omega
   have HAT:=hid hat
   have BG:=hid hlk
   unfold aH.v at hy
   simp only at hx hy hat hdl
   have E_:d.length≤400000000:=by omega
   clear hat he0 hlk
   go_wp2_with fail
   refine(Ij A n c R t a d ce w.heap.size _ B (by have:=HB.out;simp;omega) (HR.out.keep (by have:=HB.out;have h:=cu.out.mono this;exact aA)) HN.out hl ?_ (by simp;omega)).mono ?_
   ·exact(World.cell?_alloc_lt _ _ (a:=⟨w.heap.size,0,none⟩) (by simp;omega)).trans x2
   cases hfi:nM R (t,d) with
   |none=>
    unfold Di
    have gD:=hid (show aX R L (k+1)=((aX R L k).1++[(t,d)],(aX R L k).2.1,(aX R L k).2.2) by
     rw[fP];unfold mY;rw[BG.out];simp only[nR,aH.o,hfi])
    clear hfi
    rintro e w1 ⟨rfl,hb⟩;obtain⟨xs1,Y1,rfl⟩:=aB hb;clear hb
    go_upto_region 8 with(fail)
    go_quiet (fail)
    go_wp2_with fail
    refine iM (fun W5=>SW W5 w.heap.size w.heap.size (w.heap.size+1) (w.heap.size+1+1) (.slice A n c) (.slice Ao no co) (.slice Ab nb cb) (.slice Ar nr cr) (.slice none 0 0) Eo Eb (aX R L k).2.2 []∧W5.heap[wr.heap.size]? =some (.cells #[.int .i64 t,.slice a d.length ce] 111 (0,0))∧Below wr.heap.size wr W5) ⟨SW.keep Ew.out (by exact aA),by(repeat(first|((refine aF _ _ _ ?_);(simp[go_sem];done))|((refine(aO _ _ _ _ ?_).trans ?_);(focus (simp[go_sem];done)))|((refine(aC _ _ _ ?_).trans ?_);(focus (simp[go_sem];done))))),by exact aA⟩ ?_
    rintro W5 ⟨qB,Am,hb5⟩
    have uh:=hid qB
    have dO:=hid hb5
    have hsz5:=hb5.size
    obtain⟨s0,s1,s2,s3,f0,f1,f2,f3⟩:=dw qB.s
    obtain⟨g0,g1,-,g3⟩:=iW Am
    have WX:=lt_of_block qB.s
    clear qB hb5 Am
    go_region_law (first|(refine mJ rfl 165 (.tmp 37) #[111] rfl rD (.agg #[.int .i64 t,.slice a d.length ce]) rfl ?_;go_must (refine(ow t a d.length ce d _ B (by have:=HB.out;have h:=cu.out.size;first|omega|(simp;omega)) (by exact HAT.out.1.keep (by have:=HB.out;have h:=cu.out.mono this;have h2:=dO.out.mono (aaF this hsz);exact aA)) rfl E_ HAT.out.2).mono ?_);rintro e w2 ⟨A3,c3,rfl,hb,ho⟩;obtain⟨xs2,Y2,rfl⟩:=aB hb;have j_:=hid ho;clear hb ho;refine⟨_,rfl,?_⟩)|(refine oG w rfl (.tmp 36) (.tmp 39) 25 rfl 111 Tryz.underlying25 (.agg #[.int .i64 0,.slice none 0 0]) 2 32 dV rfl (by decide) (by decide) (.slice Ao no co) no (cellsE Eo) rfl (by have h:=uh.out.o.1;rw[←oQ.out] at h;exact own_below h (by exact aA)) (grow W5.heap.size xs2+1) (some ⟨grow W5.heap.size xs2,0,none⟩) 1 1 [.int .i64 t,.slice A3 d.length c3] rfl rfl (by omega) (by exact At.gW _ _ _ _ _ (by simp[size_ext]) rfl) (by intro u hu;simp at hu;rcases hu with rfl|rfl<;>rfl) (by have h1:=cu.out.trans (dO.out.mono hsz);exact aA) ?_;intro A4 c4 w3 ho3 hc3 hb3 hg3 hw3;have hs3:=uh.out.s_o (by exact aA) hg3;obtain⟨s30,-,-,-,f30,-,-,-⟩:=dw hs3;have hz3:=lt_of_block hs3;have jW:=hid (SW.odd (tt:=t) (dd:=d) (uh.out.keep (by exact aA)) (own_below (aK j_.out (by simp;omega)) (by exact aA)) (by rw[←oQ.out];exact ho3) hg3 hw3);have HB3:=hid hb3;clear ho3 hc3 hb3 hg3 hw3 hs3))
    all_goals
     go_wp2_with fail
     go_roundw
     case rel=>exact⟨k+1,no+1,c4,nb,cb,nr,cr,A4,Ab,Ar,_,Eb,by omega,by go_num,by have h:=HB3.out;exact aA,by rw[gD.out];exact jW.out,by rw[gD.out,List.map_append,o8.out];rfl,by rw[gD.out];exact zm.out,by simp[oQ.out],jK.out,by rw[gD.out];exact gB.out⟩
     case measure=>simp[intOf];omega
   |some k2=>
    have hk2:(0:Int)≤(k2:Int):=by omega
    have hck:(k:Int)≤(c2:Int):=by omega
    have Tk:=hid hfi
    unfold Di
    clear hfi
    rintro e w1 ⟨rfl,hb⟩
    obtain⟨xs1,Y1,rfl⟩:=aB hb
    clear hb
    have hkl:(E.take k).map aH.o=L.take k:=by rw[List.map_take,HL.out]
    have tH:=hid hkl
    cases hpl:vC (L.take k) t with
    |some j=>
     have KJ:=hid hpl
     have gD:=hid (show aX R L (k+1)=((aX R L k).1++[(t,d)],(aX R L k).2.1,(aX R L k).2.2) by
      rw[fP];unfold mY;rw[BG.out];simp only[nR,aH.o,Tk.out,hpl];rfl)
     clear hpl hkl
     go_wp2_with fail
     go_region_held3 (fun w'=>w'.cell? ⟨wr.heap.size,0,none⟩=some (.int .i64 t)) (first|(go_keep;done)|(go_simp;done)|(simp[go_sem];done)) ((go_at_call 166;go_must (refine(jE (some ⟨b,o,none⟩) k c2 (E.take k) t _ B (by have:=HB.out;simp[size_ext,grow];omega) (by exact(HA.out.keep (by have:=HB.out;have h:=cu.out.mono this;exact aA)).take k) (by rw[List.length_take];have:=HK.out;omega) (by omega)).mono ?_);rw[tH.out,KJ.out];unfold Di;rintro e w1 ⟨rfl,hb⟩;obtain⟨mP,XG,rfl⟩:=aB hb;clear hb))
     all_goals
      go_wp2_with fail
      refine iM (fun W5=>SW W5 w.heap.size w.heap.size (w.heap.size+1) (w.heap.size+1+1) (.slice A n c) (.slice Ao no co) (.slice Ab nb cb) (.slice Ar nr cr) (.slice none 0 0) Eo Eb (aX R L k).2.2 []∧W5.heap[wr.heap.size]? =some (.cells #[.int .i64 t,.slice a d.length ce] 111 (0,0))∧Below wr.heap.size wr W5) ⟨SW.keep Ew.out (by exact aA),by(repeat(first|((refine aF _ _ _ ?_);(simp[go_sem];done))|((refine(aO _ _ _ _ ?_).trans ?_);(focus (simp[go_sem];done)))|((refine(aC _ _ _ ?_).trans ?_);(focus (simp[go_sem];done))))),by exact aA⟩ ?_
      rintro W5 ⟨qB,Am,hb5⟩
      have uh:=hid qB
      have dO:=hid hb5
      have hsz5:=hb5.size
      obtain⟨s0,s1,s2,s3,f0,f1,f2,f3⟩:=dw qB.s
      obtain⟨g0,g1,-,g3⟩:=iW Am
      have WX:=lt_of_block qB.s
      clear qB hb5 Am
      go_region_law (first|(refine mJ rfl 165 (.tmp 37) #[111] rfl rD (.agg #[.int .i64 t,.slice a d.length ce]) rfl ?_;go_must (refine(ow t a d.length ce d _ B (by have:=HB.out;have h:=cu.out.size;first|omega|(simp;omega)) (by exact HAT.out.1.keep (by have:=HB.out;have h:=cu.out.mono this;have h2:=dO.out.mono (aaF this hsz);exact aA)) rfl E_ HAT.out.2).mono ?_);rintro e w2 ⟨A3,c3,rfl,hb,ho⟩;obtain⟨xs2,Y2,rfl⟩:=aB hb;have j_:=hid ho;clear hb ho;refine⟨_,rfl,?_⟩)|(refine oG w rfl (.tmp 36) (.tmp 39) 25 rfl 111 Tryz.underlying25 (.agg #[.int .i64 0,.slice none 0 0]) 2 32 dV rfl (by decide) (by decide) (.slice Ao no co) no (cellsE Eo) rfl (by have h:=uh.out.o.1;rw[←oQ.out] at h;exact own_below h (by exact aA)) (grow W5.heap.size xs2+1) (some ⟨grow W5.heap.size xs2,0,none⟩) 1 1 [.int .i64 t,.slice A3 d.length c3] rfl rfl (by omega) (by exact At.gW _ _ _ _ _ (by simp[size_ext]) rfl) (by intro u hu;simp at hu;rcases hu with rfl|rfl<;>rfl) (by have h1:=cu.out.trans (dO.out.mono hsz);exact aA) ?_;intro A4 c4 w3 ho3 hc3 hb3 hg3 hw3;have hs3:=uh.out.s_o (by exact aA) hg3;obtain⟨s30,-,-,-,f30,-,-,-⟩:=dw hs3;have hz3:=lt_of_block hs3;have jW:=hid (SW.odd (tt:=t) (dd:=d) (uh.out.keep (by exact aA)) (own_below (aK j_.out (by simp;omega)) (by exact aA)) (by rw[←oQ.out];exact ho3) hg3 hw3);have HB3:=hid hb3;clear ho3 hc3 hb3 hg3 hw3 hs3))
      all_goals
       go_wp2_with fail
       go_roundw
       case rel=>exact⟨k+1,no+1,c4,nb,cb,nr,cr,A4,Ab,Ar,_,Eb,by omega,by go_num,by have h:=HB3.out;exact aA,by rw[gD.out];exact jW.out,by rw[gD.out,List.map_append,o8.out];rfl,by rw[gD.out];exact zm.out,by simp[oQ.out],jK.out,by rw[gD.out];exact gB.out⟩
       case measure=>simp[intOf];omega
    |none=>
     have KJ:=hid hpl
     have zJ:=hid (show nR R L k (t,d)=R[k2]? by unfold nR;rw[Tk.out];simp only[hpl];rfl)
     clear hpl hkl
     obtain⟨hkr,sw⟩:=yE Tk.out
     obtain⟨rb,ro,rfl,hrb,lQ⟩:=(HR.out.keep (cu.out.mono HB.out)).get hkr
     have kH:=qY jU.out (List.getElem_mem hkr)
     have J_:R[k2]? =some R[k2]:=List.getElem?_eq_getElem hkr
     obtain⟨r,hr⟩: ∃r,R[k2]=r:=⟨_,rfl⟩
     rw[hr] at sw lQ kH J_
     clear hr
     have hbd:=kg kH
     have h4:d.length≤4:=by unfold oJ at sw;simp only[Bool.and_eq_true,beq_iff_eq] at sw;have:=hbd.2.1;omega
     have Gj:=hid J_
     obtain⟨rt,sz,kd,lo,hi,gd,mu⟩:=r
     obtain⟨c0,c1,c2',c3',yx,c5,c6⟩:=lQ
     simp only at c0 c1 c2' c3' yx c5 c6
     have oU:rb<wr.heap.size:=by have:=HB.out;omega
     have wm:(0:Int)≤(k2:Int):=by omega
     have wu:(k2:Int)<(n:Int):=by have:=HN.out;omega
     have Zp:k2<n:=by have:=HN.out;omega
     clear kH J_ hbd sw hkr
     cases htk:dG kd lo hi gd (be d:Int) with
     |true=>
      have qV:=hid htk
      have gD:=hid (show aX R L (k+1)=aX R L k by
       rw[fP];unfold mY;rw[BG.out]
       simp only[aH.o,zJ.out,Gj.out]
       exact if_pos htk)
      clear htk
      go_wp2_with fail
      go_region_held3 (fun w'=>w'.cell? ⟨wr.heap.size,0,none⟩=some (.int .i64 t)) (first|(go_keep;done)|(go_simp;done)|(simp[go_sem];done)) ((go_at_call 166;go_must (refine(jE (some ⟨b,o,none⟩) k c2 (E.take k) t _ B (by have:=HB.out;simp[size_ext,grow];omega) (by exact(HA.out.keep (by have:=HB.out;have h:=cu.out.mono this;exact aA)).take k) (by rw[List.length_take];have:=HK.out;omega) (by omega)).mono ?_);rw[tH.out,KJ.out];unfold Di;rintro e w1 ⟨rfl,hb⟩;obtain⟨mP,XG,rfl⟩:=aB hb;clear hb))
      all_goals
       go_wp2_with fail
       refine iM (fun W4=>SW W4 w.heap.size w.heap.size (w.heap.size+1) (w.heap.size+1+1) (.slice (some ⟨rb,ro,none⟩) n c) (.slice Ao no co) (.slice Ab nb cb) (.slice Ar nr cr) (.slice none 0 0) Eo Eb (aX R L k).2.2 []∧W4.heap[wr.heap.size]? =some (.cells #[.int .i64 t,.slice a d.length ce] 111 (0,0))∧Below wr.heap.size wr W4) ⟨SW.keep Ew.out (by exact aA),by(repeat(first|((refine aF _ _ _ ?_);(simp[go_sem];done))|((refine(aO _ _ _ _ ?_).trans ?_);(focus (simp[go_sem];done)))|((refine(aC _ _ _ ?_).trans ?_);(focus (simp[go_sem];done))))),by exact aA⟩ ?_
       rintro W4 ⟨yI,CB,hb4⟩
       have Tv:=hid yI
       have VJ:=hid CB
       have fu:=hid hb4
       have Iy:=hb4.size
       obtain⟨g0,g1,-,g3⟩:=iW CB
       have x2':W4.cell? ⟨w.heap.size,0,none⟩=some (.slice (some ⟨rb,ro,none⟩) n c):=by rw[cell_of_row _ _ 0 _ _ _ yI.x2];rfl
       have ZC:=lt_of_block yI.x2
       rw[←hb4.cell (p:=⟨rb,_,none⟩) oU] at c0 c1 c2' c3' yx c5 c6
       have CJ:rb<W4.heap.size:=by omega
       clear yI CB hb4
       go_region_held3 (fun w'=>w'.cell? ⟨w.heap.size,0,none⟩=some (.slice (some ⟨rb,ro,none⟩) n c)∧w'.cell? ⟨rb,ro+k2*7,none⟩=some (.int .i64 rt)∧w'.cell? ⟨rb,ro+k2*7+1,none⟩=some (.int .i64 sz)∧w'.cell? ⟨rb,ro+k2*7+2,none⟩=some (.int .i64 kd)∧w'.cell? ⟨rb,ro+k2*7+3,none⟩=some (.int .i64 lo)∧w'.cell? ⟨rb,ro+k2*7+4,none⟩=some (.int .i64 hi)∧w'.cell? ⟨rb,ro+k2*7+5,none⟩=some (.int .i64 gd)∧w'.cell? ⟨rb,ro+k2*7+6,none⟩=some (.bool mu)∧w'.cell? ⟨wr.heap.size,0,none⟩=some (.int .i64 t)∧w'.cell? ⟨wr.heap.size,1,none⟩=some (.slice a d.length ce)) (first|(go_keep;done)|(go_simp;done)|(simp[go_sem];done)) ((first|(go_at_call 176;go_must (refine(vv t a d.length ce d _ B (by have:=HB.out;first|omega|(simp[size_ext,grow];omega)) (by exact HAT.out.1.keep (by have:=HB.out;have h:=cu.out.mono this;have h2:=fu.out.mono (aaF this hsz);exact aA)) rfl h4 HAT.out.2).mono ?_);rintro e w1 ⟨rfl,hb⟩;obtain⟨xO,Y3,rfl⟩:=aB hb;clear hb)|(go_at_call 169;go_must (refine(jF rt sz kd lo hi gd _ mu _).mono ?_);rw[qV.out];rintro e w1 ⟨rfl,hb⟩;obtain⟨U3,Y4,rfl⟩:=aB hb;clear hb)))
       all_goals
        go_wp2_with fail
        go_roundw
        case rel=>exact⟨k+1,no,co,nb,cb,nr,cr,Ao,Ab,Ar,Eo,Eb,by omega,by go_num,by have h:=cu.out;have h4:=fu.out;exact aA,by rw[gD.out];exact Tv.out.keep (by exact aA),by rw[gD.out];exact o8.out,by rw[gD.out];exact zm.out,oQ.out,jK.out,by rw[gD.out];exact gB.out⟩
        case measure=>simp[intOf];omega
     |false=>
      have qV:=hid htk
      have gD:=hid (show aX R L (k+1)=((aX R L k).1,(aX R L k).2.1++[(t,d)],(aX R L k).2.2++[⟨rt,sz,kd,lo,hi,gd,mu⟩]) by
       rw[fP];unfold mY;rw[BG.out]
       simp only[aH.o,zJ.out,Gj.out]
       exact if_neg (by show¬dG kd lo hi gd (be d:Int)=true;rw[htk];simp))
      clear htk
      go_wp2_with fail
      go_region_held3 (fun w'=>w'.cell? ⟨wr.heap.size,0,none⟩=some (.int .i64 t)) (first|(go_keep;done)|(go_simp;done)|(simp[go_sem];done)) ((go_at_call 166;go_must (refine(jE (some ⟨b,o,none⟩) k c2 (E.take k) t _ B (by have:=HB.out;simp[size_ext,grow];omega) (by exact(HA.out.keep (by have:=HB.out;have h:=cu.out.mono this;exact aA)).take k) (by rw[List.length_take];have:=HK.out;omega) (by omega)).mono ?_);rw[tH.out,KJ.out];unfold Di;rintro e w1 ⟨rfl,hb⟩;obtain⟨mP,XG,rfl⟩:=aB hb;clear hb))
      all_goals
       go_wp2_with fail
       refine iM (fun W4=>SW W4 w.heap.size w.heap.size (w.heap.size+1) (w.heap.size+1+1) (.slice (some ⟨rb,ro,none⟩) n c) (.slice Ao no co) (.slice Ab nb cb) (.slice Ar nr cr) (.slice none 0 0) Eo Eb (aX R L k).2.2 []∧W4.heap[wr.heap.size]? =some (.cells #[.int .i64 t,.slice a d.length ce] 111 (0,0))∧Below wr.heap.size wr W4) ⟨SW.keep Ew.out (by exact aA),by(repeat(first|((refine aF _ _ _ ?_);(simp[go_sem];done))|((refine(aO _ _ _ _ ?_).trans ?_);(focus (simp[go_sem];done)))|((refine(aC _ _ _ ?_).trans ?_);(focus (simp[go_sem];done))))),by exact aA⟩ ?_
       rintro W4 ⟨yI,CB,hb4⟩
       have Tv:=hid yI
       have VJ:=hid CB
       have fu:=hid hb4
       have Iy:=hb4.size
       obtain⟨g0,g1,-,g3⟩:=iW CB
       have x2':W4.cell? ⟨w.heap.size,0,none⟩=some (.slice (some ⟨rb,ro,none⟩) n c):=by rw[cell_of_row _ _ 0 _ _ _ yI.x2];rfl
       have ZC:=lt_of_block yI.x2
       rw[←hb4.cell (p:=⟨rb,_,none⟩) oU] at c0 c1 c2' c3' yx c5 c6
       have CJ:rb<W4.heap.size:=by omega
       clear yI CB hb4
       go_region_held3 (fun w'=>w'.cell? ⟨w.heap.size,0,none⟩=some (.slice (some ⟨rb,ro,none⟩) n c)∧w'.cell? ⟨rb,ro+k2*7,none⟩=some (.int .i64 rt)∧w'.cell? ⟨rb,ro+k2*7+1,none⟩=some (.int .i64 sz)∧w'.cell? ⟨rb,ro+k2*7+2,none⟩=some (.int .i64 kd)∧w'.cell? ⟨rb,ro+k2*7+3,none⟩=some (.int .i64 lo)∧w'.cell? ⟨rb,ro+k2*7+4,none⟩=some (.int .i64 hi)∧w'.cell? ⟨rb,ro+k2*7+5,none⟩=some (.int .i64 gd)∧w'.cell? ⟨rb,ro+k2*7+6,none⟩=some (.bool mu)∧w'.cell? ⟨wr.heap.size,0,none⟩=some (.int .i64 t)∧w'.cell? ⟨wr.heap.size,1,none⟩=some (.slice a d.length ce)) (first|(go_keep;done)|(go_simp;done)|(simp[go_sem];done)) ((first|(go_at_call 176;go_must (refine(vv t a d.length ce d _ B (by have:=HB.out;first|omega|(simp[size_ext,grow];omega)) (by exact HAT.out.1.keep (by have:=HB.out;have h:=cu.out.mono this;have h2:=fu.out.mono (aaF this hsz);exact aA)) rfl h4 HAT.out.2).mono ?_);rintro e w1 ⟨rfl,hb⟩;obtain⟨xO,Y3,rfl⟩:=aB hb;clear hb)|(go_at_call 169;go_must (refine(jF rt sz kd lo hi gd _ mu _).mono ?_);rw[qV.out];rintro e w1 ⟨rfl,hb⟩;obtain⟨U3,Y4,rfl⟩:=aB hb;clear hb)))
       all_goals
        go_wp2_with fail
        refine iM (fun W5=>SW W5 w.heap.size w.heap.size (w.heap.size+1) (w.heap.size+1+1) (.slice (some ⟨rb,ro,none⟩) n c) (.slice Ao no co) (.slice Ab nb cb) (.slice Ar nr cr) (.slice none 0 0) Eo Eb (aX R L k).2.2 []∧W5.heap[wr.heap.size]? =some (.cells #[.int .i64 t,.slice a d.length ce] 111 (0,0))∧Below wr.heap.size wr W5) ⟨SW.keep Tv.out (by exact aA),by exact(aO _ _ _ _ (by simp[size_ext,grow];omega)).trans ((aO _ _ _ _ (by omega)).trans VJ.out),by have h4:=fu.out;exact aA⟩ ?_
        rintro W5 ⟨qB,Am,hb5⟩
        have uh:=hid qB
        have dO:=hid hb5
        have hsz5:=hb5.size
        obtain⟨s0,s1,s2,s3,f0,f1,f2,f3⟩:=dw qB.s
        obtain⟨g0,g1,-,g3⟩:=iW Am
        have WX:=lt_of_block qB.s
        clear qB hb5 Am
        go_region_law (first|(refine mJ rfl 165 (.tmp 53) #[111] rfl rD (.agg #[.int .i64 t,.slice a d.length ce]) rfl ?_;go_must (refine(ow t a d.length ce d _ B (by have:=HB.out;have h:=cu.out.size;first|omega|(simp;omega)) (by exact HAT.out.1.keep (by have:=HB.out;have h:=cu.out.mono this;have h2:=dO.out.mono (aaF this hsz);exact aA)) rfl E_ HAT.out.2).mono ?_);rintro e w2 ⟨A3,c3,rfl,hb,ho⟩;obtain⟨xs2,Y2,rfl⟩:=aB hb;have j_:=hid ho;clear hb ho;refine⟨_,rfl,?_⟩)|(refine oG w rfl (.tmp 52) (.tmp 55) 25 rfl 111 Tryz.underlying25 (.agg #[.int .i64 0,.slice none 0 0]) 2 32 dV rfl (by decide) (by decide) (.slice Ab nb cb) nb (cellsE Eb) rfl (by have h:=uh.out.b.1;rw[←jK.out] at h;exact own_below h (by exact aA)) (grow W5.heap.size xs2+1) (some ⟨grow W5.heap.size xs2,0,none⟩) 1 1 [.int .i64 t,.slice A3 d.length c3] rfl rfl (by omega) (by exact At.gW _ _ _ _ _ (by simp[size_ext]) rfl) (by intro u hu;simp at hu;rcases hu with rfl|rfl<;>rfl) (by have h1:=cu.out.trans (dO.out.mono hsz);exact aA) ?_;intro A4 c4 w3 ho3 hc3 hb3 hg3 hw3;have hs3:=uh.out.s_b (by exact aA) hg3;obtain⟨-,s31,-,-,-,f31,-,-⟩:=dw hs3;have hz3:=lt_of_block hs3;have jW:=hid (SW.bad (tt:=t) (dd:=d) (uh.out.keep (by exact aA)) (own_below (aK j_.out (by simp;omega)) (by exact aA)) (by rw[←jK.out];exact ho3) hg3 hw3);have HB3:=hid hb3;clear ho3 hc3 hb3 hg3 hw3 hs3))
        all_goals
         go_wp2_with fail
         refine iM (fun W6=>SW W6 w.heap.size w.heap.size (w.heap.size+1) (w.heap.size+1+1) (.slice (some ⟨rb,ro,none⟩) n c) (.slice Ao no co) (.slice A4 (nb+1) c4) (.slice Ar nr cr) (.slice none 0 0) Eo (Eb++[⟨t,d,A3,c3⟩]) (aX R L k).2.2 []∧Below w.heap.size w W6) ⟨jW.out,by have h:=HB3.out;exact aA⟩ ?_
         rintro W6 ⟨Fb,hb6⟩
         have Tw:=hid Fb
         have lC:=hid hb6
         have aaw:=hb6.size
         obtain⟨s0,s1,s2,s3,f0,f1,f2,f3⟩:=dw Fb.s
         have x2:W6.cell? ⟨w.heap.size,0,none⟩=some (.slice (some ⟨rb,ro,none⟩) n c):=by rw[cell_of_row _ _ 0 _ _ _ Fb.x2];rfl
         obtain⟨rb',ro',hq,aau,lQ⟩:=(HR.out.keep (lC.out.mono HB.out)).get (k:=k2) (by have:=HN.out;omega)
         cases hq
         have Lc:R[k2]? =some (R[k2]'(by have:=HN.out;omega)):=List.getElem?_eq_getElem _
         rw[Gj.out] at Lc
         simp only[Option.some.injEq] at Lc
         rw[←Lc] at lQ
         obtain⟨c0,c1,c2',c3',yx,c5,c6⟩:=lQ
         simp only at c0 c1 c2' c3' yx c5 c6
         have oU:rb<W6.heap.size:=by have:=HB.out;omega
         have hz6:=lt_of_block Fb.s
         have aax:=lt_of_block Fb.x2
         clear Fb hb6 Lc jW HB3
         go_region_law (refine oG w rfl (.tmp 59) (.tmp 64) 22 rfl 136 Tryz.underlying22 (.agg #[.int .i64 0,.int .i64 0,.int .i64 0,.int .i64 0,.int .i64 0,.int .i64 0,.bool false]) 7 56 IG rfl (by decide) (by decide) (.slice Ar nr cr) nr (dN (aX R L k).2.2) rfl (by have h:=Tw.out.r;rw[←gB.out] at h;exact own_below h (by exact aA)) (W6.heap.size+1) (some ⟨W6.heap.size,0,none⟩) 1 1 (kQ ⟨rt,sz,kd,lo,hi,gd,mu⟩) rfl rfl (by omega) (by exact At.gW _ _ _ _ _ (by simp) rfl) (wU _) (by have h1:=lC.out;exact aA) ?_;intro A7 c7 w7 xk TY lM vZ hw7;have hs7:=Tw.out.s_r (by exact aA) vZ;obtain⟨-,-,s72,-,-,-,f72,-⟩:=dw hs7;have hz7:=lt_of_block hs7;have GQ:=hid (SW.rule (r:=⟨rt,sz,kd,lo,hi,gd,mu⟩) (Tw.out.keep (by exact aA)) (by rw[←gB.out];exact xk) vZ hw7);have zG:=hid lM;clear xk TY lM vZ hw7 hs7)
         all_goals
          go_wp2_with fail
          go_roundw
          case rel=>exact⟨k+1,no,co,nb+1,c4,nr+1,c7,Ao,A4,A7,Eo,_,by omega,by go_num,by have h:=zG.out;exact aA,by rw[gD.out];exact GQ.out,by rw[gD.out];exact o8.out,by rw[gD.out,List.map_append,zm.out];rfl,oQ.out,by simp[jK.out],by rw[gD.out];simp[gB.out]⟩
          case measure=>simp[intOf];omega
  ·obtain rfl:k=n2:=by omega
   have zn:=hid (show k=L.length by rw[←HL.out,List.length_map];exact iA.out)
   go_wp2_with fail
   go_loopw [70] (fun i wr=> ∃(j nl cl:Nat) (Al:Option Addr),j≤n∧i=.int .i64 j∧Below w.heap.size w wr∧SW wr w.heap.size w.heap.size (w.heap.size+1) (w.heap.size+1+1) (.slice A n c) (.slice Ao no co) (.slice Ab nb cb) (.slice Ar nr cr) (.slice Al nl cl) Eo Eb (aX R L k).2.2 ((R.take j).filter (fT L))∧nl=((R.take j).filter (fT L)).length) (fun i _=>n-(intOf i).toNat)
   case atStart=>exact⟨0,0,0,none,Nat.zero_le _,rfl,cu.out,Ew.out,rfl⟩
   case round=>
    obtain⟨j,nl,cl,Al,hj,rfl,hbl,hsw,hnl⟩:=hrel
    have cu:=hid hbl
    have Ew:=hid hsw
    have zO:=hid hnl
    have hsz:=hbl.size
    have aar:nl≤j:=by rw[hnl];exact qC R L j
    obtain⟨s0,s1,s2,s3,f0,f1,f2,f3⟩:=dw hsw.s
    obtain⟨r0,r1,r2,r3,e0,e1,e2,e3⟩:=dw hsw.x4
    have hz5:=lt_of_block hsw.s
    have pU:=lt_of_block hsw.x4
    clear hbl hsw hnl
    by_cases hlt:j<n
    ·have HK:=hid (show j<R.length by have:=HN.out;omega)
     obtain⟨b,o,rfl,tL,hat⟩:=(HR.out.keep (cu.out.mono HB.out)).get HK.out
     obtain⟨r,hr⟩: ∃r,R[j]'HK.out=r:=⟨_,rfl⟩
     have KC:=hid (sj (fT L) R j HK.out)
     rw[hr] at hat KC
     clear hr
     obtain⟨rt,sz,kd,lo,hi,gd,mu⟩:=r
     obtain⟨c0,c1,c2',c3',yx,c5,c6⟩:=hat
     simp only at c0 c1 c2' c3' yx c5 c6
     have hblt:b<wr.heap.size:=by have:=HB.out;omega
     have wm:(0:Int)≤(j:Int):=by omega
     have wu:(j:Int)<(n:Int):=by omega
     cases mu
     ·have gD:=hid (show(R.take (j+1)).filter (fT L)=(R.take j).filter (fT L) by rw[KC.out];simp[fT])
      go_wp2_with fail
      go_roundw
      case rel=>exact⟨j+1,nl,cl,Al,by omega,by go_num,by have h:=cu.out;exact aA,by rw[gD.out];exact Ew.out.keep (by exact aA),by rw[gD.out];exact zO.out⟩
      case measure=>simp[intOf];omega
     ·go_wp2_with fail
      refine(jE A2 k c2 E rt _ B (by have:=HB.out;simp;omega) (by exact HA.out.keep (by have:=HB.out;have h:=cu.out.mono this;exact aA)) iA.out hl2).mono ?_
      rw[HL.out]
      cases hpl:vC L rt with
      |some q=>
       have gD:=hid (show(R.take (j+1)).filter (fT L)=(R.take j).filter (fT L) by rw[KC.out];simp[fT,hpl])
       have hq0:(0:Int)≤(q:Int):=by omega
       have hq1: ¬(q:Int)<0:=by omega
       clear hpl
       unfold Di
       rintro e w1 ⟨rfl,hb⟩
       obtain⟨mP,XG,rfl⟩:=aB hb
       clear hb
       go_wp2_with fail
       go_roundw
       case rel=>exact⟨j+1,nl,cl,Al,by omega,by go_num,by have h:=cu.out;exact aA,by rw[gD.out];exact Ew.out.keep (by exact aA),by rw[gD.out];exact zO.out⟩
       case measure=>simp[intOf];omega
      |none=>
       have gD:=hid (show(R.take (j+1)).filter (fT L)=(R.take j).filter (fT L)++[⟨rt,sz,kd,lo,hi,gd,true⟩] by rw[KC.out];simp[fT,hpl])
       clear hpl
       unfold Di
       rintro e w1 ⟨rfl,hb⟩
       obtain⟨mP,XG,rfl⟩:=aB hb
       clear hb
       go_wp2_with (at_builtin;go_loud (refine iZ w rfl (.tmp 84) (.tmp 86) 22 rfl 136 Tryz.underlying22 (.agg #[.int .i64 0,.int .i64 0,.int .i64 0,.int .i64 0,.int .i64 0,.int .i64 0,.bool false]) 7 56 IG rfl (by decide) (by decide) (.slice Al nl cl) nl (dN ((R.take j).filter (fT L))) rfl (by have h:=Ew.out.l;rw[←zO.out] at h;exact own_below h (by exact aA)) (grow wr.heap.size mP+1+1) (some ⟨grow wr.heap.size mP+1,0,none⟩) 1 1 (kQ ⟨rt,sz,kd,lo,hi,gd,true⟩) rfl rfl (by omega) (by exact At.gW _ _ _ _ _ (by simp[size_ext,grow];omega) rfl) (wU _) (by have h1:=cu.out;exact aA) ?_);intro A7 c7 w7 xk TY lM vZ hw7;have hs7:=Ew.out.s_l (by exact aA) vZ;obtain⟨-,-,-,s73,-,-,-,f73⟩:=dw hs7;have hz7:=lt_of_block hs7;have GQ:=hid (SW.lack (r:=⟨rt,sz,kd,lo,hi,gd,true⟩) (Ew.out.keep (by exact aA)) (by rw[←zO.out];exact xk) vZ hw7);have zG:=hid lM;clear xk TY lM vZ hw7 hs7)
       go_roundw
       case rel=>exact⟨j+1,nl+1,c7,A7,by omega,by go_num,by have h:=zG.out;exact aA,by rw[gD.out];exact GQ.out,by rw[gD.out];simp[zO.out]⟩
       case measure=>simp[intOf];omega
    ·obtain rfl:j=n:=by omega
     have VQ:=hid (show(R.take j).filter (fT L)=gH R L by unfold gH;rw[List.take_of_length_le (by have:=HN.out;omega)])
     go_wp2_with fail
     have hrow:=Z0 Ew.out.x4 rfl (.slice Ao no co) (.slice Ab nb cb) (.slice Ar nr cr) (.slice Al nl cl)
     have hout:=Ew.out.out (.slice Ao no co) (.slice Ab nb cb) (.slice Ar nr cr) (.slice Al nl cl)
     have hbel:Below w.heap.size w ((((wr.setCell ⟨w.heap.size+1,0,none⟩ (.slice Ao no co)).setCell ⟨w.heap.size+1,1,none⟩ (.slice Ab nb cb)).setCell ⟨w.heap.size+1,2,none⟩ (.slice Ar nr cr)).setCell ⟨w.heap.size+1,3,none⟩ (.slice Al nl cl)):=by have h:=cu.out;exact aA
     generalize ((((wr.setCell ⟨w.heap.size+1,0,none⟩ (.slice Ao no co)).setCell ⟨w.heap.size+1,1,none⟩ (.slice Ab nb cb)).setCell ⟨w.heap.size+1,2,none⟩ (.slice Ar nr cr)).setCell ⟨w.heap.size+1,3,none⟩ (.slice Al nl cl))=w9 at*
     obtain⟨u0,u1,u2,u3,-⟩:=dw hrow
     refine bodyPost_ret (v:=.agg #[.slice Ao no co,.slice Ab nb cb,.slice Ar nr cr,.slice Al nl cl]) (by simp[results,Tryz.results162,go_sem,u0,u1,u2,u3]) rfl ?_
     rw[VQ.out] at hout
     have hkl:=zn.out
     have hnl:=zO.out
     rw[VQ.out] at hnl
     subst hkl
     exact⟨Ao,Ab,Ar,Al,no,nb,nr,nl,co,cb,cr,cl,Eo,Eb,rfl,hbel,hout,o8.out,zm.out,oQ.out,jK.out,gB.out,hnl⟩
end Go.Proofs.YtfkgmbknfnhjoaaGreat.Ne
