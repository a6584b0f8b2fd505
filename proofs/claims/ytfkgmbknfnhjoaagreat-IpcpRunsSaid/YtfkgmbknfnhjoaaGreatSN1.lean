/- N1 -/
import Derived.Test.YtfkgmbknfnhjoaaGreatSA
import Derived.StillTailTactics
import Derived.OneCell
import Derived.Laws.Rows
set_option linter.all false
set_option maxHeartbeats 2000000
namespace Go.Proofs.YtfkgmbknfnhjoaaGreat.Ne
open Lib (hid)
open Go.RowKit
theorem jD (A:Option Addr) (n c:Nat) (l:List UInt8) (w:World) (B:Nat) (hB:B≤w.heap.size) (hA:At w B A (l.map bv)) (hn:n=l.length) (hl:n≤400000000) (hc:n≤c):
  Calls Tryz.prog 82 #[.slice A n c] w fun x w'=> ∃v,x=.returned v∧Below w.heap.size w w'∧w'.ownsRow w.heap.size 5 1 v n (l.map bv):=by
 have HA:=hid (hA.more hB)
 have HL:=hid hn
 clear hB hn
 cases A with
 |none=>
  have hl0:l=[]:=by
   rcases hA with h|⟨b,o,h,-⟩
   ·simpa using h
   ·cases h
  subst hl0
  have h0:=HL.out
  simp only[List.length_nil] at h0
  subst h0
  clear hA
  have q: ∀w:World,(binOp .eql 30 (.slice none 0 c) (.slice none 0 0)).run Tryz.prog w=.ok (.bool true) w:=fun w=>Lib.run_eql_slice_nil w 30 5 none 0 c 0 0 Tryz.underlying30
  go_enter Tryz.func82,Tryz.ntmps82
  go_wp2
  go_ret
  exact⟨_,rfl,Below.refl _ _,aN _ _ _ _⟩
 |some a=>
  clear hA
  have q: ∀w:World,(binOp .eql 30 (.slice (some a) n c) (.slice none 0 0)).run Tryz.prog w=.ok (.bool false) w:=fun w=>Lib.run_eql_slice_nil w 30 5 (some a) n c 0 0 Tryz.underlying30
  go_enter Tryz.func82,Tryz.ntmps82
  go_wp2_with (at_builtin;go_loud (refine bT w rfl (.tmp 5) (.tmp 6) 30 rfl 5 Tryz.underlying30 dW _ rfl rfl w.heap.size _ _ _ l rfl HL.out (by omega) HA.out (aaE _) ?_);intro v' ys d hown;have HO:=hid hown;clear hown)
  go_ret
  exact⟨_,rfl,by exact aA,HO.out⟩
def TB (t:Int) (n:Nat) (l:List UInt8) (w:World) (x:Ending) (w':World):Prop:=
 ∃(A:Option Addr) (c:Nat),x=.returned (.agg #[.int .i64 t,.slice A n c])∧Below w.heap.size w w'∧w'.ownsRow w.heap.size 5 1 (.slice A n c) n (l.map bv)
theorem ow (t:Int) (A:Option Addr) (n c:Nat) (l:List UInt8) (w:World) (B:Nat) (hB:B≤w.heap.size) (hA:At w B A (l.map bv)) (hn:n=l.length) (hl:n≤400000000) (hc:n≤c):
  Calls Tryz.prog 165 #[.agg #[.int .i64 t,.slice A n c]] w (TB t n l w):=by
 have HA:=hid hA
 have HN:=hid hn
 have HB:=hid hB
 clear hA hn hB
 go_enter Tryz.func165,Tryz.ntmps165
 go_upto_region 1 with(fail)
 go_region_held3 (fun w'=>w'.cell? ⟨w.heap.size,0,none⟩=some (.int .i64 t)∧w'.cell? ⟨w.heap.size,1,none⟩=some (.slice A n c)) (first|(go_keep;done)|(go_simp;done)|(simp[go_sem];done)) ((go_at_call 82;go_must (refine(jD A n c l _ B (by have:=HB.out;simp[size_ext,grow];omega) (by exact HA.out.keep (by have:=HB.out;exact aA)) HN.out hl hc).mono ?_);rintro e w2 ⟨v,rfl,hb,ho⟩;obtain⟨A2,c2,rfl,-,-⟩:=ownsRow_form ho;obtain⟨xs,dr,rfl⟩:=aB hb;have HO:=hid ho;clear hb ho))
 all_goals
  go_wp2_with fail
  refine bodyPost_ret (v:=.agg #[.int .i64 t,.slice A2 n c2]) (by simp[results,Tryz.results165,go_sem]) rfl ⟨A2,c2,rfl,by exact aA,?_⟩
  have h:=aK (base':=w.heap.size) HO.out (by simp;omega)
  exact dx h fun k hk=>nK _ _ xs dr dr k (by simp) (eu HO.out hk)
theorem _root_.Go.Proofs.YtfkgmbknfnhjoaaGreat.aI.jO {W W2:World} {base:Nat} {v v3:Value} {E:List aH} {tt:Int} {A2:Option Addr} {dd:List UInt8} {c2:Nat} (h:aI W base v E)
  (h2:W.ownsRow base 5 1 (.slice A2 dd.length c2) dd.length (dd.map bv)) (h3:W2.ownsRow base 111 2 v3 (E.length+1) (cellsE E++[.int .i64 tt,.slice A2 dd.length c2]))
  (hg:W.grownBy W2 v.ownBlock):aI W2 base v3 (E++[⟨tt,dd,A2,c2⟩]):=by
 have hr: ∀r,v.ownBlock=some r→r<base∨(∃o:Obj,W.heap[r]? =some o∧o.isCells=false)∨(∃cur e',W.heap[r]? =some (.cells cur e' (0,0))∧e'≠5):=fun r e=>by
  obtain⟨cur,hc⟩:=bL h.1 e
  exact .inr (.inr ⟨cur,111,hc,by decide⟩)
 refine⟨by rw[fJ];simpa[aH.v] using h3,fun e he=>?_⟩
 rcases List.mem_append.1 he with he|he
 ·exact aW (h.2 e he) hg hr
 ·simp only[List.mem_singleton] at he
  subst he
  exact aW h2 hg hr
def O8 (L:List (Int×List UInt8)) (w:World) (x:Ending) (w':World):Prop:=
 ∃(E:List aH) (A:Option Addr) (c:Nat),x=.returned (.slice A L.length c)∧E.map aH.o=L∧Below w.heap.size w w'∧aI w' w.heap.size (.slice A L.length c) E
theorem uM {E:List aH} {k:Nat} (hk:k<E.length):(E.take (k+1)).map aH.o=(E.take k).map aH.o++[E[k].o]:=by rw[List.take_succ_eq_append_getElem hk,List.map_append];rfl
theorem qD (A:Option Addr) (n c:Nat) (E:List aH) (w:World) (B:Nat) (hB:B≤w.heap.size) (hA:aJ w B A E) (hn:n=E.length) (hl:n≤1000000) (hd: ∀e∈E,e.d.length≤400000000):
  Calls Tryz.prog 140 #[.slice A n c] w (O8 (E.map aH.o) w):=by
 have HA:=hid hA
 have HN:=hid hn
 have HB:=hid hB
 have HD:=hid hd
 clear hA hn hB hd
 go_enter Tryz.func140,Tryz.ntmps140
 go_wp2_with fail
 go_loopw [8,3] (fun i v wr=> ∃(k c2:Nat) (A2:Option Addr) (E2:List aH),k≤n∧i=.int .i64 k∧v=.slice A2 k c2∧E2.map aH.o=(E.take k).map aH.o∧Below w.heap.size w wr∧aI wr w.heap.size (.slice A2 k c2) E2) (fun i _ _=>n-(intOf i).toNat)
 case atStart=>exact⟨0,0,none,[],Nat.zero_le _,rfl,rfl,rfl,Below.refl _ _,aI.nil _ _⟩
 case round=>
  obtain⟨k,c2,A2,E2,hk,rfl,rfl,hE2,hbl,hown⟩:=hrel
  have HE2:=hid hE2
  have cu:=hid hbl
  have HOW:=hid hown
  have Av:=hbl.size
  have HL2:=hid (show E2.length=k by have:=congrArg List.length hE2;simp at this;have h2:=HN.out;omega)
  clear hE2 hbl hown
  by_cases hlt:k<n
  ·have HK:=hid (show k<E.length by have:=HN.out;omega)
   obtain⟨b,o,rfl,tL,hx,hy⟩:=(HA.out.keep (cu.out.mono HB.out)).get HK.out
   have qV:=hid (uM HK.out)
   obtain⟨e0,he0,hmem⟩: ∃e0,E[k]'HK.out=e0∧e0∈E:=⟨_,rfl,List.getElem_mem _⟩
   rw[he0] at hx hy qV
   have hat:=(HA.out.keep (cu.out.mono HB.out)).2 e0 hmem
   have hdl:=HD.out e0 hmem
   obtain⟨t,d,a,ce⟩:=e0
   have hbz:b<wr.heap.size:=by have:=HB.out;omega
   have CS:(0:Int)≤(k:Int):=by omega
   have Fj:(k:Int)<(n:Int):=by omega
   have HAT:=hid hat
   unfold aH.v at hy
   simp only at hx hy hdl hat
   clear hat he0 hmem
   go_wp2_with fail
   refine(ow t a d.length ce d _ B (by have:=HB.out;simp;omega) (HAT.out.1.keep (by have:=HB.out;exact aA)) rfl hdl HAT.out.2).mono ?_
   rintro e w2 ⟨A3,c3,rfl,hb,ho⟩
   have HB2:=hid (show Below wr.heap.size wr w2 from Below.trans (by exact aA) (hb.mono (by simp)))
   have j_:=hid (aK (base':=w.heap.size) ho (by simp;omega))
   have jU:=hid (show wr.ownsRow w.heap.size 111 2 (.slice A2 k c2) k (cellsE E2) by have h:=HOW.out.1;rwa [HL2.out] at h)
   have hsz2:=HB2.out.size
   clear hb ho
   go_wp2_with (at_builtin;refine dY w rfl (.tmp 12) (.tmp 15) 25 rfl 111 Tryz.underlying25 (.agg #[.int .i64 0,.slice none 0 0]) 2 32 dV rfl (by decide) (by decide) (.slice A2 k c2) k (cellsE E2) rfl (by exact own_below jU.out (by have:=HB2.out;exact aA)) (w2.heap.size+1) (some ⟨w2.heap.size,0,none⟩) 1 1 [.int .i64 t,.slice A3 d.length c3] rfl rfl (by omega) (by exact At.gW _ _ _ _ _ rfl rfl) (by intro u hu;simp at hu;rcases hu with rfl|rfl<;>rfl) (by have h1:=cu.out;have h2:=HB2.out;exact aA) ?_;intro A4 c4 w3 ho3 hc3 hb3 hg3;have gZ:=hid ho3;have HB3:=hid hb3;have sQ:=hid hg3;clear ho3 hc3 hb3 hg3)
   have uf:=hid (aI.jO (tt:=t) (dd:=d) (A2:=A3) (c2:=c3) (HOW.out.below (HB2.out.trans (Below.alloc (Below.refl _ w2) hsz2 _))) (own_below j_.out (Below.alloc (Below.refl _ w2) (aaE _) _)) (by rw[HL2.out];exact gZ.out) sQ.out)
   go_roundw
   case rel=>exact⟨k+1,c4,A4,_,by omega,by go_num,rfl,by rw[List.map_append,HE2.out,qV.out];rfl,HB3.out,uf.out⟩
   case measure=>simp[intOf];omega
  ·obtain rfl:k=n:=by omega
   go_wp2_with fail
   go_ret
   have h:=HE2.out
   rw[HN.out,List.take_length] at h
   have hlen:(E.map aH.o).length=k:=by rw[List.length_map];exact HN.out.symm
   refine⟨E2,A2,c2,?_,h,cu.out,?_⟩
   ·rw[hlen];rfl
   ·rw[hlen];exact HOW.out
theorem rA {w:World} {B:Nat} {A:Option Addr} {l:List UInt8} (h:At w B A (l.map bv)) {k:Nat} (hk:k<l.length):
  ∃b o,A=some ⟨b,o,none⟩∧b<B∧w.cell? ⟨b,o+k,none⟩=some (.int .u8 ((l[k].toNat:Nat):Int)):=by
 obtain⟨b,o,hA,hB,hc⟩:=h.get (by simp;omega)
 exact⟨b,o,hA,hB,hc k _ (by simp[List.getElem?_map,List.getElem?_eq_getElem hk,bv])⟩
theorem EW (A1 A2:Option Addr) (n1 n2 c1 c2:Nat) (l1 l2:List UInt8) (w:World) (B:Nat) (hB:B≤w.heap.size) (h1:At w B A1 (l1.map bv)) (h2:At w B A2 (l2.map bv)) (hn1:n1=l1.length) (hn2:n2=l2.length) (hl:n1≤1000000) (hl2:n2≤1000000):
  Calls Tryz.prog 167 #[.slice A1 n1 c1,.slice A2 n2 c2] w fun x w'=>x=.returned (.bool (decide (l1=l2)))∧Below w.heap.size w w':=by
 have H1:=hid h1
 have H2:=hid h2
 have lD:=hid hn1
 have iA:=hid hn2
 have HB:=hid hB
 clear h1 h2 hn1 hn2 hB
 by_cases hne:n1=n2
 ·subst hne
  go_enter Tryz.func167,Tryz.ntmps167
  go_wp2_with fail
  go_loopw [13] (fun i wr=> ∃k:Nat,k≤n1∧i=.int .i64 k∧l1.take k=l2.take k∧Below w.heap.size w wr) (fun i _=>n1-(intOf i).toNat)
  case atStart=>exact⟨0,Nat.zero_le _,rfl,rfl,Below.refl _ _⟩
  case round=>
   obtain⟨k,hk,rfl,ht,hb⟩:=hrel
   have HT:=hid ht
   have cu:=hid hb
   have hsz:=hb.size
   clear ht hb
   by_cases hlt:k<n1
   ·have qP:=hid (show k<l1.length by have:=lD.out;omega)
    have tF:=hid (show k<l2.length by have:=iA.out;omega)
    obtain⟨b1,o1,rfl,hb1,g1⟩:=rA (H1.out.keep (cu.out.mono HB.out)) qP.out
    obtain⟨b2,o2,rfl,hb2,g2⟩:=rA (H2.out.keep (cu.out.mono HB.out)) tF.out
    obtain⟨x,hx⟩: ∃x,l1[k]'qP.out=x:=⟨_,rfl⟩
    obtain⟨y,hy⟩: ∃y,l2[k]'tF.out=y:=⟨_,rfl⟩
    rw[hx] at g1
    rw[hy] at g2
    have HX:=hid hx
    have HY:=hid hy
    have z1:b1<wr.heap.size:=by have:=HB.out;omega
    have z2:b2<wr.heap.size:=by have:=HB.out;omega
    have CS:(0:Int)≤(k:Int):=by omega
    have Fj:(k:Int)<(n1:Int):=by omega
    clear hx hy
    by_cases hxy:x=y
    ·have HS:=hid (show l1.take (k+1)=l2.take (k+1) by rw[List.take_succ_eq_append_getElem qP.out,List.take_succ_eq_append_getElem tF.out,HT.out,HX.out,HY.out,hxy])
     have e1:(((x.toNat:Nat):Int) !=((y.toNat:Nat):Int))=false:=by simp[hxy]
     clear hxy
     go_upto_region 6 with(fail)
     go_quiet (fail)
     go_wp2_with fail
     go_roundw
     case rel=>exact⟨k+1,by omega,by go_num,HS.out,by have:=cu.out;exact aA⟩
     case measure=>simp[intOf];omega
    ·have oQ:=hid (show l1≠l2 by intro e;subst e;exact hxy (HX.out.symm.trans HY.out))
     have e1:(((x.toNat:Nat):Int) !=((y.toNat:Nat):Int))=true:=by
      simp only[bne_iff_ne,ne_eq]
      intro e
      exact hxy (UInt8.toNat_inj.1 (by omega))
     clear hxy
     go_upto_region 6 with(fail)
     go_quiet (fail)
     go_wp2_with fail
     go_ret
     exact⟨by rw[decide_eq_false oQ.out];rfl,by have:=cu.out;exact aA⟩
   ·obtain rfl:k=n1:=by omega
    have YR:=hid (show l1=l2 by have h:=HT.out;rw[lD.out,List.take_length] at h;rw[h,List.take_of_length_le (by have:=lD.out;have:=iA.out;omega)])
    go_wp2_with fail
    go_ret
    exact⟨by rw[decide_eq_true YR.out];rfl,cu.out⟩
 ·have oQ:=hid (show l1≠l2 by intro e;subst e;exact hne (lD.out.trans iA.out.symm))
  have e0:((n1:Int) !=(n2:Int))=true:=by simp;omega
  go_enter Tryz.func167,Tryz.ntmps167
  go_wp2_with fail
  go_ret
  exact⟨by rw[decide_eq_false oQ.out];rfl,Below.refl _ _⟩
def vC (L:List (Int×List UInt8)) (t:Int):Option Nat:=L.findIdx? fun e=>e.1==t
def Di:Option Nat→Int
 |some k=>(k:Int)
 |none=> -1
theorem z_ (t ty:Int) (a:Option Addr) (n c X:Nat) (w:World) (hX:w.cell? ⟨X,0,none⟩=some (.int .i64 ty)) (hz:X<w.heap.size):
  Calls Tryz.prog 178 #[.agg #[.int .i64 t,.slice a n c],.pointer (some ⟨X,0,none⟩)] w fun x w'=>x=.returned (.bool (t==ty))∧Below w.heap.size w w':=by
 go_enter Tryz.func178,Tryz.ntmps178
 go_wp2_with fail
 go_ret
 exact⟨rfl,by exact aA⟩
theorem AU {L:List (Int×List UInt8)} {t:Int} (h: ∀j,(hj:j<L.length)→(L[j].1==t)=false):vC L t=none:=by
 unfold vC
 rw[List.findIdx?_eq_none_iff]
 intro x hx
 obtain⟨j,hj,rfl⟩:=List.mem_iff_getElem.1 hx
 exact h j hj
theorem AV {L:List (Int×List UInt8)} {t:Int} {k:Nat} (hk:k<L.length) (h1:(L[k].1==t)=true) (h: ∀j,(hj:j<k)→((L[j]'(by omega)).1==t)=false):vC L t=some k:=by
 unfold vC
 rw[List.findIdx?_eq_some_iff_getElem]
 exact⟨hk,h1,fun j hj=>by rw[h j hj];simp⟩
theorem rH (A:Option Addr) (n c:Nat) (E:List aH) (ty:Int) (X:Nat) (w:World) (B:Nat) (hB:B≤w.heap.size) (hA:aJ w B A E) (hn:n=E.length) (hl:n≤1000000) (hX:w.cell? ⟨X,0,none⟩=some (.int .i64 ty)) (hz:X<w.heap.size):
  Calls Tryz.prog 177 #[.slice A n c,.func (.func 178) #[] #[.pointer (some ⟨X,0,none⟩)]] w fun x w'=>x=.returned (.int .i64 (Di (vC (E.map aH.o) ty)))∧Below w.heap.size w w':=by
 have HA:=hid hA
 have HN:=hid hn
 have HB:=hid hB
 have HX:=hid hX
 clear hA hn hB hX
 go_enter Tryz.func177,Tryz.ntmps177
 go_wp2_with fail
 go_loopw [8] (fun i wr=> ∃k:Nat,k≤n∧i=.int .i64 k∧(∀j,j<k→ ∀hj:j<E.length,(E[j].t==ty)=false)∧Below w.heap.size w wr) (fun i _=>n-(intOf i).toNat)
 case atStart=>exact⟨0,Nat.zero_le _,rfl,fun j hj=>absurd hj (Nat.not_lt_zero j),Below.refl _ _⟩
 case round=>
  obtain⟨k,hk,rfl,hp,hb⟩:=hrel
  have HP:=hid hp
  have cu:=hid hb
  have hsz:=hb.size
  clear hp hb
  by_cases hlt:k<n
  focus
   have HK:=hid (show k<E.length by have:=HN.out;omega)
   obtain⟨b,o,rfl,tL,hx,hy⟩:=(HA.out.keep (cu.out.mono HB.out)).get HK.out
   obtain⟨e0,he0⟩: ∃e0,E[k]'HK.out=e0:=⟨_,rfl⟩
   rw[he0] at hx hy
   obtain⟨t,d,a,ce⟩:=e0
   have BD:=hid he0
   have hbz:b<wr.heap.size:=by have:=HB.out;omega
   have CS:(0:Int)≤(k:Int):=by omega
   have Fj:(k:Int)<(n:Int):=by omega
   unfold aH.v at hy
   simp only at hx hy
   clear he0
   cases ht:(t==ty)
  focus
   have HT:=hid ht
  rotate_left
  focus
   have HT:=hid ht
   have HR:=hid (show vC (E.map aH.o) ty=some k from AV (by simp;exact HK.out) (by simp only[List.getElem_map];rw[BD.out];exact ht) (fun j hj=>by simp only[List.getElem_map];exact HP.out j hj (by have:=HK.out;omega)))
  rotate_left
  ·obtain rfl:k=n:=by omega
   have HR:=hid (show vC (E.map aH.o) ty=none from AU (fun j hj=>by simp only[List.getElem_map];exact HP.out j (by simp at hj;have:=HN.out;omega) (by simpa using hj)))
   go_wp2_with fail
   go_ret
   exact⟨by rw[HR.out];rfl,cu.out⟩
  all_goals
   clear ht
   go_wp2_with (go_at_call 178;refine(z_ t ty a d.length ce X _ ((cu.out.cell (p:=⟨X,0,none⟩) hz).trans HX.out) (by omega)).mono ?_;rw[HT.out];rintro e w2 ⟨rfl,hb⟩;have HB2:=hid (cu.out.trans (hb.mono hsz));clear hb)
  ·go_roundw
   case rel=>exact⟨k+1,by omega,by go_num,fun j hj hl=>by(by_cases e:j=k;(subst e;rw[BD.out];exact HT.out);exact HP.out j (by omega) hl),HB2.out⟩
   case measure=>simp[intOf];omega
  ·go_ret
   exact⟨by rw[HR.out];rfl,HB2.out⟩
theorem jE (A:Option Addr) (n c:Nat) (E:List aH) (ty:Int) (w:World) (B:Nat) (hB:B≤w.heap.size) (hA:aJ w B A E) (hn:n=E.length) (hl:n≤1000000):
  Calls Tryz.prog 166 #[.slice A n c,.int .i64 ty] w fun x w'=>x=.returned (.int .i64 (Di (vC (E.map aH.o) ty)))∧Below w.heap.size w w':=by
 have HA:=hid hA
 have HB:=hid hB
 have HN:=hid hn
 clear hA hB hn
 go_enter Tryz.func166,Tryz.ntmps166
 go_wp2_with fail
 refine(rH A n c E ty w.heap.size _ B (by have:=HB.out;simp;omega) (HA.out.keep (by have:=HB.out;exact aA)) HN.out hl ?_ (by simp)).mono ?_
 ·simp[go_sem]
 ·rintro e w2 ⟨rfl,hb⟩
  obtain⟨xs,dr,rfl⟩:=aB hb
  go_wp2_with fail
  go_ret
  exact⟨rfl,by exact aA⟩
def mI (L:List (Int×List UInt8)) (o:Int×List UInt8):Int×List UInt8:=
 match vC L o.1 with
 |some j=>(o.1,(L.getD j (0,[])).2)
 |none=>o
def AA (O L:List (Int×List UInt8)):List (Int×List UInt8):=O.map (mI L)
theorem D7 (O L:List (Int×List UInt8)):(AA O L).length=O.length:=by simp[AA]
theorem Bj {α:Type} (f:α→α) (O:List α) (k:Nat) (hk:k<O.length):((O.take k).map f++O.drop k).set k (f O[k])=(O.take (k+1)).map f++O.drop (k+1):=by
 have hl:((O.take k).map f).length=k:=by simp;omega
 rw[List.set_append_right _ _ (by omega),hl,Nat.sub_self,List.drop_eq_getElem_cons hk,aaC,List.take_succ_eq_append_getElem hk,List.map_append]
 simp
theorem Il {α:Type} (f:α→α) (O:List α) (k:Nat) (hk:k<O.length):((O.take k).map f++O.drop k)[k]? =some O[k]:=by
 have hl:((O.take k).map f).length=k:=by simp;omega
 rw[List.getElem?_append_right (by omega),hl,Nat.sub_self,List.getElem?_drop]
 simp[hk]
theorem UF {L:List (Int×List UInt8)} {t:Int} {j:Nat} (h:vC L t=some j):j<L.length:=by
 unfold vC at h
 exact(List.findIdx?_eq_some_iff_getElem.1 h).1
theorem uE: ∀(E:List aH) (k:Nat) (hk:k<E.length) (e:aH),e.t=E[k].t→cellsE (E.set k e)=(cellsE E).set (k*2+1) e.v
 |x::E,0,_,e,h=>by
  have h':e.t=x.t:=h
  simp[cellsE,h']
 |x::E,k+1,hk,e,h=>by
  have:=uE E k (by simpa using hk) e (by simpa using h)
  have e1: ∀(y:aH) (F:List aH),cellsE (y::F)=.int .i64 y.t::y.v::cellsE F:=fun _ _=>rfl
  rw[aaD,e1,this,e1,show(k+1)*2+1=(k*2+1)+1+1 by omega,aaD,aaD]
theorem _root_.Go.Proofs.YtfkgmbknfnhjoaaGreat.aI.turned {W:World} {base g n c:Nat} {E:List aH} {k:Nat} {e:aH} (h:aI W base (.slice (some ⟨g,0,none⟩) n c) E) (hk:k<E.length) (hn:n=E.length) (ht:e.t=E[k].t)
  (h2:W.ownsRow base 5 1 e.v e.d.length (e.d.map bv)):aI (W.setCell ⟨g,k*2+1,none⟩ e.v) base (.slice (some ⟨g,0,none⟩) n c) (E.set k e):=by
 subst hn
 obtain⟨g1,g2⟩:=h.1.stored (k*2+1) e.v
 have hr: ∀r,some g=some r→r<base∨(∃o:Obj,W.heap[r]? =some o∧o.isCells=false)∨(∃cur e',W.heap[r]? =some (.cells cur e' (0,0))∧e'≠5):=fun r e=>by
  cases e
  obtain⟨cur,hc⟩:=bL h.1 rfl
  exact .inr (.inr ⟨cur,111,hc,by decide⟩)
 refine⟨by rw[uE E k hk e ht,List.length_set];exact g1,fun x hx=>?_⟩
 rcases List.mem_or_eq_of_mem_set hx with hx|rfl
 ·exact aW (h.2 x hx) g2 hr
 ·exact aW h2 g2 hr
theorem _root_.Go.Proofs.YtfkgmbknfnhjoaaGreat.aI.head {W:World} {base n c:Nat} {A:Option Addr} {E:List aH} (h:aI W base (.slice A n c) E) {k:Nat} (hk:k<E.length):
  ∃g,A=some ⟨g,0,none⟩∧n=E.length∧base≤g∧g<W.heap.size∧W.cell? ⟨g,k*2,none⟩=some (.int .i64 E[k].t)∧W.cell? ⟨g,k*2+1,none⟩=some E[k].v∧W.frozen? ⟨g,k*2+1,none⟩=false:=by
 have h1:=h.1
 have hlen:n=E.length:=by
  obtain⟨A',c',e,-⟩:=ownsRow_form h1
  cases e;rfl
 subst hlen
 rcases h1.2 with⟨h',h0⟩|⟨g,cap,cur,h',hb,hg,-⟩
 ·omega
 ·cases h'
  obtain⟨q0,q1⟩:=mE E k hk
  refine⟨g,rfl,rfl,hb,?_,?_,?_,h1.frozenAt _⟩
  ·exact eY h1 rfl
  ·rw[h1.cellAt _ (by omega),show k*2=2*k by omega];exact q0
  ·rw[h1.cellAt _ (by omega),show k*2=2*k by omega];exact q1
theorem yM (A1 A2:Option Addr) (n1 n2 c1 c2:Nat) (E1 E2:List aH) (w:World) (B:Nat) (hB:B≤w.heap.size) (hA1:aJ w B A1 E1) (hA2:aJ w B A2 E2) (hn1:n1=E1.length) (hn2:n2=E2.length) (hl1:n1≤1000000) (hl2:n2≤1000000) (hd1: ∀e∈E1,e.d.length≤400000000) (hd2: ∀e∈E2,e.d.length≤400000000):
  Calls Tryz.prog 141 #[.slice A1 n1 c1,.slice A2 n2 c2] w (O8 (AA (E1.map aH.o) (E2.map aH.o)) w):=by
 have HA1:=hid hA1
 have HA2:=hid hA2
 have lD:=hid hn1
 have iA:=hid hn2
 have HB:=hid hB
 have HD1:=hid hd1
 have HD2:=hid hd2
 have HOL:=hid (show(E1.map aH.o).length=n1 by simp[hn1])
 have sS:=hid (show(E2.map aH.o).length=n2 by simp[hn2])
 clear hA1 hA2 hn1 hn2 hB hd1 hd2
 obtain⟨O,hO⟩: ∃O,E1.map aH.o=O:=⟨_,rfl⟩
 obtain⟨L,hL⟩: ∃L,E2.map aH.o=L:=⟨_,rfl⟩
 rw[hO,hL]
 rw[hO] at HOL
 rw[hL] at sS
 have Gh:=hid hL
 go_enter Tryz.func141,Tryz.ntmps141
 go_wp2_with fail
 refine(qD A1 n1 c1 E1 w B HB.out HA1.out lD.out hl1 HD1.out).mono ?_
 rw[hO]
 rintro e w0 ⟨E,A,c,rfl,hE,hb,ho⟩
 rw[HOL.out]
 rw[HOL.out] at ho
 have BD:=hid hE
 have HB0:=hid hb
 have je:=hid ho
 have hsz0:=hb.size
 clear hE hb ho hO hL
 go_wp2_with fail
 go_loopw [13] (fun i wr=> ∃(k:Nat) (E:List aH),k≤n1∧i=.int .i64 k∧E.map aH.o=(O.take k).map (mI L)++O.drop k∧Below w.heap.size w wr∧aI wr w.heap.size (.slice A n1 c) E) (fun i _=>n1-(intOf i).toNat)
 case atStart=>exact⟨0,E,Nat.zero_le _,rfl,by simpa using BD.out,HB0.out,je.out⟩
 case round=>
  obtain⟨k,E,hk,rfl,hE,hbl,hown⟩:=hrel
  have HE:=hid hE
  have cu:=hid hbl
  have HOW:=hid hown
  have hsz:=hbl.size
  have oI:=hid (show E.length=n1 by have:=congrArg List.length hE;simp at this;have h2:=HOL.out;omega)
  clear hE hbl hown
  by_cases hlt:k<n1
  ·have HK:=hid (show k<O.length by have:=HOL.out;omega)
   have Gg:=hid (show k<E.length by have:=oI.out;omega)
   obtain⟨g,rfl,-,hg0,hgz,hx,hy,hf⟩:=HOW.out.head Gg.out
   have HG:=hid (show E[k]'(Gg.out)=E[k]'(Gg.out)∧(E[k]'(Gg.out)).o=O[k]'(HK.out) by
    refine⟨rfl,?_⟩
    have h1:=Il (mI L) O k HK.out
    rw[←HE.out,List.getElem?_map,List.getElem?_eq_getElem Gg.out] at h1
    simpa using h1)
   obtain⟨e0,he0⟩: ∃e0,E[k]'Gg.out=e0:=⟨_,rfl⟩
   rw[he0] at hx hy HG
   have HEK:=hid he0
   obtain⟨t,d,a,ce⟩:=e0
   unfold aH.v at hy
   simp only at hx hy
   have CS:(0:Int)≤(k:Int):=by omega
   have Fj:(k:Int)<(n1:Int):=by omega
   clear he0
   cases hpl:vC L t with
   |none=>
    have HP:=hid hpl
    have HR:=hid (show E.map aH.o=(O.take (k+1)).map (mI L)++O.drop (k+1) by
     have h1:=Bj (mI L) O k HK.out
     have h2:mI L (O[k]'(HK.out))=O[k]'(HK.out):=by rw[←HG.out.2];unfold mI aH.o;simp only;rw[hpl]
     rw[←h1,h2,←HE.out,←HG.out.2,←HEK.out,←List.map_set,List.set_getElem_self])
    clear hpl
    go_wp2_with fail
    refine(jE A2 n2 c2 E2 t _ B (by have:=HB.out;simp;omega) (HA2.out.keep (by have:=HB.out;have h:=cu.out.mono this;exact aA)) iA.out hl2).mono ?_
    rw[Gh.out,HP.out]
    rintro e w1 ⟨rfl,hb⟩;obtain⟨xs,d,rfl⟩:=aB hb;clear hb
    go_wp2_with fail
    go_roundw
    case rel=>exact⟨k+1,E,by omega,by go_num,HR.out,by have:=cu.out;exact aA,HOW.out.below (by exact aA)⟩
    case measure=>simp[intOf];omega
   |some j=>
    have HP:=hid hpl
    have HJ:=hid (show j<E2.length by have:=UF hpl;have h2:=sS.out;have h3:=iA.out;omega)
    have hj2:j<n2:=by have:=HJ.out;have:=iA.out;omega
    obtain⟨b2,o2,rfl,hb2,hx2,hy2⟩:=(HA2.out.keep (cu.out.mono HB.out)).get HJ.out
    obtain⟨e2,he2⟩: ∃e2,E2[j]'HJ.out=e2:=⟨_,rfl⟩
    rw[he2] at hx2 hy2
    have jM:=(HA2.out.keep (cu.out.mono HB.out)).2 _ (List.getElem_mem HJ.out)
    have hdl:=HD2.out _ (List.getElem_mem HJ.out)
    rw[he2] at jM hdl
    obtain⟨t2,d2,a2,Pf⟩:=e2
    unfold aH.v at hy2
    simp only at hx2 hy2 jM hdl
    have HAT:=hid jM
    have HR:=hid (show∀(a3:Option Addr) (c3:Nat),(E.set k ⟨t,d2,a3,c3⟩).map aH.o=(O.take (k+1)).map (mI L)++O.drop (k+1) by
     intro a3 c3
     have h1:=Bj (mI L) O k HK.out
     have h2:mI L (O[k]'(HK.out))=(t,d2):=by
      rw[←HG.out.2];unfold mI aH.o;simp only;rw[hpl]
      have h3:L.getD j (0,[])=(t2,d2):=by
       rw[←Gh.out,List.getD_eq_getElem?_getD,List.getElem?_map,List.getElem?_eq_getElem HJ.out,he2];rfl
      simp only[h3]
     rw[←h1,h2,←HE.out,List.map_set];rfl)
    have HT:=hid (show t=(E[k]'Gg.out).t by rw[HEK.out])
    have z2:b2<wr.heap.size:=by have:=HB.out;omega
    have q0:(0:Int)≤(j:Int):=by omega
    have q1:(j:Int)<(n2:Int):=by omega
    clear hpl he2 jM
    go_wp2_with fail
    refine(jE _ n2 c2 E2 t _ B (by have:=HB.out;simp;omega) (HA2.out.keep (by have:=HB.out;have h:=cu.out.mono this;exact aA)) iA.out hl2).mono ?_
    rw[Gh.out,HP.out]
    rintro e w1 ⟨rfl,hb⟩;obtain⟨xs,d,rfl⟩:=aB hb;clear hb
    unfold Di
    go_wp2_with fail
    refine(jD a2 d2.length Pf d2 _ B (by have:=HB.out;simp[size_ext,grow];omega) (HAT.out.1.keep (by have:=HB.out;exact aA)) rfl hdl HAT.out.2).mono ?_
    rintro e w2 ⟨v,rfl,hb,ho⟩
    obtain⟨A3,c3,rfl,-,-⟩:=ownsRow_form ho
    obtain⟨ys,dr,rfl⟩:=aB hb
    have HO:=hid ho
    clear hb ho
    go_wp2_with fail
    go_roundw
    case rel=>
     have e9: ∀(o:Obj) (v:Value),(ext (ext (wr.alloc o) xs d) ys dr).setCell ⟨g,k*2+1,none⟩ v=ext (ext ((wr.setCell ⟨g,k*2+1,none⟩ v).alloc o) xs d) ys dr:=fun o v=>by
      have:g<grow (wr.heap.size+1) xs:=by simp only[grow];omega
      simp[go_sem,hgz,this]
     refine⟨k+1,_,by omega,by go_num,HR.out A3 c3,?_,?_⟩
     ·have:=cu.out;exact aA
     ·rw[←e9]
      refine aI.turned (e:=⟨t,d2,A3,c3⟩) (by exact HOW.out.below (by exact aA)) Gg.out oI.out.symm HT.out ?_
      exact aK HO.out (by simp[size_ext,grow];omega)
    case measure=>simp[intOf];omega
  ·obtain rfl:k=n1:=by omega
   go_wp2_with fail
   go_ret
   have h:=HE.out
   rw[←HOL.out,List.take_length,List.drop_length,List.append_nil] at h
   refine⟨E,A,c,?_,h,cu.out,?_⟩
   ·rw[D7,HOL.out];rfl
   ·rw[D7,HOL.out];exact HOW.out
abbrev bF:=Int×List UInt8
def rejStep (L:List bF) (s:List bF×Nat) (o:bF):List bF×Nat:=if L[s.2]? =some o then(s.1,s.2+1) else(s.1++[o],s.2)
def fI (O L:List bF):List bF×Nat:=O.foldl (rejStep L) ([],0)
theorem iT {O L:List bF} {k:Nat} (hk:k<O.length):fI (O.take (k+1)) L=rejStep L (fI (O.take k) L) O[k]:=by
 unfold fI
 rw[List.take_succ_eq_append_getElem hk,List.foldl_append];rfl
theorem Ja (O L:List bF):(fI O L).2≤L.length:=by
 unfold fI
 have: ∀(O:List bF) (s:List bF×Nat),s.2≤L.length→(O.foldl (rejStep L) s).2≤L.length:=by
  intro O
  induction O with
  |nil=>intro s h;exact h
  |cons o O ih=>
   intro s h
   rw[List.foldl_cons]
   apply ih
   unfold rejStep
   split
   ·rename_i h2
    have:=(List.getElem?_eq_some_iff.1 h2).1
    simp only;omega
   ·exact h
 exact this O _ (Nat.zero_le _)
theorem xE (O L:List bF):(fI O L).1.length+(fI O L).2=O.length:=by
 unfold fI
 have: ∀(O:List bF) (s:List bF×Nat),(O.foldl (rejStep L) s).1.length+(O.foldl (rejStep L) s).2=s.1.length+s.2+O.length:=by
  intro O
  induction O with
  |nil=>intro s;simp
  |cons o O ih=>
   intro s
   rw[List.foldl_cons,ih]
   unfold rejStep
   split<;>simp<;>omega
 have:=this O ([],0)
 simpa using this
def wQ (L:List bF) (b:Bool) (w:World) (x:Ending) (w':World):Prop:=
 ∃(E:List aH) (A:Option Addr) (c:Nat),x=.returned (.tuple #[.slice A L.length c,.bool b])∧E.map aH.o=L∧Below w.heap.size w w'∧aI w' w.heap.size (.slice A L.length c) E
theorem _root_.Go.Proofs.YtfkgmbknfnhjoaaGreat.aJ.tail {W:World} {B b o:Nat} {E:List aH} {j:Nat} (h:aJ W B (some ⟨b,o,none⟩) (E.drop j)):aJ W B (some ⟨b,o+2,none⟩) (E.drop (j+1)):=by
 refine⟨?_,fun e he=>h.2 e ?_⟩
 ·rcases h.1 with h0|⟨b',o',e,hb,hc⟩
  ·refine .inl ?_
   have:=congrArg List.length h0
   rw[pq] at this
   have h2:E.drop (j+1)=[]:=by
    rw[List.drop_eq_nil_iff];simp at this;omega
   rw[h2];rfl
  ·cases e
   refine .inr ⟨b,o+2,rfl,hb,fun i u hu=>?_⟩
   have:=hc (i+2) u (by
    by_cases hj:j<E.length
    ·rw[List.drop_eq_getElem_cons hj]
     have e1: ∀(y:aH) (F:List aH),cellsE (y::F)=.int .i64 y.t::y.v::cellsE F:=fun _ _=>rfl
     rw[e1]
     simpa using hu
    ·rw[List.drop_eq_nil_iff.2 (by omega)] at hu;simp[cellsE] at hu)
   rwa [show o+(i+2)=o+2+i by omega] at this
 ·rw[←List.drop_drop] at he
  exact List.mem_of_mem_drop he
theorem _root_.Go.Proofs.YtfkgmbknfnhjoaaGreat.aJ.none {W:World} {B:Nat} {A:Option Addr} {E:List aH} {j:Nat} (h:E.length≤j):aJ W B A (E.drop j):=by
 rw[List.drop_eq_nil_iff.2 h]
 exact⟨At.nil _ _ _,fun _ h=>by cases h⟩
theorem Hy {α:Type} {E:List α} {j:Nat} (h:0<(E.drop j).length):j<E.length:=by simp at h;omega
theorem qG (A1 A0:Option Addr) (n1 n2 c1 c0:Nat) (E1 EL:List aH) (w:World) (B:Nat) (hB:B≤w.heap.size) (hA1:aJ w B A1 E1) (Io:aJ w B A0 EL) (hn1:n1=E1.length) (hn2:n2=EL.length) (hc0:n2≤c0) (hl1:n1≤1000000) (hl2:n2≤1000000) (hd1: ∀e∈E1,e.d.length≤1000000) (hd2: ∀e∈EL,e.d.length≤1000000):
  Calls Tryz.prog 142 #[.slice A1 n1 c1,.slice A0 n2 c0] w (wQ (fI (E1.map aH.o) (EL.map aH.o)).1 (decide ((fI (E1.map aH.o) (EL.map aH.o)).2=EL.length)) w):=by
 have HA1:=hid hA1
 have HA0:=hid Io
 have lD:=hid hn1
 have iA:=hid hn2
 have HB:=hid hB
 have HD1:=hid hd1
 have HD2:=hid hd2
 have HOL:=hid (show(E1.map aH.o).length=n1 by simp[hn1])
 have sS:=hid (show(EL.map aH.o).length=n2 by simp[hn2])
 clear hA1 Io hn1 hn2 hB hd1 hd2
 obtain⟨O,hO⟩: ∃O,E1.map aH.o=O:=⟨_,rfl⟩
 obtain⟨L,hL⟩: ∃L,EL.map aH.o=L:=⟨_,rfl⟩
 rw[hO,hL]
 rw[hO] at HOL
 rw[hL] at sS
 have Gh:=hid hL
 have YF:=hid hO
 clear hO hL
 go_enter Tryz.func142,Tryz.ntmps142
 go_wp2_with fail
 go_loopw [1,6,11] (fun l v i wr=> ∃(k j k2 c2:Nat) (A2:Option Addr) (E2:List aH) (m c':Nat) (AL:Option Addr),k≤n1∧i=.int .i64 k∧v=.slice A2 k2 c2∧l=.slice AL m c'∧E2.map aH.o=(fI (O.take k) L).1∧j=(fI (O.take k) L).2∧(m=n2-j∧m≤c')∧E2.length=k2∧Below w.heap.size w wr∧aI wr w.heap.size (.slice A2 k2 c2) E2∧aJ w B AL (EL.drop j)) (fun _ _ i _=>n1-(intOf i).toNat)
 case atStart=>exact⟨0,0,0,0,none,[],n2,c0,A0,Nat.zero_le _,rfl,rfl,rfl,rfl,rfl,⟨rfl,hc0⟩,rfl,Below.refl _ _,aI.nil _ _,HA0.out⟩
 case round=>
  obtain⟨k,j,k2,c2,A2,E2,m,c',AL,hk,rfl,rfl,rfl,hE2,hj,hm,hl,hbl,hown,hal⟩:=hrel
  have HE2:=hid hE2
  have HJ:=hid hj
  have HM:=hid hm
  have cu:=hid hbl
  have HOW:=hid hown
  have qc:=hid hal
  have HL2:=hid hl
  have hsz:=hbl.size
  have hmc:=hm.2
  have KE:=hid (show j≤n2 by have:=Ja (O.take k) L;rw[←hj,sS.out] at this;exact this)
  have tF:=hid (show k2≤k by have h1:=xE (O.take k) L;rw[←hE2,List.length_map,hl,List.length_take] at h1;omega)
  have hk2:k2≤1000000:=by have:=tF.out;omega
  have hm2:m≤1000000:=by have:=hm.1;omega
  clear hE2 hj hm hbl hown hal hl
  by_cases hlt:k<n1
  focus
   have HK:=hid (show k<E1.length by have:=lD.out;omega)
   have zK:=hid (show k<O.length by have:=HOL.out;omega)
   have jU:=hid (show wr.ownsRow w.heap.size 111 2 (.slice A2 k2 c2) k2 (cellsE E2) by have h:=HOW.out.1;rwa [HL2.out] at h)
   obtain⟨b,o,rfl,tL,hx,hy⟩:=(HA1.out.keep (cu.out.mono HB.out)).get HK.out
   obtain⟨e0,he0⟩: ∃e0,E1[k]'HK.out=e0:=⟨_,rfl⟩
   have hat:=(HA1.out.keep (cu.out.mono HB.out)).2 _ (List.getElem_mem HK.out)
   have hdl:=HD1.out _ (List.getElem_mem HK.out)
   have hok:O[k]'(zK.out)=e0.o:=by
    have h1:O[k]? =some e0.o:=by rw[←YF.out,List.getElem?_map,List.getElem?_eq_getElem HK.out,he0];rfl
    rw[List.getElem?_eq_getElem zK.out] at h1
    simpa using h1
   rw[he0] at hx hy hat hdl
   obtain⟨t,d,a,ce⟩:=e0
   have hbz:b<wr.heap.size:=by have:=HB.out;omega
   have CS:(0:Int)≤(k:Int):=by omega
   have Fj:(k:Int)<(n1:Int):=by omega
   have HAT:=hid hat
   have ug:=hid hok
   unfold aH.v at hy
   simp only at hx hy hdl hat
   clear hat he0 hok
   have E_:d.length≤400000000:=by omega
   rcases Nat.eq_zero_or_pos m with hm0|hm0
  focus
   subst hm0
   have gD:=hid (show fI (O.take (k+1)) L=((fI (O.take k) L).1++[(t,d)],(fI (O.take k) L).2) by
    rw[iT zK.out,ug.out]
    unfold rejStep
    rw[if_neg];· rfl
    rw[List.getElem?_eq_none (by rw[←HJ.out,sS.out];have:=HM.out.1;have:=KE.out;omega)]
    simp)
  rotate_left
  focus
   have VP:=hid (show 0<(EL.drop j).length by have:=HM.out.1;have:=iA.out;simp;omega)
   have Ve:=hid (Hy VP.out)
   obtain⟨b2,o2,rfl,hb2,hx2,hy2⟩:=(qc.out.keep (cu.out.mono HB.out)).get VP.out
   have jM:=(qc.out.keep (cu.out.mono HB.out)).2 _ (List.getElem_mem VP.out)
   have WJ:=HD2.out _ (List.mem_of_mem_drop (List.getElem_mem VP.out))
   obtain⟨e2,he2⟩: ∃e2,(EL.drop j)[0]'VP.out=e2:=⟨_,rfl⟩
   have J5:=hid (show L[j]? =some e2.o by
    rw[←Gh.out,List.getElem?_map,List.getElem?_eq_getElem Ve.out,←he2];simp)
   rw[he2] at hx2 hy2 jM WJ
   obtain⟨t2,d2,a2,Pf⟩:=e2
   unfold aH.v at hy2
   simp only at hx2 hy2 jM WJ
   rw[show o2+0*2=o2 by omega] at hx2 hy2
   have zF:=hid jM
   have z2:b2<wr.heap.size:=by have:=HB.out;omega
   have mm0:(0:Int)<(m:Int):=by omega
   have mm1:(1:Int)≤(m:Int):=by omega
   clear he2 jM
   cases ht:(t==t2)
  focus
   have gD:=hid (show fI (O.take (k+1)) L=((fI (O.take k) L).1++[(t,d)],(fI (O.take k) L).2) by
    rw[iT zK.out,ug.out]
    unfold rejStep
    rw[if_neg];· rfl
    rw[←HJ.out,J5.out]
    intro e
    simp[aH.o] at e
    simp at ht
    exact ht e.1.symm)
  rotate_left
  ·cases hd:decide (d=d2)
   focus
    have gD:=hid (show fI (O.take (k+1)) L=((fI (O.take k) L).1++[(t,d)],(fI (O.take k) L).2) by
     rw[iT zK.out,ug.out]
     unfold rejStep
     rw[if_neg];· rfl
     rw[←HJ.out,J5.out]
     intro e
     simp[aH.o] at e
     simp at hd
     exact hd e.2.symm)
    have HDD:=hid hd
    clear hd
   rotate_left
   focus
    have gD:=hid (show fI (O.take (k+1)) L=((fI (O.take k) L).1,(fI (O.take k) L).2+1) by
     rw[iT zK.out,ug.out]
     unfold rejStep
     rw[if_pos]
     rw[←HJ.out,J5.out]
     simp[aH.o]
     simp at hd ht
     exact⟨ht.symm,hd.symm⟩)
    have HDD:=hid hd
    clear hd
    rcases Nat.lt_or_ge 1 c' with hc1|hc1
   focus
    have BJ:(1:Int)≤(c':Int):=by omega
   rotate_left
   focus
    obtain rfl:c'=1:=by omega
    obtain rfl:m=1:=by omega
   rotate_left
   all_goals
    go_wp2_with fail
    go_region_held3 (fun w'=>w'.cell? ⟨wr.heap.size,0,none⟩=some (.int .i64 t)∧w'.cell? ⟨wr.heap.size,1,none⟩=some (.slice a d.length ce)∧w'.cell? ⟨b2,o2,none⟩=some (.int .i64 t2)∧w'.cell? ⟨b2,o2+1,none⟩=some (.slice a2 d2.length Pf)) (first|(go_keep;done)|(go_simp;done)|(simp[go_sem];done)) ((go_at_call 167;go_must (refine(EW a a2 d.length d2.length ce Pf d d2 _ B (by have:=HB.out;simp[size_ext,grow];omega) (by exact HAT.out.1.keep (by have:=HB.out;exact aA)) (by exact zF.out.1.keep (by have:=HB.out;exact aA)) rfl rfl (by omega) (by omega)).mono ?_);rw[HDD.out];rintro e w2 ⟨rfl,hb⟩;obtain⟨xs,dr,rfl⟩:=aB hb;clear hb))
   ·all_goals
     go_wp2_with fail
     refine(ow t a d.length ce d _ B (by have:=HB.out;simp[size_ext,grow];omega) (by exact HAT.out.1.keep (by have:=HB.out;exact aA)) rfl E_ HAT.out.2).mono ?_
     rintro e w2 ⟨A3,c3,rfl,hb,ho⟩
     have HB2:=hid (show Below wr.heap.size wr w2 from Below.trans (by exact aA) (hb.mono (by simp[size_ext,grow]<;>omega)))
     have j_:=hid (aK (base':=w.heap.size) ho (by simp[size_ext,grow];omega))
     have hsz2:=HB2.out.size
     clear hb ho
     go_wp2_with (at_builtin;refine dY w rfl (.tmp 38) (.tmp 41) 25 rfl 111 Tryz.underlying25 (.agg #[.int .i64 0,.slice none 0 0]) 2 32 dV rfl (by decide) (by decide) (.slice A2 k2 c2) k2 (cellsE E2) rfl (by exact own_below jU.out (by have:=HB2.out;exact aA)) (w2.heap.size+1) (some ⟨w2.heap.size,0,none⟩) 1 1 [.int .i64 t,.slice A3 d.length c3] rfl rfl (by omega) (by exact At.gW _ _ _ _ _ rfl rfl) (by intro u hu;simp at hu;rcases hu with rfl|rfl<;>rfl) (by have h1:=cu.out;have h2:=HB2.out;exact aA) ?_;intro A4 c4 w3 ho3 hc3 hb3 hg3;have gZ:=hid ho3;have HB3:=hid hb3;have sQ:=hid hg3;clear ho3 hc3 hb3 hg3)
     have uf:=hid (aI.jO (tt:=t) (dd:=d) (A2:=A3) (c2:=c3) (HOW.out.below (HB2.out.trans (Below.alloc (Below.refl _ w2) hsz2 _))) (own_below j_.out (Below.alloc (Below.refl _ w2) (aaE _) _)) (by rw[HL2.out];exact gZ.out) sQ.out)
     go_roundw
     case rel=>exact⟨k+1,j,k2+1,c4,A4,_,_,c',_,by omega,by go_num,rfl,rfl,by rw[gD.out];simp only;rw[List.map_append,HE2.out];rfl,by rw[gD.out];exact HJ.out,HM.out,by simp[HL2.out],HB3.out,uf.out,qc.out⟩
     case measure=>simp[intOf];omega
   ·all_goals
     go_wp2_with fail
     go_roundw
     case rel=>exact⟨k+1,j+1,k2,c2,A2,E2,m-1,c'-1,_,by omega,by go_num,rfl,rfl,by rw[gD.out];exact HE2.out,by rw[gD.out];show j+1=_+1;rw[HJ.out],⟨by have:=HM.out.1;omega,by omega⟩,HL2.out,by have:=cu.out;exact aA,HOW.out.below (by exact aA),qc.out.tail⟩
     case measure=>simp[intOf];omega
   ·all_goals
     go_wp2_with fail
     go_roundw
     case rel=>exact⟨k+1,j+1,k2,c2,A2,E2,0,0,_,by omega,by go_num,rfl,rfl,by rw[gD.out];exact HE2.out,by rw[gD.out];show j+1=_+1;rw[HJ.out],⟨by have:=HM.out.1;omega,by omega⟩,HL2.out,by have:=cu.out;exact aA,HOW.out.below (by exact aA),aJ.none (by have:=HM.out.1;have:=iA.out;omega)⟩
     case measure=>simp[intOf];omega
  ·obtain rfl:k=n1:=by omega
   have hT:O.take k=O:=by rw[←HOL.out,List.take_length]
   have HT:=hid hT
   clear hT
   go_wp2_with fail
   refine bodyPost_ret (v:=.tuple #[.slice A2 k2 c2,.bool (decide ((fI O L).2=EL.length))]) (by simp[results,Tryz.results142,go_sem];have h1:=HM.out.1;have h2:=HJ.out;have h3:=iA.out;have h4:=KE.out;rw[HT.out] at h2;rw[←h2,←h3,Bool.eq_iff_iff];simp;omega) rfl ⟨E2,A2,c2,?_,?_,cu.out,?_⟩
   ·have h:=HE2.out
    rw[HT.out] at h
    rw[←h,List.length_map,HL2.out]
   ·have h:=HE2.out
    rwa [HT.out] at h
   ·have h:=HE2.out
    rw[HT.out] at h
    rw[←h,List.length_map,HL2.out]
    exact HOW.out
  all_goals
   go_upto_region 7 with(fail)
   go_quiet (fail)
   go_wp2_with fail
   refine(ow t a d.length ce d _ B (by have:=HB.out;simp[size_ext,grow];omega) (by exact HAT.out.1.keep (by have:=HB.out;exact aA)) rfl E_ HAT.out.2).mono ?_
   rintro e w2 ⟨A3,c3,rfl,hb,ho⟩
   have HB2:=hid (show Below wr.heap.size wr w2 from Below.trans (by exact aA) (hb.mono (by simp[size_ext,grow]<;>omega)))
   have j_:=hid (aK (base':=w.heap.size) ho (by simp[size_ext,grow];omega))
   have hsz2:=HB2.out.size
   clear hb ho
   go_wp2_with (at_builtin;refine dY w rfl (.tmp 38) (.tmp 41) 25 rfl 111 Tryz.underlying25 (.agg #[.int .i64 0,.slice none 0 0]) 2 32 dV rfl (by decide) (by decide) (.slice A2 k2 c2) k2 (cellsE E2) rfl (by exact own_below jU.out (by have:=HB2.out;exact aA)) (w2.heap.size+1) (some ⟨w2.heap.size,0,none⟩) 1 1 [.int .i64 t,.slice A3 d.length c3] rfl rfl (by omega) (by exact At.gW _ _ _ _ _ rfl rfl) (by intro u hu;simp at hu;rcases hu with rfl|rfl<;>rfl) (by have h1:=cu.out;have h2:=HB2.out;exact aA) ?_;intro A4 c4 w3 ho3 hc3 hb3 hg3;have gZ:=hid ho3;have HB3:=hid hb3;have sQ:=hid hg3;clear ho3 hc3 hb3 hg3)
   have uf:=hid (aI.jO (tt:=t) (dd:=d) (A2:=A3) (c2:=c3) (HOW.out.below (HB2.out.trans (Below.alloc (Below.refl _ w2) hsz2 _))) (own_below j_.out (Below.alloc (Below.refl _ w2) (aaE _) _)) (by rw[HL2.out];exact gZ.out) sQ.out)
   go_roundw
   case rel=>exact⟨k+1,j,k2+1,c4,A4,_,_,c',_,by omega,by go_num,rfl,rfl,by rw[gD.out];simp only;rw[List.map_append,HE2.out];rfl,by rw[gD.out];exact HJ.out,HM.out,by simp[HL2.out],HB3.out,uf.out,qc.out⟩
   case measure=>simp[intOf];omega
def bN (O:List bF) (code:Int) (L:List bF):List bF×Bool:=
 if L.length=0 then(O,false) else if code=3 then(AA O L,true) else if code=4 then(if (fI O L).2=L.length then((fI O L).1,true) else(O,false)) else(O,false)
theorem xA (A1 A2:Option Addr) (n1 n2 c1 c2:Nat) (code:Int) (E1 E2:List aH) (w:World) (B:Nat) (hB:B≤w.heap.size) (hA1:aJ w B A1 E1) (hA2:aJ w B A2 E2) (hn1:n1=E1.length) (hn2:n2=E2.length) (hc2:n2≤c2) (hl1:n1≤1000000) (hl2:n2≤1000000) (hd1: ∀e∈E1,e.d.length≤1000000) (hd2: ∀e∈E2,e.d.length≤1000000):
  Calls Tryz.prog 97 #[.slice A1 n1 c1,.int .i64 code,.slice A2 n2 c2] w (wQ (bN (E1.map aH.o) code (E2.map aH.o)).1 (bN (E1.map aH.o) code (E2.map aH.o)).2 w):=by
 have HA1:=hid hA1
 have HA2:=hid hA2
 have lD:=hid hn1
 have iA:=hid hn2
 have HB:=hid hB
 have HD1:=hid hd1
 have HD2:=hid hd2
 have sS:=hid (show(E2.map aH.o).length=n2 by simp[hn2])
 clear hA1 hA2 hn1 hn2 hB hd1 hd2
 obtain⟨O,hO⟩: ∃O,E1.map aH.o=O:=⟨_,rfl⟩
 obtain⟨L,hL⟩: ∃L,E2.map aH.o=L:=⟨_,rfl⟩
 rw[hO,hL]
 rw[hL] at sS
 have HL:=hid hL
 have HO:=hid hO
 clear hO hL
 by_cases h0:n2=0
 focus
  subst h0
  have HR:=hid (show bN O code L=(O,false) by unfold bN;rw[if_pos sS.out])
  go_enter Tryz.func97,Tryz.ntmps97
 rotate_left
 focus
  have e0:((n2:Int)==0)=false:=by simp;omega
  have hL0: ¬L.length=0:=by rw[sS.out];exact h0
  by_cases h3:code=3
 ·have HR:=hid (show bN O code L=(AA O L,true) by unfold bN;rw[if_neg hL0,if_pos h3])
  have e3:(code==3)=true:=by simpa using h3
  clear h3 h0 hL0
  go_enter Tryz.func97,Tryz.ntmps97
  go_wp2_with fail
  refine(yM A1 A2 n1 n2 c1 c2 E1 E2 _ B HB.out HA1.out HA2.out lD.out iA.out hl1 hl2 (by intro e he;have:=HD1.out e he;omega) (by intro e he;have:=HD2.out e he;omega)).mono ?_
  rw[HO.out,HL.out]
  rintro e w1 ⟨E7,A7,c7,rfl,Pm,lM,xk⟩
  have Kz:=hid Pm
  have OY:=hid xk
  obtain⟨Vu,dr7,rfl⟩:=aB lM
  clear Pm lM xk
  go_wp2_with fail
  refine bodyPost_ret (v:=.tuple #[.slice A7 (AA O L).length c7,.bool true]) (by simp[results,Tryz.results97,go_sem]) rfl ⟨E7,A7,c7,by rw[HR.out],by rw[HR.out];exact Kz.out,by exact aA,by rw[HR.out];first|exact OY.out|exact aI.base OY.out (by simp[size_ext,grow])⟩
 focus
  have e3:(code==3)=false:=by simpa using h3
  by_cases h4:code=4
 focus
  have e4:(code==4)=true:=by simpa using h4
  have jK:=hid (show E2.length=L.length by rw[sS.out];exact iA.out.symm)
  by_cases hr:(fI O L).2=L.length
 ·have HR:=hid (show bN O code L=((fI O L).1,true) by unfold bN;rw[if_neg hL0,if_neg h3,if_pos h4,if_pos hr])
  have HD:=hid (decide_eq_true hr)
  clear h3 h0 hL0 h4 hr
  go_enter Tryz.func97,Tryz.ntmps97
  go_wp2_with fail
  refine(qG A1 A2 n1 n2 c1 c2 E1 E2 _ B HB.out HA1.out HA2.out lD.out iA.out hc2 hl1 hl2 HD1.out HD2.out).mono ?_
  rw[HO.out,HL.out,jK.out,HD.out]
  rintro e w1 ⟨E7,A7,c7,rfl,Pm,lM,xk⟩
  have Kz:=hid Pm
  have OY:=hid xk
  obtain⟨Vu,dr7,rfl⟩:=aB lM
  clear Pm lM xk
  go_wp2_with fail
  refine bodyPost_ret (v:=.tuple #[.slice A7 (fI O L).1.length c7,.bool true]) (by simp[results,Tryz.results97,go_sem]) rfl ⟨E7,A7,c7,by rw[HR.out],by rw[HR.out];exact Kz.out,by exact aA,by rw[HR.out];first|exact OY.out|exact aI.base OY.out (by simp[size_ext,grow])⟩
 focus
  have HR:=hid (show bN O code L=(O,false) by unfold bN;rw[if_neg hL0,if_neg h3,if_pos h4,if_neg hr])
  have HD:=hid (decide_eq_false hr)
  clear h3 h0 hL0 h4 hr
  go_enter Tryz.func97,Tryz.ntmps97
  go_wp2_with fail
  refine(qG A1 A2 n1 n2 c1 c2 E1 E2 _ B HB.out HA1.out HA2.out lD.out iA.out hc2 hl1 hl2 HD1.out HD2.out).mono ?_
  rw[HO.out,HL.out,jK.out,HD.out]
  rintro e w1 ⟨E8,A8,c8,rfl,-,nO,-⟩
  obtain⟨yZ,dr8,rfl⟩:=aB nO
  clear nO
 rotate_left
 focus
  have HR:=hid (show bN O code L=(O,false) by unfold bN;rw[if_neg hL0,if_neg h3,if_neg h4])
  have e4:(code==4)=false:=by simpa using h4
  clear h3 h0 hL0 h4
  go_enter Tryz.func97,Tryz.ntmps97
 rotate_left
 all_goals
  go_wp2_with fail
  refine(qD A1 n1 c1 E1 _ B (by have:=HB.out;simp[size_ext,grow]<;>omega) (by exact HA1.out.keep (by have:=HB.out;exact aA)) lD.out hl1 (by intro e he;have:=HD1.out e he;omega)).mono ?_
  rw[HO.out]
  rintro e w1 ⟨E7,A7,c7,rfl,Pm,lM,xk⟩
  have Kz:=hid Pm
  have OY:=hid xk
  obtain⟨Vu,dr7,rfl⟩:=aB lM
  clear Pm lM xk
  go_wp2_with fail
  refine bodyPost_ret (v:=.tuple #[.slice A7 O.length c7,.bool false]) (by simp[results,Tryz.results97,go_sem]) rfl ⟨E7,A7,c7,by rw[HR.out],by rw[HR.out];exact Kz.out,by exact aA,by rw[HR.out];first|exact OY.out|exact aI.base OY.out (by simp[size_ext,grow])⟩
theorem xB {L:List bF} {j:Nat} (hj:j<L.length) (o:bF):mI (L.drop j) o=if L[j].1=o.1 then(o.1,L[j].2) else mI (L.drop (j+1)) o:=by
 rw[List.drop_eq_getElem_cons hj]
 unfold mI vC
 rw[List.findIdx?_cons]
 by_cases h:L[j].1=o.1
 ·simp[h,hj]
 ·have h2:(L[j].1==o.1)=false:=by simpa using h
  simp only[h2,if_neg h]
  cases List.findIdx? (fun e=>e.1==o.1) (L.drop (j+1)) with
  |none=>simp
  |some i=>simp[show j+(i+1)=j+1+i by omega]
theorem iW {W:World} {X:Nat} {t:Int} {v:Value} (h:W.heap[X]? =some (.cells #[.int .i64 t,v] 111 (0,0))):W.cell? ⟨X,0,none⟩=some (.int .i64 t)∧W.cell? ⟨X,1,none⟩=some v∧W.frozen? ⟨X,1,none⟩=false∧X<W.heap.size:=by
 refine⟨?_,?_,frozen_of_row W X 1 _ _ h,?_⟩
 ·rw[cell_of_row W X 0 _ _ _ h];rfl
 ·rw[cell_of_row W X 1 _ _ _ h];rfl
 ·rw[Array.getElem?_eq_some_iff] at h;exact h.1
theorem jH {α β:Type} (f:α→β) (O:List α) (k:Nat) (hk:k<O.length):(O.take (k+1)).map f=(O.take k).map f++[f O[k]]:=by
 rw[List.take_succ_eq_append_getElem hk,List.map_append];rfl
end Go.Proofs.YtfkgmbknfnhjoaaGreat.Ne
