/- PM -/
import Derived.Test.YtfkgmbknfnhjoaaGreatSPJ
import Derived.Test.YtfkgmbknfnhjoaaGreatSPI
set_option linter.all false
set_option linter.ambiguousOpen false
set_option maxHeartbeats 4000000
namespace Go.Proofs.YtfkgmbknfnhjoaaGreat
open Lib (hid)
open Go.RowKit
open Ne
def GZ (B:Nat) (L:List bF) (b:Bool) (w:World) (x:Ending) (w':World):Prop:=
 ∃(E:List aH) (A:Option Addr) (n c:Nat),x=.returned (.tuple #[.slice A n c,.bool b])∧E.map aH.o=L∧n=E.length∧n≤c∧Below w.heap.size w w'∧aJ w' w'.heap.size A E∧(b=true→w'.ownsRow w.heap.size 111 2 (.slice A n c) n (cellsE E)∧ ∀e∈E,At w B e.a (e.d.map bv)∧e.d.length≤e.c)
theorem Ba (A1 A2:Option Addr) (n1 n2 c1 c2:Nat) (E1 E2:List aH) (w:World) (B:Nat) (hB:B≤w.heap.size) (hA1:aJ w B A1 E1) (hA2:aJ w B A2 E2) (hn1:n1=E1.length) (hn2:n2=E2.length) (h0:0<n2) (hl1:n1≤1000000) (hl2:n2≤1000000):
  Calls Tryz.prog 101 #[.slice A1 n1 c1,.int .i64 3,.slice A2 n2 c2] w (GZ B (AA (E1.map aH.o) (E2.map aH.o)) true w):=by
 have HA1:=hid hA1
 have HA2:=hid hA2
 have lD:=hid hn1
 have iA:=hid hn2
 have HB:=hid hB
 have HOL:=hid (show(E1.map aH.o).length=n1 by simp[hn1])
 have sS:=hid (show(E2.map aH.o).length=n2 by simp[hn2])
 clear hA1 hA2 hn1 hn2 hB
 obtain⟨O,hO⟩: ∃O,E1.map aH.o=O:=⟨_,rfl⟩
 obtain⟨L,hL⟩: ∃L,E2.map aH.o=L:=⟨_,rfl⟩
 rw[hO,hL]
 rw[hO] at HOL
 rw[hL] at sS
 have HL:=hid hL
 have HO:=hid hO
 clear hO hL
 have e0:((n2:Int)==0)=false:=by simp;omega
 go_enter Tryz.func101,Tryz.ntmps101
 go_wp2_with fail
 go_loopw [8,9] (fun v i wr=> ∃(k c:Nat) (A:Option Addr) (E:List aH),k≤n1∧i=.int .i64 k∧v=.slice A k c∧E.length=k∧E.map aH.o=(O.take k).map (mI L)∧Below w.heap.size w wr∧wr.ownsRow w.heap.size 111 2 (.slice A k c) k (cellsE E)∧ ∀e∈E,At w B e.a (e.d.map bv)∧e.d.length≤e.c) (fun _ i _=>n1-(intOf i).toNat)
 case atStart=>exact⟨0,0,none,[],Nat.zero_le _,rfl,rfl,rfl,rfl,Below.refl _ _,aN _ _ _ _,fun _ h=>by cases h⟩
 case round=>
  obtain⟨k,c,A,E,hk,rfl,rfl,hEl,hE,hbl,hown,hdat⟩:=hrel
  have oI:=hid hEl
  have HE:=hid hE
  have cu:=hid hbl
  have HOW:=hid hown
  have qd:=hid hdat
  have WV:=hbl.size
  clear hEl hE hbl hown hdat
  by_cases hlt:k<n1
  ·have HK:=hid (show k<E1.length by have:=lD.out;omega)
   have zK:=hid (show k<O.length by have:=HOL.out;omega)
   obtain⟨b,o,rfl,tL,hx,hy⟩:=(HA1.out.keep (cu.out.mono HB.out)).get HK.out
   obtain⟨TM,he0⟩: ∃e0,E1[k]'HK.out=e0:=⟨_,rfl⟩
   have hat:=HA1.out.2 _ (List.getElem_mem HK.out)
   have hok:O[k]'(zK.out)=TM.o:=by
    have h1:O[k]? =some TM.o:=by rw[←HO.out,List.getElem?_map,List.getElem?_eq_getElem HK.out,he0];rfl
    rw[List.getElem?_eq_getElem zK.out] at h1
    simpa using h1
   rw[he0] at hx hy hat
   obtain⟨t,d,a,ce⟩:=TM
   have hbz:b<wr.heap.size:=by have:=HB.out;omega
   have CS:(0:Int)≤(k:Int):=by omega
   have Fj:(k:Int)<(n1:Int):=by omega
   have HAT:=hid hat
   have ug:=hid hok
   unfold aH.v at hy
   simp only at hx hy hat
   clear hat he0 hok
   go_wp2_with fail
   obtain⟨wo,hwo⟩: ∃wo:World,wo=wr:=⟨_,rfl⟩
   rw[←hwo] at cu HOW WV hx hy hbz ⊢
   clear hwo
   go_loopw [11] (fun i wi=> ∃(j:Nat) (q:Int) (e:aH),j≤n2∧i=.int .i64 q∧q=(j:Int)-1∧e.t=t∧e.o=mI (L.drop j) (t,d)∧At w B e.a (e.d.map bv)∧e.d.length≤e.c∧Below wo.heap.size wo wi∧wi.heap[wo.heap.size]? =some (.cells #[.int .i64 t,.slice e.a e.d.length e.c] 111 (0,0))) (fun i _=>(intOf i+1).toNat)
   case atStart=>exact⟨n2,_,⟨t,d,a,ce⟩,aaE _,rfl,by go_num,rfl,by rw[List.drop_eq_nil_iff.2 (by rw[sS.out];exact aaE _)];rfl,HAT.out.1,HAT.out.2,by exact aA,by rw[heap_alloc_new]⟩
   case round=>
    obtain⟨j,q,e,hj,rfl,hq,het,pF,Zm,Iu,hbi,nP⟩:=hrel
    obtain⟨t',d',a',Y0⟩:=e
    simp only at het pF Zm Iu nP
    subst het
    have o8:=hid pF
    have Tj:=hid (And.intro Zm Iu)
    have Gf:=hid hbi
    have Ep:=hid nP
    obtain⟨g0,g1,g2,g3⟩:=iW nP
    have Zx:=hbi.size
    clear pF Zm Iu hbi nP
    cases j with
    |zero=>
     obtain rfl:q= -1:=by omega
     clear hq
     go_wp2_with (at_builtin;refine dY w rfl (.tmp 59) (.tmp 61) 25 rfl 111 Tryz.underlying25 (.agg #[.int .i64 0,.slice none 0 0]) 2 32 dV rfl (by decide) (by decide) (.slice A k c) k (cellsE E) rfl (by exact own_below (own_below HOW.out Gf.out) (by exact aA)) (wr.heap.size+1) (some ⟨wr.heap.size,0,none⟩) 1 1 [.int .i64 t',.slice a' d'.length Y0] rfl rfl (by omega) (by exact At.gW _ _ _ _ _ rfl rfl) (by intro u hu;simp at hu;rcases hu with rfl|rfl<;>rfl) (by have h1:=cu.out.trans (Gf.out.mono WV);exact aA) ?_;intro A4 c4 w3 ho3 hc3 hb3 hg3;have gZ:=hid ho3;have HB3:=hid hb3;have sQ:=hid hg3;clear ho3 hc3 hb3 hg3)
     go_roundw
     case rel=>exact⟨k+1,c4,A4,E++[⟨t',d',a',Y0⟩],by omega,by go_num,rfl,by simp[oI.out],by rw[List.map_append,HE.out,jH _ _ _ zK.out,ug.out];have:=o8.out;simp only[List.drop_zero] at this;rw[List.map_cons,List.map_nil,this];rfl,HB3.out,by rw[fJ];exact gZ.out,by
      intro e he
      rcases List.mem_append.1 he with he|he
      ·exact qd.out e he
      ·simp only[List.mem_singleton] at he;subst he;exact Tj.out⟩
     case measure=>simp[intOf];omega
    |succ j=>
     obtain rfl:q=(j:Int):=by omega
     clear hq
     have HJ:=hid (show j<E2.length by have:=iA.out;omega)
     have KE:=hid (show j<L.length by have:=sS.out;omega)
     obtain⟨b2,o2,rfl,hb2,hx2,hy2⟩:=(HA2.out.keep (cu.out.mono HB.out)).get HJ.out
     have WI:b2<wo.heap.size:=by have:=HB.out;omega
     rw[←Gf.out.cell (p:=⟨b2,_,none⟩) WI] at hx2 hy2
     have jM:=HA2.out.2 _ (List.getElem_mem HJ.out)
     obtain⟨e2,he2⟩: ∃e2,E2[j]'HJ.out=e2:=⟨_,rfl⟩
     have hlj:L[j]'(KE.out)=e2.o:=by
      have h1:L[j]? =some e2.o:=by rw[←HL.out,List.getElem?_map,List.getElem?_eq_getElem HJ.out,he2];rfl
      rw[List.getElem?_eq_getElem KE.out] at h1
      simpa using h1
     rw[he2] at hx2 hy2 jM
     obtain⟨t2,d2,a2,Pf⟩:=e2
     have zF:=hid jM
     have J5:=hid hlj
     unfold aH.v at hy2
     simp only at hx2 hy2
     have q0:(0:Int)≤(j:Int):=by omega
     have q1:(j:Int)<(n2:Int):=by omega
     clear he2 jM hlj
     cases ht:(t2==t')
     ·have gD:=hid (show mI (L.drop (j+1)) (t',d)=mI (L.drop j) (t',d) by rw[xB KE.out,J5.out,if_neg (by simpa[aH.o] using ht)])
      go_upto_region 13 with(fail)
      go_quiet (fail)
      go_wp2_with fail
      go_roundw
      case rel=>exact⟨j,_,⟨t',d',a',Y0⟩,by omega,rfl,by go_num,rfl,by rw[←gD.out];exact o8.out,Tj.out.1,Tj.out.2,by have:=Gf.out;exact aA,by exact Ep.out⟩
      case measure=>simp[intOf]<;>omega
     ·have gD:=hid (show mI (L.drop j) (t',d)=(t',d2) by rw[xB KE.out,J5.out,if_pos (by simpa[aH.o] using ht)];rfl)
      go_upto_region 13 with(fail)
      go_quiet (fail)
      go_wp2_with fail
      go_roundw
      case rel=>exact⟨j,_,⟨t',d2,a2,Pf⟩,by omega,rfl,by go_num,rfl,by rw[gD.out];rfl,zF.out.1,zF.out.2,by have:=Gf.out;exact aA,by exact(heap_setCell_same _ _ 1 _ _ _ Ep.out)⟩
      case measure=>simp[intOf]<;>omega
  ·obtain rfl:k=n1:=by omega
   go_wp2_with fail
   go_ret2
   have h:=HE.out
   rw[←HOL.out,List.take_length] at h
   obtain⟨_,_,hq,hkc,-⟩:=ownsRow_form HOW.out
   cases hq
   exact⟨E,A,k,c,rfl,h,oI.out.symm,hkc,cu.out,⟨At.bq HOW.out,fun e he=>⟨((qd.out e he).1.keep (cu.out.mono HB.out)).more (by have:=HB.out;omega),(qd.out e he).2⟩⟩,fun _=>⟨HOW.out,qd.out⟩⟩
set_option maxRecDepth 100000 in
theorem Bb (A1 A2:Option Addr) (n1 n2 c1 c2:Nat) (E1 E2:List aH) (w:World) (B:Nat) (hB:B≤w.heap.size) (hA1:aJ w B A1 E1) (hA2:aJ w B A2 E2) (hn1:n1=E1.length) (hn2:n2=E2.length) (hc1:n1≤c1) (h0:0<n2) (hl1:n1≤1000000) (hl2:n2≤1000000):
  Calls Tryz.prog 101 #[.slice A1 n1 c1,.int .i64 4,.slice A2 n2 c2] w (GZ B (bN (E1.map aH.o) 4 (E2.map aH.o)).1 (bN (E1.map aH.o) 4 (E2.map aH.o)).2 w):=by
 have HA1:=hid hA1
 have HA2:=hid hA2
 have lD:=hid hn1
 have iA:=hid hn2
 have HB:=hid hB
 have HOL:=hid (show(E1.map aH.o).length=n1 by simp[hn1])
 have sS:=hid (show(E2.map aH.o).length=n2 by simp[hn2])
 clear hA1 hA2 hn1 hn2 hB
 obtain⟨O,hO⟩: ∃O,E1.map aH.o=O:=⟨_,rfl⟩
 obtain⟨L,hL⟩: ∃L,E2.map aH.o=L:=⟨_,rfl⟩
 rw[hO,hL]
 rw[hO] at HOL
 rw[hL] at sS
 have HL:=hid hL
 have HO:=hid hO
 clear hO hL
 have e0:((n2:Int)==0)=false:=by simp;omega
 go_enter Tryz.func101,Tryz.ntmps101
 go_wp2_with fail
 go_loopw [8,12,13] (fun v l i wr=> ∃(k k2 j c:Nat) (A:Option Addr) (E:List aH),k≤n1∧i=.int .i64 k∧l=.int .i64 j∧v=.slice A k2 c∧E.length=k2∧E.map aH.o=(fI (O.take k) L).1∧j=(fI (O.take k) L).2∧Below w.heap.size w wr∧wr.ownsRow w.heap.size 111 2 (.slice A k2 c) k2 (cellsE E)∧ ∀e∈E,At w B e.a (e.d.map bv)∧e.d.length≤e.c) (fun _ _ i _=>n1-(intOf i).toNat)
 case atStart=>exact⟨0,0,0,0,none,[],Nat.zero_le _,rfl,rfl,rfl,rfl,rfl,rfl,Below.refl _ _,aN _ _ _ _,fun _ h=>by cases h⟩
 case round=>
  obtain⟨k,k2,j,c,A,E,hk,rfl,rfl,rfl,hEl,hE,hj,hbl,hown,hdat⟩:=hrel
  have oI:=hid hEl
  have HE:=hid hE
  have HJ:=hid hj
  have cu:=hid hbl
  have HOW:=hid hown
  have qd:=hid hdat
  have hsz:=hbl.size
  have KE:=hid (show j≤n2 by have:=Ja (O.take k) L;rw[←hj,sS.out] at this;exact this)
  have hk2:k2≤1000000:=by have h1:=xE (O.take k) L;rw[←hE,List.length_map,hEl,List.length_take] at h1;omega
  clear hEl hE hj hbl hown hdat
  by_cases hlt:k<n1
  focus
   have HK:=hid (show k<E1.length by have:=lD.out;omega)
   have zK:=hid (show k<O.length by have:=HOL.out;omega)
   obtain⟨b,o,rfl,tL,hx,hy⟩:=(HA1.out.keep (cu.out.mono HB.out)).get HK.out
   obtain⟨TM,he0⟩: ∃e0,E1[k]'HK.out=e0:=⟨_,rfl⟩
   have hat:=HA1.out.2 _ (List.getElem_mem HK.out)
   have hok:O[k]'(zK.out)=TM.o:=by
    have h1:O[k]? =some TM.o:=by rw[←HO.out,List.getElem?_map,List.getElem?_eq_getElem HK.out,he0];rfl
    rw[List.getElem?_eq_getElem zK.out] at h1
    simpa using h1
   rw[he0] at hx hy hat
   obtain⟨t,d,a,ce⟩:=TM
   have hbz:b<wr.heap.size:=by have:=HB.out;omega
   have CS:(0:Int)≤(k:Int):=by omega
   have Fj:(k:Int)<(n1:Int):=by omega
   have HAT:=hid hat
   have ug:=hid hok
   unfold aH.v at hy
   simp only at hx hy hat
   clear hat he0 hok
   rcases Nat.lt_or_ge j n2 with hj2|hj2
  focus
   have Ve:=hid (show j<E2.length by have:=iA.out;omega)
   obtain⟨b2,o2,rfl,hb2,hx2,hy2⟩:=(HA2.out.keep (cu.out.mono HB.out)).get Ve.out
   have WI:b2<wr.heap.size:=by have:=HB.out;omega
   have jM:=HA2.out.2 _ (List.getElem_mem Ve.out)
   obtain⟨e2,he2⟩: ∃e2,E2[j]'Ve.out=e2:=⟨_,rfl⟩
   have J5:=hid (show L[j]? =some e2.o by rw[←HL.out,List.getElem?_map,List.getElem?_eq_getElem Ve.out,he2];rfl)
   rw[he2] at hx2 hy2 jM
   obtain⟨t2,d2,a2,Pf⟩:=e2
   have zF:=hid jM
   unfold aH.v at hy2
   simp only at hx2 hy2
   have q0:(0:Int)≤(j:Int):=by omega
   have q1:(j:Int)<(n2:Int):=by omega
   have r1: ∀n:Nat,(convert 30 9 (.slice a d.length ce)).run Tryz.prog (wr.drewN n)=.ok (.string ⟨d.toArray⟩) (wr.drewN n):=fun n=>gM Tryz.underlying30 Tryz.underlying5 Tryz.underlying9 rfl (by rw[zA];exact HAT.out.1.keep (cu.out.mono HB.out))
   have r2: ∀n:Nat,(convert 30 9 (.slice a2 d2.length Pf)).run Tryz.prog (wr.drewN n)=.ok (.string ⟨d2.toArray⟩) (wr.drewN n):=fun n=>gM Tryz.underlying30 Tryz.underlying5 Tryz.underlying9 rfl (by rw[zA];exact zF.out.1.keep (cu.out.mono HB.out))
   clear he2 jM
   cases ht:(t2==t)
  focus
   have gD:=hid (show fI (O.take (k+1)) L=((fI (O.take k) L).1++[(t,d)],(fI (O.take k) L).2) by
    rw[iT zK.out,ug.out]
    unfold rejStep
    rw[if_neg];· rfl
    rw[←HJ.out,J5.out]
    intro e
    simp[aH.o] at e
    simp at ht
    exact ht e.1)
   clear r1 r2
   go_upto_region 22 with(fail)
   go_quiet (fail)
  rotate_left
  focus
   cases hd:(d2==d)
  focus
   have gD:=hid (show fI (O.take (k+1)) L=((fI (O.take k) L).1++[(t,d)],(fI (O.take k) L).2) by
    rw[iT zK.out,ug.out]
    unfold rejStep
    rw[if_neg];· rfl
    rw[←HJ.out,J5.out]
    intro e
    simp[aH.o] at e
    simp at hd
    exact hd e.2)
   go_upto_region 22 with(fail)
   go_quiet (fail)
   clear r1 r2
  rotate_left
  ·have gD:=hid (show fI (O.take (k+1)) L=((fI (O.take k) L).1,(fI (O.take k) L).2+1) by
    rw[iT zK.out,ug.out]
    unfold rejStep
    rw[if_pos]
    rw[←HJ.out,J5.out]
    simp[aH.o]
    simp at hd ht
    exact⟨ht,hd⟩)
   go_upto_region 22 with(fail)
   go_quiet (fail)
   clear r1 r2
   go_wp2_with fail
   go_roundw
   case rel=>exact⟨k+1,k2,j+1,c,A,E,by omega,by go_num,by go_num,rfl,oI.out,by rw[gD.out];exact HE.out,by rw[gD.out];show j+1=_+1;rw[HJ.out],by have:=cu.out;exact aA,HOW.out,qd.out⟩
   case measure=>simp[intOf];omega
  focus
   have gD:=hid (show fI (O.take (k+1)) L=((fI (O.take k) L).1++[(t,d)],(fI (O.take k) L).2) by
    rw[iT zK.out,ug.out]
    unfold rejStep
    rw[if_neg];· rfl
    rw[List.getElem?_eq_none (by rw[←HJ.out,sS.out];exact hj2)]
    simp)
   have hj4:decide (j<n2)=false:=by simp;omega
   go_upto_region 22 with(fail)
   go_quiet (fail)
  rotate_left
  ·obtain rfl:k=n1:=by omega
   have hT:O.take k=O:=by rw[←HOL.out,List.take_length]
   have HT:=hid hT
   clear hT
   have hL0: ¬L.length=0:=by rw[sS.out];omega
   rcases Nat.lt_or_ge j n2 with hj2|hj2
   ·have HR:=hid (show bN O 4 L=(O,false) by
     unfold bN;rw[if_neg hL0,if_neg (by decide),if_pos rfl,if_neg (by have:=HJ.out;rw[HT.out] at this;rw[←this,sS.out];omega)])
    clear hL0
    go_wp2_with fail
    go_ret2
    exact⟨E1,A1,k,c1,by rw[HR.out];rfl,by rw[HR.out];exact HO.out,lD.out,hc1,cu.out,(HA1.out.keep (cu.out.mono HB.out)).more (by have:=HB.out;omega),fun h=>by rw[HR.out] at h;cases h⟩
   ·have HR:=hid (show bN O 4 L=((fI O L).1,true) by
     unfold bN;rw[if_neg hL0,if_neg (by decide),if_pos rfl,if_pos (by have:=HJ.out;rw[HT.out] at this;rw[←this,sS.out];have:=KE.out;omega)])
    have hj3:decide (j<n2)=false:=by simp;omega
    have hj4:decide ((j:Int)<(n2:Int))=false:=by simp;omega
    clear hL0
    go_wp2_with fail
    go_ret2
    obtain⟨_,_,hq,hkc,-⟩:=ownsRow_form HOW.out
    cases hq
    exact⟨E,A,k2,c,by rw[HR.out];rfl,by rw[HR.out];have h:=HE.out;rwa [HT.out] at h,oI.out.symm,hkc,cu.out,⟨At.bq HOW.out,fun e he=>⟨((qd.out e he).1.keep (cu.out.mono HB.out)).more (by have:=HB.out;omega),(qd.out e he).2⟩⟩,fun _=>⟨HOW.out,qd.out⟩⟩
  all_goals
   go_wp2_with (at_builtin;refine dY w rfl (.tmp 104) (.tmp 109) 25 rfl 111 Tryz.underlying25 (.agg #[.int .i64 0,.slice none 0 0]) 2 32 dV rfl (by decide) (by decide) (.slice A k2 c) k2 (cellsE E) rfl (by exact own_below HOW.out (by exact aA)) (wr.heap.size+1) (some ⟨wr.heap.size,0,none⟩) 1 1 [.int .i64 t,.slice a d.length ce] rfl rfl (by omega) (by exact At.gW _ _ _ _ _ rfl rfl) (by intro u hu;simp at hu;rcases hu with rfl|rfl<;>rfl) (by have h1:=cu.out;exact aA) ?_;intro A4 c4 w3 ho3 hc3 hb3 hg3;have gZ:=hid ho3;have HB3:=hid hb3;have sQ:=hid hg3;clear ho3 hc3 hb3 hg3)
   go_roundw
   case rel=>exact⟨k+1,k2+1,j,c4,A4,E++[⟨t,d,a,ce⟩],by omega,by go_num,rfl,rfl,by simp[oI.out],by rw[gD.out];simp only;rw[List.map_append,HE.out];rfl,by rw[gD.out];exact HJ.out,HB3.out,by rw[fJ];exact gZ.out,by
    intro e he
    rcases List.mem_append.1 he with he|he
    ·exact qd.out e he
    ·simp only[List.mem_singleton] at he;subst he;exact HAT.out⟩
   case measure=>simp[intOf];omega
theorem A_ (A1 A2:Option Addr) (n1 n2 c1 c2:Nat) (code:Int) (E1 E2:List aH) (w:World) (B:Nat) (hB:B≤w.heap.size) (hA1:aJ w B A1 E1) (hA2:aJ w B A2 E2) (hn1:n1=E1.length) (hn2:n2=E2.length) (hc1:n1≤c1) (hl1:n1≤1000000) (hl2:n2≤1000000):
  Calls Tryz.prog 101 #[.slice A1 n1 c1,.int .i64 code,.slice A2 n2 c2] w (GZ B (bN (E1.map aH.o) code (E2.map aH.o)).1 (bN (E1.map aH.o) code (E2.map aH.o)).2 w):=by
 by_cases h0:n2=0
 focus
  subst h0
  have HR:=hid (show bN (E1.map aH.o) code (E2.map aH.o)=(E1.map aH.o,false) by unfold bN;rw[if_pos (by simp;exact List.length_eq_zero_iff.1 hn2.symm)])
  have HA1:=hid hA1
  have lD:=hid hn1
  have HB:=hid hB
  clear hA1 hA2 hn1 hn2 hB
 rotate_left
 focus
  by_cases h3:code=3
 ·subst h3
  have HR:bN (E1.map aH.o) 3 (E2.map aH.o)=(AA (E1.map aH.o) (E2.map aH.o),true):=by unfold bN;rw[if_neg (by simp;intro e;rw[e] at hn2;exact h0 hn2),if_pos rfl]
  rw[HR]
  exact Ba A1 A2 n1 n2 c1 c2 E1 E2 w B hB hA1 hA2 hn1 hn2 (by omega) hl1 hl2
 focus
  by_cases h4:code=4
 ·subst h4
  exact Bb A1 A2 n1 n2 c1 c2 E1 E2 w B hB hA1 hA2 hn1 hn2 hc1 (by omega) hl1 hl2
 focus
  have HR:=hid (show bN (E1.map aH.o) code (E2.map aH.o)=(E1.map aH.o,false) by unfold bN;rw[if_neg (by simp;intro e;rw[e] at hn2;exact h0 hn2),if_neg h3,if_neg h4])
  have e0:((n2:Int)==0)=false:=by simp;omega
  have e3:(code !=3)=true:=by simpa using h3
  have e4:(code !=4)=true:=by simpa using h4
  have HA1:=hid hA1
  have lD:=hid hn1
  have HB:=hid hB
  clear hA1 hA2 hn1 hn2 hB h0 h3 h4
 rotate_left
 all_goals
  go_enter Tryz.func101,Tryz.ntmps101
  go_wp2
  go_ret2
  exact⟨E1,A1,n1,c1,by rw[HR.out];rfl,by rw[HR.out],lD.out,hc1,Below.refl _ _,HA1.out.more HB.out,fun h=>by rw[HR.out] at h;cases h⟩
open Ne (Rl bF aD bM aS bN)
open Fs (av hasB)
def dQ (w:World) (base:Nat) (v:Value) (L:List bF):Prop:= ∃E:List aH,w.ownsRow base 111 2 v E.length (cellsE E)∧(∀e∈E,At w w.heap.size e.a (e.d.map bv)∧e.d.length≤e.c)∧E.map aH.o=L
theorem dQ.v {w:World} {base:Nat} {v:Value} {L:List bF} (h:dQ w base v L):uy w w.heap.size v L:=by
 obtain⟨E,h1,h2,h3⟩:=h
 obtain⟨A,c,rfl,hc,-⟩:=ownsRow_form h1
 exact⟨A,_,c,E,rfl,⟨At.bq h1,h2⟩,rfl,hc,h3⟩
theorem dQ.base {w:World} {b b':Nat} {v:Value} {L:List bF} (h:dQ w b v L) (hb:b'≤b):dQ w b' v L:=by
 obtain⟨E,h1,h2,h3⟩:=h
 exact⟨E,aK h1 hb,h2,h3⟩
theorem dQ.below {w w':World} {b:Nat} {v:Value} {L:List bF} (h:dQ w b v L) (hb:Below w.heap.size w w'):dQ w' b v L:=by
 obtain⟨E,h1,h2,h3⟩:=h
 exact⟨E,own_below h1 hb,fun e he=>⟨((h2 e he).1.keep hb).more hb.size,(h2 e he).2⟩,h3⟩
theorem dQ.other {A C:World} {base X:Nat} {v:Value} {L:List bF} {cur:Array Value} {e':TypeId} (h:dQ A base v L) (hg:A.grownBy C (some X)) (hX:A.heap[X]? =some (.cells cur e' (0,0))) (hc: ∀(i:Nat) (x:UInt8),cur[i]?≠some (bv x)) (h1:e'≠111):dQ C base v L:=by
 obtain⟨E,ho,h2,h3⟩:=h
 exact⟨E,aW ho hg fun r e=>by cases e;exact .inr (.inr ⟨_,_,hX,h1⟩),fun e he=>⟨((h2 e he).1.Xf hg hX hc (aaE _)).more hg.size,(h2 e he).2⟩,h3⟩
theorem FB (a b:Int) (A:Option Addr) (n m:Nat) (i:Nat) (x:UInt8):(#[.int .i64 a,.int .i64 b,.slice A n m]:Array Value)[i]?≠some (bv x):=by
 match i with
 |0|1|2=>intro h;cases h
 |n+3=>intro h;cases h
def jG:Option (Int×Pk×List bF)→Au→Value→World→Ending→World→Prop
 |none,a,va,w,x,w'=> ∃e c1 c2 Ad nd cd An nn cn,x=.returned (.tuple #[.int .i64 e,.agg #[.int .i64 c1,.int .i64 c2,.slice Ad nd cd],vV a (.slice An nn cn),.bool false])∧Below w.heap.size w w'
 |some (e,ans,next),a,va,w,x,w'=> ∃Ad nd cd An nn cn,x=.returned (.tuple #[.int .i64 e,.agg #[.int .i64 ans.code,.int .i64 ans.id,.slice Ad nd cd],vV a (.slice An nn cn),.bool true])∧Below w.heap.size w w'∧bB w' w.heap.size (.slice Ad nd cd) ans.data∧(e=10→dQ w' w.heap.size (.slice An nn cn) next)∧(e≠10→Value.slice An nn cn=va)
theorem dD {w:World} {X k:Nat} (h:k≠X) (a b c d e f g:Value):(((((((w.setCell ⟨X,0,none⟩ a).setCell ⟨X,1,none⟩ b).setCell ⟨X,2,none⟩ c).setCell ⟨X,3,none⟩ d).setCell ⟨X,4,none⟩ e).setCell ⟨X,5,none⟩ f).setCell ⟨X,6,none⟩ g).heap[k]? =w.heap[k]?:=by
 rw[heap_setCell_other _ _ _ _ (by simpa using h),heap_setCell_other _ _ _ _ (by simpa using h),heap_setCell_other _ _ _ _ (by simpa using h),heap_setCell_other _ _ _ _ (by simpa using h),heap_setCell_other _ _ _ _ (by simpa using h),heap_setCell_other _ _ _ _ (by simpa using h),heap_setCell_other _ _ _ _ (by simpa using h)]
theorem cB {w:World} {X k:Nat} (h:k≠X) (a b c:Value):(((w.setCell ⟨X,0,none⟩ a).setCell ⟨X,1,none⟩ b).setCell ⟨X,2,none⟩ c).heap[k]? =w.heap[k]?:=by
 rw[heap_setCell_other _ _ _ _ (by simpa using h),heap_setCell_other _ _ _ _ (by simpa using h),heap_setCell_other _ _ _ _ (by simpa using h)]
set_option maxRecDepth 100000 in
theorem JC (Ar Aa Ai:Option Addr) (nr cr na ca ni ci:Nat) (R:List Rl) (mc mt mf wt st id req cnt ay au ii:Int) (E:List aH) (li:List UInt8) (w:World) (B:Nat) (hB:B≤w.heap.size) (hR:aD w B Ar R) (hnr:nr=R.length) (hlr:nr≤1000000) (hE:aJ w B Aa E) (hna:na=E.length) (hca:na≤ca) (hla:na≤1000000) (hI:At w B Ai (li.map bv)) (hni:ni=li.length) (hci:ni≤ci):Calls Tryz.prog 63 #[.agg #[.slice Ar nr cr,.int .i64 mc,.int .i64 mt,.int .i64 mf,.int .i64 wt],.agg #[.int .i64 st,.int .i64 id,.int .i64 req,.slice Aa na ca,.int .i64 cnt,.int .i64 ay,.int .i64 au],.agg #[.int .i64 5,.int .i64 ii,.slice Ai ni ci]] w (jG (bK ⟨R,mc,mt,mf,wt⟩ ⟨st,id,req,E.map aH.o,cnt,ay,au⟩ ⟨5,ii,li⟩) ⟨st,id,req,E.map aH.o,cnt,ay,au⟩ (.slice Aa na ca) w):=by
 have HB:=hid hB
 have HR:=hid hR
 have gB:=hid hnr
 have HE:=hid hE
 have dz:=hid hna
 have HI:=hid hI
 have gy:=hid hni
 obtain⟨L,hL⟩: ∃L,E.map aH.o=L:=⟨_,rfl⟩
 have HL:=hid hL
 rw[hL]
 clear hB hR hnr hE hna hL hI hni
 have HO:=hid (show bK ⟨R,mc,mt,mf,wt⟩ ⟨st,id,req,L,cnt,ay,au⟩ ⟨5,ii,li⟩=some (11,⟨0,0,[]⟩,L) from rfl)
 rw[HO.out]
 go_enter Tryz.func63,Tryz.ntmps63
 go_upto_region 2 with(fail)
 refine jC ?_
 rintro W2 ⟨h6,h7,h8,h12,bR,iq,hbw⟩
 have aQ:=hid hbw
 have H7:=hid h7
 have H8:=hid h8
 have fC:=hid h12
 have qM:=hid bR
 have vM:=hid iq
 have hszW:=hbw.size
 have l6:=aj h6
 have l7:=aj h7
 have l8:=aj h8
 have bn:=aj h12
 have vT:=aj bR
 have vg:=aj iq
 obtain⟨p0,p1,p2,p3,p4⟩:=cells5 h6
 obtain⟨q0,q1,q2,q3,q4,q5,q6⟩:=aG h7
 obtain⟨r0,r1,r2⟩:=cells3 h8
 obtain⟨z0,z1,z2⟩:=cells3 iq
 obtain⟨s0,s1,s2⟩:=cells3 h12
 obtain⟨m0,m1,m2,m3,m4,m5,m6⟩:=aG bR
 have f0:=frees h12 0
 have f1:=frees h12 1
 have f2:=frees h12 2
 have g0:=frees bR 0
 have g1:=frees bR 1
 have g2:=frees bR 2
 have g3:=frees bR 3
 have g4:=frees bR 4
 have g5:=frees bR 5
 have g6:=frees bR 6
 have k3:=frees h7 3
 clear h6 h7 h8 h12 bR iq hbw
 go_wp2_with fail
 go_region_held3 (fun w'=>w'.cell? ⟨w.heap.size+1+1+1+1+1,0,none⟩=some (.int .i64 0)∧w'.cell? ⟨w.heap.size+1+1+1+1+1,1,none⟩=some (.int .i64 0)∧w'.cell? ⟨w.heap.size+1+1+1+1+1,2,none⟩=some (.slice none 0 0)∧w'.cell? ⟨w.heap.size+1,0,none⟩=some (.int .i64 st)∧w'.cell? ⟨w.heap.size+1,1,none⟩=some (.int .i64 id)∧w'.cell? ⟨w.heap.size+1,2,none⟩=some (.int .i64 req)∧w'.cell? ⟨w.heap.size+1,3,none⟩=some (.slice Aa na ca)∧w'.cell? ⟨w.heap.size+1,4,none⟩=some (.int .i64 cnt)∧w'.cell? ⟨w.heap.size+1,5,none⟩=some (.int .i64 ay)∧w'.cell? ⟨w.heap.size+1,6,none⟩=some (.int .i64 au)) (first|(go_keep;done)|(go_simp;done)|(simp[go_sem];done)) (fail)
 all_goals
  clear p0 p1 p2 p3 p4 q0 q1 q2 q3 q4 q5 q6 r0 r1 r2 z0 z1 z2 s0 s1 s2 m0 m1 m2 m3 m4 m5 m6 f0 f1 f2 g0 g1 g2 g3 g4 g5 g6 k3
  obtain⟨Wc,hWc⟩: ∃Wc:World,Wc=(((W2.setCell ⟨w.heap.size+1+1+1,0,none⟩ (.int .i64 0)).setCell ⟨w.heap.size+1+1+1,1,none⟩ (.int .i64 0)).setCell ⟨w.heap.size+1+1+1,2,none⟩ (.slice none 0 0)):=⟨_,rfl⟩
  obtain⟨Wf,hWf⟩: ∃Wf:World,Wf=((((((((Wc.setCell ⟨w.heap.size+1+1+1+1,0,none⟩ (.int .i64 st)).setCell ⟨w.heap.size+1+1+1+1,1,none⟩ (.int .i64 id)).setCell ⟨w.heap.size+1+1+1+1,2,none⟩ (.int .i64 req)).setCell ⟨w.heap.size+1+1+1+1,3,none⟩ (.slice Aa na ca)).setCell ⟨w.heap.size+1+1+1+1,4,none⟩ (.int .i64 cnt)).setCell ⟨w.heap.size+1+1+1+1,5,none⟩ (.int .i64 ay)).setCell ⟨w.heap.size+1+1+1+1,6,none⟩ (.int .i64 au))).drew:=⟨_,rfl⟩
  have bO:Wf=(((((((((((W2.setCell ⟨w.heap.size+1+1+1,0,none⟩ (.int .i64 0)).setCell ⟨w.heap.size+1+1+1,1,none⟩ (.int .i64 0)).setCell ⟨w.heap.size+1+1+1,2,none⟩ (.slice none 0 0)).setCell ⟨w.heap.size+1+1+1+1,0,none⟩ (.int .i64 st)).setCell ⟨w.heap.size+1+1+1+1,1,none⟩ (.int .i64 id)).setCell ⟨w.heap.size+1+1+1+1,2,none⟩ (.int .i64 req)).setCell ⟨w.heap.size+1+1+1+1,3,none⟩ (.slice Aa na ca)).setCell ⟨w.heap.size+1+1+1+1,4,none⟩ (.int .i64 cnt)).setCell ⟨w.heap.size+1+1+1+1,5,none⟩ (.int .i64 ay)).setCell ⟨w.heap.size+1+1+1+1,6,none⟩ (.int .i64 au))).drew:=by rw[hWf,hWc]
  go_wp2_with fail
  rw[←bO]
  have mU:=hid (fC.out)
  have mV:=hid ((show Wc.heap[w.heap.size+1+1+1+1]? =(W2).heap[w.heap.size+1+1+1+1]? by rw[hWc];exact cB (by omega) _ _ _).trans (qM.out))
  have hg1:(W2).grownBy Wc (some (w.heap.size+1+1+1)):=by rw[hWc];exact grn
  have iG:Wc.heap[w.heap.size+1+1+1]? =some (.cells #[.int .i64 0,.int .i64 0,(.slice none 0 0)] 32 (0,0)):=by rw[hWc];exact iB mU.out rfl _ _ _
  have hrc:Wf.heap[w.heap.size+1+1+1]? =some (.cells #[.int .i64 0,.int .i64 0,(.slice none 0 0)] 32 (0,0)):=by rw[hWf,dR,dD (by omega)];exact iG
  have hra:Wf.heap[w.heap.size+1+1+1+1]? =some (.cells #[.int .i64 st,.int .i64 id,.int .i64 req,(.slice Aa na ca),.int .i64 cnt,.int .i64 ay,.int .i64 au] 29 (0,0)):=by rw[hWf,dR];exact gF mV.out rfl _ _ _ _ _ _ _
  have hg2:Wc.grownBy Wf (some (w.heap.size+1+1+1+1)):=by rw[hWf];exact grn
  clear bO hWf hWc
  have hbf:Below w.heap.size w Wf:=Below.grown (Below.grown (aQ.out) hg1 (hszW) (fun k hk=>by cases hk;omega)) hg2 (aaF (hszW) hg1.size) (fun k hk=>by cases hk;omega)
  obtain⟨u0,u1,u2⟩:=cells3 hrc
  obtain⟨e0,e1,e2,e3,e4,e5,e6⟩:=aG hra
  refine bodyPost_ret (v:=.tuple #[.int .i64 11,.agg #[.int .i64 0,.int .i64 0,.slice none 0 0],.agg #[.int .i64 st,.int .i64 id,.int .i64 req,.slice Aa na ca,.int .i64 cnt,.int .i64 ay,.int .i64 au],.bool true]) (by simp[results,Tryz.results63,go_sem,u0,u1,u2,e0,e1,e2,e3,e4,e5,e6]) rfl ?_
  exact⟨none,0,0,Aa,na,ca,rfl,hbf,bB.nil _ _,(fun h=>by cases h),fun _=>rfl⟩
set_option maxRecDepth 100000 in
theorem JD (Ar Aa Ai:Option Addr) (nr cr na ca ni ci:Nat) (R:List Rl) (mc mt mf wt st id req cnt ay au ii:Int) (E:List aH) (li:List UInt8) (w:World) (B:Nat) (hB:B≤w.heap.size) (hR:aD w B Ar R) (hnr:nr=R.length) (hlr:nr≤1000000) (hE:aJ w B Aa E) (hna:na=E.length) (hca:na≤ca) (hla:na≤1000000) (hI:At w B Ai (li.map bv)) (hni:ni=li.length) (hci:ni≤ci):Calls Tryz.prog 63 #[.agg #[.slice Ar nr cr,.int .i64 mc,.int .i64 mt,.int .i64 mf,.int .i64 wt],.agg #[.int .i64 st,.int .i64 id,.int .i64 req,.slice Aa na ca,.int .i64 cnt,.int .i64 ay,.int .i64 au],.agg #[.int .i64 6,.int .i64 ii,.slice Ai ni ci]] w (jG (bK ⟨R,mc,mt,mf,wt⟩ ⟨st,id,req,E.map aH.o,cnt,ay,au⟩ ⟨6,ii,li⟩) ⟨st,id,req,E.map aH.o,cnt,ay,au⟩ (.slice Aa na ca) w):=by
 have HB:=hid hB
 have HR:=hid hR
 have gB:=hid hnr
 have HE:=hid hE
 have dz:=hid hna
 have HI:=hid hI
 have gy:=hid hni
 obtain⟨L,hL⟩: ∃L,E.map aH.o=L:=⟨_,rfl⟩
 have HL:=hid hL
 rw[hL]
 clear hB hR hnr hE hna hL hI hni
 have HO:=hid (show bK ⟨R,mc,mt,mf,wt⟩ ⟨st,id,req,L,cnt,ay,au⟩ ⟨6,ii,li⟩=some (12,⟨0,0,[]⟩,L) from rfl)
 rw[HO.out]
 go_enter Tryz.func63,Tryz.ntmps63
 go_upto_region 2 with(fail)
 refine jC ?_
 rintro W2 ⟨h6,h7,h8,h12,bR,iq,hbw⟩
 have aQ:=hid hbw
 have H7:=hid h7
 have H8:=hid h8
 have fC:=hid h12
 have qM:=hid bR
 have vM:=hid iq
 have hszW:=hbw.size
 have l6:=aj h6
 have l7:=aj h7
 have l8:=aj h8
 have bn:=aj h12
 have vT:=aj bR
 have vg:=aj iq
 obtain⟨p0,p1,p2,p3,p4⟩:=cells5 h6
 obtain⟨q0,q1,q2,q3,q4,q5,q6⟩:=aG h7
 obtain⟨r0,r1,r2⟩:=cells3 h8
 obtain⟨z0,z1,z2⟩:=cells3 iq
 obtain⟨s0,s1,s2⟩:=cells3 h12
 obtain⟨m0,m1,m2,m3,m4,m5,m6⟩:=aG bR
 have f0:=frees h12 0
 have f1:=frees h12 1
 have f2:=frees h12 2
 have g0:=frees bR 0
 have g1:=frees bR 1
 have g2:=frees bR 2
 have g3:=frees bR 3
 have g4:=frees bR 4
 have g5:=frees bR 5
 have g6:=frees bR 6
 have k3:=frees h7 3
 clear h6 h7 h8 h12 bR iq hbw
 go_wp2_with fail
 go_region_held3 (fun w'=>w'.cell? ⟨w.heap.size+1+1+1+1+1,0,none⟩=some (.int .i64 0)∧w'.cell? ⟨w.heap.size+1+1+1+1+1,1,none⟩=some (.int .i64 0)∧w'.cell? ⟨w.heap.size+1+1+1+1+1,2,none⟩=some (.slice none 0 0)∧w'.cell? ⟨w.heap.size+1,0,none⟩=some (.int .i64 st)∧w'.cell? ⟨w.heap.size+1,1,none⟩=some (.int .i64 id)∧w'.cell? ⟨w.heap.size+1,2,none⟩=some (.int .i64 req)∧w'.cell? ⟨w.heap.size+1,3,none⟩=some (.slice Aa na ca)∧w'.cell? ⟨w.heap.size+1,4,none⟩=some (.int .i64 cnt)∧w'.cell? ⟨w.heap.size+1,5,none⟩=some (.int .i64 ay)∧w'.cell? ⟨w.heap.size+1,6,none⟩=some (.int .i64 au)) (first|(go_keep;done)|(go_simp;done)|(simp[go_sem];done)) (fail)
 all_goals
  clear p0 p1 p2 p3 p4 q0 q1 q2 q3 q4 q5 q6 r0 r1 r2 z0 z1 z2 s0 s1 s2 m0 m1 m2 m3 m4 m5 m6 f0 f1 f2 g0 g1 g2 g3 g4 g5 g6 k3
  obtain⟨Wc,hWc⟩: ∃Wc:World,Wc=(((W2.setCell ⟨w.heap.size+1+1+1,0,none⟩ (.int .i64 0)).setCell ⟨w.heap.size+1+1+1,1,none⟩ (.int .i64 0)).setCell ⟨w.heap.size+1+1+1,2,none⟩ (.slice none 0 0)):=⟨_,rfl⟩
  obtain⟨Wf,hWf⟩: ∃Wf:World,Wf=((((((((Wc.setCell ⟨w.heap.size+1+1+1+1,0,none⟩ (.int .i64 st)).setCell ⟨w.heap.size+1+1+1+1,1,none⟩ (.int .i64 id)).setCell ⟨w.heap.size+1+1+1+1,2,none⟩ (.int .i64 req)).setCell ⟨w.heap.size+1+1+1+1,3,none⟩ (.slice Aa na ca)).setCell ⟨w.heap.size+1+1+1+1,4,none⟩ (.int .i64 cnt)).setCell ⟨w.heap.size+1+1+1+1,5,none⟩ (.int .i64 ay)).setCell ⟨w.heap.size+1+1+1+1,6,none⟩ (.int .i64 au))).drew:=⟨_,rfl⟩
  have bO:Wf=(((((((((((W2.setCell ⟨w.heap.size+1+1+1,0,none⟩ (.int .i64 0)).setCell ⟨w.heap.size+1+1+1,1,none⟩ (.int .i64 0)).setCell ⟨w.heap.size+1+1+1,2,none⟩ (.slice none 0 0)).setCell ⟨w.heap.size+1+1+1+1,0,none⟩ (.int .i64 st)).setCell ⟨w.heap.size+1+1+1+1,1,none⟩ (.int .i64 id)).setCell ⟨w.heap.size+1+1+1+1,2,none⟩ (.int .i64 req)).setCell ⟨w.heap.size+1+1+1+1,3,none⟩ (.slice Aa na ca)).setCell ⟨w.heap.size+1+1+1+1,4,none⟩ (.int .i64 cnt)).setCell ⟨w.heap.size+1+1+1+1,5,none⟩ (.int .i64 ay)).setCell ⟨w.heap.size+1+1+1+1,6,none⟩ (.int .i64 au))).drew:=by rw[hWf,hWc]
  go_wp2_with fail
  rw[←bO]
  have mU:=hid (fC.out)
  have mV:=hid ((show Wc.heap[w.heap.size+1+1+1+1]? =(W2).heap[w.heap.size+1+1+1+1]? by rw[hWc];exact cB (by omega) _ _ _).trans (qM.out))
  have hg1:(W2).grownBy Wc (some (w.heap.size+1+1+1)):=by rw[hWc];exact grn
  have iG:Wc.heap[w.heap.size+1+1+1]? =some (.cells #[.int .i64 0,.int .i64 0,(.slice none 0 0)] 32 (0,0)):=by rw[hWc];exact iB mU.out rfl _ _ _
  have hrc:Wf.heap[w.heap.size+1+1+1]? =some (.cells #[.int .i64 0,.int .i64 0,(.slice none 0 0)] 32 (0,0)):=by rw[hWf,dR,dD (by omega)];exact iG
  have hra:Wf.heap[w.heap.size+1+1+1+1]? =some (.cells #[.int .i64 st,.int .i64 id,.int .i64 req,(.slice Aa na ca),.int .i64 cnt,.int .i64 ay,.int .i64 au] 29 (0,0)):=by rw[hWf,dR];exact gF mV.out rfl _ _ _ _ _ _ _
  have hg2:Wc.grownBy Wf (some (w.heap.size+1+1+1+1)):=by rw[hWf];exact grn
  clear bO hWf hWc
  have hbf:Below w.heap.size w Wf:=Below.grown (Below.grown (aQ.out) hg1 (hszW) (fun k hk=>by cases hk;omega)) hg2 (aaF (hszW) hg1.size) (fun k hk=>by cases hk;omega)
  obtain⟨u0,u1,u2⟩:=cells3 hrc
  obtain⟨e0,e1,e2,e3,e4,e5,e6⟩:=aG hra
  refine bodyPost_ret (v:=.tuple #[.int .i64 12,.agg #[.int .i64 0,.int .i64 0,.slice none 0 0],.agg #[.int .i64 st,.int .i64 id,.int .i64 req,.slice Aa na ca,.int .i64 cnt,.int .i64 ay,.int .i64 au],.bool true]) (by simp[results,Tryz.results63,go_sem,u0,u1,u2,e0,e1,e2,e3,e4,e5,e6]) rfl ?_
  exact⟨none,0,0,Aa,na,ca,rfl,hbf,bB.nil _ _,(fun h=>by cases h),fun _=>rfl⟩
end Go.Proofs.YtfkgmbknfnhjoaaGreat
