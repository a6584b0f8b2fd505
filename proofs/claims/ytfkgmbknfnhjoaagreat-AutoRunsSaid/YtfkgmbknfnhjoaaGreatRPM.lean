/- Bundle PM. -/
import Derived.Test.YtfkgmbknfnhjoaaGreatRPJ
import Derived.Test.YtfkgmbknfnhjoaaGreatRPI
set_option maxHeartbeats 4000000
namespace Go.Proofs.YtfkgmbknfnhjoaaGreat
open Lib (hid)
open Go.RowKit
set_option linter.unusedSimpArgs false
set_option linter.unusedVariables false
set_option linter.ambiguousOpen false
open Ne
def RowsQ (B:Nat) (L:List Opt) (b:Bool) (w:World) (x:Ending) (w':World):Prop:=
 ∃(E:List Ent) (A:Option Addr) (n c:Nat),x=.returned (.tuple #[.slice A n c,.bool b])∧E.map Ent.o=L∧n=E.length∧n≤c∧Below w.heap.size w w'∧OptsAt w' w'.heap.size A E∧(b=true→w'.ownsRow w.heap.size 111 2 (.slice A n c) n (cellsE E)∧ ∀e∈E,At w B e.a (e.d.map bv)∧e.d.length≤e.c)
theorem rlearn2_nak (A1 A2:Option Addr) (n1 n2 c1 c2:Nat) (E1 E2:List Ent) (w:World) (B:Nat) (hB:B≤w.heap.size) (hA1:OptsAt w B A1 E1) (hA2:OptsAt w B A2 E2) (hn1:n1=E1.length) (hn2:n2=E2.length) (h0:0<n2) (hl1:n1≤1000000) (hl2:n2≤1000000):
  Calls Tryz.prog 101 #[.slice A1 n1 c1,.int .i64 3,.slice A2 n2 c2] w (RowsQ B (nakL (E1.map Ent.o) (E2.map Ent.o)) true w):=by
 have HA1:=hid hA1
 have HA2:=hid hA2
 have HN1:=hid hn1
 have HN2:=hid hn2
 have HB:=hid hB
 have HOL:=hid (show(E1.map Ent.o).length=n1 by simp[hn1])
 have HLL:=hid (show(E2.map Ent.o).length=n2 by simp[hn2])
 clear hA1 hA2 hn1 hn2 hB
 obtain⟨O,hO⟩: ∃O,E1.map Ent.o=O:=⟨_,rfl⟩
 obtain⟨L,hL⟩: ∃L,E2.map Ent.o=L:=⟨_,rfl⟩
 rw[hO,hL]
 rw[hO] at HOL
 rw[hL] at HLL
 have HL:=hid hL
 have HO:=hid hO
 clear hO hL
 have e0:((n2:Int)==0)=false:=by simp;omega
 go_enter Tryz.func101,Tryz.ntmps101
 go_wp2_with fail
 go_loopw [8,9] (fun v i wr=> ∃(k c:Nat) (A:Option Addr) (E:List Ent),k≤n1∧i=.int .i64 k∧v=.slice A k c∧E.length=k∧E.map Ent.o=(O.take k).map (nakO L)∧Below w.heap.size w wr∧wr.ownsRow w.heap.size 111 2 (.slice A k c) k (cellsE E)∧ ∀e∈E,At w B e.a (e.d.map bv)∧e.d.length≤e.c) (fun _ i _=>n1-(intOf i).toNat)
 case atStart=>exact⟨0,0,none,[],Nat.zero_le _,rfl,rfl,rfl,rfl,Below.refl _ _,own_nil _ _ _ _,fun _ h=>by cases h⟩
 case round=>
  obtain⟨k,c,A,E,hk,rfl,rfl,hEl,hE,hbl,hown,hdat⟩:=hrel
  have HEL:=hid hEl
  have HE:=hid hE
  have HBL:=hid hbl
  have HOW:=hid hown
  have HDAT:=hid hdat
  have hszo:=hbl.size
  clear hEl hE hbl hown hdat
  by_cases hlt:k<n1
  ·have HK:=hid (show k<E1.length by have:=HN1.out;omega)
   have HKO:=hid (show k<O.length by have:=HOL.out;omega)
   obtain⟨b,o,rfl,hbB,hx,hy⟩:=(HA1.out.keep (HBL.out.mono HB.out)).get HK.out
   obtain⟨e0',he0⟩: ∃e0,E1[k]'HK.out=e0:=⟨_,rfl⟩
   have hat:=HA1.out.2 _ (List.getElem_mem HK.out)
   have hok:O[k]'(HKO.out)=e0'.o:=by
    have h1:O[k]? =some e0'.o:=by rw[←HO.out,List.getElem?_map,List.getElem?_eq_getElem HK.out,he0];rfl
    rw[List.getElem?_eq_getElem HKO.out] at h1
    simpa using h1
   rw[he0] at hx hy hat
   obtain⟨t,d,a,ce⟩:=e0'
   have hbz:b<wr.heap.size:=by have:=HB.out;omega
   have jj0:(0:Int)≤(k:Int):=by omega
   have jj1:(k:Int)<(n1:Int):=by omega
   have HAT:=hid hat
   have HOKK:=hid hok
   unfold Ent.v at hy
   simp only at hx hy hat
   clear hat he0 hok
   go_wp2_with fail
   obtain⟨wo,hwo⟩: ∃wo:World,wo=wr:=⟨_,rfl⟩
   rw[←hwo] at HBL HOW hszo hx hy hbz ⊢
   clear hwo
   go_loopw [11] (fun i wi=> ∃(j:Nat) (q:Int) (e:Ent),j≤n2∧i=.int .i64 q∧q=(j:Int)-1∧e.t=t∧e.o=nakO (L.drop j) (t,d)∧At w B e.a (e.d.map bv)∧e.d.length≤e.c∧Below wo.heap.size wo wi∧wi.heap[wo.heap.size]? =some (.cells #[.int .i64 t,.slice e.a e.d.length e.c] 111 (0,0))) (fun i _=>(intOf i+1).toNat)
   case atStart=>exact⟨n2,_,⟨t,d,a,ce⟩,Nat.le_refl _,rfl,by go_num,rfl,by rw[List.drop_eq_nil_iff.2 (by rw[HLL.out];exact Nat.le_refl _)];rfl,HAT.out.1,HAT.out.2,by exact bel,by rw[heap_alloc_new]⟩
   case round=>
    obtain⟨j,q,e,hj,rfl,hq,het,heo,hea,hec,hbi,hbox⟩:=hrel
    obtain⟨t',d',a',ce'⟩:=e
    simp only at het heo hea hec hbox
    subst het
    have HEO:=hid heo
    have HEA:=hid (And.intro hea hec)
    have HBI:=hid hbi
    have HBOX:=hid hbox
    obtain⟨g0,g1,g2,g3⟩:=two_cells hbox
    have hszi:=hbi.size
    clear heo hea hec hbi hbox
    cases j with
    |zero=>
     obtain rfl:q= -1:=by omega
     clear hq
     go_wp2_with (at_builtin;refine wpList_appv w rfl (.tmp 59) (.tmp 61) 25 rfl 111 Tryz.underlying25 (.agg #[.int .i64 0,.slice none 0 0]) 2 32 infoOpt rfl (by decide) (by decide) (.slice A k c) k (cellsE E) rfl (by exact own_below (own_below HOW.out HBI.out) (by exact bel)) (wr.heap.size+1) (some ⟨wr.heap.size,0,none⟩) 1 1 [.int .i64 t',.slice a' d'.length ce'] rfl rfl (by omega) (by exact At.newN _ _ _ _ _ rfl rfl) (by intro u hu;simp at hu;rcases hu with rfl|rfl<;>rfl) (by have h1:=HBL.out.trans (HBI.out.mono hszo);exact bel) ?_;intro A4 c4 w3 ho3 hc3 hb3 hg3;have HO3:=hid ho3;have HB3:=hid hb3;have HG3:=hid hg3;clear ho3 hc3 hb3 hg3)
     go_roundw
     case rel=>exact⟨k+1,c4,A4,E++[⟨t',d',a',ce'⟩],by omega,by go_num,rfl,by simp[HEL.out],by rw[List.map_append,HE.out,map_take_snoc _ _ _ HKO.out,HOKK.out];have:=HEO.out;simp only[List.drop_zero] at this;rw[List.map_cons,List.map_nil,this];rfl,HB3.out,by rw[cellsE_snoc];exact HO3.out,by
      intro e he
      rcases List.mem_append.1 he with he|he
      ·exact HDAT.out e he
      ·simp only[List.mem_singleton] at he;subst he;exact HEA.out⟩
     case measure=>simp[intOf];omega
    |succ j=>
     obtain rfl:q=(j:Int):=by omega
     clear hq
     have HJ:=hid (show j<E2.length by have:=HN2.out;omega)
     have HJL:=hid (show j<L.length by have:=HLL.out;omega)
     obtain⟨b2,o2,rfl,hb2,hx2,hy2⟩:=(HA2.out.keep (HBL.out.mono HB.out)).get HJ.out
     have hbz2:b2<wo.heap.size:=by have:=HB.out;omega
     rw[←HBI.out.cell (p:=⟨b2,_,none⟩) hbz2] at hx2 hy2
     have hat2:=HA2.out.2 _ (List.getElem_mem HJ.out)
     obtain⟨e2,he2⟩: ∃e2,E2[j]'HJ.out=e2:=⟨_,rfl⟩
     have hlj:L[j]'(HJL.out)=e2.o:=by
      have h1:L[j]? =some e2.o:=by rw[←HL.out,List.getElem?_map,List.getElem?_eq_getElem HJ.out,he2];rfl
      rw[List.getElem?_eq_getElem HJL.out] at h1
      simpa using h1
     rw[he2] at hx2 hy2 hat2
     obtain⟨t2,d2,a2,ce2⟩:=e2
     have HAT2:=hid hat2
     have HLJ:=hid hlj
     unfold Ent.v at hy2
     simp only at hx2 hy2
     have q0:(0:Int)≤(j:Int):=by omega
     have q1:(j:Int)<(n2:Int):=by omega
     clear he2 hat2 hlj
     cases ht:(t2==t')
     ·have HNX:=hid (show nakO (L.drop (j+1)) (t',d)=nakO (L.drop j) (t',d) by rw[nakO_drop HJL.out,HLJ.out,if_neg (by simpa[Ent.o] using ht)])
      go_upto_region 13 with(fail)
      go_quiet (fail)
      go_wp2_with fail
      go_roundw
      case rel=>exact⟨j,_,⟨t',d',a',ce'⟩,by omega,rfl,by go_num,rfl,by rw[←HNX.out];exact HEO.out,HEA.out.1,HEA.out.2,by have:=HBI.out;exact bel,by exact HBOX.out⟩
      case measure=>simp[intOf]<;>omega
     ·have HNX:=hid (show nakO (L.drop j) (t',d)=(t',d2) by rw[nakO_drop HJL.out,HLJ.out,if_pos (by simpa[Ent.o] using ht)];rfl)
      go_upto_region 13 with(fail)
      go_quiet (fail)
      go_wp2_with fail
      go_roundw
      case rel=>exact⟨j,_,⟨t',d2,a2,ce2⟩,by omega,rfl,by go_num,rfl,by rw[HNX.out];rfl,HAT2.out.1,HAT2.out.2,by have:=HBI.out;exact bel,by exact(heap_setCell_same _ _ 1 _ _ _ HBOX.out)⟩
      case measure=>simp[intOf]<;>omega
  ·obtain rfl:k=n1:=by omega
   go_wp2_with fail
   go_ret2
   have h:=HE.out
   rw[←HOL.out,List.take_length] at h
   obtain⟨_,_,hq,hkc,-⟩:=ownsRow_form HOW.out
   cases hq
   exact⟨E,A,k,c,rfl,h,HEL.out.symm,hkc,HBL.out,⟨At.of_own HOW.out,fun e he=>⟨((HDAT.out e he).1.keep (HBL.out.mono HB.out)).more (by have:=HB.out;omega),(HDAT.out e he).2⟩⟩,fun _=>⟨HOW.out,HDAT.out⟩⟩
set_option maxRecDepth 100000 in
theorem rlearn2_rej (A1 A2:Option Addr) (n1 n2 c1 c2:Nat) (E1 E2:List Ent) (w:World) (B:Nat) (hB:B≤w.heap.size) (hA1:OptsAt w B A1 E1) (hA2:OptsAt w B A2 E2) (hn1:n1=E1.length) (hn2:n2=E2.length) (hc1:n1≤c1) (h0:0<n2) (hl1:n1≤1000000) (hl2:n2≤1000000):
  Calls Tryz.prog 101 #[.slice A1 n1 c1,.int .i64 4,.slice A2 n2 c2] w (RowsQ B (learnO (E1.map Ent.o) 4 (E2.map Ent.o)).1 (learnO (E1.map Ent.o) 4 (E2.map Ent.o)).2 w):=by
 have HA1:=hid hA1
 have HA2:=hid hA2
 have HN1:=hid hn1
 have HN2:=hid hn2
 have HB:=hid hB
 have HOL:=hid (show(E1.map Ent.o).length=n1 by simp[hn1])
 have HLL:=hid (show(E2.map Ent.o).length=n2 by simp[hn2])
 clear hA1 hA2 hn1 hn2 hB
 obtain⟨O,hO⟩: ∃O,E1.map Ent.o=O:=⟨_,rfl⟩
 obtain⟨L,hL⟩: ∃L,E2.map Ent.o=L:=⟨_,rfl⟩
 rw[hO,hL]
 rw[hO] at HOL
 rw[hL] at HLL
 have HL:=hid hL
 have HO:=hid hO
 clear hO hL
 have e0:((n2:Int)==0)=false:=by simp;omega
 go_enter Tryz.func101,Tryz.ntmps101
 go_wp2_with fail
 go_loopw [8,12,13] (fun v l i wr=> ∃(k k2 j c:Nat) (A:Option Addr) (E:List Ent),k≤n1∧i=.int .i64 k∧l=.int .i64 j∧v=.slice A k2 c∧E.length=k2∧E.map Ent.o=(rejS (O.take k) L).1∧j=(rejS (O.take k) L).2∧Below w.heap.size w wr∧wr.ownsRow w.heap.size 111 2 (.slice A k2 c) k2 (cellsE E)∧ ∀e∈E,At w B e.a (e.d.map bv)∧e.d.length≤e.c) (fun _ _ i _=>n1-(intOf i).toNat)
 case atStart=>exact⟨0,0,0,0,none,[],Nat.zero_le _,rfl,rfl,rfl,rfl,rfl,rfl,Below.refl _ _,own_nil _ _ _ _,fun _ h=>by cases h⟩
 case round=>
  obtain⟨k,k2,j,c,A,E,hk,rfl,rfl,rfl,hEl,hE,hj,hbl,hown,hdat⟩:=hrel
  have HEL:=hid hEl
  have HE:=hid hE
  have HJ:=hid hj
  have HBL:=hid hbl
  have HOW:=hid hown
  have HDAT:=hid hdat
  have hsz:=hbl.size
  have HJL:=hid (show j≤n2 by have:=rej_le (O.take k) L;rw[←hj,HLL.out] at this;exact this)
  have hk2:k2≤1000000:=by have h1:=rej_count (O.take k) L;rw[←hE,List.length_map,hEl,List.length_take] at h1;omega
  clear hEl hE hj hbl hown hdat
  by_cases hlt:k<n1
  ·have HK:=hid (show k<E1.length by have:=HN1.out;omega)
   have HKO:=hid (show k<O.length by have:=HOL.out;omega)
   obtain⟨b,o,rfl,hbB,hx,hy⟩:=(HA1.out.keep (HBL.out.mono HB.out)).get HK.out
   obtain⟨e0',he0⟩: ∃e0,E1[k]'HK.out=e0:=⟨_,rfl⟩
   have hat:=HA1.out.2 _ (List.getElem_mem HK.out)
   have hok:O[k]'(HKO.out)=e0'.o:=by
    have h1:O[k]? =some e0'.o:=by rw[←HO.out,List.getElem?_map,List.getElem?_eq_getElem HK.out,he0];rfl
    rw[List.getElem?_eq_getElem HKO.out] at h1
    simpa using h1
   rw[he0] at hx hy hat
   obtain⟨t,d,a,ce⟩:=e0'
   have hbz:b<wr.heap.size:=by have:=HB.out;omega
   have jj0:(0:Int)≤(k:Int):=by omega
   have jj1:(k:Int)<(n1:Int):=by omega
   have HAT:=hid hat
   have HOKK:=hid hok
   unfold Ent.v at hy
   simp only at hx hy hat
   clear hat he0 hok
   rcases Nat.lt_or_ge j n2 with hj2|hj2
   ·have HJE:=hid (show j<E2.length by have:=HN2.out;omega)
    obtain⟨b2,o2,rfl,hb2,hx2,hy2⟩:=(HA2.out.keep (HBL.out.mono HB.out)).get HJE.out
    have hbz2:b2<wr.heap.size:=by have:=HB.out;omega
    have hat2:=HA2.out.2 _ (List.getElem_mem HJE.out)
    obtain⟨e2,he2⟩: ∃e2,E2[j]'HJE.out=e2:=⟨_,rfl⟩
    have HLJ:=hid (show L[j]? =some e2.o by rw[←HL.out,List.getElem?_map,List.getElem?_eq_getElem HJE.out,he2];rfl)
    rw[he2] at hx2 hy2 hat2
    obtain⟨t2,d2,a2,ce2⟩:=e2
    have HAT2:=hid hat2
    unfold Ent.v at hy2
    simp only at hx2 hy2
    have q0:(0:Int)≤(j:Int):=by omega
    have q1:(j:Int)<(n2:Int):=by omega
    have r1: ∀n:Nat,(convert 30 9 (.slice a d.length ce)).run Tryz.prog (wr.drewN n)=.ok (.string ⟨d.toArray⟩) (wr.drewN n):=fun n=>run_str Tryz.underlying30 Tryz.underlying5 Tryz.underlying9 rfl (by rw[At_drewN];exact HAT.out.1.keep (HBL.out.mono HB.out))
    have r2: ∀n:Nat,(convert 30 9 (.slice a2 d2.length ce2)).run Tryz.prog (wr.drewN n)=.ok (.string ⟨d2.toArray⟩) (wr.drewN n):=fun n=>run_str Tryz.underlying30 Tryz.underlying5 Tryz.underlying9 rfl (by rw[At_drewN];exact HAT2.out.1.keep (HBL.out.mono HB.out))
    clear he2 hat2
    cases ht:(t2==t)
    ·have HNX:=hid (show rejS (O.take (k+1)) L=((rejS (O.take k) L).1++[(t,d)],(rejS (O.take k) L).2) by
      rw[rejS_succ HKO.out,HOKK.out]
      unfold rejStep
      rw[if_neg];· rfl
      rw[←HJ.out,HLJ.out]
      intro e
      simp[Ent.o] at e
      simp at ht
      exact ht e.1)
     clear r1 r2
     go_upto_region 22 with(fail)
     go_quiet (fail)
     go_wp2_with (at_builtin;refine wpList_appv w rfl (.tmp 104) (.tmp 109) 25 rfl 111 Tryz.underlying25 (.agg #[.int .i64 0,.slice none 0 0]) 2 32 infoOpt rfl (by decide) (by decide) (.slice A k2 c) k2 (cellsE E) rfl (by exact own_below HOW.out (by exact bel)) (wr.heap.size+1) (some ⟨wr.heap.size,0,none⟩) 1 1 [.int .i64 t,.slice a d.length ce] rfl rfl (by omega) (by exact At.newN _ _ _ _ _ rfl rfl) (by intro u hu;simp at hu;rcases hu with rfl|rfl<;>rfl) (by have h1:=HBL.out;exact bel) ?_;intro A4 c4 w3 ho3 hc3 hb3 hg3;have HO3:=hid ho3;have HB3:=hid hb3;have HG3:=hid hg3;clear ho3 hc3 hb3 hg3)
     go_roundw
     case rel=>exact⟨k+1,k2+1,j,c4,A4,E++[⟨t,d,a,ce⟩],by omega,by go_num,rfl,rfl,by simp[HEL.out],by rw[HNX.out];simp only;rw[List.map_append,HE.out];rfl,by rw[HNX.out];exact HJ.out,HB3.out,by rw[cellsE_snoc];exact HO3.out,by
      intro e he
      rcases List.mem_append.1 he with he|he
      ·exact HDAT.out e he
      ·simp only[List.mem_singleton] at he;subst he;exact HAT.out⟩
     case measure=>simp[intOf];omega
    ·cases hd:(d2==d)
     ·have HNX:=hid (show rejS (O.take (k+1)) L=((rejS (O.take k) L).1++[(t,d)],(rejS (O.take k) L).2) by
       rw[rejS_succ HKO.out,HOKK.out]
       unfold rejStep
       rw[if_neg];· rfl
       rw[←HJ.out,HLJ.out]
       intro e
       simp[Ent.o] at e
       simp at hd
       exact hd e.2)
      go_upto_region 22 with(fail)
      go_quiet (fail)
      clear r1 r2
      go_wp2_with (at_builtin;refine wpList_appv w rfl (.tmp 104) (.tmp 109) 25 rfl 111 Tryz.underlying25 (.agg #[.int .i64 0,.slice none 0 0]) 2 32 infoOpt rfl (by decide) (by decide) (.slice A k2 c) k2 (cellsE E) rfl (by exact own_below HOW.out (by exact bel)) (wr.heap.size+1) (some ⟨wr.heap.size,0,none⟩) 1 1 [.int .i64 t,.slice a d.length ce] rfl rfl (by omega) (by exact At.newN _ _ _ _ _ rfl rfl) (by intro u hu;simp at hu;rcases hu with rfl|rfl<;>rfl) (by have h1:=HBL.out;exact bel) ?_;intro A4 c4 w3 ho3 hc3 hb3 hg3;have HO3:=hid ho3;have HB3:=hid hb3;have HG3:=hid hg3;clear ho3 hc3 hb3 hg3)
      go_roundw
      case rel=>exact⟨k+1,k2+1,j,c4,A4,E++[⟨t,d,a,ce⟩],by omega,by go_num,rfl,rfl,by simp[HEL.out],by rw[HNX.out];simp only;rw[List.map_append,HE.out];rfl,by rw[HNX.out];exact HJ.out,HB3.out,by rw[cellsE_snoc];exact HO3.out,by
       intro e he
       rcases List.mem_append.1 he with he|he
       ·exact HDAT.out e he
       ·simp only[List.mem_singleton] at he;subst he;exact HAT.out⟩
      case measure=>simp[intOf];omega
     ·have HNX:=hid (show rejS (O.take (k+1)) L=((rejS (O.take k) L).1,(rejS (O.take k) L).2+1) by
       rw[rejS_succ HKO.out,HOKK.out]
       unfold rejStep
       rw[if_pos]
       rw[←HJ.out,HLJ.out]
       simp[Ent.o]
       simp at hd ht
       exact⟨ht,hd⟩)
      go_upto_region 22 with(fail)
      go_quiet (fail)
      clear r1 r2
      go_wp2_with fail
      go_roundw
      case rel=>exact⟨k+1,k2,j+1,c,A,E,by omega,by go_num,by go_num,rfl,HEL.out,by rw[HNX.out];exact HE.out,by rw[HNX.out];show j+1=_+1;rw[HJ.out],by have:=HBL.out;exact bel,HOW.out,HDAT.out⟩
      case measure=>simp[intOf];omega
   ·have HNX:=hid (show rejS (O.take (k+1)) L=((rejS (O.take k) L).1++[(t,d)],(rejS (O.take k) L).2) by
     rw[rejS_succ HKO.out,HOKK.out]
     unfold rejStep
     rw[if_neg];· rfl
     rw[List.getElem?_eq_none (by rw[←HJ.out,HLL.out];exact hj2)]
     simp)
    have hj4:decide (j<n2)=false:=by simp;omega
    go_upto_region 22 with(fail)
    go_quiet (fail)
    go_wp2_with (at_builtin;refine wpList_appv w rfl (.tmp 104) (.tmp 109) 25 rfl 111 Tryz.underlying25 (.agg #[.int .i64 0,.slice none 0 0]) 2 32 infoOpt rfl (by decide) (by decide) (.slice A k2 c) k2 (cellsE E) rfl (by exact own_below HOW.out (by exact bel)) (wr.heap.size+1) (some ⟨wr.heap.size,0,none⟩) 1 1 [.int .i64 t,.slice a d.length ce] rfl rfl (by omega) (by exact At.newN _ _ _ _ _ rfl rfl) (by intro u hu;simp at hu;rcases hu with rfl|rfl<;>rfl) (by have h1:=HBL.out;exact bel) ?_;intro A4 c4 w3 ho3 hc3 hb3 hg3;have HO3:=hid ho3;have HB3:=hid hb3;have HG3:=hid hg3;clear ho3 hc3 hb3 hg3)
    go_roundw
    case rel=>exact⟨k+1,k2+1,j,c4,A4,E++[⟨t,d,a,ce⟩],by omega,by go_num,rfl,rfl,by simp[HEL.out],by rw[HNX.out];simp only;rw[List.map_append,HE.out];rfl,by rw[HNX.out];exact HJ.out,HB3.out,by rw[cellsE_snoc];exact HO3.out,by
     intro e he
     rcases List.mem_append.1 he with he|he
     ·exact HDAT.out e he
     ·simp only[List.mem_singleton] at he;subst he;exact HAT.out⟩
    case measure=>simp[intOf];omega
  ·obtain rfl:k=n1:=by omega
   have hT:O.take k=O:=by rw[←HOL.out,List.take_length]
   have HT:=hid hT
   clear hT
   have hL0: ¬L.length=0:=by rw[HLL.out];omega
   rcases Nat.lt_or_ge j n2 with hj2|hj2
   ·have HR:=hid (show learnO O 4 L=(O,false) by
     unfold learnO;rw[if_neg hL0,if_neg (by decide),if_pos rfl,if_neg (by have:=HJ.out;rw[HT.out] at this;rw[←this,HLL.out];omega)])
    clear hL0
    go_wp2_with fail
    go_ret2
    exact⟨E1,A1,k,c1,by rw[HR.out];rfl,by rw[HR.out];exact HO.out,HN1.out,hc1,HBL.out,(HA1.out.keep (HBL.out.mono HB.out)).more (by have:=HB.out;omega),fun h=>by rw[HR.out] at h;cases h⟩
   ·have HR:=hid (show learnO O 4 L=((rejS O L).1,true) by
     unfold learnO;rw[if_neg hL0,if_neg (by decide),if_pos rfl,if_pos (by have:=HJ.out;rw[HT.out] at this;rw[←this,HLL.out];have:=HJL.out;omega)])
    have hj3:decide (j<n2)=false:=by simp;omega
    have hj4:decide ((j:Int)<(n2:Int))=false:=by simp;omega
    clear hL0
    go_wp2_with fail
    go_ret2
    obtain⟨_,_,hq,hkc,-⟩:=ownsRow_form HOW.out
    cases hq
    exact⟨E,A,k2,c,by rw[HR.out];rfl,by rw[HR.out];have h:=HE.out;rwa [HT.out] at h,HEL.out.symm,hkc,HBL.out,⟨At.of_own HOW.out,fun e he=>⟨((HDAT.out e he).1.keep (HBL.out.mono HB.out)).more (by have:=HB.out;omega),(HDAT.out e he).2⟩⟩,fun _=>⟨HOW.out,HDAT.out⟩⟩
theorem rlearn2_any (A1 A2:Option Addr) (n1 n2 c1 c2:Nat) (code:Int) (E1 E2:List Ent) (w:World) (B:Nat) (hB:B≤w.heap.size) (hA1:OptsAt w B A1 E1) (hA2:OptsAt w B A2 E2) (hn1:n1=E1.length) (hn2:n2=E2.length) (hc1:n1≤c1) (hl1:n1≤1000000) (hl2:n2≤1000000):
  Calls Tryz.prog 101 #[.slice A1 n1 c1,.int .i64 code,.slice A2 n2 c2] w (RowsQ B (learnO (E1.map Ent.o) code (E2.map Ent.o)).1 (learnO (E1.map Ent.o) code (E2.map Ent.o)).2 w):=by
 by_cases h0:n2=0
 ·subst h0
  have HR:=hid (show learnO (E1.map Ent.o) code (E2.map Ent.o)=(E1.map Ent.o,false) by unfold learnO;rw[if_pos (by simp;exact List.length_eq_zero_iff.1 hn2.symm)])
  have HA1:=hid hA1
  have HN1:=hid hn1
  have HB:=hid hB
  clear hA1 hA2 hn1 hn2 hB
  go_enter Tryz.func101,Tryz.ntmps101
  go_wp2
  go_ret2
  exact⟨E1,A1,n1,c1,by rw[HR.out];rfl,by rw[HR.out],HN1.out,hc1,Below.refl _ _,HA1.out.more HB.out,fun h=>by rw[HR.out] at h;cases h⟩
 ·by_cases h3:code=3
  ·subst h3
   have HR:learnO (E1.map Ent.o) 3 (E2.map Ent.o)=(nakL (E1.map Ent.o) (E2.map Ent.o),true):=by unfold learnO;rw[if_neg (by simp;intro e;rw[e] at hn2;exact h0 hn2),if_pos rfl]
   rw[HR]
   exact rlearn2_nak A1 A2 n1 n2 c1 c2 E1 E2 w B hB hA1 hA2 hn1 hn2 (by omega) hl1 hl2
  ·by_cases h4:code=4
   ·subst h4
    exact rlearn2_rej A1 A2 n1 n2 c1 c2 E1 E2 w B hB hA1 hA2 hn1 hn2 hc1 (by omega) hl1 hl2
   ·have HR:=hid (show learnO (E1.map Ent.o) code (E2.map Ent.o)=(E1.map Ent.o,false) by unfold learnO;rw[if_neg (by simp;intro e;rw[e] at hn2;exact h0 hn2),if_neg h3,if_neg h4])
    have e0:((n2:Int)==0)=false:=by simp;omega
    have e3:(code !=3)=true:=by simpa using h3
    have e4:(code !=4)=true:=by simpa using h4
    have HA1:=hid hA1
    have HN1:=hid hn1
    have HB:=hid hB
    clear hA1 hA2 hn1 hn2 hB h0 h3 h4
    go_enter Tryz.func101,Tryz.ntmps101
    go_wp2
    go_ret2
    exact⟨E1,A1,n1,c1,by rw[HR.out];rfl,by rw[HR.out],HN1.out,hc1,Below.refl _ _,HA1.out.more HB.out,fun h=>by rw[HR.out] at h;cases h⟩
end Go.Proofs.YtfkgmbknfnhjoaaGreat
namespace Go.Proofs.YtfkgmbknfnhjoaaGreat
open Lib (hid)
open Go.RowKit
set_option linter.unusedSimpArgs false
set_option linter.unusedVariables false
set_option linter.ambiguousOpen false
open Ne (Rl Opt RulesAt areB answerO learnO)
open Fs (av hasB)
def OptsR (w:World) (base:Nat) (v:Value) (L:List Opt):Prop:= ∃E:List Ent,w.ownsRow base 111 2 v E.length (cellsE E)∧(∀e∈E,At w w.heap.size e.a (e.d.map bv)∧e.d.length≤e.c)∧E.map Ent.o=L
theorem OptsR.v {w:World} {base:Nat} {v:Value} {L:List Opt} (h:OptsR w base v L):OptsV w w.heap.size v L:=by
 obtain⟨E,h1,h2,h3⟩:=h
 obtain⟨A,c,rfl,hc,-⟩:=ownsRow_form h1
 exact⟨A,_,c,E,rfl,⟨At.of_own h1,h2⟩,rfl,hc,h3⟩
theorem OptsR.base {w:World} {b b':Nat} {v:Value} {L:List Opt} (h:OptsR w b v L) (hb:b'≤b):OptsR w b' v L:=by
 obtain⟨E,h1,h2,h3⟩:=h
 exact⟨E,own_base h1 hb,h2,h3⟩
theorem OptsR.below {w w':World} {b:Nat} {v:Value} {L:List Opt} (h:OptsR w b v L) (hb:Below w.heap.size w w'):OptsR w' b v L:=by
 obtain⟨E,h1,h2,h3⟩:=h
 exact⟨E,own_below h1 hb,fun e he=>⟨((h2 e he).1.keep hb).more hb.size,(h2 e he).2⟩,h3⟩
theorem OptsR.other {A C:World} {base X:Nat} {v:Value} {L:List Opt} {cur:Array Value} {e':TypeId} (h:OptsR A base v L) (hg:A.grownBy C (some X)) (hX:A.heap[X]? =some (.cells cur e' (0,0))) (hc: ∀(i:Nat) (x:UInt8),cur[i]?≠some (bv x)) (h1:e'≠111):OptsR C base v L:=by
 obtain⟨E,ho,h2,h3⟩:=h
 exact⟨E,own_stays ho hg fun r e=>by cases e;exact .inr (.inr ⟨_,_,hX,h1⟩),fun e he=>⟨((h2 e he).1.offc hg hX hc (Nat.le_refl _)).more hg.size,(h2 e he).2⟩,h3⟩
theorem no_bytes3 (a b:Int) (A:Option Addr) (n m:Nat) (i:Nat) (x:UInt8):(#[.int .i64 a,.int .i64 b,.slice A n m]:Array Value)[i]?≠some (bv x):=by
 match i with
 |0|1|2=>intro h;cases h
 |n+3=>intro h;cases h
theorem OptsO.r {A:World} {b:Nat} {v:Value} {L:List Opt} (h:OptsO A b v L):OptsR A b v L:=by
 obtain⟨E,h,he⟩:=h
 refine⟨E,h.1,fun e he=>?_,he⟩
 have:=h.2 e he
 obtain⟨A',c',hv,hc,-⟩:=ownsRow_form this
 unfold Ent.v at this hv
 cases hv
 exact⟨At.of_own this,hc⟩
def RWhichP:Option (Int×Pk×List Opt)→Au→Value→World→Ending→World→Prop
 |none,a,va,w,x,w'=> ∃e c1 c2 Ad nd cd An nn cn,x=.returned (.tuple #[.int .i64 e,.agg #[.int .i64 c1,.int .i64 c2,.slice Ad nd cd],auV a (.slice An nn cn),.bool false])∧Below w.heap.size w w'
 |some (e,ans,next),a,va,w,x,w'=> ∃Ad nd cd An nn cn,x=.returned (.tuple #[.int .i64 e,.agg #[.int .i64 ans.code,.int .i64 ans.id,.slice Ad nd cd],auV a (.slice An nn cn),.bool true])∧Below w.heap.size w w'∧BytesO w' w.heap.size (.slice Ad nd cd) ans.data∧(e=10→OptsR w' w.heap.size (.slice An nn cn) next)∧(e≠10→Value.slice An nn cn=va)
theorem set7_other {w:World} {X k:Nat} (h:k≠X) (a b c d e f g:Value):(((((((w.setCell ⟨X,0,none⟩ a).setCell ⟨X,1,none⟩ b).setCell ⟨X,2,none⟩ c).setCell ⟨X,3,none⟩ d).setCell ⟨X,4,none⟩ e).setCell ⟨X,5,none⟩ f).setCell ⟨X,6,none⟩ g).heap[k]? =w.heap[k]?:=by
 rw[heap_setCell_other _ _ _ _ (by simpa using h),heap_setCell_other _ _ _ _ (by simpa using h),heap_setCell_other _ _ _ _ (by simpa using h),heap_setCell_other _ _ _ _ (by simpa using h),heap_setCell_other _ _ _ _ (by simpa using h),heap_setCell_other _ _ _ _ (by simpa using h),heap_setCell_other _ _ _ _ (by simpa using h)]
theorem set3_other {w:World} {X k:Nat} (h:k≠X) (a b c:Value):(((w.setCell ⟨X,0,none⟩ a).setCell ⟨X,1,none⟩ b).setCell ⟨X,2,none⟩ c).heap[k]? =w.heap[k]?:=by
 rw[heap_setCell_other _ _ _ _ (by simpa using h),heap_setCell_other _ _ _ _ (by simpa using h),heap_setCell_other _ _ _ _ (by simpa using h)]
set_option maxRecDepth 100000 in
theorem rwhich_5 (Ar Aa Ai:Option Addr) (nr cr na ca ni ci:Nat) (R:List Rl) (mc mt mf wt st id req cnt tim nak ii:Int) (E:List Ent) (li:List UInt8) (w:World) (B:Nat) (hB:B≤w.heap.size) (hR:RulesAt w B Ar R) (hnr:nr=R.length) (hlr:nr≤1000000) (hE:OptsAt w B Aa E) (hna:na=E.length) (hca:na≤ca) (hla:na≤1000000) (hI:At w B Ai (li.map bv)) (hni:ni=li.length) (hci:ni≤ci):Calls Tryz.prog 63 #[.agg #[.slice Ar nr cr,.int .i64 mc,.int .i64 mt,.int .i64 mf,.int .i64 wt],.agg #[.int .i64 st,.int .i64 id,.int .i64 req,.slice Aa na ca,.int .i64 cnt,.int .i64 tim,.int .i64 nak],.agg #[.int .i64 5,.int .i64 ii,.slice Ai ni ci]] w (RWhichP (whichO ⟨R,mc,mt,mf,wt⟩ ⟨st,id,req,E.map Ent.o,cnt,tim,nak⟩ ⟨5,ii,li⟩) ⟨st,id,req,E.map Ent.o,cnt,tim,nak⟩ (.slice Aa na ca) w):=by
 have HB:=hid hB
 have HR:=hid hR
 have HNR:=hid hnr
 have HE:=hid hE
 have HNA:=hid hna
 have HI:=hid hI
 have HNI:=hid hni
 obtain⟨L,hL⟩: ∃L,E.map Ent.o=L:=⟨_,rfl⟩
 have HL:=hid hL
 rw[hL]
 clear hB hR hnr hE hna hL hI hni
 have HO:=hid (show whichO ⟨R,mc,mt,mf,wt⟩ ⟨st,id,req,L,cnt,tim,nak⟩ ⟨5,ii,li⟩=some (11,⟨0,0,[]⟩,L) from rfl)
 rw[HO.out]
 go_enter Tryz.func63,Tryz.ntmps63
 go_upto_region 2 with(fail)
 refine boxes6 ?_
 rintro W2 ⟨h6,h7,h8,h12,h13,h15,hbw⟩
 have HBW:=hid hbw
 have H7:=hid h7
 have H8:=hid h8
 have H12:=hid h12
 have H13:=hid h13
 have H15:=hid h15
 have hszW:=hbw.size
 have l6:=lt_blk h6
 have l7:=lt_blk h7
 have l8:=lt_blk h8
 have l12:=lt_blk h12
 have l13:=lt_blk h13
 have l15:=lt_blk h15
 obtain⟨p0,p1,p2,p3,p4⟩:=cells5 h6
 obtain⟨q0,q1,q2,q3,q4,q5,q6⟩:=cells7 h7
 obtain⟨r0,r1,r2⟩:=cells3 h8
 obtain⟨z0,z1,z2⟩:=cells3 h15
 obtain⟨s0,s1,s2⟩:=cells3 h12
 obtain⟨m0,m1,m2,m3,m4,m5,m6⟩:=cells7 h13
 have f0:=frees h12 0
 have f1:=frees h12 1
 have f2:=frees h12 2
 have g0:=frees h13 0
 have g1:=frees h13 1
 have g2:=frees h13 2
 have g3:=frees h13 3
 have g4:=frees h13 4
 have g5:=frees h13 5
 have g6:=frees h13 6
 have k3:=frees h7 3
 clear h6 h7 h8 h12 h13 h15 hbw
 go_wp2_with fail
 go_region_held3 (fun w'=>w'.cell? ⟨w.heap.size+1+1+1+1+1,0,none⟩=some (.int .i64 0)∧w'.cell? ⟨w.heap.size+1+1+1+1+1,1,none⟩=some (.int .i64 0)∧w'.cell? ⟨w.heap.size+1+1+1+1+1,2,none⟩=some (.slice none 0 0)∧w'.cell? ⟨w.heap.size+1,0,none⟩=some (.int .i64 st)∧w'.cell? ⟨w.heap.size+1,1,none⟩=some (.int .i64 id)∧w'.cell? ⟨w.heap.size+1,2,none⟩=some (.int .i64 req)∧w'.cell? ⟨w.heap.size+1,3,none⟩=some (.slice Aa na ca)∧w'.cell? ⟨w.heap.size+1,4,none⟩=some (.int .i64 cnt)∧w'.cell? ⟨w.heap.size+1,5,none⟩=some (.int .i64 tim)∧w'.cell? ⟨w.heap.size+1,6,none⟩=some (.int .i64 nak)) (first|(go_keep;done)|(go_simp;done)|(simp[go_sem];done)) (fail)
 all_goals
  clear p0 p1 p2 p3 p4 q0 q1 q2 q3 q4 q5 q6 r0 r1 r2 z0 z1 z2 s0 s1 s2 m0 m1 m2 m3 m4 m5 m6 f0 f1 f2 g0 g1 g2 g3 g4 g5 g6 k3
  obtain⟨Wc,hWc⟩: ∃Wc:World,Wc=(((W2.setCell ⟨w.heap.size+1+1+1,0,none⟩ (.int .i64 0)).setCell ⟨w.heap.size+1+1+1,1,none⟩ (.int .i64 0)).setCell ⟨w.heap.size+1+1+1,2,none⟩ (.slice none 0 0)):=⟨_,rfl⟩
  obtain⟨Wf,hWf⟩: ∃Wf:World,Wf=((((((((Wc.setCell ⟨w.heap.size+1+1+1+1,0,none⟩ (.int .i64 st)).setCell ⟨w.heap.size+1+1+1+1,1,none⟩ (.int .i64 id)).setCell ⟨w.heap.size+1+1+1+1,2,none⟩ (.int .i64 req)).setCell ⟨w.heap.size+1+1+1+1,3,none⟩ (.slice Aa na ca)).setCell ⟨w.heap.size+1+1+1+1,4,none⟩ (.int .i64 cnt)).setCell ⟨w.heap.size+1+1+1+1,5,none⟩ (.int .i64 tim)).setCell ⟨w.heap.size+1+1+1+1,6,none⟩ (.int .i64 nak))).drew:=⟨_,rfl⟩
  have hWf2:Wf=(((((((((((W2.setCell ⟨w.heap.size+1+1+1,0,none⟩ (.int .i64 0)).setCell ⟨w.heap.size+1+1+1,1,none⟩ (.int .i64 0)).setCell ⟨w.heap.size+1+1+1,2,none⟩ (.slice none 0 0)).setCell ⟨w.heap.size+1+1+1+1,0,none⟩ (.int .i64 st)).setCell ⟨w.heap.size+1+1+1+1,1,none⟩ (.int .i64 id)).setCell ⟨w.heap.size+1+1+1+1,2,none⟩ (.int .i64 req)).setCell ⟨w.heap.size+1+1+1+1,3,none⟩ (.slice Aa na ca)).setCell ⟨w.heap.size+1+1+1+1,4,none⟩ (.int .i64 cnt)).setCell ⟨w.heap.size+1+1+1+1,5,none⟩ (.int .i64 tim)).setCell ⟨w.heap.size+1+1+1+1,6,none⟩ (.int .i64 nak))).drew:=by rw[hWf,hWc]
  go_wp2_with fail
  rw[←hWf2]
  have HZ7:=hid (H12.out)
  have HZ8:=hid ((show Wc.heap[w.heap.size+1+1+1+1]? =(W2).heap[w.heap.size+1+1+1+1]? by rw[hWc];exact set3_other (by omega) _ _ _).trans (H13.out))
  have hg1:(W2).grownBy Wc (some (w.heap.size+1+1+1)):=by rw[hWc];exact grn
  have hrc0:Wc.heap[w.heap.size+1+1+1]? =some (.cells #[.int .i64 0,.int .i64 0,(.slice none 0 0)] 32 (0,0)):=by rw[hWc];exact row3 HZ7.out rfl _ _ _
  have hrc:Wf.heap[w.heap.size+1+1+1]? =some (.cells #[.int .i64 0,.int .i64 0,(.slice none 0 0)] 32 (0,0)):=by rw[hWf,hdrew,set7_other (by omega)];exact hrc0
  have hra:Wf.heap[w.heap.size+1+1+1+1]? =some (.cells #[.int .i64 st,.int .i64 id,.int .i64 req,(.slice Aa na ca),.int .i64 cnt,.int .i64 tim,.int .i64 nak] 29 (0,0)):=by rw[hWf,hdrew];exact row7 HZ8.out rfl _ _ _ _ _ _ _
  have hg2:Wc.grownBy Wf (some (w.heap.size+1+1+1+1)):=by rw[hWf];exact grn
  clear hWf2 hWf hWc
  have hbf:Below w.heap.size w Wf:=Below.grown (Below.grown (HBW.out) hg1 (hszW) (fun k hk=>by cases hk;omega)) hg2 (Nat.le_trans (hszW) hg1.size) (fun k hk=>by cases hk;omega)
  obtain⟨u0,u1,u2⟩:=cells3 hrc
  obtain⟨e0,e1,e2,e3,e4,e5,e6⟩:=cells7 hra
  refine bodyPost_ret (v:=.tuple #[.int .i64 11,.agg #[.int .i64 0,.int .i64 0,.slice none 0 0],.agg #[.int .i64 st,.int .i64 id,.int .i64 req,.slice Aa na ca,.int .i64 cnt,.int .i64 tim,.int .i64 nak],.bool true]) (by simp[results,Tryz.results63,go_sem,u0,u1,u2,e0,e1,e2,e3,e4,e5,e6]) rfl ?_
  exact⟨none,0,0,Aa,na,ca,rfl,hbf,BytesO.nil _ _,(fun h=>by cases h),fun _=>rfl⟩
set_option maxRecDepth 100000 in
theorem rwhich_6 (Ar Aa Ai:Option Addr) (nr cr na ca ni ci:Nat) (R:List Rl) (mc mt mf wt st id req cnt tim nak ii:Int) (E:List Ent) (li:List UInt8) (w:World) (B:Nat) (hB:B≤w.heap.size) (hR:RulesAt w B Ar R) (hnr:nr=R.length) (hlr:nr≤1000000) (hE:OptsAt w B Aa E) (hna:na=E.length) (hca:na≤ca) (hla:na≤1000000) (hI:At w B Ai (li.map bv)) (hni:ni=li.length) (hci:ni≤ci):Calls Tryz.prog 63 #[.agg #[.slice Ar nr cr,.int .i64 mc,.int .i64 mt,.int .i64 mf,.int .i64 wt],.agg #[.int .i64 st,.int .i64 id,.int .i64 req,.slice Aa na ca,.int .i64 cnt,.int .i64 tim,.int .i64 nak],.agg #[.int .i64 6,.int .i64 ii,.slice Ai ni ci]] w (RWhichP (whichO ⟨R,mc,mt,mf,wt⟩ ⟨st,id,req,E.map Ent.o,cnt,tim,nak⟩ ⟨6,ii,li⟩) ⟨st,id,req,E.map Ent.o,cnt,tim,nak⟩ (.slice Aa na ca) w):=by
 have HB:=hid hB
 have HR:=hid hR
 have HNR:=hid hnr
 have HE:=hid hE
 have HNA:=hid hna
 have HI:=hid hI
 have HNI:=hid hni
 obtain⟨L,hL⟩: ∃L,E.map Ent.o=L:=⟨_,rfl⟩
 have HL:=hid hL
 rw[hL]
 clear hB hR hnr hE hna hL hI hni
 have HO:=hid (show whichO ⟨R,mc,mt,mf,wt⟩ ⟨st,id,req,L,cnt,tim,nak⟩ ⟨6,ii,li⟩=some (12,⟨0,0,[]⟩,L) from rfl)
 rw[HO.out]
 go_enter Tryz.func63,Tryz.ntmps63
 go_upto_region 2 with(fail)
 refine boxes6 ?_
 rintro W2 ⟨h6,h7,h8,h12,h13,h15,hbw⟩
 have HBW:=hid hbw
 have H7:=hid h7
 have H8:=hid h8
 have H12:=hid h12
 have H13:=hid h13
 have H15:=hid h15
 have hszW:=hbw.size
 have l6:=lt_blk h6
 have l7:=lt_blk h7
 have l8:=lt_blk h8
 have l12:=lt_blk h12
 have l13:=lt_blk h13
 have l15:=lt_blk h15
 obtain⟨p0,p1,p2,p3,p4⟩:=cells5 h6
 obtain⟨q0,q1,q2,q3,q4,q5,q6⟩:=cells7 h7
 obtain⟨r0,r1,r2⟩:=cells3 h8
 obtain⟨z0,z1,z2⟩:=cells3 h15
 obtain⟨s0,s1,s2⟩:=cells3 h12
 obtain⟨m0,m1,m2,m3,m4,m5,m6⟩:=cells7 h13
 have f0:=frees h12 0
 have f1:=frees h12 1
 have f2:=frees h12 2
 have g0:=frees h13 0
 have g1:=frees h13 1
 have g2:=frees h13 2
 have g3:=frees h13 3
 have g4:=frees h13 4
 have g5:=frees h13 5
 have g6:=frees h13 6
 have k3:=frees h7 3
 clear h6 h7 h8 h12 h13 h15 hbw
 go_wp2_with fail
 go_region_held3 (fun w'=>w'.cell? ⟨w.heap.size+1+1+1+1+1,0,none⟩=some (.int .i64 0)∧w'.cell? ⟨w.heap.size+1+1+1+1+1,1,none⟩=some (.int .i64 0)∧w'.cell? ⟨w.heap.size+1+1+1+1+1,2,none⟩=some (.slice none 0 0)∧w'.cell? ⟨w.heap.size+1,0,none⟩=some (.int .i64 st)∧w'.cell? ⟨w.heap.size+1,1,none⟩=some (.int .i64 id)∧w'.cell? ⟨w.heap.size+1,2,none⟩=some (.int .i64 req)∧w'.cell? ⟨w.heap.size+1,3,none⟩=some (.slice Aa na ca)∧w'.cell? ⟨w.heap.size+1,4,none⟩=some (.int .i64 cnt)∧w'.cell? ⟨w.heap.size+1,5,none⟩=some (.int .i64 tim)∧w'.cell? ⟨w.heap.size+1,6,none⟩=some (.int .i64 nak)) (first|(go_keep;done)|(go_simp;done)|(simp[go_sem];done)) (fail)
 all_goals
  clear p0 p1 p2 p3 p4 q0 q1 q2 q3 q4 q5 q6 r0 r1 r2 z0 z1 z2 s0 s1 s2 m0 m1 m2 m3 m4 m5 m6 f0 f1 f2 g0 g1 g2 g3 g4 g5 g6 k3
  obtain⟨Wc,hWc⟩: ∃Wc:World,Wc=(((W2.setCell ⟨w.heap.size+1+1+1,0,none⟩ (.int .i64 0)).setCell ⟨w.heap.size+1+1+1,1,none⟩ (.int .i64 0)).setCell ⟨w.heap.size+1+1+1,2,none⟩ (.slice none 0 0)):=⟨_,rfl⟩
  obtain⟨Wf,hWf⟩: ∃Wf:World,Wf=((((((((Wc.setCell ⟨w.heap.size+1+1+1+1,0,none⟩ (.int .i64 st)).setCell ⟨w.heap.size+1+1+1+1,1,none⟩ (.int .i64 id)).setCell ⟨w.heap.size+1+1+1+1,2,none⟩ (.int .i64 req)).setCell ⟨w.heap.size+1+1+1+1,3,none⟩ (.slice Aa na ca)).setCell ⟨w.heap.size+1+1+1+1,4,none⟩ (.int .i64 cnt)).setCell ⟨w.heap.size+1+1+1+1,5,none⟩ (.int .i64 tim)).setCell ⟨w.heap.size+1+1+1+1,6,none⟩ (.int .i64 nak))).drew:=⟨_,rfl⟩
  have hWf2:Wf=(((((((((((W2.setCell ⟨w.heap.size+1+1+1,0,none⟩ (.int .i64 0)).setCell ⟨w.heap.size+1+1+1,1,none⟩ (.int .i64 0)).setCell ⟨w.heap.size+1+1+1,2,none⟩ (.slice none 0 0)).setCell ⟨w.heap.size+1+1+1+1,0,none⟩ (.int .i64 st)).setCell ⟨w.heap.size+1+1+1+1,1,none⟩ (.int .i64 id)).setCell ⟨w.heap.size+1+1+1+1,2,none⟩ (.int .i64 req)).setCell ⟨w.heap.size+1+1+1+1,3,none⟩ (.slice Aa na ca)).setCell ⟨w.heap.size+1+1+1+1,4,none⟩ (.int .i64 cnt)).setCell ⟨w.heap.size+1+1+1+1,5,none⟩ (.int .i64 tim)).setCell ⟨w.heap.size+1+1+1+1,6,none⟩ (.int .i64 nak))).drew:=by rw[hWf,hWc]
  go_wp2_with fail
  rw[←hWf2]
  have HZ7:=hid (H12.out)
  have HZ8:=hid ((show Wc.heap[w.heap.size+1+1+1+1]? =(W2).heap[w.heap.size+1+1+1+1]? by rw[hWc];exact set3_other (by omega) _ _ _).trans (H13.out))
  have hg1:(W2).grownBy Wc (some (w.heap.size+1+1+1)):=by rw[hWc];exact grn
  have hrc0:Wc.heap[w.heap.size+1+1+1]? =some (.cells #[.int .i64 0,.int .i64 0,(.slice none 0 0)] 32 (0,0)):=by rw[hWc];exact row3 HZ7.out rfl _ _ _
  have hrc:Wf.heap[w.heap.size+1+1+1]? =some (.cells #[.int .i64 0,.int .i64 0,(.slice none 0 0)] 32 (0,0)):=by rw[hWf,hdrew,set7_other (by omega)];exact hrc0
  have hra:Wf.heap[w.heap.size+1+1+1+1]? =some (.cells #[.int .i64 st,.int .i64 id,.int .i64 req,(.slice Aa na ca),.int .i64 cnt,.int .i64 tim,.int .i64 nak] 29 (0,0)):=by rw[hWf,hdrew];exact row7 HZ8.out rfl _ _ _ _ _ _ _
  have hg2:Wc.grownBy Wf (some (w.heap.size+1+1+1+1)):=by rw[hWf];exact grn
  clear hWf2 hWf hWc
  have hbf:Below w.heap.size w Wf:=Below.grown (Below.grown (HBW.out) hg1 (hszW) (fun k hk=>by cases hk;omega)) hg2 (Nat.le_trans (hszW) hg1.size) (fun k hk=>by cases hk;omega)
  obtain⟨u0,u1,u2⟩:=cells3 hrc
  obtain⟨e0,e1,e2,e3,e4,e5,e6⟩:=cells7 hra
  refine bodyPost_ret (v:=.tuple #[.int .i64 12,.agg #[.int .i64 0,.int .i64 0,.slice none 0 0],.agg #[.int .i64 st,.int .i64 id,.int .i64 req,.slice Aa na ca,.int .i64 cnt,.int .i64 tim,.int .i64 nak],.bool true]) (by simp[results,Tryz.results63,go_sem,u0,u1,u2,e0,e1,e2,e3,e4,e5,e6]) rfl ?_
  exact⟨none,0,0,Aa,na,ca,rfl,hbf,BytesO.nil _ _,(fun h=>by cases h),fun _=>rfl⟩
end Go.Proofs.YtfkgmbknfnhjoaaGreat
