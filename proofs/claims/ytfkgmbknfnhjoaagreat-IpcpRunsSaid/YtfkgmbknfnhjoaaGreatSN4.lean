/- N4 -/
import Derived.Test.YtfkgmbknfnhjoaaGreatSA
import Derived.Test.YtfkgmbknfnhjoaaGreatSN3
import Derived.Deep.QuietTactic
import Derived.BigQuiet
import Derived.Deep.RegionHeld3
set_option linter.all false
set_option maxHeartbeats 4000000
namespace Go.Proofs.YtfkgmbknfnhjoaaGreat.Ne
open Lib (hid)
open Go.RowKit
def fQ (r:Rl):bF:=(r.t,bX r.gd.toNat r.sz.toNat)
def nS (R:List Rl) (L:List bF):List Rl:=(aX R L L.length).2.2++gH R L
def aS (R:List Rl) (L:List bF) (jl most:Int):Int×List bF:=
 if bM R=false then(0,[]) else
 if 0<(aX R L L.length).1.length then(4,(aX R L L.length).1) else
 if (nS R L).length=0 then(2,L) else
 if most≤jl∧0<(aX R L L.length).2.1.length then(4,(aX R L L.length).2.1) else(3,(nS R L).map fQ)
def DV (code:Int) (L:List bF) (w:World) (x:Ending) (w':World):Prop:=
 ∃(E:List aH) (A:Option Addr) (n c:Nat),x=.returned (.tuple #[.int .i64 code,.slice A n c])∧E.map aH.o=L∧n=L.length∧Below w.heap.size w w'∧aI w' w.heap.size (.slice A n c) E
theorem qw.keep {w w':World} {base:Nat} {vo vb vr vl:Value} {Eo Eb:List aH} {Rr Rk:List Rl} (h:qw w base vo vb vr vl Eo Eb Rr Rk) (hb:Below w.heap.size w w'):qw w' base vo vb vr vl Eo Eb Rr Rk:=
 ⟨h.o.below hb,h.b.below hb,own_below h.r hb,own_below h.l hb⟩
set_option maxRecDepth 100000 in
theorem Cb (A A2:Option Addr) (n c n2 c2:Nat) (jl most:Int) (R:List Rl) (E:List aH) (L:List bF) (hL:E.map aH.o=L) (w:World) (B:Nat) (hB:B≤w.heap.size) (hR:aD w B A R) (hn:n=R.length) (hl:n≤1000000)
  (hA:aJ w B A2 E) (hn2:n2=E.length) (hc2:n2≤c2) (hl2:n2≤1000000) (hd: ∀e∈E,e.d.length≤1000000):
  Calls Tryz.prog 138 #[.slice A n c,.slice A2 n2 c2,.int .i64 jl,.int .i64 most] w (DV (aS R L jl most).1 (aS R L jl most).2 w):=by
 have HR:=hid hR
 have HN:=hid hn
 have HB:=hid hB
 have HA:=hid hA
 have iA:=hid hn2
 have HD:=hid hd
 have HL:=hid hL
 have zS:=hid hR.2
 clear hR hn hB hA hn2 hd hL
 cases har:bM R with
 |false=>
  have iP:=hid (show aS R L jl most=(0,[]) by unfold aS;rw[if_pos har])
  have Yl:=hid har
  clear har
  go_enter Tryz.func138,Tryz.ntmps138
  go_wp2_with fail
  refine(nZ A n c R _ B HB.out HR.out HN.out hl).mono ?_
  rw[Yl.out,EN]
  rintro e w1 ⟨rfl,hb⟩;obtain⟨xs,d,rfl⟩:=aB hb;clear hb
  go_wp2_with fail
  go_ret2
  exact⟨[],none,0,0,by rw[iP.out];rfl,by rw[iP.out];rfl,by rw[iP.out];rfl,by exact aA,aI.nil _ _⟩
 |true=>
  have jU:=hid har
  clear har
  by_cases hnm:jl<most
  ·go_enter Tryz.func138,Tryz.ntmps138
   go_wp2_with fail
   refine(nZ A n c R _ B HB.out HR.out HN.out hl).mono ?_
   rw[jU.out,zZ]
   rintro e w1 ⟨rfl,hb⟩;obtain⟨xs,d,rfl⟩:=aB hb;clear hb
   go_wp2_with fail
   refine(Bl A A2 n c n2 c2 R E _ B (by have:=HB.out;simp[size_ext,grow];omega) (HR.out.keep (by have:=HB.out;exact aA)) HN.out hl L HL.out (HA.out.keep (by have:=HB.out;exact aA)) iA.out hc2 hl2 HD.out jU.out).mono ?_
   rintro e w1 ⟨Ao,Ab,Ar,Al,no,nb,nr,nl,co,cb,cr,cl,Eo,Eb,rfl,hb,hrows,pF,Ap,hno,hnb,hnr,hnl⟩
   have zR:=hid (show qw w1 w.heap.size (.slice Ao no co) (.slice Ab nb cb) (.slice Ar nr cr) (.slice Al nl cl) Eo Eb (aX R L L.length).2.2 (gH R L) from ⟨hrows.o.base (by simp[size_ext,grow]),hrows.b.base (by simp[size_ext,grow]),aK hrows.r (by simp[size_ext,grow]),aK hrows.l (by simp[size_ext,grow])⟩)
   have HB1:=hid (show Below w.heap.size w w1 from Below.trans (by exact aA) (hb.mono (by simp[size_ext,grow])))
   have o8:=hid pF
   have zm:=hid Ap
   have oQ:=hid hno
   have jK:=hid hnb
   have gB:=hid hnr
   have zO:=hid hnl
   have hbounds:no≤1000000∧nb≤1000000∧nr≤1000000∧nl≤1000000:=by
    have h:=jS R L L.length
    have h2:=qC R L R.length
    rw[List.take_length] at h2
    have h3:L.length=n2:=by rw[←HL.out,List.length_map];exact iA.out.symm
    rw[←pF,←Ap,List.length_map,List.length_map] at h
    unfold gH at hnl
    have h4:=HN.out
    omega
   have KG:=hid (show nr=nb by
    have h:=(jS R L L.length).2
    rw[←Ap,List.length_map] at h
    omega)
   have WU:=HB1.out.size
   clear hb hrows pF Ap hno hnb hnr hnl
   go_wp2_with fail
   refine iM (fun W1=>qw W1 w.heap.size (.slice Ao no co) (.slice Ab nb cb) (.slice Ar nr cr) (.slice Al nl cl) Eo Eb (aX R L L.length).2.2 (gH R L)∧W1.heap[w1.heap.size]? =some (.cells #[.slice Ao no co,.slice Ab nb cb,.slice Ar nr cr,.slice Al nl cl] 193 (0,0))∧Below w.heap.size w W1) ⟨zR.out.keep (by exact aA),by exact heap_alloc_new _ _,by have h:=HB1.out;exact aA⟩ ?_
   rintro W1 ⟨mH,hx1,Cz⟩
   have BS:=hid mH
   have HX:=hid hx1
   have xQ:=hid Cz
   have hX1:=lt_of_block hx1
   have hsz1:=Cz.size
   have hr1:=mH.r
   have hl1:=mH.l
   rw[←gB.out] at hr1
   rw[←zO.out] at hl1
   have OV:=hid (nV R L L.length)
   have GJ:=hid (show∀r∈gH R L,r∈R from fun r hr=>(List.mem_filter.1 hr).1)
   have zL:=hid gB.out
   have zM:=hid zO.out
   have HRA:=hid (aD.of_cells (At.bq hr1) (fun r hr=>zS.out r (nV R L _ r hr)))
   have GR:=hid (aD.of_cells (At.bq hl1) (fun r hr=>zS.out r ((List.mem_filter.1 hr).1)))
   have hrl:(aX R L L.length).2.2.length≤1000000:=by rw[←gB.out];omega
   have hll:(gH R L).length≤1000000:=by rw[←zO.out];omega
   have BD:=hid (aI.nil W1 W1.heap.size)
   obtain⟨s0,s1,s2,s3,-⟩:=dw hx1
   clear mH hx1 Cz hr1 hl1
   go_loopw [11,28] (fun v i wr=> ∃(j kb cb':Nat) (wJ:Option Addr) (E':List aH),j≤nr∧i=.int .i64 j∧v=.slice wJ kb cb'∧E'.length=kb∧E'.map aH.o=([]:List bF)++((aX R L L.length).2.2.take j).map fQ∧Below W1.heap.size W1 wr∧aI wr W1.heap.size (.slice wJ kb cb') E') (fun _ i _=>nr-(intOf i).toNat)
   case atStart=>exact⟨0,0,0,none,[],Nat.zero_le _,rfl,rfl,rfl,rfl,Below.refl _ _,BD.out⟩
   case round=>
    obtain⟨j,kb,cb',wJ,E',hj,rfl,rfl,hel,pF,hbl,hown⟩:=hrel
    have oI:=hid hel
    have zI:=hid pF
    have aQ:=hid hbl
    have HOW:=hid hown
    have Iz:=hbl.size
    have hkb:kb≤2000000:=by
     have h1:=congrArg List.length pF
     have h2:(([]:List bF)).length≤1000000:=(by simp)
     simp only[List.length_map,List.length_append,List.length_take,List.length_nil] at h1 h2
     omega
    obtain⟨s0,s1,s2,s3,-⟩:=dw ((aQ.out.block _ hX1).trans HX.out)
    have WC:w1.heap.size<wr.heap.size:=Nat.lt_of_lt_of_le hX1 Iz
    clear hel pF hbl hown
    by_cases hlt:j<nr
    ·have HK:=hid (show j<((aX R L L.length).2.2).length by have:=zL.out;omega)
     obtain⟨rb,ro,hq,hrb,lQ⟩:=(HRA.out.keep aQ.out).get HK.out
     cases hq
     have kH:=qY jU.out (OV.out _ (List.getElem_mem HK.out))
     have O6:=hid (jH fQ (aX R L L.length).2.2 j HK.out)
     obtain⟨r,hr⟩: ∃r,((aX R L L.length).2.2)[j]'HK.out=r:=⟨_,rfl⟩
     rw[hr] at lQ kH O6
     clear hr
     obtain⟨hb0,hb4,hg0,hg4,-,-⟩:=kg kH
     obtain⟨t,sz,kd,lo,hi,gd,mu⟩:=r
     simp only at hb0 hb4 hg0 hg4
     obtain⟨s,rfl⟩:=Int.eq_ofNat_of_zero_le hb0
     obtain⟨g,rfl⟩:=Int.eq_ofNat_of_zero_le hg0
     obtain⟨c0,c1,c2',c3',yx,c5,c6⟩:=lQ
     simp only at c0 c1 c2' c3' yx c5 c6
     have oU:rb<wr.heap.size:=by omega
     have wm:(0:Int)≤(j:Int):=by omega
     have wu:(j:Int)<(nr:Int):=by omega
     have Tn:=hid (show fQ ⟨t,(s:Int),kd,lo,hi,(g:Int),mu⟩=(t,bX g s) from rfl)
     clear kH
     go_wp2_with fail
     refine(uP t kd lo hi s g mu _ (by omega) (by omega)).mono ?_
     rintro e w2 ⟨A3,c3,rfl,hb,ho⟩
     have HB2:=hid (show Below wr.heap.size wr w2 from Below.trans (by exact aA) (hb.mono (by simp)))
     have j_:=hid (aK (base':=W1.heap.size) ho (by simp;omega))
     have GK:=hid (show wr.ownsRow W1.heap.size 111 2 (.slice wJ kb cb') kb (cellsE E') by have h:=HOW.out.1;rwa [oI.out] at h)
     have hsz2:=HB2.out.size
     clear hb ho
     go_wp2_with (at_builtin;refine dY W1 rfl (.tmp 32) (.tmp 35) 25 rfl 111 Tryz.underlying25 (.agg #[.int .i64 0,.slice none 0 0]) 2 32 dV rfl (by decide) (by decide) (.slice wJ kb cb') kb (cellsE E') rfl (by exact own_below GK.out (by have:=HB2.out;exact aA)) (w2.heap.size+1) (some ⟨w2.heap.size,0,none⟩) 1 1 [.int .i64 t,.slice A3 s c3] rfl rfl (by omega) (by exact At.gW _ _ _ _ _ rfl rfl) (by intro u hu;simp at hu;rcases hu with rfl|rfl<;>rfl) (by have h1:=aQ.out;have h2:=HB2.out;exact aA) ?_;intro A4 c4 w3 ho3 hc3 hb3 hg3;have gZ:=hid ho3;have HB3:=hid hb3;have sQ:=hid hg3;clear ho3 hc3 hb3 hg3)
     have uf:=hid (aI.jO (tt:=t) (dd:=bX g s) (A2:=A3) (c2:=c3) (HOW.out.below (HB2.out.trans (Below.alloc (Below.refl _ w2) hsz2 _))) (by rw[aP];exact own_below j_.out (Below.alloc (Below.refl _ w2) (aaE _) _)) (by rw[oI.out,aP];exact gZ.out) sQ.out)
     go_roundw
     case rel=>exact⟨j+1,kb+1,c4,A4,_,by omega,by go_num,rfl,by simp[oI.out],by rw[List.map_append,zI.out,O6.out,Tn.out,List.append_assoc];rfl,HB3.out,uf.out⟩
     case measure=>simp[intOf];omega
    ·obtain rfl:j=nr:=by omega
     have GI:=hid (show E'.map aH.o=([]:List bF)++((aX R L L.length).2.2).map fQ by have h:=zI.out;rwa [List.take_of_length_le (by have:=zL.out;omega)] at h)
     go_wp2_with fail
     go_loopw [11,50] (fun v i wr=> ∃(j kb cb':Nat) (wJ:Option Addr) (E':List aH),j≤nl∧i=.int .i64 j∧v=.slice wJ kb cb'∧E'.length=kb∧E'.map aH.o=((aX R L L.length).2.2.map fQ)++((gH R L).take j).map fQ∧Below W1.heap.size W1 wr∧aI wr W1.heap.size (.slice wJ kb cb') E') (fun _ i _=>nl-(intOf i).toNat)
     case atStart=>exact⟨0,kb,cb',wJ,E',Nat.zero_le _,rfl,rfl,oI.out,by rw[GI.out];simp,aQ.out,HOW.out⟩
     case round=>
      obtain⟨j,kb,cb',wJ,E',hj,rfl,rfl,hel,pF,hbl,hown⟩:=hrel
      have oI:=hid hel
      have zI:=hid pF
      have aQ:=hid hbl
      have HOW:=hid hown
      have Iz:=hbl.size
      have hkb:kb≤2000000:=by
       have h1:=congrArg List.length pF
       have h2:(((aX R L L.length).2.2.map fQ)).length≤1000000:=(by rw[List.length_map];exact hrl)
       simp only[List.length_map,List.length_append,List.length_take,List.length_nil] at h1 h2
       omega
      obtain⟨s0,s1,s2,s3,-⟩:=dw ((aQ.out.block _ hX1).trans HX.out)
      have WC:w1.heap.size<wr.heap.size:=Nat.lt_of_lt_of_le hX1 Iz
      clear hel pF hbl hown
      by_cases hlt:j<nl
      ·have HK:=hid (show j<((gH R L)).length by have:=zM.out;omega)
       obtain⟨rb,ro,hq,hrb,lQ⟩:=(GR.out.keep aQ.out).get HK.out
       cases hq
       have kH:=qY jU.out (GJ.out _ (List.getElem_mem HK.out))
       have O6:=hid (jH fQ (gH R L) j HK.out)
       obtain⟨r,hr⟩: ∃r,((gH R L))[j]'HK.out=r:=⟨_,rfl⟩
       rw[hr] at lQ kH O6
       clear hr
       obtain⟨hb0,hb4,hg0,hg4,-,-⟩:=kg kH
       obtain⟨t,sz,kd,lo,hi,gd,mu⟩:=r
       simp only at hb0 hb4 hg0 hg4
       obtain⟨s,rfl⟩:=Int.eq_ofNat_of_zero_le hb0
       obtain⟨g,rfl⟩:=Int.eq_ofNat_of_zero_le hg0
       obtain⟨c0,c1,c2',c3',yx,c5,c6⟩:=lQ
       simp only at c0 c1 c2' c3' yx c5 c6
       have oU:rb<wr.heap.size:=by omega
       have wm:(0:Int)≤(j:Int):=by omega
       have wu:(j:Int)<(nl:Int):=by omega
       have Tn:=hid (show fQ ⟨t,(s:Int),kd,lo,hi,(g:Int),mu⟩=(t,bX g s) from rfl)
       clear kH
       go_wp2_with fail
       refine(uP t kd lo hi s g mu _ (by omega) (by omega)).mono ?_
       rintro e w2 ⟨A3,c3,rfl,hb,ho⟩
       have HB2:=hid (show Below wr.heap.size wr w2 from Below.trans (by exact aA) (hb.mono (by simp)))
       have j_:=hid (aK (base':=W1.heap.size) ho (by simp;omega))
       have GK:=hid (show wr.ownsRow W1.heap.size 111 2 (.slice wJ kb cb') kb (cellsE E') by have h:=HOW.out.1;rwa [oI.out] at h)
       have hsz2:=HB2.out.size
       clear hb ho
       go_wp2_with (at_builtin;refine dY W1 rfl (.tmp 54) (.tmp 57) 25 rfl 111 Tryz.underlying25 (.agg #[.int .i64 0,.slice none 0 0]) 2 32 dV rfl (by decide) (by decide) (.slice wJ kb cb') kb (cellsE E') rfl (by exact own_below GK.out (by have:=HB2.out;exact aA)) (w2.heap.size+1) (some ⟨w2.heap.size,0,none⟩) 1 1 [.int .i64 t,.slice A3 s c3] rfl rfl (by omega) (by exact At.gW _ _ _ _ _ rfl rfl) (by intro u hu;simp at hu;rcases hu with rfl|rfl<;>rfl) (by have h1:=aQ.out;have h2:=HB2.out;exact aA) ?_;intro A4 c4 w3 ho3 hc3 hb3 hg3;have gZ:=hid ho3;have HB3:=hid hb3;have sQ:=hid hg3;clear ho3 hc3 hb3 hg3)
       have uf:=hid (aI.jO (tt:=t) (dd:=bX g s) (A2:=A3) (c2:=c3) (HOW.out.below (HB2.out.trans (Below.alloc (Below.refl _ w2) hsz2 _))) (by rw[aP];exact own_below j_.out (Below.alloc (Below.refl _ w2) (aaE _) _)) (by rw[oI.out,aP];exact gZ.out) sQ.out)
       go_roundw
       case rel=>exact⟨j+1,kb+1,c4,A4,_,by omega,by go_num,rfl,by simp[oI.out],by rw[List.map_append,zI.out,O6.out,Tn.out,List.append_assoc];rfl,HB3.out,uf.out⟩
       case measure=>simp[intOf];omega
      ·obtain rfl:j=nl:=by omega
       have GI:=hid (show E'.map aH.o=((aX R L L.length).2.2.map fQ)++((gH R L)).map fQ by have h:=zI.out;rwa [List.take_of_length_le (by have:=zM.out;omega)] at h)
       have xS:=hid (show E'.map aH.o=(nS R L).map fQ by rw[GI.out];unfold nS;rw[List.map_append])
       have tH:=hid (show kb=(nS R L).length by have h:=congrArg List.length xS.out;rw[List.length_map,List.length_map] at h;rw[←h];exact oI.out.symm)
       by_cases h0:0<no
       ·have iP:=hid (show aS R L jl most=(4,(aX R L L.length).1) by
         unfold aS;rw[if_neg (by rw[jU.out];simp),if_pos (by rw[←o8.out,List.length_map,←oQ.out];exact h0)])
        have h1:(0:Int)<(no:Int):=by omega
        go_wp2_with fail
        go_quiet (fail)
        go_wp2_with fail
        go_ret2
        exact⟨Eo,Ao,no,co,by rw[iP.out];rfl,by rw[iP.out];exact o8.out,by rw[iP.out];simp only;rw[←o8.out,List.length_map];exact oQ.out,by have h:=xQ.out.trans (aQ.out.mono hsz1);exact aA,by exact(BS.out.keep aQ.out).o⟩
       ·obtain rfl:no=0:=by omega
        have Gl:=hid (show¬0<(aX R L L.length).1.length by rw[←o8.out,List.length_map,←oQ.out];omega)
        clear h0
        by_cases hk0:0<kb
        ·have iP:=hid (show aS R L jl most=(3,(nS R L).map fQ) by
          unfold aS;rw[if_neg (by rw[jU.out];simp),if_neg Gl.out,if_neg (by rw[←tH.out];omega),if_neg (fun h=>by omega)])
         have hk1:(0:Int)<(kb:Int):=by omega
         go_wp2_with fail
         go_ret2
         exact⟨E',wJ,kb,cb',by rw[iP.out];rfl,by rw[iP.out];exact xS.out,by rw[iP.out,List.length_map];exact tH.out,xQ.out.trans (aQ.out.mono hsz1),aI.base HOW.out hsz1⟩
        ·obtain rfl:kb=0:=by omega
         have iP:=hid (show aS R L jl most=(2,L) by
          unfold aS;rw[if_neg (by rw[jU.out];simp),if_neg Gl.out,if_pos tH.out.symm])
         obtain rfl:nb=0:=by have h1:=KG.out;have h2:=zL.out;have h3:=tH.out;unfold nS at h3;rw[List.length_append] at h3;omega
         go_wp2_with fail
         refine(qD A2 n2 c2 E _ B (by have:=HB.out;have:=aQ.out.size;omega) (by exact HA.out.keep ((xQ.out.trans (aQ.out.mono hsz1)).mono HB.out)) iA.out hl2 (by intro e he;have:=HD.out e he;omega)).mono ?_
         rw[HL.out]
         rintro e w9 ⟨E9,A9,c9,rfl,TU,jf,kM⟩
         have GH:=hid TU
         have oP:=hid jf
         have qm:=hid kM
         clear TU jf kM
         go_wp2_with fail
         go_ret2
         exact⟨E9,A9,L.length,c9,by rw[iP.out];rfl,by rw[iP.out];exact GH.out,by rw[iP.out],(xQ.out.trans (aQ.out.mono hsz1)).trans (oP.out.mono (by have:=aQ.out.size;omega)),qm.out.base (by have:=aQ.out.size;omega)⟩
  ·have aas:decide (jl<most)=false:=by simpa using hnm
   go_enter Tryz.func138,Tryz.ntmps138
   go_wp2_with fail
   refine(nZ A n c R _ B HB.out HR.out HN.out hl).mono ?_
   rw[jU.out,zZ]
   rintro e w1 ⟨rfl,hb⟩;obtain⟨xs,d,rfl⟩:=aB hb;clear hb
   go_wp2_with fail
   refine(Bl A A2 n c n2 c2 R E _ B (by have:=HB.out;simp[size_ext,grow];omega) (HR.out.keep (by have:=HB.out;exact aA)) HN.out hl L HL.out (HA.out.keep (by have:=HB.out;exact aA)) iA.out hc2 hl2 HD.out jU.out).mono ?_
   rintro e w1 ⟨Ao,Ab,Ar,Al,no,nb,nr,nl,co,cb,cr,cl,Eo,Eb,rfl,hb,hrows,pF,Ap,hno,hnb,hnr,hnl⟩
   have zR:=hid (show qw w1 w.heap.size (.slice Ao no co) (.slice Ab nb cb) (.slice Ar nr cr) (.slice Al nl cl) Eo Eb (aX R L L.length).2.2 (gH R L) from ⟨hrows.o.base (by simp[size_ext,grow]),hrows.b.base (by simp[size_ext,grow]),aK hrows.r (by simp[size_ext,grow]),aK hrows.l (by simp[size_ext,grow])⟩)
   have HB1:=hid (show Below w.heap.size w w1 from Below.trans (by exact aA) (hb.mono (by simp[size_ext,grow])))
   have o8:=hid pF
   have zm:=hid Ap
   have oQ:=hid hno
   have jK:=hid hnb
   have gB:=hid hnr
   have zO:=hid hnl
   have hbounds:no≤1000000∧nb≤1000000∧nr≤1000000∧nl≤1000000:=by
    have h:=jS R L L.length
    have h2:=qC R L R.length
    rw[List.take_length] at h2
    have h3:L.length=n2:=by rw[←HL.out,List.length_map];exact iA.out.symm
    rw[←pF,←Ap,List.length_map,List.length_map] at h
    unfold gH at hnl
    have h4:=HN.out
    omega
   have KG:=hid (show nr=nb by
    have h:=(jS R L L.length).2
    rw[←Ap,List.length_map] at h
    omega)
   have WU:=HB1.out.size
   clear hb hrows pF Ap hno hnb hnr hnl
   have BR:=hid (show nb=(aX R L L.length).2.1.length by rw[←zm.out,List.length_map];exact jK.out)
   by_cases hb0:nb=0
   ·subst hb0
    have YC:=hid (show¬(most≤jl∧0<(aX R L L.length).2.1.length) by rw[←BR.out];omega)
    go_wp2_with fail
    refine iM (fun W1=>qw W1 w.heap.size (.slice Ao no co) (.slice Ab 0 cb) (.slice Ar nr cr) (.slice Al nl cl) Eo Eb (aX R L L.length).2.2 (gH R L)∧W1.heap[w1.heap.size]? =some (.cells #[.slice Ao no co,.slice Ab 0 cb,.slice Ar nr cr,.slice Al nl cl] 193 (0,0))∧Below w.heap.size w W1) ⟨zR.out.keep (by exact aA),by exact heap_alloc_new _ _,by have h:=HB1.out;exact aA⟩ ?_
    rintro W1 ⟨mH,hx1,Cz⟩
    have BS:=hid mH
    have HX:=hid hx1
    have xQ:=hid Cz
    have hX1:=lt_of_block hx1
    have hsz1:=Cz.size
    have hr1:=mH.r
    have hl1:=mH.l
    rw[←gB.out] at hr1
    rw[←zO.out] at hl1
    have OV:=hid (nV R L L.length)
    have GJ:=hid (show∀r∈gH R L,r∈R from fun r hr=>(List.mem_filter.1 hr).1)
    have zL:=hid gB.out
    have zM:=hid zO.out
    have HRA:=hid (aD.of_cells (At.bq hr1) (fun r hr=>zS.out r (nV R L _ r hr)))
    have GR:=hid (aD.of_cells (At.bq hl1) (fun r hr=>zS.out r ((List.mem_filter.1 hr).1)))
    have hrl:(aX R L L.length).2.2.length≤1000000:=by rw[←gB.out];omega
    have hll:(gH R L).length≤1000000:=by rw[←zO.out];omega
    have BD:=hid (aI.nil W1 W1.heap.size)
    obtain⟨s0,s1,s2,s3,-⟩:=dw hx1
    clear mH hx1 Cz hr1 hl1
    go_loopw [11,50] (fun v i wr=> ∃(j kb cb':Nat) (wJ:Option Addr) (E':List aH),j≤nl∧i=.int .i64 j∧v=.slice wJ kb cb'∧E'.length=kb∧E'.map aH.o=([]:List bF)++((gH R L).take j).map fQ∧Below W1.heap.size W1 wr∧aI wr W1.heap.size (.slice wJ kb cb') E') (fun _ i _=>nl-(intOf i).toNat)
    case atStart=>exact⟨0,0,0,none,[],Nat.zero_le _,rfl,rfl,rfl,rfl,Below.refl _ _,BD.out⟩
    case round=>
     obtain⟨j,kb,cb',wJ,E',hj,rfl,rfl,hel,pF,hbl,hown⟩:=hrel
     have oI:=hid hel
     have zI:=hid pF
     have aQ:=hid hbl
     have HOW:=hid hown
     have Iz:=hbl.size
     have hkb:kb≤2000000:=by
      have h1:=congrArg List.length pF
      have h2:(([]:List bF)).length≤1000000:=(by simp)
      simp only[List.length_map,List.length_append,List.length_take,List.length_nil] at h1 h2
      omega
     obtain⟨s0,s1,s2,s3,-⟩:=dw ((aQ.out.block _ hX1).trans HX.out)
     have WC:w1.heap.size<wr.heap.size:=Nat.lt_of_lt_of_le hX1 Iz
     clear hel pF hbl hown
     by_cases hlt:j<nl
     ·have HK:=hid (show j<((gH R L)).length by have:=zM.out;omega)
      obtain⟨rb,ro,hq,hrb,lQ⟩:=(GR.out.keep aQ.out).get HK.out
      cases hq
      have kH:=qY jU.out (GJ.out _ (List.getElem_mem HK.out))
      have O6:=hid (jH fQ (gH R L) j HK.out)
      obtain⟨r,hr⟩: ∃r,((gH R L))[j]'HK.out=r:=⟨_,rfl⟩
      rw[hr] at lQ kH O6
      clear hr
      obtain⟨hb0,hb4,hg0,hg4,-,-⟩:=kg kH
      obtain⟨t,sz,kd,lo,hi,gd,mu⟩:=r
      simp only at hb0 hb4 hg0 hg4
      obtain⟨s,rfl⟩:=Int.eq_ofNat_of_zero_le hb0
      obtain⟨g,rfl⟩:=Int.eq_ofNat_of_zero_le hg0
      obtain⟨c0,c1,c2',c3',yx,c5,c6⟩:=lQ
      simp only at c0 c1 c2' c3' yx c5 c6
      have oU:rb<wr.heap.size:=by omega
      have wm:(0:Int)≤(j:Int):=by omega
      have wu:(j:Int)<(nl:Int):=by omega
      have Tn:=hid (show fQ ⟨t,(s:Int),kd,lo,hi,(g:Int),mu⟩=(t,bX g s) from rfl)
      clear kH
      go_wp2_with fail
      refine(uP t kd lo hi s g mu _ (by omega) (by omega)).mono ?_
      rintro e w2 ⟨A3,c3,rfl,hb,ho⟩
      have HB2:=hid (show Below wr.heap.size wr w2 from Below.trans (by exact aA) (hb.mono (by simp)))
      have j_:=hid (aK (base':=W1.heap.size) ho (by simp;omega))
      have GK:=hid (show wr.ownsRow W1.heap.size 111 2 (.slice wJ kb cb') kb (cellsE E') by have h:=HOW.out.1;rwa [oI.out] at h)
      have hsz2:=HB2.out.size
      clear hb ho
      go_wp2_with (at_builtin;refine dY W1 rfl (.tmp 54) (.tmp 57) 25 rfl 111 Tryz.underlying25 (.agg #[.int .i64 0,.slice none 0 0]) 2 32 dV rfl (by decide) (by decide) (.slice wJ kb cb') kb (cellsE E') rfl (by exact own_below GK.out (by have:=HB2.out;exact aA)) (w2.heap.size+1) (some ⟨w2.heap.size,0,none⟩) 1 1 [.int .i64 t,.slice A3 s c3] rfl rfl (by omega) (by exact At.gW _ _ _ _ _ rfl rfl) (by intro u hu;simp at hu;rcases hu with rfl|rfl<;>rfl) (by have h1:=aQ.out;have h2:=HB2.out;exact aA) ?_;intro A4 c4 w3 ho3 hc3 hb3 hg3;have gZ:=hid ho3;have HB3:=hid hb3;have sQ:=hid hg3;clear ho3 hc3 hb3 hg3)
      have uf:=hid (aI.jO (tt:=t) (dd:=bX g s) (A2:=A3) (c2:=c3) (HOW.out.below (HB2.out.trans (Below.alloc (Below.refl _ w2) hsz2 _))) (by rw[aP];exact own_below j_.out (Below.alloc (Below.refl _ w2) (aaE _) _)) (by rw[oI.out,aP];exact gZ.out) sQ.out)
      go_roundw
      case rel=>exact⟨j+1,kb+1,c4,A4,_,by omega,by go_num,rfl,by simp[oI.out],by rw[List.map_append,zI.out,O6.out,Tn.out,List.append_assoc];rfl,HB3.out,uf.out⟩
      case measure=>simp[intOf];omega
     ·obtain rfl:j=nl:=by omega
      have GI:=hid (show E'.map aH.o=([]:List bF)++((gH R L)).map fQ by have h:=zI.out;rwa [List.take_of_length_le (by have:=zM.out;omega)] at h)
      have xS:=hid (show E'.map aH.o=(nS R L).map fQ by
       have h1:=KG.out
       have h2:=zL.out
       rw[GI.out];unfold nS
       rw[List.length_eq_zero_iff.1 (h2.symm.trans h1)];rfl)
      have tH:=hid (show kb=(nS R L).length by have h:=congrArg List.length xS.out;rw[List.length_map,List.length_map] at h;rw[←h];exact oI.out.symm)
      by_cases h0:0<no
      ·have iP:=hid (show aS R L jl most=(4,(aX R L L.length).1) by
        unfold aS;rw[if_neg (by rw[jU.out];simp),if_pos (by rw[←o8.out,List.length_map,←oQ.out];exact h0)])
       have h1:(0:Int)<(no:Int):=by omega
       go_wp2_with fail
       go_quiet (fail)
       go_wp2_with fail
       go_ret2
       exact⟨Eo,Ao,no,co,by rw[iP.out];rfl,by rw[iP.out];exact o8.out,by rw[iP.out];simp only;rw[←o8.out,List.length_map];exact oQ.out,by have h:=xQ.out.trans (aQ.out.mono hsz1);exact aA,by exact(BS.out.keep aQ.out).o⟩
      ·obtain rfl:no=0:=by omega
       have Gl:=hid (show¬0<(aX R L L.length).1.length by rw[←o8.out,List.length_map,←oQ.out];omega)
       clear h0
       by_cases hk0:0<kb
       ·have iP:=hid (show aS R L jl most=(3,(nS R L).map fQ) by
         unfold aS;rw[if_neg (by rw[jU.out];simp),if_neg Gl.out,if_neg (by rw[←tH.out];omega),if_neg YC.out])
        have hk1:(0:Int)<(kb:Int):=by omega
        go_wp2_with fail
        go_ret2
        exact⟨E',wJ,kb,cb',by rw[iP.out];rfl,by rw[iP.out];exact xS.out,by rw[iP.out,List.length_map];exact tH.out,xQ.out.trans (aQ.out.mono hsz1),aI.base HOW.out hsz1⟩
       ·obtain rfl:kb=0:=by omega
        have iP:=hid (show aS R L jl most=(2,L) by
         unfold aS;rw[if_neg (by rw[jU.out];simp),if_neg Gl.out,if_pos tH.out.symm])
        go_wp2_with fail
        refine(qD A2 n2 c2 E _ B (by have:=HB.out;have:=aQ.out.size;omega) (by exact HA.out.keep ((xQ.out.trans (aQ.out.mono hsz1)).mono HB.out)) iA.out hl2 (by intro e he;have:=HD.out e he;omega)).mono ?_
        rw[HL.out]
        rintro e w9 ⟨E9,A9,c9,rfl,TU,jf,kM⟩
        have GH:=hid TU
        have oP:=hid jf
        have qm:=hid kM
        clear TU jf kM
        go_wp2_with fail
        go_ret2
        exact⟨E9,A9,L.length,c9,by rw[iP.out];rfl,by rw[iP.out];exact GH.out,by rw[iP.out],(xQ.out.trans (aQ.out.mono hsz1)).trans (oP.out.mono (by have:=aQ.out.size;omega)),qm.out.base (by have:=aQ.out.size;omega)⟩
   ·have hb1:(0:Int)<(nb:Int):=by omega
    have hb2:((nb:Int)==0)=false:=by simp;omega
    have hb3:0<nb:=by omega
    by_cases h0:0<no
    ·have iP:=hid (show aS R L jl most=(4,(aX R L L.length).1) by
      unfold aS;rw[if_neg (by rw[jU.out];simp),if_pos (by rw[←o8.out,List.length_map,←oQ.out];exact h0)])
     have h1:(0:Int)<(no:Int):=by omega
     go_wp2_with fail
     go_quiet (fail)
     go_wp2_with fail
     go_ret2
     exact⟨Eo,Ao,no,co,by rw[iP.out];rfl,by rw[iP.out];exact o8.out,by rw[iP.out];simp only;rw[←o8.out,List.length_map];exact oQ.out,by have h:=HB1.out;exact aA,by exact(zR.out.keep (by exact aA)).o⟩
    ·obtain rfl:no=0:=by omega
     have Gl:=hid (show¬0<(aX R L L.length).1.length by rw[←o8.out,List.length_map,←oQ.out];omega)
     have iP:=hid (show aS R L jl most=(4,(aX R L L.length).2.1) by
      unfold aS;rw[if_neg (by rw[jU.out];simp),if_neg Gl.out,if_neg (by have h1:=KG.out;have h2:=gB.out;unfold nS;rw[List.length_append];omega),if_pos ⟨by omega,by rw[←BR.out];exact hb3⟩])
     clear h0
     go_wp2_with fail
     go_quiet (fail)
     go_wp2_with fail
     go_ret2
     exact⟨Eb,Ab,nb,cb,by rw[iP.out];rfl,by rw[iP.out];exact zm.out,by rw[iP.out];exact BR.out,by have h:=HB1.out;exact aA,by exact(zR.out.keep (by exact aA)).b⟩
def Wi (code:Int) (L:List bF) (w:World) (x:Ending) (w':World):Prop:=
 ∃(E:List aH) (A:Option Addr) (n c:Nat),x=.returned (.tuple #[.int .i64 code,.slice A n c])∧E.map aH.o=L∧n=L.length∧n≤c∧Below w.heap.size w w'∧aJ w' w'.heap.size A E
structure vQ (wr:World) (base:Nat) (va vb vc:Value) (na nb nc:Nat) (Ea Eb Ec:List aH):Prop where
 a:wr.ownsRow base 111 2 va na (cellsE Ea)
 b:wr.ownsRow base 111 2 vb nb (cellsE Eb)
 c:wr.ownsRow base 111 2 vc nc (cellsE Ec)
 d: ∀e∈Ec,wr.ownsRow base 5 1 e.v e.d.length (e.d.map bv)
 ab: ∀g,va.ownBlock=some g→vb.ownBlock≠some g
 ac: ∀g,va.ownBlock=some g→vc.ownBlock≠some g
 bc: ∀g,vb.ownBlock=some g→vc.ownBlock≠some g
section
variable {wr w':World} {base na nb nc:Nat} {va vb vc v3:Value} {Ea Eb Ec:List aH} {e:aH}
theorem vQ.keep (h:vQ wr base va vb vc na nb nc Ea Eb Ec) (hb:Below wr.heap.size wr w'):vQ w' base va vb vc na nb nc Ea Eb Ec:=
 ⟨own_below h.a hb,own_below h.b hb,own_below h.c hb,fun x hx=>own_below (h.d x hx) hb,h.ab,h.ac,h.bc⟩
theorem yQ {v:Value} {n:Nat} {xs:List Value} (h:wr.ownsRow base 111 2 v n xs): ∀r,v.ownBlock=some r→r<base∨(∃o:Obj,wr.heap[r]? =some o∧o.isCells=false)∨(∃cur e',wr.heap[r]? =some (.cells cur e' (0,0))∧e'≠5):=fun r e=>by
 obtain⟨cur,hc⟩:=bL h e
 exact .inr (.inr ⟨cur,111,hc,by decide⟩)
theorem vQ.SH (h:vQ wr base va vb vc na nb nc Ea Eb Ec) (h3:w'.ownsRow base 111 2 v3 (na+1) (cellsE Ea++[.int .i64 e.t,e.v])) (hg:wr.grownBy w' va.ownBlock) (hw:iN wr w' va v3):vQ w' base v3 vb vc (na+1) nb nc (Ea++[e]) Eb Ec:=
 ⟨by rw[fJ];exact h3,eH h.b hg (fun k hk hkr=>h.ab k hkr.symm hk),eH h.c hg (fun k hk hkr=>h.ac k hkr.symm hk),fun x hx=>aW (h.d x hx) hg (yQ h.a),
  hw.apart h.ab (fun g e=>eY h.b e),hw.apart h.ac (fun g e=>eY h.c e),h.bc⟩
theorem vQ.pushB (h:vQ wr base va vb vc na nb nc Ea Eb Ec) (h3:w'.ownsRow base 111 2 v3 (nb+1) (cellsE Eb++[.int .i64 e.t,e.v])) (hg:wr.grownBy w' vb.ownBlock) (hw:iN wr w' vb v3):vQ w' base va v3 vc na (nb+1) nc Ea (Eb++[e]) Ec:=
 ⟨eH h.a hg (fun k hk hkr=>h.ab k hk hkr.symm),by rw[fJ];exact h3,eH h.c hg (fun k hk hkr=>h.bc k hkr.symm hk),fun x hx=>aW (h.d x hx) hg (yQ h.b),
  fun g e e2=>hw.apart (fun g e e2=>h.ab g e2 e) (fun g e=>eY h.a e) g e2 e,h.ac,hw.apart h.bc (fun g e=>eY h.c e)⟩
theorem vQ.SI (h:vQ wr base va vb vc na nb nc Ea Eb Ec) (h2:wr.ownsRow base 5 1 e.v e.d.length (e.d.map bv)) (h3:w'.ownsRow base 111 2 v3 (nc+1) (cellsE Ec++[.int .i64 e.t,e.v])) (hg:wr.grownBy w' vc.ownBlock) (hw:iN wr w' vc v3):vQ w' base va vb v3 na nb (nc+1) Ea Eb (Ec++[e]):=
 ⟨eH h.a hg (fun k hk hkr=>h.ac k hk hkr.symm),eH h.b hg (fun k hk hkr=>h.bc k hk hkr.symm),by rw[fJ];exact h3,fun x hx=>by
   rcases List.mem_append.1 hx with hx|hx
   ·exact aW (h.d x hx) hg (yQ h.c)
   ·simp only[List.mem_singleton] at hx;subst hx;exact aW h2 hg (yQ h.c),
  h.ab,fun g e e2=>hw.apart (fun g e e2=>h.ac g e2 e) (fun g e=>eY h.a e) g e2 e,fun g e e2=>hw.apart (fun g e e2=>h.bc g e2 e) (fun g e=>eY h.b e) g e2 e⟩
theorem vQ.nil (wr:World) (base:Nat):vQ wr base (.slice none 0 0) (.slice none 0 0) (.slice none 0 0) 0 0 0 [] [] []:=
 ⟨aN _ _ _ _,aN _ _ _ _,aN _ _ _ _,(fun _ h=>by cases h),(fun _ h=>by cases h),(fun _ h=>by cases h),(fun _ h=>by cases h)⟩
end
set_option maxRecDepth 100000 in
theorem AX (A A2:Option Addr) (n c n2 c2:Nat) (jl most:Int) (R:List Rl) (E:List aH) (L:List bF) (hL:E.map aH.o=L) (w:World) (B:Nat) (hB:B≤w.heap.size) (hR:aD w B A R) (hn:n=R.length) (hl:n≤1000000)
  (hA:aJ w B A2 E) (hn2:n2=E.length) (hc2:n2≤c2) (hl2:n2≤1000000) (hd: ∀e∈E,e.d.length≤1000000):
  Calls Tryz.prog 100 #[.slice A n c,.slice A2 n2 c2,.int .i64 jl,.int .i64 most] w (Wi (aS R L jl most).1 (aS R L jl most).2 w):=by
 have HR:=hid hR
 have HN:=hid hn
 have HB:=hid hB
 have HA:=hid hA
 have iA:=hid hn2
 have HD:=hid hd
 have HL:=hid hL
 clear hR hn hB hA hn2 hd hL
 cases har:bM R with
 |false=>
  have iP:=hid (show aS R L jl most=(0,[]) by unfold aS;rw[if_pos har])
  have Yl:=hid har
  clear har
  go_enter Tryz.func100,Tryz.ntmps100
  go_wp2_with fail
  refine(xZ A n c R _ B HB.out HR.out HN.out hl).mono ?_
  rw[Yl.out]
  rintro e w1 ⟨rfl,hb⟩;obtain⟨xs,d,rfl⟩:=aB hb;clear hb
  go_wp2_with fail
  go_ret2
  exact⟨[],none,0,0,by rw[iP.out];rfl,by rw[iP.out];rfl,by rw[iP.out];rfl,aaE _,by exact aA,At.nil _ _ _,fun _ h=>by cases h⟩
 |true=>
  have jU:=hid har
  clear har
  go_enter Tryz.func100,Tryz.ntmps100
  go_wp2_with fail
  refine(xZ A n c R _ B HB.out HR.out HN.out hl).mono ?_
  rw[jU.out]
  rintro e w1 ⟨rfl,hb⟩;obtain⟨xs,d,rfl⟩:=aB hb;clear hb
  go_wp2_with fail
  go_loopw [10,11,12,13] (fun va vb vc i wr=> ∃(k no co nb cb nr cr:Nat) (Ao Ab Ar:Option Addr) (Eo Eb Ec:List aH),k≤n2∧i=.int .i64 k∧va=.slice Ao no co∧vb=.slice Ab nb cb∧vc=.slice Ar nr cr∧Below w.heap.size w wr∧vQ wr w.heap.size (.slice Ao no co) (.slice Ab nb cb) (.slice Ar nr cr) no nb nr Eo Eb Ec∧Eo.map aH.o=(aX R L k).1∧Eb.map aH.o=(aX R L k).2.1∧Ec.map aH.o=(aX R L k).2.2.map fQ∧no=Eo.length∧nb=Eb.length∧nr=Ec.length∧(∀e∈Eo,e∈E)∧(∀e∈Eb,e∈E)) (fun _ _ _ i _=>n2-(intOf i).toNat)
  case atStart=>exact⟨0,0,0,0,0,0,0,none,none,none,[],[],[],Nat.zero_le _,rfl,rfl,rfl,rfl,by exact aA,vQ.nil _ _,rfl,rfl,rfl,rfl,rfl,rfl,(fun _ h=>by cases h),(fun _ h=>by cases h)⟩
  case round=>
   obtain⟨k,no,co,nb,cb,nr,cr,Ao,Ab,Ar,Eo,Eb,Ec,hk,rfl,rfl,rfl,rfl,hbl,ht,pF,Ap,Iu,hno,hnb,hnr,hmo,hmb⟩:=hrel
   have cu:=hid hbl
   have HT:=hid ht
   have o8:=hid pF
   have zm:=hid Ap
   have J4:=hid Iu
   have oQ:=hid hno
   have jK:=hid hnb
   have gB:=hid hnr
   have Vg:=hid hmo
   have Vf:=hid hmb
   have hsz:=hbl.size
   have hnk:no+nb≤k∧nr≤k:=by
    have h:=jS R L k
    rw[←pF,←Ap,List.length_map,List.length_map] at h
    have h2:=congrArg List.length Iu
    simp only[List.length_map] at h2
    omega
   clear hbl ht pF Ap Iu hno hnb hnr hmo hmb
   by_cases hlt:k<n2
   ·have HK:=hid (show k<E.length by have:=iA.out;omega)
    obtain⟨b,o,rfl,tL,hx,hy⟩:=(HA.out.keep (cu.out.mono HB.out)).get HK.out
    obtain⟨e0,he0⟩: ∃e0,E[k]'HK.out=e0:=⟨_,rfl⟩
    have hat:=HA.out.2 _ (List.getElem_mem HK.out)
    have hdl:=HD.out _ (List.getElem_mem HK.out)
    have hmem:=List.getElem_mem HK.out
    have hlk:L[k]? =some e0.o:=by rw[←HL.out,List.getElem?_map,List.getElem?_eq_getElem HK.out,he0];rfl
    rw[he0] at hx hy hat hdl hmem
    obtain⟨t,d,a,ce⟩:=e0
    have hbz:b<wr.heap.size:=by have:=HB.out;omega
    have CS:(0:Int)≤(k:Int):=by omega
    have Fj:(k:Int)<(n2:Int):=by omega
    have hck:(k:Int)≤(c2:Int):=by omega
    have HAT:=hid hat
    have BG:=hid hlk
    have VR:=hid hmem
    unfold aH.v at hy
    simp only at hx hy hat hdl
    clear hat he0 hlk hmem
    go_wp2_with fail
    refine(Jz A n c R t a ce d _ B (by have:=HB.out;omega) (by exact HR.out.keep (cu.out.mono HB.out)) HN.out hl).mono ?_
    cases hfi:nM R (t,d) with
    |none=>
     unfold Di
     have gD:=hid (show aX R L (k+1)=((aX R L k).1++[(t,d)],(aX R L k).2.1,(aX R L k).2.2) by
      rw[fP];unfold mY;rw[BG.out];simp only[nR,aH.o,hfi])
     clear hfi
     rintro e w1 ⟨rfl,hb⟩
     obtain⟨xs1,Y1,rfl⟩:=aB hb
     clear hb
     go_upto_region 9 with(fail)
     go_quiet (fail)
     go_wp2_with (at_builtin;refine iZ w rfl (.tmp 44) (.tmp 49) 25 rfl 111 Tryz.underlying25 (.agg #[.int .i64 0,.slice none 0 0]) 2 32 dV rfl (by decide) (by decide) (.slice Ao no co) no (cellsE Eo) rfl (by exact own_below HT.out.a (by exact aA)) (grow wr.heap.size xs1+1) (some ⟨grow wr.heap.size xs1,0,none⟩) 1 1 [.int .i64 t,.slice a d.length ce] rfl rfl (by omega) (by exact At.gW _ _ _ _ _ (by first|rfl|simp[size_ext]) rfl) (by intro u hu;simp at hu;rcases hu with rfl|rfl<;>rfl) (by have h1:=cu.out;exact aA) ?_;intro A4 c4 w3 ho3 hc3 hb3 hg3 hw3;have HT3:=hid (vQ.SH (e:=⟨t,d,a,ce⟩) (HT.out.keep (by exact aA)) ho3 hg3 hw3);have HB3:=hid hb3;clear ho3 hc3 hb3 hg3 hw3)
     go_roundw
     case rel=>exact⟨k+1,no+1,c4,nb,cb,nr,cr,A4,Ab,Ar,_,Eb,Ec,by omega,by go_num,rfl,rfl,rfl,HB3.out,HT3.out,by rw[gD.out,List.map_append,o8.out];rfl,by rw[gD.out];exact zm.out,by rw[gD.out];exact J4.out,by simp[oQ.out],jK.out,gB.out,(fun e he=>by
      rcases List.mem_append.1 he with he|he
      ·exact Vg.out e he
      ·simp only[List.mem_singleton] at he;subst he;exact VR.out),Vf.out⟩
     case measure=>simp[intOf];omega
    |some k2=>
     have hk2:(0:Int)≤(k2:Int):=by omega
     have Tk:=hid hfi
     unfold Di
     clear hfi
     rintro e w1 ⟨rfl,hb⟩
     obtain⟨xs1,Y1,rfl⟩:=aB hb
     clear hb
     have hkl:(E.take k).map aH.o=L.take k:=by rw[List.map_take,HL.out]
     have tH:=hid hkl
     cases hpl:(vC (L.take k) t).isSome with
     |true=>
      have KJ:=hid hpl
      have gD:=hid (show aX R L (k+1)=((aX R L k).1++[(t,d)],(aX R L k).2.1,(aX R L k).2.2) by
       rw[fP];unfold mY;rw[BG.out];simp only[nR,aH.o,Tk.out,hpl];rfl)
      clear hpl hkl
      go_wp2_with fail
      go_region_held3 (fun w'=>w'.cell? ⟨b,o+k*2,none⟩=some (.int .i64 t)) (first|(go_keep;done)|(go_simp;done)|(simp[go_sem];done)) ((go_at_call 144;go_must (refine(tK (some ⟨b,o,none⟩) k c2 (E.take k) t _ B (by have:=HB.out;simp[size_ext,grow];omega) (by exact(HA.out.keep (by have:=HB.out;have h:=cu.out.mono this;exact aA)).take k) (by rw[List.length_take];have:=HK.out;omega) (by omega)).mono ?_);rw[tH.out,KJ.out];rintro e w1 ⟨rfl,rfl⟩))
      all_goals
       go_wp2_with (at_builtin;refine iZ w rfl (.tmp 44) (.tmp 49) 25 rfl 111 Tryz.underlying25 (.agg #[.int .i64 0,.slice none 0 0]) 2 32 dV rfl (by decide) (by decide) (.slice Ao no co) no (cellsE Eo) rfl (by exact own_below HT.out.a (by exact aA)) (grow wr.heap.size xs1+1) (some ⟨grow wr.heap.size xs1,0,none⟩) 1 1 [.int .i64 t,.slice a d.length ce] rfl rfl (by omega) (by exact At.gW _ _ _ _ _ (by first|rfl|simp[size_ext]) rfl) (by intro u hu;simp at hu;rcases hu with rfl|rfl<;>rfl) (by have h1:=cu.out;exact aA) ?_;intro A4 c4 w3 ho3 hc3 hb3 hg3 hw3;have HT3:=hid (vQ.SH (e:=⟨t,d,a,ce⟩) (HT.out.keep (by exact aA)) ho3 hg3 hw3);have HB3:=hid hb3;clear ho3 hc3 hb3 hg3 hw3)
       go_roundw
       case rel=>exact⟨k+1,no+1,c4,nb,cb,nr,cr,A4,Ab,Ar,_,Eb,Ec,by omega,by go_num,rfl,rfl,rfl,HB3.out,HT3.out,by rw[gD.out,List.map_append,o8.out];rfl,by rw[gD.out];exact zm.out,by rw[gD.out];exact J4.out,by simp[oQ.out],jK.out,gB.out,(fun e he=>by
        rcases List.mem_append.1 he with he|he
        ·exact Vg.out e he
        ·simp only[List.mem_singleton] at he;subst he;exact VR.out),Vf.out⟩
       case measure=>simp[intOf];omega
     |false=>
      have WO:vC (L.take k) t=none:=by simpa using hpl
      have KJ:=hid hpl
      have zJ:=hid (show nR R L k (t,d)=R[k2]? by unfold nR;rw[Tk.out];simp only[WO];rfl)
      clear hpl WO hkl
      obtain⟨hkr,sw⟩:=yE Tk.out
      obtain⟨rb,ro,rfl,hrb,DZ⟩:=HR.out.get hkr
      have WQ:rb<w.heap.size:=by have:=HB.out;omega
      have lQ:=DZ.keep cu.out WQ
      have kH:=qY jU.out (List.getElem_mem hkr)
      have J_:R[k2]? =some R[k2]:=List.getElem?_eq_getElem hkr
      obtain⟨r,hr⟩: ∃r,R[k2]=r:=⟨_,rfl⟩
      rw[hr] at sw lQ DZ kH J_
      clear hr
      obtain⟨hb0,hb4,hg0,hg4,-,-⟩:=kg kH
      have h4:d.length≤4:=by unfold oJ at sw;simp only[Bool.and_eq_true,beq_iff_eq] at sw;have:=sw.2;omega
      have Gj:=hid J_
      obtain⟨rt,sz,kd,lo,hi,gd,mu⟩:=r
      simp only at hb0 hb4 hg0 hg4
      obtain⟨s,rfl⟩:=Int.eq_ofNat_of_zero_le hb0
      obtain⟨g,rfl⟩:=Int.eq_ofNat_of_zero_le hg0
      have HRW:=hid DZ
      clear DZ
      obtain⟨c0,c1,c2',c3',yx,c5,c6⟩:=lQ
      simp only at c0 c1 c2' c3' yx c5 c6
      have oU:rb<wr.heap.size:=by have:=HB.out;omega
      have wm:(0:Int)≤(k2:Int):=by omega
      have wu:(k2:Int)<(n:Int):=by have:=HN.out;omega
      have Tn:=hid (show fQ ⟨rt,(s:Int),kd,lo,hi,(g:Int),mu⟩=(rt,bX g s) from rfl)
      have Zp:k2<n:=by have:=HN.out;omega
      have hs4:s≤4:=by omega
      have Zn:g<4294967296:=by omega
      clear kH J_ sw hkr hb0 hb4 hg0 hg4
      cases htk:dG kd lo hi g (be d:Int) with
      |true=>
       have qV:=hid htk
       have gD:=hid (show aX R L (k+1)=aX R L k by
        rw[fP];unfold mY;rw[BG.out]
        simp only[aH.o,zJ.out,Gj.out]
        exact if_pos htk)
       clear htk
       go_wp2_with fail
       go_region_held3 (fun w'=>w'.cell? ⟨b,o+k*2,none⟩=some (.int .i64 t)) (first|(go_keep;done)|(go_simp;done)|(simp[go_sem];done)) ((go_at_call 144;go_must (refine(tK (some ⟨b,o,none⟩) k c2 (E.take k) t _ B (by have:=HB.out;simp[size_ext,grow];omega) (by exact(HA.out.keep (by have:=HB.out;have h:=cu.out.mono this;exact aA)).take k) (by rw[List.length_take];have:=HK.out;omega) (by omega)).mono ?_);rw[tH.out,KJ.out];rintro e w1 ⟨rfl,rfl⟩))
       all_goals
        go_upto_region 10 with(fail)
        refine iM (fun W4=>Below wr.heap.size wr W4) (by exact aA) ?_
        rintro W4 hb4
        have fu:=hid hb4
        have Iy:=hb4.size
        have Ey:=hid (HT.out.keep hb4)
        have GD:=hid (cu.out.trans (hb4.mono hsz))
        rw[←hb4.cell (p:=⟨rb,_,none⟩) oU] at c0 c1 c2' c3' yx c5 c6
        rw[←hb4.cell (p:=⟨b,_,none⟩) hbz] at hx hy
        have CJ:rb<W4.heap.size:=by omega
        have WH:b<W4.heap.size:=by omega
        clear hb4
        go_region_held3 (fun w'=>w'.cell? ⟨rb,ro+k2*7,none⟩=some (.int .i64 rt)∧w'.cell? ⟨rb,ro+k2*7+1,none⟩=some (.int .i64 (s:Int))∧w'.cell? ⟨rb,ro+k2*7+2,none⟩=some (.int .i64 kd)∧w'.cell? ⟨rb,ro+k2*7+3,none⟩=some (.int .i64 lo)∧w'.cell? ⟨rb,ro+k2*7+4,none⟩=some (.int .i64 hi)∧w'.cell? ⟨rb,ro+k2*7+5,none⟩=some (.int .i64 (g:Int))∧w'.cell? ⟨rb,ro+k2*7+6,none⟩=some (.bool mu)∧w'.cell? ⟨b,o+k*2,none⟩=some (.int .i64 t)∧w'.cell? ⟨b,o+k*2+1,none⟩=some (.slice a d.length ce)) (first|(go_keep;done)|(go_simp;done)|(simp[go_sem];done)) ((first|(go_at_call 145;go_must (refine(sI t a d.length ce d _ B (by have:=HB.out;first|omega|(simp[size_ext,grow];omega)) (by exact HAT.out.1.keep (by have:=HB.out;have h:=GD.out.mono this;exact aA)) rfl h4).mono ?_);rintro e w1 ⟨rfl,hb⟩;obtain⟨xO,Y3,rfl⟩:=aB hb;clear hb)|(go_at_call 108;go_must (refine(rU rt _ kd lo hi _ _ mu _).mono ?_);rw[qV.out];rintro e w1 ⟨rfl,hb⟩;obtain⟨U3,Y4,rfl⟩:=aB hb;clear hb)))
        all_goals
         go_wp2_with fail
         go_roundw
         case rel=>exact⟨k+1,no,co,nb,cb,nr,cr,Ao,Ab,Ar,Eo,Eb,Ec,by omega,by go_num,rfl,rfl,rfl,by have h:=GD.out;exact aA,Ey.out.keep (by exact aA),by rw[gD.out];exact o8.out,by rw[gD.out];exact zm.out,by rw[gD.out];exact J4.out,oQ.out,jK.out,gB.out,Vg.out,Vf.out⟩
         case measure=>simp[intOf];omega
      |false=>
       have qV:=hid htk
       have gD:=hid (show aX R L (k+1)=((aX R L k).1,(aX R L k).2.1++[(t,d)],(aX R L k).2.2++[⟨rt,(s:Int),kd,lo,hi,(g:Int),mu⟩]) by
        rw[fP];unfold mY;rw[BG.out]
        simp only[aH.o,zJ.out,Gj.out]
        exact if_neg (by show¬dG kd lo hi g (be d:Int)=true;rw[htk];simp))
       clear htk
       go_wp2_with fail
       go_region_held3 (fun w'=>w'.cell? ⟨b,o+k*2,none⟩=some (.int .i64 t)) (first|(go_keep;done)|(go_simp;done)|(simp[go_sem];done)) ((go_at_call 144;go_must (refine(tK (some ⟨b,o,none⟩) k c2 (E.take k) t _ B (by have:=HB.out;simp[size_ext,grow];omega) (by exact(HA.out.keep (by have:=HB.out;have h:=cu.out.mono this;exact aA)).take k) (by rw[List.length_take];have:=HK.out;omega) (by omega)).mono ?_);rw[tH.out,KJ.out];rintro e w1 ⟨rfl,rfl⟩))
       all_goals
        go_upto_region 10 with(fail)
        refine iM (fun W4=>Below wr.heap.size wr W4) (by exact aA) ?_
        rintro W4 hb4
        have fu:=hid hb4
        have Iy:=hb4.size
        have Ey:=hid (HT.out.keep hb4)
        have GD:=hid (cu.out.trans (hb4.mono hsz))
        rw[←hb4.cell (p:=⟨rb,_,none⟩) oU] at c0 c1 c2' c3' yx c5 c6
        rw[←hb4.cell (p:=⟨b,_,none⟩) hbz] at hx hy
        have CJ:rb<W4.heap.size:=by omega
        have WH:b<W4.heap.size:=by omega
        clear hb4
        go_region_held3 (fun w'=>w'.cell? ⟨rb,ro+k2*7,none⟩=some (.int .i64 rt)∧w'.cell? ⟨rb,ro+k2*7+1,none⟩=some (.int .i64 (s:Int))∧w'.cell? ⟨rb,ro+k2*7+2,none⟩=some (.int .i64 kd)∧w'.cell? ⟨rb,ro+k2*7+3,none⟩=some (.int .i64 lo)∧w'.cell? ⟨rb,ro+k2*7+4,none⟩=some (.int .i64 hi)∧w'.cell? ⟨rb,ro+k2*7+5,none⟩=some (.int .i64 (g:Int))∧w'.cell? ⟨rb,ro+k2*7+6,none⟩=some (.bool mu)∧w'.cell? ⟨b,o+k*2,none⟩=some (.int .i64 t)∧w'.cell? ⟨b,o+k*2+1,none⟩=some (.slice a d.length ce)) (first|(go_keep;done)|(go_simp;done)|(simp[go_sem];done)) ((first|(go_at_call 145;go_must (refine(sI t a d.length ce d _ B (by have:=HB.out;first|omega|(simp[size_ext,grow];omega)) (by exact HAT.out.1.keep (by have:=HB.out;have h:=GD.out.mono this;exact aA)) rfl h4).mono ?_);rintro e w1 ⟨rfl,hb⟩;obtain⟨xO,Y3,rfl⟩:=aB hb;clear hb)|(go_at_call 108;go_must (refine(rU rt _ kd lo hi _ _ mu _).mono ?_);rw[qV.out];rintro e w1 ⟨rfl,hb⟩;obtain⟨U3,Y4,rfl⟩:=aB hb;clear hb)))
        all_goals
         go_wp2_with (at_builtin;refine iZ w rfl (.tmp 62) (.tmp 67) 25 rfl 111 Tryz.underlying25 (.agg #[.int .i64 0,.slice none 0 0]) 2 32 dV rfl (by decide) (by decide) (.slice Ab nb cb) nb (cellsE Eb) rfl (by exact own_below Ey.out.b (by exact aA)) (grow (grow W4.heap.size xO) U3+1) (some ⟨grow (grow W4.heap.size xO) U3,0,none⟩) 1 1 [.int .i64 t,.slice a d.length ce] rfl rfl (by omega) (by exact At.gW _ _ _ _ _ (by first|rfl|simp[size_ext]) rfl) (by intro u hu;simp at hu;rcases hu with rfl|rfl<;>rfl) (by have h1:=GD.out;exact aA) ?_;intro A4 c4 w3 ho3 hc3 hb3 hg3 hw3;have HT3:=hid (vQ.pushB (e:=⟨t,d,a,ce⟩) (Ey.out.keep (by exact aA)) ho3 hg3 hw3);obtain⟨q0,q1,q2,q3,q4,q5,q6⟩:=HRW.out.keep hb3 WQ;simp only at q0 q1 q2 q3 q4 q5 q6;have hz3:rb<w3.heap.size:=(by have:=hb3.size;omega);have HB3:=hid hb3;clear ho3 hc3 hb3 hg3 hw3)
         refine(xG rt kd lo hi s g mu _ (by omega) (by omega)).mono ?_
         rintro e w5 ⟨A5,KZ,rfl,hb5,lN⟩
         have dO:=hid hb5
         have qU:=hid (aK (base':=w.heap.size) lN (by have:=HB3.out.size;omega))
         have oK:=HB3.out.size
         have hsz5:=hb5.size
         clear hb5 lN
         go_wp2_with (at_builtin;go_loud (refine iZ w rfl (.tmp 69) (.tmp 75) 25 rfl 111 Tryz.underlying25 (.agg #[.int .i64 0,.slice none 0 0]) 2 32 dV rfl (by decide) (by decide) (.slice Ar nr cr) nr (cellsE Ec) rfl (by exact own_below HT3.out.c (by have:=dO.out;exact aA)) (w5.heap.size+1) (some ⟨w5.heap.size,0,none⟩) 1 1 [.int .i64 rt,.slice A5 s KZ] rfl rfl (by omega) (by exact At.gW _ _ _ _ _ rfl rfl) (by intro u hu;simp at hu;rcases hu with rfl|rfl<;>rfl) (by have h1:=HB3.out.trans (dO.out.mono oK);exact aA) ?_);intro A7 c7 w7 xk TY lM vZ hw7;go_must (have Vi:=hid (vQ.SI (e:=⟨rt,bX g s,A5,KZ⟩) (HT3.out.keep (by have:=dO.out;exact aA)) (by show World.ownsRow _ _ _ _ (.slice A5 (bX g s).length KZ) (bX g s).length _;rw[aP];exact own_below qU.out (Below.alloc (Below.refl _ w5) (aaE _) _)) (by show World.ownsRow _ _ _ _ _ _ (cellsE Ec++[.int .i64 rt,.slice A5 (bX g s).length KZ]);rw[aP];exact xk) vZ hw7));have zG:=hid lM;clear xk TY lM vZ hw7)
         go_roundw
         case rel=>exact⟨k+1,no,co,nb+1,c4,nr+1,c7,Ao,A4,A7,Eo,_,_,by omega,by go_num,rfl,rfl,rfl,zG.out,Vi.out,by rw[gD.out];exact o8.out,by rw[gD.out,List.map_append,zm.out];rfl,by rw[gD.out,List.map_append,J4.out,List.map_append];rfl,oQ.out,by simp[jK.out],by simp[gB.out],Vg.out,(fun e he=>by
          rcases List.mem_append.1 he with he|he
          ·exact Vf.out e he
          ·simp only[List.mem_singleton] at he;subst he;exact VR.out)⟩
         case measure=>simp[intOf];omega
   ·obtain rfl:k=n2:=by omega
    have zn:=hid (show k=L.length by rw[←HL.out,List.length_map];exact iA.out)
    by_cases hn0:0<no
    ·have iP:=hid (show aS R L jl most=(4,(aX R L L.length).1) by
      unfold aS;rw[if_neg (by rw[jU.out];simp),if_pos (by rw[←zn.out,←o8.out,List.length_map,←oQ.out];exact hn0)])
     have hn1:(0:Int)<(no:Int):=by omega
     go_wp2_with fail
     go_ret2
     obtain⟨_,_,hq,hkc,-⟩:=ownsRow_form HT.out.a
     cases hq
     exact⟨Eo,Ao,no,co,by rw[iP.out];rfl,by rw[iP.out];have h:=o8.out;rw[zn.out] at h;exact h,by rw[iP.out];have h:=congrArg List.length o8.out;rw[List.length_map,zn.out] at h;rw[←h];exact oQ.out,hkc,cu.out,At.bq HT.out.a,fun e he=>⟨((HA.out.2 e (Vg.out e he)).1.keep (cu.out.mono HB.out)).more (by have:=HB.out;omega),(HA.out.2 e (Vg.out e he)).2⟩⟩
    ·obtain rfl:no=0:=by omega
     have Gl:=hid (show¬0<(aX R L L.length).1.length by rw[←zn.out,←o8.out,List.length_map,←oQ.out];omega)
     clear hn0
     go_wp2_with fail
     go_loopw [12,15] (fun vc i wr=> ∃(j nr cr:Nat) (Ar:Option Addr) (Ec:List aH),j≤n∧i=.int .i64 j∧vc=.slice Ar nr cr∧Below w.heap.size w wr∧vQ wr w.heap.size (.slice Ao 0 co) (.slice Ab nb cb) (.slice Ar nr cr) 0 nb nr Eo Eb Ec∧Ec.map aH.o=(aX R L k).2.2.map fQ++((R.take j).filter (fT L)).map fQ∧nr=Ec.length) (fun _ i _=>n-(intOf i).toNat)
     case atStart=>exact⟨0,nr,cr,Ar,Ec,Nat.zero_le _,rfl,rfl,cu.out,HT.out,by rw[J4.out];simp,gB.out⟩
     case round=>
      obtain⟨j,nr,cr,Ar,Ec,hj,rfl,rfl,hbl,ht,Iu,hnr⟩:=hrel
      have cu:=hid hbl
      have HT:=hid ht
      have J4:=hid Iu
      have gB:=hid hnr
      have hsz:=hbl.size
      have aat:nr≤2000000:=by
       have h:=jS R L k
       have h1:=congrArg List.length Iu
       have h2:=qC R L j
       simp only[List.length_map,List.length_append] at h1
       omega
      clear hbl ht Iu hnr
      by_cases hlt:j<n
      ·have HK:=hid (show j<R.length by have:=HN.out;omega)
       have kH:=qY jU.out (List.getElem_mem HK.out)
       obtain⟨rb,ro,rfl,hrb,lQ⟩:=(HR.out.keep (cu.out.mono HB.out)).get HK.out
       have KC:=hid (sj (fT L) R j HK.out)
       obtain⟨r,hr⟩: ∃r,R[j]'HK.out=r:=⟨_,rfl⟩
       rw[hr] at lQ kH KC
       clear hr
       obtain⟨hb0,hb4,hg0,hg4,-,-⟩:=kg kH
       obtain⟨rt,sz,kd,lo,hi,gd,mu⟩:=r
       simp only at hb0 hb4 hg0 hg4
       obtain⟨s,rfl⟩:=Int.eq_ofNat_of_zero_le hb0
       obtain⟨g,rfl⟩:=Int.eq_ofNat_of_zero_le hg0
       obtain⟨c0,c1,c2',c3',yx,c5,c6⟩:=lQ
       simp only at c0 c1 c2' c3' yx c5 c6
       have oU:rb<wr.heap.size:=by have:=HB.out;omega
       have wm:(0:Int)≤(j:Int):=by omega
       have wu:(j:Int)<(n:Int):=by omega
       have hs4:s≤4:=by omega
       have Zn:g<4294967296:=by omega
       have Tn:=hid (show fQ ⟨rt,(s:Int),kd,lo,hi,(g:Int),mu⟩=(rt,bX g s) from rfl)
       clear kH hb0 hb4 hg0 hg4
       cases mu
       ·have gD:=hid (show(R.take (j+1)).filter (fT L)=(R.take j).filter (fT L) by rw[KC.out];simp[fT])
        go_wp2_with fail
        go_roundw
        case rel=>exact⟨j+1,nr,cr,Ar,Ec,by omega,by go_num,rfl,by have h:=cu.out;exact aA,HT.out.keep (by exact aA),by rw[gD.out];exact J4.out,gB.out⟩
        case measure=>simp[intOf];omega
       ·go_wp2_with fail
        refine(tK A2 k c2 E rt _ B (by have:=HB.out;omega) (by exact HA.out.keep (by have:=HB.out;have h:=cu.out.mono this;exact aA)) iA.out hl2).mono ?_
        rw[HL.out]
        cases hpl:(vC L rt).isSome with
        |true=>
         have gD:=hid (show(R.take (j+1)).filter (fT L)=(R.take j).filter (fT L) by rw[KC.out];simp[fT,hpl])
         clear hpl
         rintro e w1 ⟨rfl,rfl⟩
         go_wp2_with fail
         go_roundw
         case rel=>exact⟨j+1,nr,cr,Ar,Ec,by omega,by go_num,rfl,by have h:=cu.out;exact aA,HT.out.keep (by exact aA),by rw[gD.out];exact J4.out,gB.out⟩
         case measure=>simp[intOf];omega
        |false=>
         have gD:=hid (show(R.take (j+1)).filter (fT L)=(R.take j).filter (fT L)++[⟨rt,(s:Int),kd,lo,hi,(g:Int),true⟩] by rw[KC.out];unfold fT;simp only[hpl];rfl)
         clear hpl
         rintro e w1 ⟨rfl,rfl⟩
         go_wp2_with fail
         refine(xG rt kd lo hi s g true _ (by omega) (by omega)).mono ?_
         rintro e w5 ⟨A5,KZ,rfl,hb5,lN⟩
         have dO:=hid hb5
         have qU:=hid (aK (base':=w.heap.size) lN (by omega))
         have hsz5:=hb5.size
         clear hb5 lN
         go_wp2_with (at_builtin;refine iZ w rfl (.tmp 102) (.tmp 108) 25 rfl 111 Tryz.underlying25 (.agg #[.int .i64 0,.slice none 0 0]) 2 32 dV rfl (by decide) (by decide) (.slice Ar nr cr) nr (cellsE Ec) rfl (by exact own_below HT.out.c (by have:=dO.out;exact aA)) (w5.heap.size+1) (some ⟨w5.heap.size,0,none⟩) 1 1 [.int .i64 rt,.slice A5 s KZ] rfl rfl (by omega) (by exact At.gW _ _ _ _ _ rfl rfl) (by intro u hu;simp at hu;rcases hu with rfl|rfl<;>rfl) (by have h1:=cu.out.trans (dO.out.mono hsz);exact aA) ?_;intro A7 c7 w7 xk TY lM vZ hw7;go_must (have Vi:=hid (vQ.SI (e:=⟨rt,bX g s,A5,KZ⟩) (HT.out.keep (by have:=dO.out;exact aA)) (by show World.ownsRow _ _ _ _ (.slice A5 (bX g s).length KZ) (bX g s).length _;rw[aP];exact own_below qU.out (Below.alloc (Below.refl _ w5) (aaE _) _)) (by show World.ownsRow _ _ _ _ _ _ (cellsE Ec++[.int .i64 rt,.slice A5 (bX g s).length KZ]);rw[aP];exact xk) vZ hw7));have zG:=hid lM;clear xk TY lM vZ hw7)
         go_roundw
         case rel=>exact⟨j+1,nr+1,c7,A7,_,by omega,by go_num,rfl,zG.out,Vi.out,by rw[gD.out,List.map_append,J4.out,List.map_append,List.append_assoc];rfl,by simp[gB.out]⟩
         case measure=>simp[intOf];omega
      ·obtain rfl:j=n:=by omega
       have xS:=hid (show Ec.map aH.o=(nS R L).map fQ by
        rw[J4.out,List.take_of_length_le (by have:=HN.out;omega),zn.out];unfold nS gH;rw[List.map_append])
       have Eu:=hid (show nr=(nS R L).length by have h:=congrArg List.length xS.out;rw[List.length_map,List.length_map] at h;rw[←h];exact gB.out)
       have BR:=hid (show nb=(aX R L L.length).2.1.length by rw[←zn.out,←zm.out,List.length_map];exact jK.out)
       by_cases hr0:nr=0
       ·subst hr0
        have iP:=hid (show aS R L jl most=(2,L) by
         unfold aS;rw[if_neg (by rw[jU.out];simp),if_neg Gl.out,if_pos Eu.out.symm])
        go_wp2_with fail
        go_ret2
        exact⟨E,A2,k,c2,by rw[iP.out];rfl,by rw[iP.out];exact HL.out,by rw[iP.out];exact zn.out,hc2,cu.out,(HA.out.keep (cu.out.mono HB.out)).more (by have:=HB.out;omega)⟩
       ·have er:((nr:Int)==0)=false:=by simp;omega
        by_cases hm:most≤jl
        ·by_cases hb0:0<nb
         ·have iP:=hid (show aS R L jl most=(4,(aX R L L.length).2.1) by
           unfold aS;rw[if_neg (by rw[jU.out];simp),if_neg Gl.out,if_neg (by rw[←Eu.out];exact hr0),if_pos ⟨hm,by rw[←BR.out];exact hb0⟩])
          have hb1:(0:Int)<(nb:Int):=by omega
          go_wp2_with fail
          go_ret2
          obtain⟨_,_,hq,hkc,-⟩:=ownsRow_form HT.out.b
          cases hq
          exact⟨Eb,Ab,nb,cb,by rw[iP.out];rfl,by rw[iP.out];have h:=zm.out;rw[zn.out] at h;exact h,by rw[iP.out];exact BR.out,hkc,cu.out,by have h:=HT.out.b;exact At.bq h,fun e he=>⟨((HA.out.2 e (Vf.out e he)).1.keep (cu.out.mono HB.out)).more (by have:=HB.out;omega),(HA.out.2 e (Vf.out e he)).2⟩⟩
         ·obtain rfl:nb=0:=by omega
          have iP:=hid (show aS R L jl most=(3,(nS R L).map fQ) by
           unfold aS;rw[if_neg (by rw[jU.out];simp),if_neg Gl.out,if_neg (by rw[←Eu.out];exact hr0),if_neg (by rw[←BR.out];omega)])
          clear hb0
          go_wp2_with fail
          go_ret2
          obtain⟨_,_,hq,hkc,-⟩:=ownsRow_form HT.out.c
          cases hq
          exact⟨Ec,Ar,nr,cr,by rw[iP.out];rfl,by rw[iP.out];exact xS.out,by rw[iP.out,List.length_map];exact Eu.out,hkc,cu.out,At.bq HT.out.c,fun e he=>by
           have h:=HT.out.d e he
           obtain⟨_,_,hq,hkc,-⟩:=ownsRow_form h
           cases hq
           exact⟨At.bq h,hkc⟩⟩
        ·have hm2:decide (most≤jl)=false:=by simpa using hm
         have iP:=hid (show aS R L jl most=(3,(nS R L).map fQ) by
          unfold aS;rw[if_neg (by rw[jU.out];simp),if_neg Gl.out,if_neg (by rw[←Eu.out];exact hr0),if_neg (fun h=>hm h.1)])
         go_wp2_with fail
         go_ret2
         obtain⟨_,_,hq,hkc,-⟩:=ownsRow_form HT.out.c
         cases hq
         exact⟨Ec,Ar,nr,cr,by rw[iP.out];rfl,by rw[iP.out];exact xS.out,by rw[iP.out,List.length_map];exact Eu.out,hkc,cu.out,At.bq HT.out.c,fun e he=>by
          have h:=HT.out.d e he
          obtain⟨_,_,hq,hkc,-⟩:=ownsRow_form h
          cases hq
          exact⟨At.bq h,hkc⟩⟩
open Go.ChangeShapes Go.WideShapes Go.ChangeAt Go.RowKit Go.Joins Go.Deep
set_option maxRecDepth 100000
theorem DV.get {code:Int} {L:List bF} {w w':World} {x:Ending} (h:DV code L w x w') {n:Nat} (hn:L.length=n):
  ∃(E:List aH) (A:Option Addr) (c:Nat),x=.returned (.tuple #[.int .i64 code,.slice A n c])∧E.map aH.o=L∧n=E.length∧n≤c∧Below w.heap.size w w'∧aI w' w.heap.size (.slice A n c) E:=by
 obtain⟨E,A,n',c,rfl,he,hn',hb,ho⟩:=h
 obtain rfl:n'=n:=by omega
 obtain⟨_,_,hq,hc,-⟩:=ownsRow_form ho.1
 cases hq
 have:E.length=L.length:=by rw[←he,List.length_map]
 exact⟨E,A,c,rfl,he,by omega,by omega,hb,ho⟩
structure aac (w W:World) (E:List aH) (A:Option Addr) (n c:Nat):Prop where
 opts:aJ W W.heap.size A (TQ E)
 len:n=(TQ E).length
 le:n≤20
 cap:n≤c
 data: ∀e∈TQ E,e.d.length≤1000000
theorem wQ.get {L:List bF} {b:Bool} {w w':World} {x:Ending} (h:wQ L b w x w'):
  ∃(E:List aH) (A:Option Addr) (n c:Nat),x=.returned (.tuple #[.slice A n c,.bool b])∧E.map aH.o=L∧n=E.length∧n≤c∧Below w.heap.size w w'∧aI w' w.heap.size (.slice A n c) E:=by
 obtain⟨E,A,c,rfl,he,hb,ho⟩:=h
 obtain⟨_,_,hq,hc,-⟩:=ownsRow_form ho.1
 simp only[Value.slice.injEq] at hq
 obtain⟨-,-,rfl⟩:=hq
 have:E.length=L.length:=by rw[←he,List.length_map]
 exact⟨E,A,L.length,c,rfl,he,this.symm,by omega,hb,ho⟩
end Go.Proofs.YtfkgmbknfnhjoaaGreat.Ne
