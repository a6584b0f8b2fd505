/- Bundle N4. -/
import Derived.Test.YtfkgmbknfnhjoaaGreatRA
import Derived.Test.YtfkgmbknfnhjoaaGreatRN3
import Derived.Deep.QuietTactic
import Derived.BigQuiet
import Derived.Deep.RegionHeld3
set_option maxHeartbeats 4000000
namespace Go.Proofs.YtfkgmbknfnhjoaaGreat.Ne
open Lib (hid)
open Go.RowKit
set_option linter.unusedSimpArgs false
set_option linter.unusedVariables false
def goodO (r:Rl):Opt:=(r.t,putB r.gd.toNat r.sz.toNat)
def nakR (R:List Rl) (L:List Opt):List Rl:=(sortK R L L.length).2.2++lackL R L
def answerO (R:List Rl) (L:List Opt) (naks most:Int):Int×List Opt:=
 if areB R=false then(0,[]) else
 if 0<(sortK R L L.length).1.length then(4,(sortK R L L.length).1) else
 if (nakR R L).length=0 then(2,L) else
 if most≤naks∧0<(sortK R L L.length).2.1.length then(4,(sortK R L L.length).2.1) else(3,(nakR R L).map goodO)
def RowsI (code:Int) (L:List Opt) (w:World) (x:Ending) (w':World):Prop:=
 ∃(E:List Ent) (A:Option Addr) (n c:Nat),x=.returned (.tuple #[.int .i64 code,.slice A n c])∧E.map Ent.o=L∧n=L.length∧Below w.heap.size w w'∧OwnOpts w' w.heap.size (.slice A n c) E
end Go.Proofs.YtfkgmbknfnhjoaaGreat.Ne
namespace Go.Proofs.YtfkgmbknfnhjoaaGreat.Ne
open Lib (hid)
open Go.RowKit
set_option linter.unusedSimpArgs false
set_option linter.unusedVariables false
theorem Rows4.keep {w w':World} {base:Nat} {vo vb vr vl:Value} {Eo Eb:List Ent} {Rr Rk:List Rl} (h:Rows4 w base vo vb vr vl Eo Eb Rr Rk) (hb:Below w.heap.size w w'):Rows4 w' base vo vb vr vl Eo Eb Rr Rk:=
 ⟨h.o.below hb,h.b.below hb,own_below h.r hb,own_below h.l hb⟩
set_option maxRecDepth 100000 in
theorem answer_any (A A2:Option Addr) (n c n2 c2:Nat) (naks most:Int) (R:List Rl) (E:List Ent) (L:List Opt) (hL:E.map Ent.o=L) (w:World) (B:Nat) (hB:B≤w.heap.size) (hR:RulesAt w B A R) (hn:n=R.length) (hl:n≤1000000)
  (hA:OptsAt w B A2 E) (hn2:n2=E.length) (hc2:n2≤c2) (hl2:n2≤1000000) (hd: ∀e∈E,e.d.length≤1000000):
  Calls Tryz.prog 138 #[.slice A n c,.slice A2 n2 c2,.int .i64 naks,.int .i64 most] w (RowsI (answerO R L naks most).1 (answerO R L naks most).2 w):=by
 have HR:=hid hR
 have HN:=hid hn
 have HB:=hid hB
 have HA:=hid hA
 have HN2:=hid hn2
 have HD:=hid hd
 have HL:=hid hL
 have HWF:=hid hR.2
 clear hR hn hB hA hn2 hd hL
 cases har:areB R with
 |false=>
  have HR0:=hid (show answerO R L naks most=(0,[]) by unfold answerO;rw[if_pos har])
  have HAR:=hid har
  clear har
  go_enter Tryz.func138,Tryz.ntmps138
  go_wp2_with fail
  refine(check_any A n c R _ B HB.out HR.out HN.out hl).mono ?_
  rw[HAR.out,chk_false]
  rintro e w1 ⟨rfl,hb⟩;obtain⟨xs,d,rfl⟩:=ext_of hb;clear hb
  go_wp2_with fail
  go_ret2
  exact⟨[],none,0,0,by rw[HR0.out];rfl,by rw[HR0.out];rfl,by rw[HR0.out];rfl,by exact bel,OwnOpts.nil _ _⟩
 |true=>
  have HOK:=hid har
  clear har
  by_cases hnm:naks<most
  ·go_enter Tryz.func138,Tryz.ntmps138
   go_wp2_with fail
   refine(check_any A n c R _ B HB.out HR.out HN.out hl).mono ?_
   rw[HOK.out,chk_true]
   rintro e w1 ⟨rfl,hb⟩;obtain⟨xs,d,rfl⟩:=ext_of hb;clear hb
   go_wp2_with fail
   refine(sort_any A A2 n c n2 c2 R E _ B (by have:=HB.out;simp[size_ext,grow];omega) (HR.out.keep (by have:=HB.out;exact bel)) HN.out hl L HL.out (HA.out.keep (by have:=HB.out;exact bel)) HN2.out hc2 hl2 HD.out HOK.out).mono ?_
   rintro e w1 ⟨Ao,Ab,Ar,Al,no,nb,nr,nl,co,cb,cr,cl,Eo,Eb,rfl,hb,hrows,heo,heb,hno,hnb,hnr,hnl⟩
   have HROWS:=hid (show Rows4 w1 w.heap.size (.slice Ao no co) (.slice Ab nb cb) (.slice Ar nr cr) (.slice Al nl cl) Eo Eb (sortK R L L.length).2.2 (lackL R L) from ⟨hrows.o.base (by simp[size_ext,grow]),hrows.b.base (by simp[size_ext,grow]),own_base hrows.r (by simp[size_ext,grow]),own_base hrows.l (by simp[size_ext,grow])⟩)
   have HB1:=hid (show Below w.heap.size w w1 from Below.trans (by exact bel) (hb.mono (by simp[size_ext,grow])))
   have HEO:=hid heo
   have HEB:=hid heb
   have HNO:=hid hno
   have HNB:=hid hnb
   have HNR:=hid hnr
   have HNL:=hid hnl
   have hbounds:no≤1000000∧nb≤1000000∧nr≤1000000∧nl≤1000000:=by
    have h:=sort_len R L L.length
    have h2:=lack_len R L R.length
    rw[List.take_length] at h2
    have h3:L.length=n2:=by rw[←HL.out,List.length_map];exact HN2.out.symm
    rw[←heo,←heb,List.length_map,List.length_map] at h
    unfold lackL at hnl
    have h4:=HN.out
    omega
   have HNB2:=hid (show nr=nb by
    have h:=(sort_len R L L.length).2
    rw[←heb,List.length_map] at h
    omega)
   have hsz01:=HB1.out.size
   clear hb hrows heo heb hno hnb hnr hnl
   go_wp2_with fail
   refine wp_world (fun W1=>Rows4 W1 w.heap.size (.slice Ao no co) (.slice Ab nb cb) (.slice Ar nr cr) (.slice Al nl cl) Eo Eb (sortK R L L.length).2.2 (lackL R L)∧W1.heap[w1.heap.size]? =some (.cells #[.slice Ao no co,.slice Ab nb cb,.slice Ar nr cr,.slice Al nl cl] 193 (0,0))∧Below w.heap.size w W1) ⟨HROWS.out.keep (by exact bel),by exact heap_alloc_new _ _,by have h:=HB1.out;exact bel⟩ ?_
   rintro W1 ⟨hrows1,hx1,hbl1⟩
   have HROWS1:=hid hrows1
   have HX:=hid hx1
   have HBL1:=hid hbl1
   have hX1:=lt_of_block hx1
   have hsz1:=hbl1.size
   have hr1:=hrows1.r
   have hl1:=hrows1.l
   rw[←HNR.out] at hr1
   rw[←HNL.out] at hl1
   have HMEMA:=hid (sort_mem R L L.length)
   have HMEML:=hid (show∀r∈lackL R L,r∈R from fun r hr=>(List.mem_filter.1 hr).1)
   have HLENA:=hid HNR.out
   have HLENL:=hid HNL.out
   have HRA:=hid (RulesAt.of_cells (At.of_own hr1) (fun r hr=>HWF.out r (sort_mem R L _ r hr)))
   have HRL:=hid (RulesAt.of_cells (At.of_own hl1) (fun r hr=>HWF.out r ((List.mem_filter.1 hr).1)))
   have hrl:(sortK R L L.length).2.2.length≤1000000:=by rw[←HNR.out];omega
   have hll:(lackL R L).length≤1000000:=by rw[←HNL.out];omega
   have HE0:=hid (OwnOpts.nil W1 W1.heap.size)
   obtain⟨s0,s1,s2,s3,-⟩:=four_cells hx1
   clear hrows1 hx1 hbl1 hr1 hl1
   go_loopw [11,28] (fun v i wr=> ∃(j kb cb':Nat) (Ab':Option Addr) (E':List Ent),j≤nr∧i=.int .i64 j∧v=.slice Ab' kb cb'∧E'.length=kb∧E'.map Ent.o=([]:List Opt)++((sortK R L L.length).2.2.take j).map goodO∧Below W1.heap.size W1 wr∧OwnOpts wr W1.heap.size (.slice Ab' kb cb') E') (fun _ i _=>nr-(intOf i).toNat)
   case atStart=>exact⟨0,0,0,none,[],Nat.zero_le _,rfl,rfl,rfl,rfl,Below.refl _ _,HE0.out⟩
   case round=>
    obtain⟨j,kb,cb',Ab',E',hj,rfl,rfl,hel,heo,hbl,hown⟩:=hrel
    have HEL:=hid hel
    have HEO':=hid heo
    have HBW:=hid hbl
    have HOW:=hid hown
    have hszw:=hbl.size
    have hkb:kb≤2000000:=by
     have h1:=congrArg List.length heo
     have h2:(([]:List Opt)).length≤1000000:=(by simp)
     simp only[List.length_map,List.length_append,List.length_take,List.length_nil] at h1 h2
     omega
    obtain⟨s0,s1,s2,s3,-⟩:=four_cells ((HBW.out.block _ hX1).trans HX.out)
    have hX1':w1.heap.size<wr.heap.size:=Nat.lt_of_lt_of_le hX1 hszw
    clear hel heo hbl hown
    by_cases hlt:j<nr
    ·have HK:=hid (show j<((sortK R L L.length).2.2).length by have:=HLENA.out;omega)
     obtain⟨rb,ro,hq,hrb,hrat⟩:=(HRA.out.keep HBW.out).get HK.out
     cases hq
     have hrok:=are_ok HOK.out (HMEMA.out _ (List.getElem_mem HK.out))
     have HTS:=hid (map_take_snoc goodO (sortK R L L.length).2.2 j HK.out)
     obtain⟨r,hr⟩: ∃r,((sortK R L L.length).2.2)[j]'HK.out=r:=⟨_,rfl⟩
     rw[hr] at hrat hrok HTS
     clear hr
     obtain⟨hb0,hb4,hg0,hg4,-,-⟩:=ok_bounds hrok
     obtain⟨t,sz,kd,lo,hi,gd,mu⟩:=r
     simp only at hb0 hb4 hg0 hg4
     obtain⟨s,rfl⟩:=Int.eq_ofNat_of_zero_le hb0
     obtain⟨g,rfl⟩:=Int.eq_ofNat_of_zero_le hg0
     obtain⟨c0,c1,c2',c3',c4',c5,c6⟩:=hrat
     simp only at c0 c1 c2' c3' c4' c5 c6
     have hrblt:rb<wr.heap.size:=by omega
     have hix0:(0:Int)≤(j:Int):=by omega
     have hix1:(j:Int)<(nr:Int):=by omega
     have HGO:=hid (show goodO ⟨t,(s:Int),kd,lo,hi,(g:Int),mu⟩=(t,putB g s) from rfl)
     clear hrok
     go_wp2_with fail
     refine(good_any t kd lo hi s g mu _ (by omega) (by omega)).mono ?_
     rintro e w2 ⟨A3,c3,rfl,hb,ho⟩
     have HB2:=hid (show Below wr.heap.size wr w2 from Below.trans (by exact bel) (hb.mono (by simp)))
     have HO2:=hid (own_base (base':=W1.heap.size) ho (by simp;omega))
     have HOK2:=hid (show wr.ownsRow W1.heap.size 111 2 (.slice Ab' kb cb') kb (cellsE E') by have h:=HOW.out.1;rwa [HEL.out] at h)
     have hsz2:=HB2.out.size
     clear hb ho
     go_wp2_with (at_builtin;refine wpList_appv W1 rfl (.tmp 32) (.tmp 35) 25 rfl 111 Tryz.underlying25 (.agg #[.int .i64 0,.slice none 0 0]) 2 32 infoOpt rfl (by decide) (by decide) (.slice Ab' kb cb') kb (cellsE E') rfl (by exact own_below HOK2.out (by have:=HB2.out;exact bel)) (w2.heap.size+1) (some ⟨w2.heap.size,0,none⟩) 1 1 [.int .i64 t,.slice A3 s c3] rfl rfl (by omega) (by exact At.newN _ _ _ _ _ rfl rfl) (by intro u hu;simp at hu;rcases hu with rfl|rfl<;>rfl) (by have h1:=HBW.out;have h2:=HB2.out;exact bel) ?_;intro A4 c4 w3 ho3 hc3 hb3 hg3;have HO3:=hid ho3;have HB3:=hid hb3;have HG3:=hid hg3;clear ho3 hc3 hb3 hg3)
     have HOE:=hid (OwnOpts.pushedNe (tt:=t) (dd:=putB g s) (A2:=A3) (c2:=c3) (HOW.out.below (HB2.out.trans (Below.alloc (Below.refl _ w2) hsz2 _))) (by rw[putB_length];exact own_below HO2.out (Below.alloc (Below.refl _ w2) (Nat.le_refl _) _)) (by rw[HEL.out,putB_length];exact HO3.out) HG3.out)
     go_roundw
     case rel=>exact⟨j+1,kb+1,c4,A4,_,by omega,by go_num,rfl,by simp[HEL.out],by rw[List.map_append,HEO'.out,HTS.out,HGO.out,List.append_assoc];rfl,HB3.out,HOE.out⟩
     case measure=>simp[intOf];omega
    ·obtain rfl:j=nr:=by omega
     have HEO2:=hid (show E'.map Ent.o=([]:List Opt)++((sortK R L L.length).2.2).map goodO by have h:=HEO'.out;rwa [List.take_of_length_le (by have:=HLENA.out;omega)] at h)
     go_wp2_with fail
     go_loopw [11,50] (fun v i wr=> ∃(j kb cb':Nat) (Ab':Option Addr) (E':List Ent),j≤nl∧i=.int .i64 j∧v=.slice Ab' kb cb'∧E'.length=kb∧E'.map Ent.o=((sortK R L L.length).2.2.map goodO)++((lackL R L).take j).map goodO∧Below W1.heap.size W1 wr∧OwnOpts wr W1.heap.size (.slice Ab' kb cb') E') (fun _ i _=>nl-(intOf i).toNat)
     case atStart=>exact⟨0,kb,cb',Ab',E',Nat.zero_le _,rfl,rfl,HEL.out,by rw[HEO2.out];simp,HBW.out,HOW.out⟩
     case round=>
      obtain⟨j,kb,cb',Ab',E',hj,rfl,rfl,hel,heo,hbl,hown⟩:=hrel
      have HEL:=hid hel
      have HEO':=hid heo
      have HBW:=hid hbl
      have HOW:=hid hown
      have hszw:=hbl.size
      have hkb:kb≤2000000:=by
       have h1:=congrArg List.length heo
       have h2:(((sortK R L L.length).2.2.map goodO)).length≤1000000:=(by rw[List.length_map];exact hrl)
       simp only[List.length_map,List.length_append,List.length_take,List.length_nil] at h1 h2
       omega
      obtain⟨s0,s1,s2,s3,-⟩:=four_cells ((HBW.out.block _ hX1).trans HX.out)
      have hX1':w1.heap.size<wr.heap.size:=Nat.lt_of_lt_of_le hX1 hszw
      clear hel heo hbl hown
      by_cases hlt:j<nl
      ·have HK:=hid (show j<((lackL R L)).length by have:=HLENL.out;omega)
       obtain⟨rb,ro,hq,hrb,hrat⟩:=(HRL.out.keep HBW.out).get HK.out
       cases hq
       have hrok:=are_ok HOK.out (HMEML.out _ (List.getElem_mem HK.out))
       have HTS:=hid (map_take_snoc goodO (lackL R L) j HK.out)
       obtain⟨r,hr⟩: ∃r,((lackL R L))[j]'HK.out=r:=⟨_,rfl⟩
       rw[hr] at hrat hrok HTS
       clear hr
       obtain⟨hb0,hb4,hg0,hg4,-,-⟩:=ok_bounds hrok
       obtain⟨t,sz,kd,lo,hi,gd,mu⟩:=r
       simp only at hb0 hb4 hg0 hg4
       obtain⟨s,rfl⟩:=Int.eq_ofNat_of_zero_le hb0
       obtain⟨g,rfl⟩:=Int.eq_ofNat_of_zero_le hg0
       obtain⟨c0,c1,c2',c3',c4',c5,c6⟩:=hrat
       simp only at c0 c1 c2' c3' c4' c5 c6
       have hrblt:rb<wr.heap.size:=by omega
       have hix0:(0:Int)≤(j:Int):=by omega
       have hix1:(j:Int)<(nl:Int):=by omega
       have HGO:=hid (show goodO ⟨t,(s:Int),kd,lo,hi,(g:Int),mu⟩=(t,putB g s) from rfl)
       clear hrok
       go_wp2_with fail
       refine(good_any t kd lo hi s g mu _ (by omega) (by omega)).mono ?_
       rintro e w2 ⟨A3,c3,rfl,hb,ho⟩
       have HB2:=hid (show Below wr.heap.size wr w2 from Below.trans (by exact bel) (hb.mono (by simp)))
       have HO2:=hid (own_base (base':=W1.heap.size) ho (by simp;omega))
       have HOK2:=hid (show wr.ownsRow W1.heap.size 111 2 (.slice Ab' kb cb') kb (cellsE E') by have h:=HOW.out.1;rwa [HEL.out] at h)
       have hsz2:=HB2.out.size
       clear hb ho
       go_wp2_with (at_builtin;refine wpList_appv W1 rfl (.tmp 54) (.tmp 57) 25 rfl 111 Tryz.underlying25 (.agg #[.int .i64 0,.slice none 0 0]) 2 32 infoOpt rfl (by decide) (by decide) (.slice Ab' kb cb') kb (cellsE E') rfl (by exact own_below HOK2.out (by have:=HB2.out;exact bel)) (w2.heap.size+1) (some ⟨w2.heap.size,0,none⟩) 1 1 [.int .i64 t,.slice A3 s c3] rfl rfl (by omega) (by exact At.newN _ _ _ _ _ rfl rfl) (by intro u hu;simp at hu;rcases hu with rfl|rfl<;>rfl) (by have h1:=HBW.out;have h2:=HB2.out;exact bel) ?_;intro A4 c4 w3 ho3 hc3 hb3 hg3;have HO3:=hid ho3;have HB3:=hid hb3;have HG3:=hid hg3;clear ho3 hc3 hb3 hg3)
       have HOE:=hid (OwnOpts.pushedNe (tt:=t) (dd:=putB g s) (A2:=A3) (c2:=c3) (HOW.out.below (HB2.out.trans (Below.alloc (Below.refl _ w2) hsz2 _))) (by rw[putB_length];exact own_below HO2.out (Below.alloc (Below.refl _ w2) (Nat.le_refl _) _)) (by rw[HEL.out,putB_length];exact HO3.out) HG3.out)
       go_roundw
       case rel=>exact⟨j+1,kb+1,c4,A4,_,by omega,by go_num,rfl,by simp[HEL.out],by rw[List.map_append,HEO'.out,HTS.out,HGO.out,List.append_assoc];rfl,HB3.out,HOE.out⟩
       case measure=>simp[intOf];omega
      ·obtain rfl:j=nl:=by omega
       have HEO2:=hid (show E'.map Ent.o=((sortK R L L.length).2.2.map goodO)++((lackL R L)).map goodO by have h:=HEO'.out;rwa [List.take_of_length_le (by have:=HLENL.out;omega)] at h)
       have HEC2:=hid (show E'.map Ent.o=(nakR R L).map goodO by rw[HEO2.out];unfold nakR;rw[List.map_append])
       have HKL:=hid (show kb=(nakR R L).length by have h:=congrArg List.length HEC2.out;rw[List.length_map,List.length_map] at h;rw[←h];exact HEL.out.symm)
       by_cases h0:0<no
       ·have HR0:=hid (show answerO R L naks most=(4,(sortK R L L.length).1) by
         unfold answerO;rw[if_neg (by rw[HOK.out];simp),if_pos (by rw[←HEO.out,List.length_map,←HNO.out];exact h0)])
        have h1:(0:Int)<(no:Int):=by omega
        go_wp2_with fail
        go_quiet (fail)
        go_wp2_with fail
        go_ret2
        exact⟨Eo,Ao,no,co,by rw[HR0.out];rfl,by rw[HR0.out];exact HEO.out,by rw[HR0.out];simp only;rw[←HEO.out,List.length_map];exact HNO.out,by have h:=HBL1.out.trans (HBW.out.mono hsz1);exact bel,by exact(HROWS1.out.keep HBW.out).o⟩
       ·obtain rfl:no=0:=by omega
        have HS1:=hid (show¬0<(sortK R L L.length).1.length by rw[←HEO.out,List.length_map,←HNO.out];omega)
        clear h0
        by_cases hk0:0<kb
        ·have HR0:=hid (show answerO R L naks most=(3,(nakR R L).map goodO) by
          unfold answerO;rw[if_neg (by rw[HOK.out];simp),if_neg HS1.out,if_neg (by rw[←HKL.out];omega),if_neg (fun h=>by omega)])
         have hk1:(0:Int)<(kb:Int):=by omega
         go_wp2_with fail
         go_ret2
         exact⟨E',Ab',kb,cb',by rw[HR0.out];rfl,by rw[HR0.out];exact HEC2.out,by rw[HR0.out,List.length_map];exact HKL.out,HBL1.out.trans (HBW.out.mono hsz1),OwnOpts.base HOW.out hsz1⟩
        ·obtain rfl:kb=0:=by omega
         have HR0:=hid (show answerO R L naks most=(2,L) by
          unfold answerO;rw[if_neg (by rw[HOK.out];simp),if_neg HS1.out,if_pos HKL.out.symm])
         obtain rfl:nb=0:=by have h1:=HNB2.out;have h2:=HLENA.out;have h3:=HKL.out;unfold nakR at h3;rw[List.length_append] at h3;omega
         go_wp2_with fail
         refine(owns_any A2 n2 c2 E _ B (by have:=HB.out;have:=HBW.out.size;omega) (by exact HA.out.keep ((HBL1.out.trans (HBW.out.mono hsz1)).mono HB.out)) HN2.out hl2 (by intro e he;have:=HD.out e he;omega)).mono ?_
         rw[HL.out]
         rintro e w9 ⟨E9,A9,c9,rfl,hE9,hb9,ho9⟩
         have HE9:=hid hE9
         have HB9:=hid hb9
         have HO9:=hid ho9
         clear hE9 hb9 ho9
         go_wp2_with fail
         go_ret2
         exact⟨E9,A9,L.length,c9,by rw[HR0.out];rfl,by rw[HR0.out];exact HE9.out,by rw[HR0.out],(HBL1.out.trans (HBW.out.mono hsz1)).trans (HB9.out.mono (by have:=HBW.out.size;omega)),HO9.out.base (by have:=HBW.out.size;omega)⟩
  ·have hnm2:decide (naks<most)=false:=by simpa using hnm
   go_enter Tryz.func138,Tryz.ntmps138
   go_wp2_with fail
   refine(check_any A n c R _ B HB.out HR.out HN.out hl).mono ?_
   rw[HOK.out,chk_true]
   rintro e w1 ⟨rfl,hb⟩;obtain⟨xs,d,rfl⟩:=ext_of hb;clear hb
   go_wp2_with fail
   refine(sort_any A A2 n c n2 c2 R E _ B (by have:=HB.out;simp[size_ext,grow];omega) (HR.out.keep (by have:=HB.out;exact bel)) HN.out hl L HL.out (HA.out.keep (by have:=HB.out;exact bel)) HN2.out hc2 hl2 HD.out HOK.out).mono ?_
   rintro e w1 ⟨Ao,Ab,Ar,Al,no,nb,nr,nl,co,cb,cr,cl,Eo,Eb,rfl,hb,hrows,heo,heb,hno,hnb,hnr,hnl⟩
   have HROWS:=hid (show Rows4 w1 w.heap.size (.slice Ao no co) (.slice Ab nb cb) (.slice Ar nr cr) (.slice Al nl cl) Eo Eb (sortK R L L.length).2.2 (lackL R L) from ⟨hrows.o.base (by simp[size_ext,grow]),hrows.b.base (by simp[size_ext,grow]),own_base hrows.r (by simp[size_ext,grow]),own_base hrows.l (by simp[size_ext,grow])⟩)
   have HB1:=hid (show Below w.heap.size w w1 from Below.trans (by exact bel) (hb.mono (by simp[size_ext,grow])))
   have HEO:=hid heo
   have HEB:=hid heb
   have HNO:=hid hno
   have HNB:=hid hnb
   have HNR:=hid hnr
   have HNL:=hid hnl
   have hbounds:no≤1000000∧nb≤1000000∧nr≤1000000∧nl≤1000000:=by
    have h:=sort_len R L L.length
    have h2:=lack_len R L R.length
    rw[List.take_length] at h2
    have h3:L.length=n2:=by rw[←HL.out,List.length_map];exact HN2.out.symm
    rw[←heo,←heb,List.length_map,List.length_map] at h
    unfold lackL at hnl
    have h4:=HN.out
    omega
   have HNB2:=hid (show nr=nb by
    have h:=(sort_len R L L.length).2
    rw[←heb,List.length_map] at h
    omega)
   have hsz01:=HB1.out.size
   clear hb hrows heo heb hno hnb hnr hnl
   have HNBL:=hid (show nb=(sortK R L L.length).2.1.length by rw[←HEB.out,List.length_map];exact HNB.out)
   by_cases hb0:nb=0
   ·subst hb0
    have HNB0:=hid (show¬(most≤naks∧0<(sortK R L L.length).2.1.length) by rw[←HNBL.out];omega)
    go_wp2_with fail
    refine wp_world (fun W1=>Rows4 W1 w.heap.size (.slice Ao no co) (.slice Ab 0 cb) (.slice Ar nr cr) (.slice Al nl cl) Eo Eb (sortK R L L.length).2.2 (lackL R L)∧W1.heap[w1.heap.size]? =some (.cells #[.slice Ao no co,.slice Ab 0 cb,.slice Ar nr cr,.slice Al nl cl] 193 (0,0))∧Below w.heap.size w W1) ⟨HROWS.out.keep (by exact bel),by exact heap_alloc_new _ _,by have h:=HB1.out;exact bel⟩ ?_
    rintro W1 ⟨hrows1,hx1,hbl1⟩
    have HROWS1:=hid hrows1
    have HX:=hid hx1
    have HBL1:=hid hbl1
    have hX1:=lt_of_block hx1
    have hsz1:=hbl1.size
    have hr1:=hrows1.r
    have hl1:=hrows1.l
    rw[←HNR.out] at hr1
    rw[←HNL.out] at hl1
    have HMEMA:=hid (sort_mem R L L.length)
    have HMEML:=hid (show∀r∈lackL R L,r∈R from fun r hr=>(List.mem_filter.1 hr).1)
    have HLENA:=hid HNR.out
    have HLENL:=hid HNL.out
    have HRA:=hid (RulesAt.of_cells (At.of_own hr1) (fun r hr=>HWF.out r (sort_mem R L _ r hr)))
    have HRL:=hid (RulesAt.of_cells (At.of_own hl1) (fun r hr=>HWF.out r ((List.mem_filter.1 hr).1)))
    have hrl:(sortK R L L.length).2.2.length≤1000000:=by rw[←HNR.out];omega
    have hll:(lackL R L).length≤1000000:=by rw[←HNL.out];omega
    have HE0:=hid (OwnOpts.nil W1 W1.heap.size)
    obtain⟨s0,s1,s2,s3,-⟩:=four_cells hx1
    clear hrows1 hx1 hbl1 hr1 hl1
    go_loopw [11,50] (fun v i wr=> ∃(j kb cb':Nat) (Ab':Option Addr) (E':List Ent),j≤nl∧i=.int .i64 j∧v=.slice Ab' kb cb'∧E'.length=kb∧E'.map Ent.o=([]:List Opt)++((lackL R L).take j).map goodO∧Below W1.heap.size W1 wr∧OwnOpts wr W1.heap.size (.slice Ab' kb cb') E') (fun _ i _=>nl-(intOf i).toNat)
    case atStart=>exact⟨0,0,0,none,[],Nat.zero_le _,rfl,rfl,rfl,rfl,Below.refl _ _,HE0.out⟩
    case round=>
     obtain⟨j,kb,cb',Ab',E',hj,rfl,rfl,hel,heo,hbl,hown⟩:=hrel
     have HEL:=hid hel
     have HEO':=hid heo
     have HBW:=hid hbl
     have HOW:=hid hown
     have hszw:=hbl.size
     have hkb:kb≤2000000:=by
      have h1:=congrArg List.length heo
      have h2:(([]:List Opt)).length≤1000000:=(by simp)
      simp only[List.length_map,List.length_append,List.length_take,List.length_nil] at h1 h2
      omega
     obtain⟨s0,s1,s2,s3,-⟩:=four_cells ((HBW.out.block _ hX1).trans HX.out)
     have hX1':w1.heap.size<wr.heap.size:=Nat.lt_of_lt_of_le hX1 hszw
     clear hel heo hbl hown
     by_cases hlt:j<nl
     ·have HK:=hid (show j<((lackL R L)).length by have:=HLENL.out;omega)
      obtain⟨rb,ro,hq,hrb,hrat⟩:=(HRL.out.keep HBW.out).get HK.out
      cases hq
      have hrok:=are_ok HOK.out (HMEML.out _ (List.getElem_mem HK.out))
      have HTS:=hid (map_take_snoc goodO (lackL R L) j HK.out)
      obtain⟨r,hr⟩: ∃r,((lackL R L))[j]'HK.out=r:=⟨_,rfl⟩
      rw[hr] at hrat hrok HTS
      clear hr
      obtain⟨hb0,hb4,hg0,hg4,-,-⟩:=ok_bounds hrok
      obtain⟨t,sz,kd,lo,hi,gd,mu⟩:=r
      simp only at hb0 hb4 hg0 hg4
      obtain⟨s,rfl⟩:=Int.eq_ofNat_of_zero_le hb0
      obtain⟨g,rfl⟩:=Int.eq_ofNat_of_zero_le hg0
      obtain⟨c0,c1,c2',c3',c4',c5,c6⟩:=hrat
      simp only at c0 c1 c2' c3' c4' c5 c6
      have hrblt:rb<wr.heap.size:=by omega
      have hix0:(0:Int)≤(j:Int):=by omega
      have hix1:(j:Int)<(nl:Int):=by omega
      have HGO:=hid (show goodO ⟨t,(s:Int),kd,lo,hi,(g:Int),mu⟩=(t,putB g s) from rfl)
      clear hrok
      go_wp2_with fail
      refine(good_any t kd lo hi s g mu _ (by omega) (by omega)).mono ?_
      rintro e w2 ⟨A3,c3,rfl,hb,ho⟩
      have HB2:=hid (show Below wr.heap.size wr w2 from Below.trans (by exact bel) (hb.mono (by simp)))
      have HO2:=hid (own_base (base':=W1.heap.size) ho (by simp;omega))
      have HOK2:=hid (show wr.ownsRow W1.heap.size 111 2 (.slice Ab' kb cb') kb (cellsE E') by have h:=HOW.out.1;rwa [HEL.out] at h)
      have hsz2:=HB2.out.size
      clear hb ho
      go_wp2_with (at_builtin;refine wpList_appv W1 rfl (.tmp 54) (.tmp 57) 25 rfl 111 Tryz.underlying25 (.agg #[.int .i64 0,.slice none 0 0]) 2 32 infoOpt rfl (by decide) (by decide) (.slice Ab' kb cb') kb (cellsE E') rfl (by exact own_below HOK2.out (by have:=HB2.out;exact bel)) (w2.heap.size+1) (some ⟨w2.heap.size,0,none⟩) 1 1 [.int .i64 t,.slice A3 s c3] rfl rfl (by omega) (by exact At.newN _ _ _ _ _ rfl rfl) (by intro u hu;simp at hu;rcases hu with rfl|rfl<;>rfl) (by have h1:=HBW.out;have h2:=HB2.out;exact bel) ?_;intro A4 c4 w3 ho3 hc3 hb3 hg3;have HO3:=hid ho3;have HB3:=hid hb3;have HG3:=hid hg3;clear ho3 hc3 hb3 hg3)
      have HOE:=hid (OwnOpts.pushedNe (tt:=t) (dd:=putB g s) (A2:=A3) (c2:=c3) (HOW.out.below (HB2.out.trans (Below.alloc (Below.refl _ w2) hsz2 _))) (by rw[putB_length];exact own_below HO2.out (Below.alloc (Below.refl _ w2) (Nat.le_refl _) _)) (by rw[HEL.out,putB_length];exact HO3.out) HG3.out)
      go_roundw
      case rel=>exact⟨j+1,kb+1,c4,A4,_,by omega,by go_num,rfl,by simp[HEL.out],by rw[List.map_append,HEO'.out,HTS.out,HGO.out,List.append_assoc];rfl,HB3.out,HOE.out⟩
      case measure=>simp[intOf];omega
     ·obtain rfl:j=nl:=by omega
      have HEO2:=hid (show E'.map Ent.o=([]:List Opt)++((lackL R L)).map goodO by have h:=HEO'.out;rwa [List.take_of_length_le (by have:=HLENL.out;omega)] at h)
      have HEC2:=hid (show E'.map Ent.o=(nakR R L).map goodO by
       have h1:=HNB2.out
       have h2:=HLENA.out
       rw[HEO2.out];unfold nakR
       rw[List.length_eq_zero_iff.1 (h2.symm.trans h1)];rfl)
      have HKL:=hid (show kb=(nakR R L).length by have h:=congrArg List.length HEC2.out;rw[List.length_map,List.length_map] at h;rw[←h];exact HEL.out.symm)
      by_cases h0:0<no
      ·have HR0:=hid (show answerO R L naks most=(4,(sortK R L L.length).1) by
        unfold answerO;rw[if_neg (by rw[HOK.out];simp),if_pos (by rw[←HEO.out,List.length_map,←HNO.out];exact h0)])
       have h1:(0:Int)<(no:Int):=by omega
       go_wp2_with fail
       go_quiet (fail)
       go_wp2_with fail
       go_ret2
       exact⟨Eo,Ao,no,co,by rw[HR0.out];rfl,by rw[HR0.out];exact HEO.out,by rw[HR0.out];simp only;rw[←HEO.out,List.length_map];exact HNO.out,by have h:=HBL1.out.trans (HBW.out.mono hsz1);exact bel,by exact(HROWS1.out.keep HBW.out).o⟩
      ·obtain rfl:no=0:=by omega
       have HS1:=hid (show¬0<(sortK R L L.length).1.length by rw[←HEO.out,List.length_map,←HNO.out];omega)
       clear h0
       by_cases hk0:0<kb
       ·have HR0:=hid (show answerO R L naks most=(3,(nakR R L).map goodO) by
         unfold answerO;rw[if_neg (by rw[HOK.out];simp),if_neg HS1.out,if_neg (by rw[←HKL.out];omega),if_neg HNB0.out])
        have hk1:(0:Int)<(kb:Int):=by omega
        go_wp2_with fail
        go_ret2
        exact⟨E',Ab',kb,cb',by rw[HR0.out];rfl,by rw[HR0.out];exact HEC2.out,by rw[HR0.out,List.length_map];exact HKL.out,HBL1.out.trans (HBW.out.mono hsz1),OwnOpts.base HOW.out hsz1⟩
       ·obtain rfl:kb=0:=by omega
        have HR0:=hid (show answerO R L naks most=(2,L) by
         unfold answerO;rw[if_neg (by rw[HOK.out];simp),if_neg HS1.out,if_pos HKL.out.symm])
        go_wp2_with fail
        refine(owns_any A2 n2 c2 E _ B (by have:=HB.out;have:=HBW.out.size;omega) (by exact HA.out.keep ((HBL1.out.trans (HBW.out.mono hsz1)).mono HB.out)) HN2.out hl2 (by intro e he;have:=HD.out e he;omega)).mono ?_
        rw[HL.out]
        rintro e w9 ⟨E9,A9,c9,rfl,hE9,hb9,ho9⟩
        have HE9:=hid hE9
        have HB9:=hid hb9
        have HO9:=hid ho9
        clear hE9 hb9 ho9
        go_wp2_with fail
        go_ret2
        exact⟨E9,A9,L.length,c9,by rw[HR0.out];rfl,by rw[HR0.out];exact HE9.out,by rw[HR0.out],(HBL1.out.trans (HBW.out.mono hsz1)).trans (HB9.out.mono (by have:=HBW.out.size;omega)),HO9.out.base (by have:=HBW.out.size;omega)⟩
   ·have hb1:(0:Int)<(nb:Int):=by omega
    have hb2:((nb:Int)==0)=false:=by simp;omega
    have hb3:0<nb:=by omega
    by_cases h0:0<no
    ·have HR0:=hid (show answerO R L naks most=(4,(sortK R L L.length).1) by
      unfold answerO;rw[if_neg (by rw[HOK.out];simp),if_pos (by rw[←HEO.out,List.length_map,←HNO.out];exact h0)])
     have h1:(0:Int)<(no:Int):=by omega
     go_wp2_with fail
     go_quiet (fail)
     go_wp2_with fail
     go_ret2
     exact⟨Eo,Ao,no,co,by rw[HR0.out];rfl,by rw[HR0.out];exact HEO.out,by rw[HR0.out];simp only;rw[←HEO.out,List.length_map];exact HNO.out,by have h:=HB1.out;exact bel,by exact(HROWS.out.keep (by exact bel)).o⟩
    ·obtain rfl:no=0:=by omega
     have HS1:=hid (show¬0<(sortK R L L.length).1.length by rw[←HEO.out,List.length_map,←HNO.out];omega)
     have HR0:=hid (show answerO R L naks most=(4,(sortK R L L.length).2.1) by
      unfold answerO;rw[if_neg (by rw[HOK.out];simp),if_neg HS1.out,if_neg (by have h1:=HNB2.out;have h2:=HNR.out;unfold nakR;rw[List.length_append];omega),if_pos ⟨by omega,by rw[←HNBL.out];exact hb3⟩])
     clear h0
     go_wp2_with fail
     go_quiet (fail)
     go_wp2_with fail
     go_ret2
     exact⟨Eb,Ab,nb,cb,by rw[HR0.out];rfl,by rw[HR0.out];exact HEB.out,by rw[HR0.out];exact HNBL.out,by have h:=HB1.out;exact bel,by exact(HROWS.out.keep (by exact bel)).b⟩
end Go.Proofs.YtfkgmbknfnhjoaaGreat.Ne
namespace Go.Proofs.YtfkgmbknfnhjoaaGreat.Ne
open Lib (hid)
open Go.RowKit
set_option linter.unusedSimpArgs false
set_option linter.unusedVariables false
def RowsJ (code:Int) (L:List Opt) (w:World) (x:Ending) (w':World):Prop:=
 ∃(E:List Ent) (A:Option Addr) (n c:Nat),x=.returned (.tuple #[.int .i64 code,.slice A n c])∧E.map Ent.o=L∧n=L.length∧n≤c∧Below w.heap.size w w'∧OptsAt w' w'.heap.size A E
structure Tri (wr:World) (base:Nat) (va vb vc:Value) (na nb nc:Nat) (Ea Eb Ec:List Ent):Prop where
 a:wr.ownsRow base 111 2 va na (cellsE Ea)
 b:wr.ownsRow base 111 2 vb nb (cellsE Eb)
 c:wr.ownsRow base 111 2 vc nc (cellsE Ec)
 d: ∀e∈Ec,wr.ownsRow base 5 1 e.v e.d.length (e.d.map bv)
 ab: ∀g,va.ownBlock=some g→vb.ownBlock≠some g
 ac: ∀g,va.ownBlock=some g→vc.ownBlock≠some g
 bc: ∀g,vb.ownBlock=some g→vc.ownBlock≠some g
section
variable {wr w':World} {base na nb nc:Nat} {va vb vc v3:Value} {Ea Eb Ec:List Ent} {e:Ent}
theorem Tri.keep (h:Tri wr base va vb vc na nb nc Ea Eb Ec) (hb:Below wr.heap.size wr w'):Tri w' base va vb vc na nb nc Ea Eb Ec:=
 ⟨own_below h.a hb,own_below h.b hb,own_below h.c hb,fun x hx=>own_below (h.d x hx) hb,h.ab,h.ac,h.bc⟩
theorem opt_u8 {v:Value} {n:Nat} {xs:List Value} (h:wr.ownsRow base 111 2 v n xs): ∀r,v.ownBlock=some r→r<base∨(∃o:Obj,wr.heap[r]? =some o∧o.isCells=false)∨(∃cur e',wr.heap[r]? =some (.cells cur e' (0,0))∧e'≠5):=fun r e=>by
 obtain⟨cur,hc⟩:=own_type h e
 exact .inr (.inr ⟨cur,111,hc,by decide⟩)
theorem Tri.pushA (h:Tri wr base va vb vc na nb nc Ea Eb Ec) (h3:w'.ownsRow base 111 2 v3 (na+1) (cellsE Ea++[.int .i64 e.t,e.v])) (hg:wr.grownBy w' va.ownBlock) (hw:Whither wr w' va v3):Tri w' base v3 vb vc (na+1) nb nc (Ea++[e]) Eb Ec:=
 ⟨by rw[cellsE_snoc];exact h3,own_grown h.b hg (fun k hk hkr=>h.ab k hkr.symm hk),own_grown h.c hg (fun k hk hkr=>h.ac k hkr.symm hk),fun x hx=>own_stays (h.d x hx) hg (opt_u8 h.a),
  hw.apart h.ab (fun g e=>own_lt h.b e),hw.apart h.ac (fun g e=>own_lt h.c e),h.bc⟩
theorem Tri.pushB (h:Tri wr base va vb vc na nb nc Ea Eb Ec) (h3:w'.ownsRow base 111 2 v3 (nb+1) (cellsE Eb++[.int .i64 e.t,e.v])) (hg:wr.grownBy w' vb.ownBlock) (hw:Whither wr w' vb v3):Tri w' base va v3 vc na (nb+1) nc Ea (Eb++[e]) Ec:=
 ⟨own_grown h.a hg (fun k hk hkr=>h.ab k hk hkr.symm),by rw[cellsE_snoc];exact h3,own_grown h.c hg (fun k hk hkr=>h.bc k hkr.symm hk),fun x hx=>own_stays (h.d x hx) hg (opt_u8 h.b),
  fun g e e2=>hw.apart (fun g e e2=>h.ab g e2 e) (fun g e=>own_lt h.a e) g e2 e,h.ac,hw.apart h.bc (fun g e=>own_lt h.c e)⟩
theorem Tri.pushC (h:Tri wr base va vb vc na nb nc Ea Eb Ec) (h2:wr.ownsRow base 5 1 e.v e.d.length (e.d.map bv)) (h3:w'.ownsRow base 111 2 v3 (nc+1) (cellsE Ec++[.int .i64 e.t,e.v])) (hg:wr.grownBy w' vc.ownBlock) (hw:Whither wr w' vc v3):Tri w' base va vb v3 na nb (nc+1) Ea Eb (Ec++[e]):=
 ⟨own_grown h.a hg (fun k hk hkr=>h.ac k hk hkr.symm),own_grown h.b hg (fun k hk hkr=>h.bc k hk hkr.symm),by rw[cellsE_snoc];exact h3,fun x hx=>by
   rcases List.mem_append.1 hx with hx|hx
   ·exact own_stays (h.d x hx) hg (opt_u8 h.c)
   ·simp only[List.mem_singleton] at hx;subst hx;exact own_stays h2 hg (opt_u8 h.c),
  h.ab,fun g e e2=>hw.apart (fun g e e2=>h.ac g e2 e) (fun g e=>own_lt h.a e) g e2 e,fun g e e2=>hw.apart (fun g e e2=>h.bc g e2 e) (fun g e=>own_lt h.b e) g e2 e⟩
theorem Tri.nil (wr:World) (base:Nat):Tri wr base (.slice none 0 0) (.slice none 0 0) (.slice none 0 0) 0 0 0 [] [] []:=
 ⟨own_nil _ _ _ _,own_nil _ _ _ _,own_nil _ _ _ _,(fun _ h=>by cases h),(fun _ h=>by cases h),(fun _ h=>by cases h),(fun _ h=>by cases h)⟩
end
set_option maxRecDepth 100000 in
theorem ranswer_any (A A2:Option Addr) (n c n2 c2:Nat) (naks most:Int) (R:List Rl) (E:List Ent) (L:List Opt) (hL:E.map Ent.o=L) (w:World) (B:Nat) (hB:B≤w.heap.size) (hR:RulesAt w B A R) (hn:n=R.length) (hl:n≤1000000)
  (hA:OptsAt w B A2 E) (hn2:n2=E.length) (hc2:n2≤c2) (hl2:n2≤1000000) (hd: ∀e∈E,e.d.length≤1000000):
  Calls Tryz.prog 100 #[.slice A n c,.slice A2 n2 c2,.int .i64 naks,.int .i64 most] w (RowsJ (answerO R L naks most).1 (answerO R L naks most).2 w):=by
 have HR:=hid hR
 have HN:=hid hn
 have HB:=hid hB
 have HA:=hid hA
 have HN2:=hid hn2
 have HD:=hid hd
 have HL:=hid hL
 clear hR hn hB hA hn2 hd hL
 cases har:areB R with
 |false=>
  have HR0:=hid (show answerO R L naks most=(0,[]) by unfold answerO;rw[if_pos har])
  have HAR:=hid har
  clear har
  go_enter Tryz.func100,Tryz.ntmps100
  go_wp2_with fail
  refine(are_ref A n c R _ B HB.out HR.out HN.out hl).mono ?_
  rw[HAR.out]
  rintro e w1 ⟨rfl,hb⟩;obtain⟨xs,d,rfl⟩:=ext_of hb;clear hb
  go_wp2_with fail
  go_ret2
  exact⟨[],none,0,0,by rw[HR0.out];rfl,by rw[HR0.out];rfl,by rw[HR0.out];rfl,Nat.le_refl _,by exact bel,At.nil _ _ _,fun _ h=>by cases h⟩
 |true=>
  have HOK:=hid har
  clear har
  go_enter Tryz.func100,Tryz.ntmps100
  go_wp2_with fail
  refine(are_ref A n c R _ B HB.out HR.out HN.out hl).mono ?_
  rw[HOK.out]
  rintro e w1 ⟨rfl,hb⟩;obtain⟨xs,d,rfl⟩:=ext_of hb;clear hb
  go_wp2_with fail
  go_loopw [10,11,12,13] (fun va vb vc i wr=> ∃(k no co nb cb nr cr:Nat) (Ao Ab Ar:Option Addr) (Eo Eb Ec:List Ent),k≤n2∧i=.int .i64 k∧va=.slice Ao no co∧vb=.slice Ab nb cb∧vc=.slice Ar nr cr∧Below w.heap.size w wr∧Tri wr w.heap.size (.slice Ao no co) (.slice Ab nb cb) (.slice Ar nr cr) no nb nr Eo Eb Ec∧Eo.map Ent.o=(sortK R L k).1∧Eb.map Ent.o=(sortK R L k).2.1∧Ec.map Ent.o=(sortK R L k).2.2.map goodO∧no=Eo.length∧nb=Eb.length∧nr=Ec.length∧(∀e∈Eo,e∈E)∧(∀e∈Eb,e∈E)) (fun _ _ _ i _=>n2-(intOf i).toNat)
  case atStart=>exact⟨0,0,0,0,0,0,0,none,none,none,[],[],[],Nat.zero_le _,rfl,rfl,rfl,rfl,by exact bel,Tri.nil _ _,rfl,rfl,rfl,rfl,rfl,rfl,(fun _ h=>by cases h),(fun _ h=>by cases h)⟩
  case round=>
   obtain⟨k,no,co,nb,cb,nr,cr,Ao,Ab,Ar,Eo,Eb,Ec,hk,rfl,rfl,rfl,rfl,hbl,ht,heo,heb,hec,hno,hnb,hnr,hmo,hmb⟩:=hrel
   have HBL:=hid hbl
   have HT:=hid ht
   have HEO:=hid heo
   have HEB:=hid heb
   have HEC:=hid hec
   have HNO:=hid hno
   have HNB:=hid hnb
   have HNR:=hid hnr
   have HMO:=hid hmo
   have HMB:=hid hmb
   have hsz:=hbl.size
   have hnk:no+nb≤k∧nr≤k:=by
    have h:=sort_len R L k
    rw[←heo,←heb,List.length_map,List.length_map] at h
    have h2:=congrArg List.length hec
    simp only[List.length_map] at h2
    omega
   clear hbl ht heo heb hec hno hnb hnr hmo hmb
   by_cases hlt:k<n2
   ·have HK:=hid (show k<E.length by have:=HN2.out;omega)
    obtain⟨b,o,rfl,hbB,hx,hy⟩:=(HA.out.keep (HBL.out.mono HB.out)).get HK.out
    obtain⟨e0,he0⟩: ∃e0,E[k]'HK.out=e0:=⟨_,rfl⟩
    have hat:=HA.out.2 _ (List.getElem_mem HK.out)
    have hdl:=HD.out _ (List.getElem_mem HK.out)
    have hmem:=List.getElem_mem HK.out
    have hlk:L[k]? =some e0.o:=by rw[←HL.out,List.getElem?_map,List.getElem?_eq_getElem HK.out,he0];rfl
    rw[he0] at hx hy hat hdl hmem
    obtain⟨t,d,a,ce⟩:=e0
    have hbz:b<wr.heap.size:=by have:=HB.out;omega
    have jj0:(0:Int)≤(k:Int):=by omega
    have jj1:(k:Int)<(n2:Int):=by omega
    have hck:(k:Int)≤(c2:Int):=by omega
    have HAT:=hid hat
    have HLK:=hid hlk
    have HME:=hid hmem
    unfold Ent.v at hy
    simp only at hx hy hat hdl
    clear hat he0 hlk hmem
    go_wp2_with fail
    refine(rule_ref A n c R t a ce d _ B (by have:=HB.out;omega) (by exact HR.out.keep (HBL.out.mono HB.out)) HN.out hl).mono ?_
    cases hfi:fitI R (t,d) with
    |none=>
     unfold plV
     have HNX:=hid (show sortK R L (k+1)=((sortK R L k).1++[(t,d)],(sortK R L k).2.1,(sortK R L k).2.2) by
      rw[sortK_succ];unfold stepS;rw[HLK.out];simp only[kindO,Ent.o,hfi])
     clear hfi
     rintro e w1 ⟨rfl,hb⟩
     obtain⟨xs1,dr1,rfl⟩:=ext_of hb
     clear hb
     go_upto_region 9 with(fail)
     go_quiet (fail)
     go_wp2_with (at_builtin;refine wpList_appw w rfl (.tmp 44) (.tmp 49) 25 rfl 111 Tryz.underlying25 (.agg #[.int .i64 0,.slice none 0 0]) 2 32 infoOpt rfl (by decide) (by decide) (.slice Ao no co) no (cellsE Eo) rfl (by exact own_below HT.out.a (by exact bel)) (grow wr.heap.size xs1+1) (some ⟨grow wr.heap.size xs1,0,none⟩) 1 1 [.int .i64 t,.slice a d.length ce] rfl rfl (by omega) (by exact At.newN _ _ _ _ _ (by first|rfl|simp[size_ext]) rfl) (by intro u hu;simp at hu;rcases hu with rfl|rfl<;>rfl) (by have h1:=HBL.out;exact bel) ?_;intro A4 c4 w3 ho3 hc3 hb3 hg3 hw3;have HT3:=hid (Tri.pushA (e:=⟨t,d,a,ce⟩) (HT.out.keep (by exact bel)) ho3 hg3 hw3);have HB3:=hid hb3;clear ho3 hc3 hb3 hg3 hw3)
     go_roundw
     case rel=>exact⟨k+1,no+1,c4,nb,cb,nr,cr,A4,Ab,Ar,_,Eb,Ec,by omega,by go_num,rfl,rfl,rfl,HB3.out,HT3.out,by rw[HNX.out,List.map_append,HEO.out];rfl,by rw[HNX.out];exact HEB.out,by rw[HNX.out];exact HEC.out,by simp[HNO.out],HNB.out,HNR.out,(fun e he=>by
      rcases List.mem_append.1 he with he|he
      ·exact HMO.out e he
      ·simp only[List.mem_singleton] at he;subst he;exact HME.out),HMB.out⟩
     case measure=>simp[intOf];omega
    |some k2=>
     have hk2:(0:Int)≤(k2:Int):=by omega
     have HFI:=hid hfi
     unfold plV
     clear hfi
     rintro e w1 ⟨rfl,hb⟩
     obtain⟨xs1,dr1,rfl⟩:=ext_of hb
     clear hb
     have hkl:(E.take k).map Ent.o=L.take k:=by rw[List.map_take,HL.out]
     have HKL:=hid hkl
     cases hpl:(plI (L.take k) t).isSome with
     |true=>
      have HPL:=hid hpl
      have HNX:=hid (show sortK R L (k+1)=((sortK R L k).1++[(t,d)],(sortK R L k).2.1,(sortK R L k).2.2) by
       rw[sortK_succ];unfold stepS;rw[HLK.out];simp only[kindO,Ent.o,HFI.out,hpl];rfl)
      clear hpl hkl
      go_wp2_with fail
      go_region_held3 (fun w'=>w'.cell? ⟨b,o+k*2,none⟩=some (.int .i64 t)) (first|(go_keep;done)|(go_simp;done)|(simp[go_sem];done)) ((go_at_call 144;go_must (refine(has_ref (some ⟨b,o,none⟩) k c2 (E.take k) t _ B (by have:=HB.out;simp[size_ext,grow];omega) (by exact(HA.out.keep (by have:=HB.out;have h:=HBL.out.mono this;exact bel)).take k) (by rw[List.length_take];have:=HK.out;omega) (by omega)).mono ?_);rw[HKL.out,HPL.out];rintro e w1 ⟨rfl,rfl⟩))
      all_goals
       go_wp2_with (at_builtin;refine wpList_appw w rfl (.tmp 44) (.tmp 49) 25 rfl 111 Tryz.underlying25 (.agg #[.int .i64 0,.slice none 0 0]) 2 32 infoOpt rfl (by decide) (by decide) (.slice Ao no co) no (cellsE Eo) rfl (by exact own_below HT.out.a (by exact bel)) (grow wr.heap.size xs1+1) (some ⟨grow wr.heap.size xs1,0,none⟩) 1 1 [.int .i64 t,.slice a d.length ce] rfl rfl (by omega) (by exact At.newN _ _ _ _ _ (by first|rfl|simp[size_ext]) rfl) (by intro u hu;simp at hu;rcases hu with rfl|rfl<;>rfl) (by have h1:=HBL.out;exact bel) ?_;intro A4 c4 w3 ho3 hc3 hb3 hg3 hw3;have HT3:=hid (Tri.pushA (e:=⟨t,d,a,ce⟩) (HT.out.keep (by exact bel)) ho3 hg3 hw3);have HB3:=hid hb3;clear ho3 hc3 hb3 hg3 hw3)
       go_roundw
       case rel=>exact⟨k+1,no+1,c4,nb,cb,nr,cr,A4,Ab,Ar,_,Eb,Ec,by omega,by go_num,rfl,rfl,rfl,HB3.out,HT3.out,by rw[HNX.out,List.map_append,HEO.out];rfl,by rw[HNX.out];exact HEB.out,by rw[HNX.out];exact HEC.out,by simp[HNO.out],HNB.out,HNR.out,(fun e he=>by
        rcases List.mem_append.1 he with he|he
        ·exact HMO.out e he
        ·simp only[List.mem_singleton] at he;subst he;exact HME.out),HMB.out⟩
       case measure=>simp[intOf];omega
     |false=>
      have hplN:plI (L.take k) t=none:=by simpa using hpl
      have HPL:=hid hpl
      have HKIND:=hid (show kindO R L k (t,d)=R[k2]? by unfold kindO;rw[HFI.out];simp only[hplN];rfl)
      clear hpl hplN hkl
      obtain⟨hkr,hfb⟩:=fitI_lt HFI.out
      obtain⟨rb,ro,rfl,hrb,hratw⟩:=HR.out.get hkr
      have hrbw:rb<w.heap.size:=by have:=HB.out;omega
      have hrat:=hratw.keep HBL.out hrbw
      have hrok:=are_ok HOK.out (List.getElem_mem hkr)
      have hrk:R[k2]? =some R[k2]:=List.getElem?_eq_getElem hkr
      obtain⟨r,hr⟩: ∃r,R[k2]=r:=⟨_,rfl⟩
      rw[hr] at hfb hrat hratw hrok hrk
      clear hr
      obtain⟨hb0,hb4,hg0,hg4,-,-⟩:=ok_bounds hrok
      have h4:d.length≤4:=by unfold fitB at hfb;simp only[Bool.and_eq_true,beq_iff_eq] at hfb;have:=hfb.2;omega
      have HRK:=hid hrk
      obtain⟨rt,sz,kd,lo,hi,gd,mu⟩:=r
      simp only at hb0 hb4 hg0 hg4
      obtain⟨s,rfl⟩:=Int.eq_ofNat_of_zero_le hb0
      obtain⟨g,rfl⟩:=Int.eq_ofNat_of_zero_le hg0
      have HRW:=hid hratw
      clear hratw
      obtain⟨c0,c1,c2',c3',c4',c5,c6⟩:=hrat
      simp only at c0 c1 c2' c3' c4' c5 c6
      have hrblt:rb<wr.heap.size:=by have:=HB.out;omega
      have hix0:(0:Int)≤(k2:Int):=by omega
      have hix1:(k2:Int)<(n:Int):=by have:=HN.out;omega
      have HGO:=hid (show goodO ⟨rt,(s:Int),kd,lo,hi,(g:Int),mu⟩=(rt,putB g s) from rfl)
      have hk2n:k2<n:=by have:=HN.out;omega
      have hs4:s≤4:=by omega
      have hg4':g<4294967296:=by omega
      clear hrok hrk hfb hkr hb0 hb4 hg0 hg4
      cases htk:takesB kd lo hi g (be d:Int) with
      |true=>
       have HTK:=hid htk
       have HNX:=hid (show sortK R L (k+1)=sortK R L k by
        rw[sortK_succ];unfold stepS;rw[HLK.out]
        simp only[Ent.o,HKIND.out,HRK.out]
        exact if_pos htk)
       clear htk
       go_wp2_with fail
       go_region_held3 (fun w'=>w'.cell? ⟨b,o+k*2,none⟩=some (.int .i64 t)) (first|(go_keep;done)|(go_simp;done)|(simp[go_sem];done)) ((go_at_call 144;go_must (refine(has_ref (some ⟨b,o,none⟩) k c2 (E.take k) t _ B (by have:=HB.out;simp[size_ext,grow];omega) (by exact(HA.out.keep (by have:=HB.out;have h:=HBL.out.mono this;exact bel)).take k) (by rw[List.length_take];have:=HK.out;omega) (by omega)).mono ?_);rw[HKL.out,HPL.out];rintro e w1 ⟨rfl,rfl⟩))
       all_goals
        go_upto_region 10 with(fail)
        refine wp_world (fun W4=>Below wr.heap.size wr W4) (by exact bel) ?_
        rintro W4 hb4
        have HB4:=hid hb4
        have hsz4:=hb4.size
        have HT4:=hid (HT.out.keep hb4)
        have HBL4:=hid (HBL.out.trans (hb4.mono hsz))
        rw[←hb4.cell (p:=⟨rb,_,none⟩) hrblt] at c0 c1 c2' c3' c4' c5 c6
        rw[←hb4.cell (p:=⟨b,_,none⟩) hbz] at hx hy
        have hrblt4:rb<W4.heap.size:=by omega
        have hblt4:b<W4.heap.size:=by omega
        clear hb4
        go_region_held3 (fun w'=>w'.cell? ⟨rb,ro+k2*7,none⟩=some (.int .i64 rt)∧w'.cell? ⟨rb,ro+k2*7+1,none⟩=some (.int .i64 (s:Int))∧w'.cell? ⟨rb,ro+k2*7+2,none⟩=some (.int .i64 kd)∧w'.cell? ⟨rb,ro+k2*7+3,none⟩=some (.int .i64 lo)∧w'.cell? ⟨rb,ro+k2*7+4,none⟩=some (.int .i64 hi)∧w'.cell? ⟨rb,ro+k2*7+5,none⟩=some (.int .i64 (g:Int))∧w'.cell? ⟨rb,ro+k2*7+6,none⟩=some (.bool mu)∧w'.cell? ⟨b,o+k*2,none⟩=some (.int .i64 t)∧w'.cell? ⟨b,o+k*2+1,none⟩=some (.slice a d.length ce)) (first|(go_keep;done)|(go_simp;done)|(simp[go_sem];done)) ((first|(go_at_call 145;go_must (refine(rnumber_ref t a d.length ce d _ B (by have:=HB.out;first|omega|(simp[size_ext,grow];omega)) (by exact HAT.out.1.keep (by have:=HB.out;have h:=HBL4.out.mono this;exact bel)) rfl h4).mono ?_);rintro e w1 ⟨rfl,hb⟩;obtain⟨xs4,dr4,rfl⟩:=ext_of hb;clear hb)|(go_at_call 108;go_must (refine(takes_ref rt _ kd lo hi _ _ mu _).mono ?_);rw[HTK.out];rintro e w1 ⟨rfl,hb⟩;obtain⟨xs5,dr5,rfl⟩:=ext_of hb;clear hb)))
        all_goals
         go_wp2_with fail
         go_roundw
         case rel=>exact⟨k+1,no,co,nb,cb,nr,cr,Ao,Ab,Ar,Eo,Eb,Ec,by omega,by go_num,rfl,rfl,rfl,by have h:=HBL4.out;exact bel,HT4.out.keep (by exact bel),by rw[HNX.out];exact HEO.out,by rw[HNX.out];exact HEB.out,by rw[HNX.out];exact HEC.out,HNO.out,HNB.out,HNR.out,HMO.out,HMB.out⟩
         case measure=>simp[intOf];omega
      |false=>
       have HTK:=hid htk
       have HNX:=hid (show sortK R L (k+1)=((sortK R L k).1,(sortK R L k).2.1++[(t,d)],(sortK R L k).2.2++[⟨rt,(s:Int),kd,lo,hi,(g:Int),mu⟩]) by
        rw[sortK_succ];unfold stepS;rw[HLK.out]
        simp only[Ent.o,HKIND.out,HRK.out]
        exact if_neg (by show¬takesB kd lo hi g (be d:Int)=true;rw[htk];simp))
       clear htk
       go_wp2_with fail
       go_region_held3 (fun w'=>w'.cell? ⟨b,o+k*2,none⟩=some (.int .i64 t)) (first|(go_keep;done)|(go_simp;done)|(simp[go_sem];done)) ((go_at_call 144;go_must (refine(has_ref (some ⟨b,o,none⟩) k c2 (E.take k) t _ B (by have:=HB.out;simp[size_ext,grow];omega) (by exact(HA.out.keep (by have:=HB.out;have h:=HBL.out.mono this;exact bel)).take k) (by rw[List.length_take];have:=HK.out;omega) (by omega)).mono ?_);rw[HKL.out,HPL.out];rintro e w1 ⟨rfl,rfl⟩))
       all_goals
        go_upto_region 10 with(fail)
        refine wp_world (fun W4=>Below wr.heap.size wr W4) (by exact bel) ?_
        rintro W4 hb4
        have HB4:=hid hb4
        have hsz4:=hb4.size
        have HT4:=hid (HT.out.keep hb4)
        have HBL4:=hid (HBL.out.trans (hb4.mono hsz))
        rw[←hb4.cell (p:=⟨rb,_,none⟩) hrblt] at c0 c1 c2' c3' c4' c5 c6
        rw[←hb4.cell (p:=⟨b,_,none⟩) hbz] at hx hy
        have hrblt4:rb<W4.heap.size:=by omega
        have hblt4:b<W4.heap.size:=by omega
        clear hb4
        go_region_held3 (fun w'=>w'.cell? ⟨rb,ro+k2*7,none⟩=some (.int .i64 rt)∧w'.cell? ⟨rb,ro+k2*7+1,none⟩=some (.int .i64 (s:Int))∧w'.cell? ⟨rb,ro+k2*7+2,none⟩=some (.int .i64 kd)∧w'.cell? ⟨rb,ro+k2*7+3,none⟩=some (.int .i64 lo)∧w'.cell? ⟨rb,ro+k2*7+4,none⟩=some (.int .i64 hi)∧w'.cell? ⟨rb,ro+k2*7+5,none⟩=some (.int .i64 (g:Int))∧w'.cell? ⟨rb,ro+k2*7+6,none⟩=some (.bool mu)∧w'.cell? ⟨b,o+k*2,none⟩=some (.int .i64 t)∧w'.cell? ⟨b,o+k*2+1,none⟩=some (.slice a d.length ce)) (first|(go_keep;done)|(go_simp;done)|(simp[go_sem];done)) ((first|(go_at_call 145;go_must (refine(rnumber_ref t a d.length ce d _ B (by have:=HB.out;first|omega|(simp[size_ext,grow];omega)) (by exact HAT.out.1.keep (by have:=HB.out;have h:=HBL4.out.mono this;exact bel)) rfl h4).mono ?_);rintro e w1 ⟨rfl,hb⟩;obtain⟨xs4,dr4,rfl⟩:=ext_of hb;clear hb)|(go_at_call 108;go_must (refine(takes_ref rt _ kd lo hi _ _ mu _).mono ?_);rw[HTK.out];rintro e w1 ⟨rfl,hb⟩;obtain⟨xs5,dr5,rfl⟩:=ext_of hb;clear hb)))
        all_goals
         go_wp2_with (at_builtin;refine wpList_appw w rfl (.tmp 62) (.tmp 67) 25 rfl 111 Tryz.underlying25 (.agg #[.int .i64 0,.slice none 0 0]) 2 32 infoOpt rfl (by decide) (by decide) (.slice Ab nb cb) nb (cellsE Eb) rfl (by exact own_below HT4.out.b (by exact bel)) (grow (grow W4.heap.size xs4) xs5+1) (some ⟨grow (grow W4.heap.size xs4) xs5,0,none⟩) 1 1 [.int .i64 t,.slice a d.length ce] rfl rfl (by omega) (by exact At.newN _ _ _ _ _ (by first|rfl|simp[size_ext]) rfl) (by intro u hu;simp at hu;rcases hu with rfl|rfl<;>rfl) (by have h1:=HBL4.out;exact bel) ?_;intro A4 c4 w3 ho3 hc3 hb3 hg3 hw3;have HT3:=hid (Tri.pushB (e:=⟨t,d,a,ce⟩) (HT4.out.keep (by exact bel)) ho3 hg3 hw3);obtain⟨q0,q1,q2,q3,q4,q5,q6⟩:=HRW.out.keep hb3 hrbw;simp only at q0 q1 q2 q3 q4 q5 q6;have hz3:rb<w3.heap.size:=(by have:=hb3.size;omega);have HB3:=hid hb3;clear ho3 hc3 hb3 hg3 hw3)
         refine(rgood_ref rt kd lo hi s g mu _ (by omega) (by omega)).mono ?_
         rintro e w5 ⟨A5,c5',rfl,hb5,ho5⟩
         have HB5:=hid hb5
         have HO5:=hid (own_base (base':=w.heap.size) ho5 (by have:=HB3.out.size;omega))
         have hsz3:=HB3.out.size
         have hsz5:=hb5.size
         clear hb5 ho5
         go_wp2_with (at_builtin;go_loud (refine wpList_appw w rfl (.tmp 69) (.tmp 75) 25 rfl 111 Tryz.underlying25 (.agg #[.int .i64 0,.slice none 0 0]) 2 32 infoOpt rfl (by decide) (by decide) (.slice Ar nr cr) nr (cellsE Ec) rfl (by exact own_below HT3.out.c (by have:=HB5.out;exact bel)) (w5.heap.size+1) (some ⟨w5.heap.size,0,none⟩) 1 1 [.int .i64 rt,.slice A5 s c5'] rfl rfl (by omega) (by exact At.newN _ _ _ _ _ rfl rfl) (by intro u hu;simp at hu;rcases hu with rfl|rfl<;>rfl) (by have h1:=HB3.out.trans (HB5.out.mono hsz3);exact bel) ?_);intro A7 c7 w7 ho7 hc7 hb7 hg7 hw7;go_must (have HT7:=hid (Tri.pushC (e:=⟨rt,putB g s,A5,c5'⟩) (HT3.out.keep (by have:=HB5.out;exact bel)) (by show World.ownsRow _ _ _ _ (.slice A5 (putB g s).length c5') (putB g s).length _;rw[putB_length];exact own_below HO5.out (Below.alloc (Below.refl _ w5) (Nat.le_refl _) _)) (by show World.ownsRow _ _ _ _ _ _ (cellsE Ec++[.int .i64 rt,.slice A5 (putB g s).length c5']);rw[putB_length];exact ho7) hg7 hw7));have HB7:=hid hb7;clear ho7 hc7 hb7 hg7 hw7)
         go_roundw
         case rel=>exact⟨k+1,no,co,nb+1,c4,nr+1,c7,Ao,A4,A7,Eo,_,_,by omega,by go_num,rfl,rfl,rfl,HB7.out,HT7.out,by rw[HNX.out];exact HEO.out,by rw[HNX.out,List.map_append,HEB.out];rfl,by rw[HNX.out,List.map_append,HEC.out,List.map_append];rfl,HNO.out,by simp[HNB.out],by simp[HNR.out],HMO.out,(fun e he=>by
          rcases List.mem_append.1 he with he|he
          ·exact HMB.out e he
          ·simp only[List.mem_singleton] at he;subst he;exact HME.out)⟩
         case measure=>simp[intOf];omega
   ·obtain rfl:k=n2:=by omega
    have HLN:=hid (show k=L.length by rw[←HL.out,List.length_map];exact HN2.out)
    by_cases hn0:0<no
    ·have HR0:=hid (show answerO R L naks most=(4,(sortK R L L.length).1) by
      unfold answerO;rw[if_neg (by rw[HOK.out];simp),if_pos (by rw[←HLN.out,←HEO.out,List.length_map,←HNO.out];exact hn0)])
     have hn1:(0:Int)<(no:Int):=by omega
     go_wp2_with fail
     go_ret2
     obtain⟨_,_,hq,hkc,-⟩:=ownsRow_form HT.out.a
     cases hq
     exact⟨Eo,Ao,no,co,by rw[HR0.out];rfl,by rw[HR0.out];have h:=HEO.out;rw[HLN.out] at h;exact h,by rw[HR0.out];have h:=congrArg List.length HEO.out;rw[List.length_map,HLN.out] at h;rw[←h];exact HNO.out,hkc,HBL.out,At.of_own HT.out.a,fun e he=>⟨((HA.out.2 e (HMO.out e he)).1.keep (HBL.out.mono HB.out)).more (by have:=HB.out;omega),(HA.out.2 e (HMO.out e he)).2⟩⟩
    ·obtain rfl:no=0:=by omega
     have HS1:=hid (show¬0<(sortK R L L.length).1.length by rw[←HLN.out,←HEO.out,List.length_map,←HNO.out];omega)
     clear hn0
     go_wp2_with fail
     go_loopw [12,15] (fun vc i wr=> ∃(j nr cr:Nat) (Ar:Option Addr) (Ec:List Ent),j≤n∧i=.int .i64 j∧vc=.slice Ar nr cr∧Below w.heap.size w wr∧Tri wr w.heap.size (.slice Ao 0 co) (.slice Ab nb cb) (.slice Ar nr cr) 0 nb nr Eo Eb Ec∧Ec.map Ent.o=(sortK R L k).2.2.map goodO++((R.take j).filter (lackB L)).map goodO∧nr=Ec.length) (fun _ i _=>n-(intOf i).toNat)
     case atStart=>exact⟨0,nr,cr,Ar,Ec,Nat.zero_le _,rfl,rfl,HBL.out,HT.out,by rw[HEC.out];simp,HNR.out⟩
     case round=>
      obtain⟨j,nr,cr,Ar,Ec,hj,rfl,rfl,hbl,ht,hec,hnr⟩:=hrel
      have HBL:=hid hbl
      have HT:=hid ht
      have HEC:=hid hec
      have HNR:=hid hnr
      have hsz:=hbl.size
      have hnr3:nr≤2000000:=by
       have h:=sort_len R L k
       have h1:=congrArg List.length hec
       have h2:=lack_len R L j
       simp only[List.length_map,List.length_append] at h1
       omega
      clear hbl ht hec hnr
      by_cases hlt:j<n
      ·have HK:=hid (show j<R.length by have:=HN.out;omega)
       have hrok:=are_ok HOK.out (List.getElem_mem HK.out)
       obtain⟨rb,ro,rfl,hrb,hrat⟩:=(HR.out.keep (HBL.out.mono HB.out)).get HK.out
       have HFS:=hid (filter_snoc (lackB L) R j HK.out)
       obtain⟨r,hr⟩: ∃r,R[j]'HK.out=r:=⟨_,rfl⟩
       rw[hr] at hrat hrok HFS
       clear hr
       obtain⟨hb0,hb4,hg0,hg4,-,-⟩:=ok_bounds hrok
       obtain⟨rt,sz,kd,lo,hi,gd,mu⟩:=r
       simp only at hb0 hb4 hg0 hg4
       obtain⟨s,rfl⟩:=Int.eq_ofNat_of_zero_le hb0
       obtain⟨g,rfl⟩:=Int.eq_ofNat_of_zero_le hg0
       obtain⟨c0,c1,c2',c3',c4',c5,c6⟩:=hrat
       simp only at c0 c1 c2' c3' c4' c5 c6
       have hrblt:rb<wr.heap.size:=by have:=HB.out;omega
       have hix0:(0:Int)≤(j:Int):=by omega
       have hix1:(j:Int)<(n:Int):=by omega
       have hs4:s≤4:=by omega
       have hg4':g<4294967296:=by omega
       have HGO:=hid (show goodO ⟨rt,(s:Int),kd,lo,hi,(g:Int),mu⟩=(rt,putB g s) from rfl)
       clear hrok hb0 hb4 hg0 hg4
       cases mu
       ·have HNX:=hid (show(R.take (j+1)).filter (lackB L)=(R.take j).filter (lackB L) by rw[HFS.out];simp[lackB])
        go_wp2_with fail
        go_roundw
        case rel=>exact⟨j+1,nr,cr,Ar,Ec,by omega,by go_num,rfl,by have h:=HBL.out;exact bel,HT.out.keep (by exact bel),by rw[HNX.out];exact HEC.out,HNR.out⟩
        case measure=>simp[intOf];omega
       ·go_wp2_with fail
        refine(has_ref A2 k c2 E rt _ B (by have:=HB.out;omega) (by exact HA.out.keep (by have:=HB.out;have h:=HBL.out.mono this;exact bel)) HN2.out hl2).mono ?_
        rw[HL.out]
        cases hpl:(plI L rt).isSome with
        |true=>
         have HNX:=hid (show(R.take (j+1)).filter (lackB L)=(R.take j).filter (lackB L) by rw[HFS.out];simp[lackB,hpl])
         clear hpl
         rintro e w1 ⟨rfl,rfl⟩
         go_wp2_with fail
         go_roundw
         case rel=>exact⟨j+1,nr,cr,Ar,Ec,by omega,by go_num,rfl,by have h:=HBL.out;exact bel,HT.out.keep (by exact bel),by rw[HNX.out];exact HEC.out,HNR.out⟩
         case measure=>simp[intOf];omega
        |false=>
         have HNX:=hid (show(R.take (j+1)).filter (lackB L)=(R.take j).filter (lackB L)++[⟨rt,(s:Int),kd,lo,hi,(g:Int),true⟩] by rw[HFS.out];unfold lackB;simp only[hpl];rfl)
         clear hpl
         rintro e w1 ⟨rfl,rfl⟩
         go_wp2_with fail
         refine(rgood_ref rt kd lo hi s g true _ (by omega) (by omega)).mono ?_
         rintro e w5 ⟨A5,c5',rfl,hb5,ho5⟩
         have HB5:=hid hb5
         have HO5:=hid (own_base (base':=w.heap.size) ho5 (by omega))
         have hsz5:=hb5.size
         clear hb5 ho5
         go_wp2_with (at_builtin;refine wpList_appw w rfl (.tmp 102) (.tmp 108) 25 rfl 111 Tryz.underlying25 (.agg #[.int .i64 0,.slice none 0 0]) 2 32 infoOpt rfl (by decide) (by decide) (.slice Ar nr cr) nr (cellsE Ec) rfl (by exact own_below HT.out.c (by have:=HB5.out;exact bel)) (w5.heap.size+1) (some ⟨w5.heap.size,0,none⟩) 1 1 [.int .i64 rt,.slice A5 s c5'] rfl rfl (by omega) (by exact At.newN _ _ _ _ _ rfl rfl) (by intro u hu;simp at hu;rcases hu with rfl|rfl<;>rfl) (by have h1:=HBL.out.trans (HB5.out.mono hsz);exact bel) ?_;intro A7 c7 w7 ho7 hc7 hb7 hg7 hw7;go_must (have HT7:=hid (Tri.pushC (e:=⟨rt,putB g s,A5,c5'⟩) (HT.out.keep (by have:=HB5.out;exact bel)) (by show World.ownsRow _ _ _ _ (.slice A5 (putB g s).length c5') (putB g s).length _;rw[putB_length];exact own_below HO5.out (Below.alloc (Below.refl _ w5) (Nat.le_refl _) _)) (by show World.ownsRow _ _ _ _ _ _ (cellsE Ec++[.int .i64 rt,.slice A5 (putB g s).length c5']);rw[putB_length];exact ho7) hg7 hw7));have HB7:=hid hb7;clear ho7 hc7 hb7 hg7 hw7)
         go_roundw
         case rel=>exact⟨j+1,nr+1,c7,A7,_,by omega,by go_num,rfl,HB7.out,HT7.out,by rw[HNX.out,List.map_append,HEC.out,List.map_append,List.append_assoc];rfl,by simp[HNR.out]⟩
         case measure=>simp[intOf];omega
      ·obtain rfl:j=n:=by omega
       have HEC2:=hid (show Ec.map Ent.o=(nakR R L).map goodO by
        rw[HEC.out,List.take_of_length_le (by have:=HN.out;omega),HLN.out];unfold nakR lackL;rw[List.map_append])
       have HNRL:=hid (show nr=(nakR R L).length by have h:=congrArg List.length HEC2.out;rw[List.length_map,List.length_map] at h;rw[←h];exact HNR.out)
       have HNBL:=hid (show nb=(sortK R L L.length).2.1.length by rw[←HLN.out,←HEB.out,List.length_map];exact HNB.out)
       by_cases hr0:nr=0
       ·subst hr0
        have HR0:=hid (show answerO R L naks most=(2,L) by
         unfold answerO;rw[if_neg (by rw[HOK.out];simp),if_neg HS1.out,if_pos HNRL.out.symm])
        go_wp2_with fail
        go_ret2
        exact⟨E,A2,k,c2,by rw[HR0.out];rfl,by rw[HR0.out];exact HL.out,by rw[HR0.out];exact HLN.out,hc2,HBL.out,(HA.out.keep (HBL.out.mono HB.out)).more (by have:=HB.out;omega)⟩
       ·have er:((nr:Int)==0)=false:=by simp;omega
        by_cases hm:most≤naks
        ·by_cases hb0:0<nb
         ·have HR0:=hid (show answerO R L naks most=(4,(sortK R L L.length).2.1) by
           unfold answerO;rw[if_neg (by rw[HOK.out];simp),if_neg HS1.out,if_neg (by rw[←HNRL.out];exact hr0),if_pos ⟨hm,by rw[←HNBL.out];exact hb0⟩])
          have hb1:(0:Int)<(nb:Int):=by omega
          go_wp2_with fail
          go_ret2
          obtain⟨_,_,hq,hkc,-⟩:=ownsRow_form HT.out.b
          cases hq
          exact⟨Eb,Ab,nb,cb,by rw[HR0.out];rfl,by rw[HR0.out];have h:=HEB.out;rw[HLN.out] at h;exact h,by rw[HR0.out];exact HNBL.out,hkc,HBL.out,by have h:=HT.out.b;exact At.of_own h,fun e he=>⟨((HA.out.2 e (HMB.out e he)).1.keep (HBL.out.mono HB.out)).more (by have:=HB.out;omega),(HA.out.2 e (HMB.out e he)).2⟩⟩
         ·obtain rfl:nb=0:=by omega
          have HR0:=hid (show answerO R L naks most=(3,(nakR R L).map goodO) by
           unfold answerO;rw[if_neg (by rw[HOK.out];simp),if_neg HS1.out,if_neg (by rw[←HNRL.out];exact hr0),if_neg (by rw[←HNBL.out];omega)])
          clear hb0
          go_wp2_with fail
          go_ret2
          obtain⟨_,_,hq,hkc,-⟩:=ownsRow_form HT.out.c
          cases hq
          exact⟨Ec,Ar,nr,cr,by rw[HR0.out];rfl,by rw[HR0.out];exact HEC2.out,by rw[HR0.out,List.length_map];exact HNRL.out,hkc,HBL.out,At.of_own HT.out.c,fun e he=>by
           have h:=HT.out.d e he
           obtain⟨_,_,hq,hkc,-⟩:=ownsRow_form h
           cases hq
           exact⟨At.of_own h,hkc⟩⟩
        ·have hm2:decide (most≤naks)=false:=by simpa using hm
         have HR0:=hid (show answerO R L naks most=(3,(nakR R L).map goodO) by
          unfold answerO;rw[if_neg (by rw[HOK.out];simp),if_neg HS1.out,if_neg (by rw[←HNRL.out];exact hr0),if_neg (fun h=>hm h.1)])
         go_wp2_with fail
         go_ret2
         obtain⟨_,_,hq,hkc,-⟩:=ownsRow_form HT.out.c
         cases hq
         exact⟨Ec,Ar,nr,cr,by rw[HR0.out];rfl,by rw[HR0.out];exact HEC2.out,by rw[HR0.out,List.length_map];exact HNRL.out,hkc,HBL.out,At.of_own HT.out.c,fun e he=>by
          have h:=HT.out.d e he
          obtain⟨_,_,hq,hkc,-⟩:=ownsRow_form h
          cases hq
          exact⟨At.of_own h,hkc⟩⟩
end Go.Proofs.YtfkgmbknfnhjoaaGreat.Ne
namespace Go.Proofs.YtfkgmbknfnhjoaaGreat.Ne
open Lib (hid)
open Go.ChangeShapes Go.WideShapes Go.ChangeAt Go.RowKit Go.Joins Go.Deep
set_option linter.unusedSimpArgs false
set_option linter.unusedVariables false
set_option maxRecDepth 100000
end Go.Proofs.YtfkgmbknfnhjoaaGreat.Ne
namespace Go.Proofs.YtfkgmbknfnhjoaaGreat.Ne
open Lib (hid)
open Go.RowKit
set_option linter.unusedSimpArgs false
set_option linter.unusedVariables false
theorem RowsI.get {code:Int} {L:List Opt} {w w':World} {x:Ending} (h:RowsI code L w x w') {n:Nat} (hn:L.length=n):
  ∃(E:List Ent) (A:Option Addr) (c:Nat),x=.returned (.tuple #[.int .i64 code,.slice A n c])∧E.map Ent.o=L∧n=E.length∧n≤c∧Below w.heap.size w w'∧OwnOpts w' w.heap.size (.slice A n c) E:=by
 obtain⟨E,A,n',c,rfl,he,hn',hb,ho⟩:=h
 obtain rfl:n'=n:=by omega
 obtain⟨_,_,hq,hc,-⟩:=ownsRow_form ho.1
 cases hq
 have:E.length=L.length:=by rw[←he,List.length_map]
 exact⟨E,A,c,rfl,he,by omega,by omega,hb,ho⟩
end Go.Proofs.YtfkgmbknfnhjoaaGreat.Ne
namespace Go.Proofs.YtfkgmbknfnhjoaaGreat.Ne
open Lib (hid)
open Go.RowKit
set_option linter.unusedSimpArgs false
set_option linter.unusedVariables false
structure CutAt (w W:World) (E:List Ent) (A:Option Addr) (n c:Nat):Prop where
 opts:OptsAt W W.heap.size A (fewE E)
 len:n=(fewE E).length
 le:n≤20
 cap:n≤c
 data: ∀e∈fewE E,e.d.length≤1000000
theorem RowsB.get {L:List Opt} {b:Bool} {w w':World} {x:Ending} (h:RowsB L b w x w'):
  ∃(E:List Ent) (A:Option Addr) (n c:Nat),x=.returned (.tuple #[.slice A n c,.bool b])∧E.map Ent.o=L∧n=E.length∧n≤c∧Below w.heap.size w w'∧OwnOpts w' w.heap.size (.slice A n c) E:=by
 obtain⟨E,A,c,rfl,he,hb,ho⟩:=h
 obtain⟨_,_,hq,hc,-⟩:=ownsRow_form ho.1
 simp only[Value.slice.injEq] at hq
 obtain⟨-,-,rfl⟩:=hq
 have:E.length=L.length:=by rw[←he,List.length_map]
 exact⟨E,A,L.length,c,rfl,he,this.symm,by omega,hb,ho⟩
end Go.Proofs.YtfkgmbknfnhjoaaGreat.Ne
namespace Go.Proofs.YtfkgmbknfnhjoaaGreat.Ne
open Lib (hid)
open Go.RowKit
set_option linter.unusedSimpArgs false
set_option linter.unusedVariables false
end Go.Proofs.YtfkgmbknfnhjoaaGreat.Ne
