/- What has become of a control, told. -/
import Derived.Test.YtfkgmbknfnhjoaaGreatZ2
set_option maxHeartbeats 8000000
namespace Go.Proofs.YtfkgmbknfnhjoaaGreat
open Lib (hid)
open Go.RowKit
set_option linter.unusedSimpArgs false
set_option linter.unusedVariables false
set_option linter.ambiguousOpen false
open Ne (Rl Opt RulesAt areB wf64)
open Fs (av hasB)
set_option maxRecDepth 100000 in
theorem told_any (b:Nat) (a:Au) (Aa:Option Addr) (na ca:Nat) (vr:Value) (mc mt mf wt:Int) (a0:Au) (va0:Value) (own peer tick:Int) (vo vd:Value) (E:List Ent) (w:World) (B:Nat) (hB:B≤w.heap.size) (hrow:w.heap[b]? =some (.cells (runC a (.slice Aa na ca) vr mc mt mf wt a0 va0 own peer tick vo vd) 128 (0,0))) (hE:OptsAt w B Aa E) (hna:na=E.length) (hla:na≤1000000) (hda: ∀e∈E,e.d.length≤400000000) (he:E.map Ent.o=a.ask):
  Calls Tryz.prog 70 #[.pointer (some ⟨b,0,none⟩)] w (ToldP a own peer vo vd w):=by
 have HB:=hid hB
 have HR:=hid hrow
 have HE:=hid hE
 have HNA:=hid hna
 have HDA:=hid hda
 have HEA:=hid he
 have lb:=lt_blk hrow
 obtain⟨⟨x0,x1,x2,x3,x4,x5,x6⟩,-⟩:=runC_get hrow
 clear hB hrow hE hna hda he
 go_enter Tryz.func70,Tryz.ntmps70
 go_upto_region 3 with(fail)
 refine wp_w (fun W=>W.heap[w.heap.size]? =some (.cells #[.int .i64 0,.int .i64 0,.int .i64 0,.slice none 0 0,.int .i64 0,.int .i64 0,.int .i64 0,.int .i64 0,.int .i64 0] 60 (0,0))∧W.heap[w.heap.size+1]? =some (.cells #[.int .i64 a.st,.int .i64 a.id,.int .i64 a.req,.slice Aa na ca,.int .i64 a.cnt,.int .i64 a.tim,.int .i64 a.nak] 29 (0,0))∧Below w.heap.size w W) ⟨by exact hpa,by exact hpa,by exact bel⟩ ?_
 clear x0 x1 x2 x3 x4 x5 x6
 rintro W1 ⟨hn,ht,hb⟩
 have HN1:=hid hn
 have HT1:=hid ht
 have HB1:=hid hb
 have hs1:=hb.size
 have ln:=lt_blk hn
 have lt:=lt_blk ht
 have x3:=(hb.cell (p:=⟨b,3,none⟩) lb).trans (runC_get HR.out).1.2.2.2.1
 clear hn ht hb
 go_wp2_with fail
 go_loopw [19,6] (fun i v wr=> ∃(k c2:Nat) (A2:Option Addr) (E2:List Ent),k≤na∧i=.int .i64 k∧v=.slice A2 k c2∧k≤c2∧E2.map Ent.o=(E.take k).map Ent.o∧Below W1.heap.size W1 wr∧OwnOpts wr W1.heap.size (.slice A2 k c2) E2) (fun i _ _=>na-(intOf i).toNat)
 case atStart=>exact⟨0,0,none,[],Nat.zero_le _,rfl,rfl,Nat.le_refl _,rfl,Below.refl _ _,OwnOpts.nil _ _⟩
 case round=>
  clear x3
  obtain⟨k,c2,A2,E2,hk,rfl,rfl,hkc,hE2,hbl,hown⟩:=hrel
  have HE2:=hid hE2
  have HKC:=hid hkc
  have HBL:=hid hbl
  have HOW:=hid hown
  have HBA:=hid (HB1.out.trans (hbl.mono hs1))
  have hszr:=hbl.size
  have HL2:=hid (show E2.length=k by have:=congrArg List.length hE2;simp at this;have h2:=HNA.out;omega)
  clear hE2 hbl hown hkc
  by_cases hlt:k<na
  ·have HK:=hid (show k<E.length by have:=HNA.out;omega)
   obtain⟨g,o,rfl,hgB,hx,hy⟩:=(HE.out.keep (HBA.out.mono HB.out)).get HK.out
   have HTK:=hid (Ne.ent_take HK.out)
   obtain⟨e0,he0,hmem⟩: ∃e0,E[k]'HK.out=e0∧e0∈E:=⟨_,rfl,List.getElem_mem _⟩
   rw[he0] at hx hy HTK
   have hat:=(HE.out.keep (HBA.out.mono HB.out)).2 e0 hmem
   have hdl:=HDA.out e0 hmem
   obtain⟨t,d,a',ce⟩:=e0
   have hgz:g<wr.heap.size:=by have:=HB.out;omega
   have jj0:(0:Int)≤(k:Int):=by omega
   have jj1:(k:Int)<(na:Int):=by omega
   have HAT:=hid hat
   unfold Ent.v at hy
   simp only at hx hy hdl hat
   clear hat he0 hmem
   go_upto_region 6 with(fail)
   obtain⟨wz,hwz⟩: ∃wz,wz=wr.alloc (.cells #[.int .i64 t,.slice a' d.length ce] 111):=⟨_,rfl⟩
   rw[←hwz]
   obtain⟨T,hT⟩: ∃T,T=wr.heap.size:=⟨_,rfl⟩
   rw[←hT]
   have hTz:T<wz.heap.size:=by rw[hwz,hT];simp
   have z0:wz.cell? ⟨T,0,none⟩=some (.int .i64 t):=by rw[hwz,hT,cell_of_row _ _ 0 _ _ (0,0) (heap_alloc_new wr _)];rfl
   have z1:wz.cell? ⟨T,1,none⟩=some (.slice a' d.length ce):=by rw[hwz,hT,cell_of_row _ _ 1 _ _ (0,0) (heap_alloc_new wr _)];rfl
   have HBZ:=hid (show Below W1.heap.size W1 wz by rw[hwz];exact HBL.out.alloc hszr _)
   have HBR:=hid (show Below wr.heap.size wr wz by rw[hwz];exact(Below.refl _ _).alloc (Nat.le_refl _) _)
   have hszz:=HBZ.out.size
   have hszz2:=HBR.out.size
   have HTZ:=hid hTz
   have hTr:T=wr.heap.size:=hT
   have HAT2:=hid (show At wz wz.heap.size a' (d.map bv) from(HAT.out.1.keep (HBR.out.mono (by have:=HB.out;omega))).more (by have:=HB.out;omega))
   have HOK:=hid (show wr.ownsRow W1.heap.size 111 2 (.slice A2 k c2) k (cellsE E2) by have h:=HOW.out.1;rwa [HL2.out] at h)
   have HT0:=hid hTr
   have HTH:=hid (show wz.heap[T]? =some (.cells #[.int .i64 t,.slice a' d.length ce] 111 (0,0)) by rw[hwz,hT];exact heap_alloc_new wr _)
   have HVB:=hid (show∀g,(Value.slice A2 k c2).ownBlock=some g→g<T from fun g e=>by rw[hT];exact own_lt HOW.out.1 e)
   clear hwz hT hTr
   go_region_held3 (fun w'=>w'.cell? ⟨T,0,none⟩=some (.int .i64 t)∧w'.cell? ⟨T,1,none⟩=some (.slice a' d.length ce)) (first|(go_keep;done)|(go_simp;done)|(simp[go_sem];done)) (first|((refine step_appv wz rfl (.tmp 26) (.tmp 28) 30 rfl 5 Tryz.underlying30 (.int .u8 0) 1 1 infoU8 rfl (by decide) (by decide) (.slice (some ⟨wz.heap.size,0,none⟩) 0 0) 0 [] rfl (by exact own_empty wz wz.heap.size 5 1 (Nat.le_refl _)) wz.heap.size a' d.length ce (d.map bv) rfl (by simp) (by omega) (by exact HAT2.out.keep (by exact bel)) (bv_all _) (by exact bel) ?_);intro A3 c3 w2 ho2 hc2 hb2 hg2;simp only[Nat.zero_add,List.nil_append] at ho2;have HO2:=hid ho2;have HB2:=hid hb2;have hsz2:=hb2.size;have q0:w2.cell? ⟨T,0,none⟩=some (.int .i64 t):=(hb2.cell (p:=⟨T,_,none⟩) hTz).trans z0;have q1:w2.cell? ⟨T,1,none⟩=some (.slice a' d.length ce):=(hb2.cell (p:=⟨T,_,none⟩) hTz).trans z1;clear ho2 hc2 hb2 hg2)|((refine step_appv W1 rfl (.tmp 23) (.tmp 31) 25 rfl 111 Tryz.underlying25 (.agg #[.int .i64 0,.slice none 0 0]) 2 32 infoOpt rfl (by decide) (by decide) (.slice A2 k c2) k (cellsE E2) rfl (by exact own_below HOK.out (by have:=HB2.out;have:=HBR.out;exact bel)) (w2.heap.size+1) (some ⟨w2.heap.size,0,none⟩) 1 1 [.int .i64 t,.slice A3 d.length c3] rfl rfl (by omega) (by exact At.newN _ _ _ _ _ rfl rfl) (by intro u hu;simp at hu;rcases hu with rfl|rfl<;>rfl) (by have h1:=HBZ.out;have h2:=HB2.out;exact bel) ?_);intro A4 c4 w3 ho3 hc3 hb3 hg3;have HO3:=hid ho3;have HB3:=hid hb3;have HG3:=hid hg3;have HC3:=hid hc3;have HT3:=hid (show w3.heap[T]? =some (.cells #[.int .i64 t,.slice a' d.length ce] 111 (0,0)) from(hg3.block T (by have:=HTZ.out;simp;omega) (fun e=>by have:=HVB.out T e.symm;omega)).trans ((Below.heap_alloc w2 _ T (by have:=HTZ.out;omega)).trans ((HB2.out.block T HTZ.out).trans HTH.out)));have q0:w3.cell? ⟨T,0,none⟩=some (.int .i64 t):=(cell_of_row _ _ 0 _ _ (0,0) HT3.out).trans rfl;have q1:w3.cell? ⟨T,1,none⟩=some (.slice a' d.length ce):=(cell_of_row _ _ 1 _ _ (0,0) HT3.out).trans rfl;clear ho3 hc3 hb3 hg3))
   all_goals
    have HOE:=hid (OwnOpts.pushed (tt:=t) (dd:=d) (A2:=A3) (c2:=c3) (HOW.out.below (HBR.out.trans (HB2.out.mono hszz2|>.trans (Below.alloc (Below.refl _ w2) (by omega) _)))) (own_below (own_base HO2.out (show W1.heap.size≤wz.heap.size by omega)) (Below.alloc (Below.refl _ w2) (Nat.le_refl _) _)) (by rw[HL2.out];exact HO3.out) HG3.out)
    go_wp2_with fail
    go_roundw
    case rel=>exact⟨k+1,c4,A4,_,by omega,by go_num,rfl,HC3.out,by rw[List.map_append,HE2.out,HTK.out];rfl,HB3.out,HOE.out⟩
    case measure=>simp[intOf];omega
  ·obtain rfl:na=k:=by omega
   have HOF:=hid (show OptsO wr w.heap.size (.slice A2 na c2) a.ask from ⟨E2,HOW.out.base hs1,by have h:=HE2.out;rw[HNA.out,List.take_length] at h;exact h.trans HEA.out⟩)
   have HB2:=hid (HB1.out.trans (HBL.out.mono hs1))
   have HN2:=hid ((HBL.out.block _ ln).trans HN1.out)
   have HT2:=hid ((HBL.out.block _ lt).trans HT1.out)
   have HR2:=hid ((HB2.out.block _ lb).trans HR.out)
   have lt2:=lt_blk HT2.out
   have t3:=(cells7 HT2.out).2.2.2.1
   have ft:=frees HT2.out 3
   go_upto_region 9 with(fail)
   refine wp_w (fun W=>W.heap[w.heap.size]? =some (.cells #[.int .i64 0,.int .i64 0,.int .i64 0,.slice none 0 0,.int .i64 0,.int .i64 0,.int .i64 0,.int .i64 0,.int .i64 0] 60 (0,0))∧W.heap[w.heap.size+1]? =some (.cells #[.int .i64 a.st,.int .i64 a.id,.int .i64 a.req,.slice A2 na c2,.int .i64 a.cnt,.int .i64 a.tim,.int .i64 a.nak] 29 (0,0))∧W.heap[b]? =some (.cells (runC a (.slice Aa na ca) vr mc mt mf wt a0 va0 own peer tick vo vd) 128 (0,0))∧Below w.heap.size w W∧OptsO W w.heap.size (.slice A2 na c2) a.ask) ⟨?_,?_,?_,?_,?_⟩ ?_
   ·exact set_offI HN2.out (by omega)
   ·exact set_inI HT2.out rfl
   ·exact set_offI HR2.out (by omega)
   ·exact HB2.out.setCell (by simp) _
   ·exact OptsO.oth HOF.out (grown_set _ _ _ _) HT2.out (by decide) (by decide)
   clear lt2 t3 ft hszr
   rintro W4 ⟨hn,ht,hr,hb,ho⟩
   have HN4:=hid hn
   have HB4:=hid hb
   have HO4:=hid ho
   have hs4:=hb.size
   obtain⟨t0,t1,t2,t3,t4,t5,t6⟩:=cells7 ht
   obtain⟨-,-,x19,x20,-,x22,x23⟩:=runC_get hr
   obtain⟨z0,z1,z2,z3,z4,z5,z6,z7,z8⟩:=cells9 hn
   have fz:=frees hn
   have ln4:=lt_blk hn
   have lb4:=lt_blk hr
   have lt4:=lt_blk ht
   have nb: ¬b=w.heap.size:=by omega
   clear hn ht hr hb ho
   go_region_held3 (fun w'=>w'.cell? ⟨w.heap.size+1,0,none⟩=some (.int .i64 a.st)∧w'.cell? ⟨w.heap.size+1,1,none⟩=some (.int .i64 a.id)∧w'.cell? ⟨w.heap.size+1,2,none⟩=some (.int .i64 a.req)∧w'.cell? ⟨w.heap.size+1,3,none⟩=some (.slice A2 na c2)∧w'.cell? ⟨w.heap.size+1,4,none⟩=some (.int .i64 a.cnt)∧w'.cell? ⟨w.heap.size+1,5,none⟩=some (.int .i64 a.tim)∧w'.cell? ⟨w.heap.size+1,6,none⟩=some (.int .i64 a.nak)∧w'.cell? ⟨b,19,none⟩=some (.int .i64 own)∧w'.cell? ⟨b,20,none⟩=some (.int .i64 peer)∧w'.cell? ⟨b,22,none⟩=some vo∧w'.cell? ⟨b,23,none⟩=some vd) (first|(go_keep;done)|(go_simp;done)|(simp[go_sem];done)) (fail)
   all_goals
    go_wp2_with fail
    generalize hWf:World.setCell _ _ _=Wf
    have hgr:W4.grownBy Wf (some w.heap.size):=by rw[←hWf];exact grn
    have hrow:Wf.heap[w.heap.size]? =some (.cells #[.int .i64 a.st,.int .i64 a.id,.int .i64 a.req,.slice A2 na c2,.int .i64 a.cnt,.int .i64 a.tim,.int .i64 a.nak,.int .i64 own,.int .i64 peer] 60 (0,0)):=by rw[←hWf];exact row9 HN4.out rfl _ _ _ _ _ _ _ _ _
    clear hWf t0 t1 t2 t3 t4 t5 t6 x19 x20 x22 x23 z0 z1 z2 z3 z4 z5 z6 z7 z8 fz
    obtain⟨u0,u1,u2,u3,u4,u5,u6,u7,u8⟩:=cells9 hrow
    refine bodyPost_ret (v:=.tuple #[npV a (.slice A2 na c2) own peer,vo,vd]) (by unfold npV;simp[results,Tryz.results70,go_sem,u0,u1,u2,u3,u4,u5,u6,u7,u8]) rfl ?_
    exact⟨.slice A2 na c2,rfl,(Below.grown HB4.out hgr hs4 (fun k hk=>by cases hk;exact Nat.le_refl _)).drew,HO4.out.oth (grown_drew hgr) HN4.out (by decide) (by decide)⟩
end Go.Proofs.YtfkgmbknfnhjoaaGreat
