/- AutoOwn: its walk. -/
import Derived.Test.YthidhfkbfoejbaaGreatPV
import Derived.Test.YthidhfkbfoejbaaGreatPL
import Derived.Test.YthidhfkbfoejbaaGreatQ46
set_option maxHeartbeats 8000000
namespace Go.Proofs.YthidhfkbfoejbaaGreat
open Lib (hid)
open Go.RowKit
set_option linter.unusedSimpArgs false
set_option linter.unusedVariables false
set_option linter.ambiguousOpen false
open Ne (Rl Opt RulesAt areB)
open Fs (av hasB)
structure SofP (W:World) (base:Nat) (v:Value) (P:List Pe):Prop where
 row:W.ownsRow base 32 3 v P.length (cellsP P)
 data: ∀e∈P,ByteRow W base e.v e.d.length
theorem SofP.of {W:World} {base:Nat} {v:Value} {P:List Pe} (h:OwnPks W base v P):SofP W base v P:=⟨h.1,fun e he=>⟨_,h.2 e he⟩⟩
theorem SofP.byte {W:World} {base:Nat} {v:Value} {P:List Pe} (h:SofP W base v P) {g j:Nat} (hg: ∃cur,W.heap[g]? =some (.cells cur 5 (0,0))) (y:UInt8):SofP (W.setCell ⟨g,j,none⟩ (bv y)) base v P:=
 ⟨own_stays h.row (grown_set _ _ _ _) (fun r e=>by cases e;obtain⟨cur,hc⟩:=hg;exact .inr (.inr ⟨cur,_,hc,by decide⟩)),fun e he=>(h.data e he).store g j y⟩
theorem SofP.below {A C:World} {base:Nat} {v:Value} {P:List Pe} (h:SofP A base v P) (hb:Below A.heap.size A C):SofP C base v P:=⟨own_below h.row hb,fun e he=>let ⟨l,hl⟩:=h.data e he;⟨l,own_below hl hb⟩⟩
theorem SofP.get {W:World} {base n c:Nat} {A:Option Addr} {P:List Pe} (h:SofP W base (.slice A n c) P) {k:Nat} (hk:k<P.length): ∃b o,A=some ⟨b,o,none⟩∧b<W.heap.size∧W.cell? ⟨b,o+k*3+2,none⟩=some P[k].v:=by
 have h1:=h.row
 obtain⟨A',c',hv,-,-⟩:=ownsRow_form h1
 cases hv
 obtain⟨b,o,hA,hb,hc⟩:=(At.of_own h1).get (by rw[cellsP_len];omega)
 obtain⟨-,-,h2⟩:=cellsP_get P k hk
 exact⟨b,o,hA,hb,by have:=hc _ _ h2;rwa [show o+(3*k+2)=o+k*3+2 by omega] at this⟩
set_option maxRecDepth 100000 in
theorem autoOwn_walk (Ar Aa Ap:Option Addr) (nr cr na ca np cp:Nat) (R:List Rl) (mc mt mf wt st id req cnt tim nak kp ip tick:Int) (xb:UInt8) (E:List Ent) (lp:List UInt8) (w:World) (hR:RulesAt w w.heap.size Ar R) (hnr:nr=R.length) (hcr:nr≤cr) (hlr:(nr:Int)≤9223372036854775807) (hE:OptsAt w w.heap.size Aa E) (hna:na=E.length) (hla:(na:Int)≤9223372036854775807) (hda: ∀e∈E,(e.d.length:Int)≤9223372036854775807) (hpI:At w w.heap.size Ap (lp.map bv)) (hpn:np=lp.length) (hpc:np≤cp) (hpl:(np:Int)≤9223372036854775807):
  Calls Tryz.prog 8 #[.agg #[.slice Ar nr cr,.int .i64 mc,.int .i64 mt,.int .i64 mf,.int .i64 wt],.agg #[.int .i64 st,.int .i64 id,.int .i64 req,.slice Aa na ca,.int .i64 cnt,.int .i64 tim,.int .i64 nak],.agg #[.int .i64 kp,.int .i64 ip,.slice Ap np cp],.int .i64 tick,.int .u8 (xb.toNat:Int)] w fun x w'=>x=.returned (.bool true)∧Below w.heap.size w w':=by
 have HR:=hid hR
 have HE:=hid hE
 have HNA:=hid hna
 have HDA:=hid hda
 obtain⟨m,hm⟩: ∃m,min nr 20=m:=⟨_,rfl⟩
 have HM:=hid hm
 have HRM:=hid (show m=(R.take 20).length by rw[List.length_take];omega)
 have hm20:m≤20:=by omega
 obtain⟨mp,hmp⟩: ∃m,min np 1500=m:=⟨_,rfl⟩
 have HMp:=hid hmp
 have HDNp:=hid (show mp=(lp.take 1500).length by rw[List.length_take];omega)
 have hmcp:mp≤cp:=by omega
 have hm15p:mp≤1500:=by omega
 have HIp:=hid (hpI.take 1500)
 rw[←List.map_take] at HIp
 clear hR hE hna hda hm hnr hpI hpn hmp
 go_enter Tryz.func8,Tryz.ntmps8
 go_upto_region 1 with(fail)
 refine wp_w (fun W=>W.heap[w.heap.size]? =some (.cells #[.slice Ar nr cr,.int .i64 mc,.int .i64 mt,.int .i64 mf,.int .i64 wt] 24 (0,0))∧W.heap[w.heap.size+1]? =some (.cells #[.int .i64 st,.int .i64 id,.int .i64 req,.slice Aa na ca,.int .i64 cnt,.int .i64 tim,.int .i64 nak] 28 (0,0))∧W.heap[w.heap.size+1+1]? =some (.cells #[.int .i64 kp,.int .i64 ip,.slice Ap np cp] 32 (0,0))∧Below w.heap.size w W) ⟨by exact hpa,by exact hpa,by exact hpa,by exact bel⟩ ?_
 rintro W1 ⟨g_c,g_a,g_pp,hbw⟩
 have HB_W1:=hid hbw
 have hs_W1:=hbw.size
 clear hbw
 have l_c:=lt_blk g_c
 obtain⟨c_c0,c_c1,c_c2,c_c3,c_c4⟩:=cells5 g_c
 have f_c:=frees g_c
 have H_c:=hid g_c
 clear g_c
 have l_a:=lt_blk g_a
 obtain⟨c_a0,c_a1,c_a2,c_a3,c_a4,c_a5,c_a6⟩:=cells7 g_a
 have f_a:=frees g_a
 have H_a:=hid g_a
 clear g_a
 have l_pp:=lt_blk g_pp
 obtain⟨c_pp0,c_pp1,c_pp2⟩:=cells3 g_pp
 have f_pp:=frees g_pp
 have H_pp:=hid g_pp
 clear g_pp
 have hz1:w.heap.size+1+1+1≤W1.heap.size:=by omega
 go_wp2_with fail
 refine(light_any Ar Aa Ap nr cr na ca np cp mc mt mf wt st id req cnt tim nak kp ip E _ w.heap.size hs_W1 (HE.out.keep HB_W1.out) HNA.out hla HDA.out hcr hlr hpc hpl).mono ?_
 rw[HM.out,HMp.out]
 rintro x W2 ⟨A2,n2,c2,rfl,hb,ho,hn2⟩
 have g_c:=(hb.block _ l_c).trans H_c.out
 have g_a:=(hb.block _ l_a).trans H_a.out
 have g_pp:=(hb.block _ l_pp).trans H_pp.out
 have HQ_W2:=hid hb
 have hq_W2:=hb.size
 have HB_W2:=hid (HB_W1.out.trans (HQ_W2.out.mono hs_W1))
 have hs_W2:w.heap.size≤W2.heap.size:=HB_W2.out.size
 clear l_c f_c H_c c_c0 c_c1 c_c2 c_c3 c_c4 l_a f_a H_a c_a0 c_a1 c_a2 c_a3 c_a4 c_a5 c_a6 l_pp f_pp H_pp c_pp0 c_pp1 c_pp2
 have l_c:=lt_blk g_c
 obtain⟨c_c0,c_c1,c_c2,c_c3,c_c4⟩:=cells5 g_c
 have f_c:=frees g_c
 have H_c:=hid g_c
 clear g_c
 have l_a:=lt_blk g_a
 obtain⟨c_a0,c_a1,c_a2,c_a3,c_a4,c_a5,c_a6⟩:=cells7 g_a
 have f_a:=frees g_a
 have H_a:=hid g_a
 clear g_a
 have l_pp:=lt_blk g_pp
 obtain⟨c_pp0,c_pp1,c_pp2⟩:=cells3 g_pp
 have f_pp:=frees g_pp
 have H_pp:=hid g_pp
 clear g_pp
 have HO2:=hid ho
 have HN2:=hid hn2
 have hn70:n2≤70:=by have:=lit_len E;omega
 have HC2:=hid (show n2≤c2 by obtain⟨A5,c5,hv,hc,-⟩:=ownsRow_form ho;cases hv;exact hc)
 clear hb ho hn2
 go_upto_region 2 with(fail)
 refine wp_w (fun W=>W.heap[w.heap.size]? =some (.cells #[.slice Ar m cr,.int .i64 mc,.int .i64 mt,.int .i64 mf,.int .i64 wt] 24 (0,0))∧W.heap[w.heap.size+1]? =some (.cells #[.int .i64 st,.int .i64 id,.int .i64 req,.slice A2 n2 c2,.int .i64 cnt,.int .i64 tim,.int .i64 nak] 28 (0,0))∧W.heap[w.heap.size+1+1]? =some (.cells #[.int .i64 kp,.int .i64 ip,.slice Ap mp cp] 32 (0,0))∧Below w.heap.size w W∧W.ownsRow (w.heap.size+1+1+1) 57 2 (.slice A2 n2 c2) n2 (cellsE (litE E))) ⟨(by(iterate 10 (with_reducible refine set_off ?_ (by omega)));refine rows5 (cs:=#[.slice Ar nr cr,.int .i64 mc,.int .i64 mt,.int .i64 mf,.int .i64 wt]) ?_ rfl _ _ _ _ _;skip;exact H_c.out),(by(iterate 3 (with_reducible refine set_off ?_ (by omega)));refine row7 (cs:=#[.int .i64 st,.int .i64 id,.int .i64 req,.slice Aa na ca,.int .i64 cnt,.int .i64 tim,.int .i64 nak]) ?_ rfl _ _ _ _ _ _ _;(iterate 5 (with_reducible refine set_off ?_ (by omega)));exact H_a.out),(by skip;refine row3l (cs:=#[.int .i64 kp,.int .i64 ip,.slice Ap np cp]) ?_ rfl _ _ _;(iterate 12 (with_reducible refine set_off ?_ (by omega)));exact H_pp.out),(by(iterate 15 (with_reducible refine Below.setCell ?_ (by first|omega|(dsimp only;omega)) _));exact HB_W2.out),(by refine own_base (own_keep HO2.out (fun k hk=>?_)) (by omega);have hle:=own_le HO2.out hk;(iterate 15 (with_reducible refine set_off ?_ (by omega)));rfl)⟩ ?_
 clear l_c f_c H_c c_c0 c_c1 c_c2 c_c3 c_c4 l_a f_a H_a c_a0 c_a1 c_a2 c_a3 c_a4 c_a5 c_a6 l_pp f_pp H_pp c_pp0 c_pp1 c_pp2
 rintro W3 ⟨g_c,g_a,g_pp,hbw,ex0⟩
 have HB_W3:=hid hbw
 have hs_W3:=hbw.size
 clear hbw
 have l_c:=lt_blk g_c
 obtain⟨c_c0,c_c1,c_c2,c_c3,c_c4⟩:=cells5 g_c
 have f_c:=frees g_c
 have H_c:=hid g_c
 clear g_c
 have l_a:=lt_blk g_a
 obtain⟨c_a0,c_a1,c_a2,c_a3,c_a4,c_a5,c_a6⟩:=cells7 g_a
 have f_a:=frees g_a
 have H_a:=hid g_a
 clear g_a
 have l_pp:=lt_blk g_pp
 obtain⟨c_pp0,c_pp1,c_pp2⟩:=cells3 g_pp
 have f_pp:=frees g_pp
 have H_pp:=hid g_pp
 clear g_pp
 have HO3:=hid ex0
 clear ex0 HO2
 have HR3:=hid ((rulesAt_take (HR.out.keep HB_W3.out) 20).more hs_W3)
 have HE3:=hid (lit_at HE.out (Nat.le_refl _) HB_W3.out HO3.out)
 have HI3p:=hid ((HIp.out.keep HB_W3.out).more hs_W3)
 have HLD:=hid (lit_data E)
 generalize R.take 20=R1 at HR3 HRM
 generalize litE E=F at HO3 HE3 HN2 HLD
 generalize lp.take 1500=dp at HIp HI3p HDNp
 obtain⟨L,hL⟩: ∃L,F.map Ent.o=L:=⟨_,rfl⟩
 have HL:=hid hL
 have HLL:=hid (show L.length≤1000 by rw[←hL,List.length_map];have:=HN2.out;omega)
 clear hL
 have hXT:w.heap.size+1+1<W3.heap.size:=by omega
 go_upto_region 3 with(fail)
 refine wp_w (fun W=>W.heap[w.heap.size]? =some (.cells #[.slice Ar m cr,.int .i64 mc,.int .i64 mt,.int .i64 mf,.int .i64 wt] 24 (0,0))∧W.heap[w.heap.size+1]? =some (.cells #[.int .i64 st,.int .i64 id,.int .i64 req,.slice A2 n2 c2,.int .i64 cnt,.int .i64 tim,.int .i64 nak] 28 (0,0))∧W.heap[w.heap.size+1+1]? =some (.cells #[.int .i64 kp,.int .i64 ip,.slice Ap mp cp] 32 (0,0))∧W.heap[W3.heap.size]? =some (.cells #[.int .i64 st,.int .i64 id,.int .i64 req,.slice none 0 0,.int .i64 cnt,.int .i64 tim,.int .i64 nak] 28 (0,0))∧Below w.heap.size w W∧Below W3.heap.size W3 W) ⟨(alloc_off H_c.out),(alloc_off H_a.out),(alloc_off H_pp.out),(heap_alloc_new _ _),(Below.alloc HB_W3.out hs_W3 _),(Below.alloc (Below.refl _ _) (Nat.le_refl _) _)⟩ ?_
 clear l_c f_c H_c c_c0 c_c1 c_c2 c_c3 c_c4 l_a f_a H_a c_a0 c_a1 c_a2 c_a3 c_a4 c_a5 c_a6 l_pp f_pp H_pp c_pp0 c_pp1 c_pp2
 rintro W4 ⟨g_c,g_a,g_pp,g_t,hbw,ex0⟩
 have HB_W4:=hid hbw
 have hs_W4:=hbw.size
 clear hbw
 have l_c:=lt_blk g_c
 obtain⟨c_c0,c_c1,c_c2,c_c3,c_c4⟩:=cells5 g_c
 have f_c:=frees g_c
 have H_c:=hid g_c
 clear g_c
 have l_a:=lt_blk g_a
 obtain⟨c_a0,c_a1,c_a2,c_a3,c_a4,c_a5,c_a6⟩:=cells7 g_a
 have f_a:=frees g_a
 have H_a:=hid g_a
 clear g_a
 have l_pp:=lt_blk g_pp
 obtain⟨c_pp0,c_pp1,c_pp2⟩:=cells3 g_pp
 have f_pp:=frees g_pp
 have H_pp:=hid g_pp
 clear g_pp
 have l_t:=lt_blk g_t
 obtain⟨c_t0,c_t1,c_t2,c_t3,c_t4,c_t5,c_t6⟩:=cells7 g_t
 have f_t:=frees g_t
 have H_t:=hid g_t
 clear g_t
 have HQ4:=hid ex0
 have hq4:=ex0.size
 clear ex0 HO3
 go_wp2_with fail
 go_loopw [12] (fun i wr=> ∃(k c9:Nat) (A9:Option Addr) (E9:List Ent),k≤n2∧i=.int .i64 k∧E9.map Ent.o=(F.take k).map Ent.o∧Below W3.heap.size W3 wr∧wr.heap[W3.heap.size]? =some (.cells #[.int .i64 st,.int .i64 id,.int .i64 req,.slice A9 k c9,.int .i64 cnt,.int .i64 tim,.int .i64 nak] 28 (0,0))∧OwnOpts wr (W3.heap.size+1) (.slice A9 k c9) E9) (fun i _=>n2-(intOf i).toNat)
 case atStart=>exact⟨0,0,none,[],Nat.zero_le _,rfl,rfl,HQ4.out,H_t.out,OwnOpts.nil _ _⟩
 case round=>
  obtain⟨k,c9,A9,E9,hk,rfl,he9,hbl,hrow,hown⟩:=hrel
  have HE9:=hid he9
  have HBL:=hid hbl
  have HOW:=hid hown
  have hszr:=hbl.size
  have HL9:=hid (show E9.length=k by have:=congrArg List.length he9;simp at this;have h2:=HN2.out;omega)
  have HT:=hid hrow
  have lT:=lt_blk hrow
  have g_a:=(hbl.block _ (show w.heap.size+1<W3.heap.size by omega)).trans ((HQ4.out.block _ (show w.heap.size+1<W3.heap.size by omega)).symm.trans H_a.out)
  have g_p:=(hbl.block _ hXT).trans ((HQ4.out.block _ hXT).symm.trans H_pp.out)
  have g_c:=(hbl.block _ (show w.heap.size<W3.heap.size by omega)).trans ((HQ4.out.block _ (show w.heap.size<W3.heap.size by omega)).symm.trans H_c.out)
  have G_a:=hid g_a
  have G_p:=hid g_p
  have G_c:=hid g_c
  clear he9 hbl hown hrow l_c f_c H_c c_c0 c_c1 c_c2 c_c3 c_c4 l_a f_a H_a c_a0 c_a1 c_a2 c_a3 c_a4 c_a5 c_a6 l_pp f_pp H_pp c_pp0 c_pp1 c_pp2 l_t f_t H_t c_t0 c_t1 c_t2 c_t3 c_t4 c_t5 c_t6
  by_cases hlt:k<n2
  ·have HK:=hid (show k<F.length by have:=HN2.out;omega)
   obtain⟨b,ob,hA2,hbB,hx,hy⟩:=(HE3.out.keep HBL.out).get HK.out
   have HTK:=hid (Ne.ent_take HK.out)
   obtain⟨e0,he0,hmem⟩: ∃e0,F[k]'HK.out=e0∧e0∈F:=⟨_,rfl,List.getElem_mem _⟩
   rw[he0] at hx hy HTK
   have hat:=(HE3.out.keep HBL.out).2 e0 hmem
   have hdl:=HLD.out e0 hmem
   obtain⟨t,d,a,ce⟩:=e0
   have hbz:b<wr.heap.size:=by omega
   have jj0:(0:Int)≤(k:Int):=by omega
   have jj1:(k:Int)<(n2:Int):=by omega
   have HAT:=hid hat
   have HOK:=hid (show wr.ownsRow (W3.heap.size+1) 57 2 (.slice A9 k c9) k (cellsE E9) by have h:=HOW.out.1;rwa [HL9.out] at h)
   unfold Ent.v at hy
   simp only at hx hy hdl hat
   clear hat he0 hmem
   obtain⟨s0,s1,s2,s3,s4,s5,s6⟩:=cells7 HT.out
   have fs:=frees HT.out 3
   obtain⟨q0,q1,q2,q3,q4,q5,q6⟩:=cells7 G_a.out
   have la:=lt_blk G_a.out
   rw[hA2] at q3
   clear s0 s1 s2 s4 s5 s6 q0 q1 q2 q4 q5 q6
   have nb: ¬b=W3.heap.size:=by omega
   have nx: ¬w.heap.size+1=W3.heap.size:=by omega
   go_upto_region 6 with(fail)
   refine wp_region_c 20 (fun w'=>w'.cell? ⟨w.heap.size+1,3,none⟩=some (.slice (some ⟨b,ob,none⟩) n2 c2)∧w'.cell? ⟨b,ob+k*2,none⟩=some (.int .i64 t)∧w'.cell? ⟨b,ob+k*2+1,none⟩=some (.slice a d.length ce)∧w'.cell? ⟨W3.heap.size,3,none⟩=some (.slice A9 k c9)) (by kernel_rfl) (by(try dsimp only);(first|(go_keep;done)|(go_simp;done)|(simp[go_sem];done))) (fun hHeld=>?_)
   refine takeW (i:=0) (oi:=_) (v:=?_) rfl (by kernel_rfl) (by kernel_rfl) (by kernel_rfl) (by kernel_rfl) (fun _ _ _ h=>h) (sc_of hHeld) (by rfl) ?_ ?_
   rotate_left
   ·(intro w;go_simp;try with_reducible rfl)
   try simp only[Act.put,List.setIfInBounds_toArray,List.set_cons_zero,List.set_cons_succ]
   refine takeW (i:=2) (oi:=_) (v:=?_) rfl (by kernel_rfl) (by kernel_rfl) (by kernel_rfl) (by kernel_rfl) (fun _ _ _ h=>h) (sc_of hHeld) (by rfl) ?_ ?_
   rotate_left
   ·(intro w;go_simp;try with_reducible rfl)
   try simp only[Act.put,List.setIfInBounds_toArray,List.set_cons_zero,List.set_cons_succ]
   refine takeW (i:=4) (oi:=_) (v:=?_) rfl (by kernel_rfl) (by kernel_rfl) (by kernel_rfl) (by kernel_rfl) (fun _ _ _ h=>h) (sc_of hHeld) (by rfl) ?_ ?_
   rotate_left
   ·(intro w;go_simp;try with_reducible rfl)
   try simp only[Act.put,List.setIfInBounds_toArray,List.set_cons_zero,List.set_cons_succ]
   refine takeW (i:=9) (oi:=_) (v:=?_) rfl (by kernel_rfl) (by kernel_rfl) (by kernel_rfl) (by kernel_rfl) (fun _ _ _ h=>h) (sc_of hHeld) (by rfl) ?_ ?_
   rotate_left
   ·(intro w;go_simp;try with_reducible rfl)
   try simp only[Act.put,List.setIfInBounds_toArray,List.set_cons_zero,List.set_cons_succ]
   refine takeW (i:=11) (oi:=_) (v:=?_) rfl (by kernel_rfl) (by kernel_rfl) (by kernel_rfl) (by kernel_rfl) (fun _ _ _ h=>h) (sc_of hHeld) (by rfl) ?_ ?_
   rotate_left
   ·(intro w;go_simp;try with_reducible rfl)
   try simp only[Act.put,List.setIfInBounds_toArray,List.set_cons_zero,List.set_cons_succ]
   refine takeL (i:=1) (oi:=_) (v:=?_) rfl (by kernel_rfl) (by kernel_rfl) (by kernel_rfl) (by kernel_rfl) (fun _ _ _ h=>h) hHeld (by rfl) ?_ ?_
   rotate_left
   ·(intro w hSw;(try dsimp only at hSw);go_simp;try with_reducible rfl)
   try simp only[Act.put,List.setIfInBounds_toArray,List.set_cons_zero,List.set_cons_succ]
   refine takeL (i:=3) (oi:=_) (v:=?_) rfl (by kernel_rfl) (by kernel_rfl) (by kernel_rfl) (by kernel_rfl) (fun _ _ _ h=>h) hHeld (by rfl) ?_ ?_
   rotate_left
   ·(intro w hSw;(try dsimp only at hSw);go_simp;try with_reducible rfl)
   try simp only[Act.put,List.setIfInBounds_toArray,List.set_cons_zero,List.set_cons_succ]
   refine takeL (i:=10) (oi:=_) (v:=?_) rfl (by kernel_rfl) (by kernel_rfl) (by kernel_rfl) (by kernel_rfl) (fun _ _ _ h=>h) hHeld (by rfl) ?_ ?_
   rotate_left
   ·(intro w hSw;(try dsimp only at hSw);go_simp;try with_reducible rfl)
   try simp only[Act.put,List.setIfInBounds_toArray,List.set_cons_zero,List.set_cons_succ]
   refine takeW (i:=5) (oi:=_) (v:=?_) rfl (by kernel_rfl) (by kernel_rfl) (by kernel_rfl) (by kernel_rfl) (fun _ _ _ h=>h) (sc_of hHeld) (by rfl) ?_ ?_
   rotate_left
   ·(intro w;go_simp;try with_reducible rfl)
   try simp only[Act.put,List.setIfInBounds_toArray,List.set_cons_zero,List.set_cons_succ]
   refine takeW (i:=6) (oi:=_) (v:=?_) rfl (by kernel_rfl) (by kernel_rfl) (by kernel_rfl) (by kernel_rfl) (fun _ _ _ h=>h) (sc_of hHeld) (by rfl) ?_ ?_
   rotate_left
   ·(intro w;go_simp;try with_reducible rfl)
   try simp only[Act.put,List.setIfInBounds_toArray,List.set_cons_zero,List.set_cons_succ]
   refine takeL (i:=7) (oi:=_) (v:=?_) rfl (by kernel_rfl) (by kernel_rfl) (by kernel_rfl) (by kernel_rfl) (fun _ _ _ h=>h) hHeld (by rfl) ?_ ?_
   rotate_left
   ·(intro w hSw;(try dsimp only at hSw);go_simp;try with_reducible rfl)
   try simp only[Act.put,List.setIfInBounds_toArray,List.set_cons_zero,List.set_cons_succ]
   refine takeW (i:=12) (oi:=_) (v:=?_) rfl (by kernel_rfl) (by kernel_rfl) (by kernel_rfl) (by kernel_rfl) (fun _ _ _ h=>h) (sc_of hHeld) (by rfl) ?_ ?_
   rotate_left
   ·(intro w;go_simp;try with_reducible rfl)
   try simp only[Act.put,List.setIfInBounds_toArray,List.set_cons_zero,List.set_cons_succ]
   refine takeW (i:=13) (oi:=_) (v:=?_) rfl (by kernel_rfl) (by kernel_rfl) (by kernel_rfl) (by kernel_rfl) (fun _ _ _ h=>h) (sc_of hHeld) (by rfl) ?_ ?_
   rotate_left
   ·(intro w;go_simp;try with_reducible rfl)
   try simp only[Act.put,List.setIfInBounds_toArray,List.set_cons_zero,List.set_cons_succ]
   refine takeL (i:=14) (oi:=_) (v:=?_) rfl (by kernel_rfl) (by kernel_rfl) (by kernel_rfl) (by kernel_rfl) (fun _ _ _ h=>h) hHeld (by rfl) ?_ ?_
   rotate_left
   ·(intro w hSw;(try dsimp only at hSw);go_simp;try with_reducible rfl)
   try simp only[Act.put,List.setIfInBounds_toArray,List.set_cons_zero,List.set_cons_succ]
   refine stepC (i:=8) (o:=_) rfl (by kernel_rfl) (fun K hK=>?_)
   go_simp
   refine hK.out _ _ ?_ (fun hH=>?_)
   ·try dsimp only
    (first|(go_keep;done)|(go_simp;done)|(simp[go_sem];done))
   clear hK K hHeld
   have hHeld:=hH
   clear hH
   try simp only[Act.put,List.setIfInBounds_toArray,List.set_cons_zero,List.set_cons_succ]
   refine stepC (i:=15) (o:=_) rfl (by kernel_rfl) (fun K hK=>?_)
   (refine step_appv wr rfl (.tmp 56) (.tmp 62) 30 rfl 5 Tryz.underlying30 (.int .u8 0) 1 1 infoU8 rfl (by decide) (by decide) (.slice (some ⟨wr.heap.size,0,none⟩) 0 0) 0 [] rfl (by exact own_empty wr wr.heap.size 5 1 (Nat.le_refl _)) W3.heap.size a d.length ce (d.map bv) rfl (by simp) (by omega) (by exact HAT.out.1.keep (by have:=hszr;exact bel)) (bv_all _) (by exact bel) ?_;intro A1 c1 w1 ho1 hc1 hb1 hg1;clear hg1;have u0:w1.cell? ⟨b,ob+k*2,none⟩=some (.int .i64 t):=(hb1.cell (p:=⟨b,_,none⟩) hbz).trans hx;have u1:w1.cell? ⟨b,ob+k*2+1,none⟩=some (.slice a d.length ce):=(hb1.cell (p:=⟨b,_,none⟩) hbz).trans hy;have u2:w1.cell? ⟨W3.heap.size,3,none⟩=some (.slice A9 k c9):=(hb1.cell (p:=⟨_,_,none⟩) lT).trans s3;have u3:w1.cell? ⟨w.heap.size+1,3,none⟩=some (.slice (some ⟨b,ob,none⟩) n2 c2):=(hb1.cell (p:=⟨_,_,none⟩) la).trans q3;simp only[Nat.zero_add,List.nil_append] at ho1;have HO1:=hid ho1;have HB1:=hid hb1;have HT1:=hid ((hb1.block _ lT).trans HT.out);have HNEW:=hid (At.newN w1 #[.int .i64 t,.slice A1 d.length c1] 57 [.int .i64 t,.slice A1 d.length c1] w1.heap.size rfl rfl);have HOB:=hid (own_below HOK.out hb1);have hsz1:=hb1.size;clear ho1 hc1 hb1)
   refine hK.out _ _ ?_ (fun hH=>?_)
   ·try dsimp only
    (first|(go_keep;done)|(go_simp;done)|(simp[go_sem];done))
   clear hK K hHeld
   have hHeld:=hH
   clear hH
   try simp only[Act.put,List.setIfInBounds_toArray,List.set_cons_zero,List.set_cons_succ]
   refine takeW (i:=16) (oi:=_) (v:=?_) rfl (by kernel_rfl) (by kernel_rfl) (by kernel_rfl) (by kernel_rfl) (fun _ _ _ h=>h) (sc_of hHeld) (by rfl) ?_ ?_
   rotate_left
   ·(intro w;go_simp;try with_reducible rfl)
   try simp only[Act.put,List.setIfInBounds_toArray,List.set_cons_zero,List.set_cons_succ]
   refine stepC (i:=17) (o:=_) rfl (by kernel_rfl) (fun K hK=>?_)
   go_simp
   refine hK.out _ _ ?_ (fun hH=>?_)
   ·try dsimp only
    (first|(go_keep;done)|(go_simp;done)|(simp[go_sem];done))
   clear hK K hHeld
   have hHeld:=hH
   clear hH
   try simp only[Act.put,List.setIfInBounds_toArray,List.set_cons_zero,List.set_cons_succ]
   refine stepC (i:=18) (o:=_) rfl (by kernel_rfl) (fun K hK=>?_)
   (refine step_appg (W3.heap.size+1) rfl (.tmp 49) (.tmp 65) 26 rfl 57 Tryz.underlying26 (.agg #[.int .i64 0,.slice none 0 0]) 2 32 infoOpt rfl (by decide) (by decide) (.slice A9 k c9) k (cellsE E9) rfl (by exact own_below HOB.out (by exact bel)) (w1.heap.size+1) (some ⟨w1.heap.size,0,none⟩) 1 1 [.int .i64 t,.slice A1 d.length c1] rfl rfl (by omega) (by exact HNEW.out) (by intro u hu;simp at hu;rcases hu with rfl|rfl<;>rfl) (by simp;omega) ?_;intro A3 c3 w3 ho3 hc3 hg3;have hT3:w3.heap[W3.heap.size]? =some (.cells #[.int .i64 st,.int .i64 id,.int .i64 req,.slice A9 k c9,.int .i64 cnt,.int .i64 tim,.int .i64 nak] 28 (0,0)):=(hg3.block _ (by simp;omega) (fun e=>by have:=own_le HOB.out e.symm;omega)).trans (alloc_off HT1.out);have k0: ∀q,q<W3.heap.size→w3.heap[q]? =wr.heap[q]?:=(fun q hq=>(hg3.block q (by simp;omega) (fun e=>by have:=own_le HOB.out e.symm;omega)).trans ((Below.heap_alloc w1 _ q (by omega)).trans (HB1.out.block q (by omega))));have v0:=(World.cell?_of_block (a:=⟨b,ob+k*2,none⟩) (k0 b hbB)).trans hx;have v1:=(World.cell?_of_block (a:=⟨b,ob+k*2+1,none⟩) (k0 b hbB)).trans hy;have v2:=(World.cell?_of_block (a:=⟨w.heap.size+1,3,none⟩) (k0 (w.heap.size+1) (by omega))).trans q3;clear k0;have v3:=(cells7 hT3).2.2.2.1;have fv:=frees hT3 3;have HT3:=hid hT3;have HO3:=hid ho3;have HG3:=hid hg3;clear ho3 hc3 hg3 hT3)
   refine hK.out _ _ ?_ (fun hH=>?_)
   ·try dsimp only
    (first|(go_keep;done)|(go_simp;done)|(simp[go_sem];done))
   clear hK K hHeld
   have hHeld:=hH
   clear hH
   try simp only[Act.put,List.setIfInBounds_toArray,List.set_cons_zero,List.set_cons_succ]
   refine takeW (i:=19) (oi:=_) (v:=?_) rfl (by kernel_rfl) (by kernel_rfl) (by kernel_rfl) (by kernel_rfl) (fun _ _ _ h=>h) (sc_of hHeld) (by rfl) ?_ ?_
   rotate_left
   ·(intro w;go_simp;try with_reducible rfl)
   try simp only[Act.put,List.setIfInBounds_toArray,List.set_cons_zero,List.set_cons_succ]
   refine stepP (i:=20) (o:=_) rfl (by kernel_rfl) (by kernel_rfl) (fun K hK=>?_)
   go_simp
   refine hK.out _ _ ?_
   clear hK K
   try simp only[Act.put,List.setIfInBounds_toArray,List.set_cons_zero,List.set_cons_succ]
   refine doneC (by kernel_rfl) ?_ _
   have HOE:=hid (OwnOpts.pushed (tt:=t) (dd:=d) (A2:=A1) (c2:=c1) (HOW.out.below (HB1.out.trans (Below.alloc (Below.refl _ w1) HB1.out.size _))) (by have h:=own_base HO1.out (show W3.heap.size+1≤wr.heap.size by omega);exact own_below h (Below.alloc (Below.refl _ w1) (Nat.le_refl _) _)) (by rw[HL9.out];exact HO3.out) HG3.out)
   have HBE:=hid (HBL.out.trans (Below.grown (B:=W3.heap.size) (a:=wr) (Below.alloc (HB1.out.mono hszr) (by omega) _) HG3.out (by simp;omega) (fun k hk=>by have:=own_le HOB.out hk;omega)))
   go_wp2_with fail
   go_roundw
   case rel=>exact⟨k+1,by omega,by go_num,c3,A3,E9++[⟨t,d,A1,c1⟩],by rw[←List.map_take,List.map_append,HE9.out,HTK.out];rfl,Below.setCell HBE.out (Nat.le_refl _) _,set_in HT3.out rfl,HOE.out.stays (grown_set _ _ _ _) (fun r e=>.inl (by cases e;omega))⟩
   case measure=>simp[intOf];omega
  ·obtain rfl:n2=k:=by omega
   have g_pp:=G_p.out
   have g_c:=G_c.out
   have g_t:=HT.out
   clear lT hszr
   obtain⟨W4,hW4⟩: ∃W4,W4=wr:=⟨_,rfl⟩
   subst hW4
   have l_c:=lt_blk g_c
   obtain⟨c_c0,c_c1,c_c2,c_c3,c_c4⟩:=cells5 g_c
   have f_c:=frees g_c
   have H_c:=hid g_c
   clear g_c
   have l_a:=lt_blk g_a
   obtain⟨c_a0,c_a1,c_a2,c_a3,c_a4,c_a5,c_a6⟩:=cells7 g_a
   have f_a:=frees g_a
   have H_a:=hid g_a
   clear g_a
   have l_pp:=lt_blk g_pp
   obtain⟨c_pp0,c_pp1,c_pp2⟩:=cells3 g_pp
   have f_pp:=frees g_pp
   have H_pp:=hid g_pp
   clear g_pp
   have l_t:=lt_blk g_t
   obtain⟨c_t0,c_t1,c_t2,c_t3,c_t4,c_t5,c_t6⟩:=cells7 g_t
   have f_t:=frees g_t
   have H_t:=hid g_t
   clear g_t
   have l_t4:=l_t
   have HB_W4:=hid (HB_W3.out.trans (HBL.out.mono hs_W3))
   have hs_W4:=HB_W4.out.size
   have hq_W4:=HBL.out.size
   have k1:(convert 30 9 (.slice Ap mp cp)).run Tryz.prog W4=.ok (.string ⟨dp.toArray⟩) W4:=run_str Tryz.underlying30 Tryz.underlying5 Tryz.underlying9 HDNp.out (HI3p.out.keep HBL.out)
   have HOW9:=hid (show OptsV W4 W4.heap.size (.slice A9 n2 c9) L from ⟨A9,n2,c9,E9,rfl,HOW.out.at,HL9.out.symm,by obtain⟨A5,c5,hv,hc,-⟩:=ownsRow_form HOW.out.1;cases hv;exact hc,by rw[HE9.out,HN2.out,List.take_length];exact HL.out⟩)
   go_wp2_with fail
   refine(pack_any Ar A2 Ap m cr n2 c2 mp cp R1 mc mt mf wt st id req cnt tim nak kp ip tick F dp _ W3.heap.size hq_W4 (HR3.out.keep HBL.out) HRM.out (by omega) (HE3.out.keep HBL.out) HN2.out (by omega) (fun e he=>by have:=HLD.out e he;omega) (HI3p.out.keep HBL.out) HDNp.out hmcp (by omega)).mono ?_
   rw[HL.out]
   obtain⟨⟨⟨⟨st1,id1,req1,ask1,cnt1,tim1,nak1⟩,out1,acts1⟩,ok1⟩,hr⟩: ∃r,packO ⟨R1,mc,mt,mf,wt⟩ ⟨st,id,req,L,cnt,tim,nak⟩ ⟨kp,ip,dp⟩ tick=r:=⟨_,rfl⟩
   rw[hr]
   clear hr k1
   unfold PackP auV
   dsimp only
   rintro x W5 ⟨va,vo,vd,rfl,hb,hO,hP,hA⟩
   have g_c:=(hb.block _ l_c).trans H_c.out
   have g_a:=(hb.block _ l_a).trans H_a.out
   have g_pp:=(hb.block _ l_pp).trans H_pp.out
   have g_t:=(hb.block _ l_t).trans H_t.out
   have HQ_W5:=hid hb
   have hq_W5:=hb.size
   have HB_W5:=hid (HB_W4.out.trans (HQ_W5.out.mono hs_W4))
   have hs_W5:w.heap.size≤W5.heap.size:=HB_W5.out.size
   clear l_c f_c H_c c_c0 c_c1 c_c2 c_c3 c_c4 l_a f_a H_a c_a0 c_a1 c_a2 c_a3 c_a4 c_a5 c_a6 l_pp f_pp H_pp c_pp0 c_pp1 c_pp2 l_t f_t H_t c_t0 c_t1 c_t2 c_t3 c_t4 c_t5 c_t6
   have l_c:=lt_blk g_c
   obtain⟨c_c0,c_c1,c_c2,c_c3,c_c4⟩:=cells5 g_c
   have f_c:=frees g_c
   have H_c:=hid g_c
   clear g_c
   have l_a:=lt_blk g_a
   obtain⟨c_a0,c_a1,c_a2,c_a3,c_a4,c_a5,c_a6⟩:=cells7 g_a
   have f_a:=frees g_a
   have H_a:=hid g_a
   clear g_a
   have l_pp:=lt_blk g_pp
   obtain⟨c_pp0,c_pp1,c_pp2⟩:=cells3 g_pp
   have f_pp:=frees g_pp
   have H_pp:=hid g_pp
   clear g_pp
   have l_t:=lt_blk g_t
   obtain⟨c_t0,c_t1,c_t2,c_t3,c_t4,c_t5,c_t6⟩:=cells7 g_t
   have f_t:=frees g_t
   have H_t:=hid g_t
   clear g_t
   obtain⟨E4,hE4,hEL⟩:=hO
   obtain⟨A4,c4,rfl,-,-⟩:=ownsRow_form hE4.1
   obtain⟨n4,hn4⟩: ∃n,E4.length=n:=⟨_,rfl⟩
   rw[hn4]
   obtain⟨P5,hP5,-⟩:=hP
   have hS5:=SofP.of hP5
   obtain⟨Ao,co,rfl,hco,hmo⟩:=ownsRow_form hP5.1
   obtain⟨no,hno⟩: ∃n,P5.length=n:=⟨_,rfl⟩
   rw[hno] at hS5 hco ⊢
   have HNO:=hid hno
   have HS5:=hid hS5
   have hno1:(no:Int)≤9223372036854775807:=by unfold maxLen at hmo;omega
   clear hb hE4 hEL hP5 hS5 hA hn4 hno hmo hco
   go_upto_region 9 with(fail)
   refine wp_w (fun W=>W.heap[w.heap.size+1]? =some (.cells #[.int .i64 st,.int .i64 id,.int .i64 req,.slice A2 n2 c2,.int .i64 cnt,.int .i64 tim,.int .i64 nak] 28 (0,0))∧W.heap[w.heap.size+1+1]? =some (.cells #[.int .i64 kp,.int .i64 ip,.slice Ap mp cp] 32 (0,0))∧W.heap[W3.heap.size]? =some (.cells #[.int .i64 st,.int .i64 id,.int .i64 req,.slice A9 n2 c9,.int .i64 cnt,.int .i64 tim,.int .i64 nak] 28 (0,0))∧Below w.heap.size w W∧Below W5.heap.size W5 W) ⟨(alloc_off H_a.out),(alloc_off H_pp.out),(alloc_off H_t.out),(Below.alloc HB_W5.out hs_W5 _),(Below.alloc (Below.refl _ _) (Nat.le_refl _) _)⟩ ?_
   clear l_c f_c H_c c_c0 c_c1 c_c2 c_c3 c_c4 l_a f_a H_a c_a0 c_a1 c_a2 c_a3 c_a4 c_a5 c_a6 l_pp f_pp H_pp c_pp0 c_pp1 c_pp2 l_t f_t H_t c_t0 c_t1 c_t2 c_t3 c_t4 c_t5 c_t6
   rintro W6 ⟨g_a,g_pp,g_t,hbw,ex0⟩
   have HB_W6:=hid hbw
   have hs_W6:=hbw.size
   clear hbw
   have l_a:=lt_blk g_a
   obtain⟨c_a0,c_a1,c_a2,c_a3,c_a4,c_a5,c_a6⟩:=cells7 g_a
   have f_a:=frees g_a
   have H_a:=hid g_a
   clear g_a
   have l_pp:=lt_blk g_pp
   obtain⟨c_pp0,c_pp1,c_pp2⟩:=cells3 g_pp
   have f_pp:=frees g_pp
   have H_pp:=hid g_pp
   clear g_pp
   have l_t:=lt_blk g_t
   obtain⟨c_t0,c_t1,c_t2,c_t3,c_t4,c_t5,c_t6⟩:=cells7 g_t
   have f_t:=frees g_t
   have H_t:=hid g_t
   clear g_t
   have HQ6:=hid ex0
   have hq6:=ex0.size
   clear ex0
   have HS6:=hid (show SofP W6 W4.heap.size (.slice Ao no co) P5 from HS5.out.below HQ6.out)
   clear HS5
   have HB36:=hid (HBL.out.trans ((HQ_W5.out.trans (HQ6.out.mono hq_W5)).mono hq_W4))
   go_wp2_with fail
   go_loopw [18] (fun i wr=> ∃k:Nat,k≤no∧i=.int .i64 k∧Below W4.heap.size W6 wr∧SofP wr W4.heap.size (.slice Ao no co) P5) (fun i _=>no-(intOf i).toNat)
   case atStart=>exact⟨0,Nat.zero_le _,rfl,Below.refl _ _,HS6.out⟩
   case round=>
    obtain⟨k,hk,rfl,hm,hs⟩:=hrel
    have HM:=hid hm
    have HS:=hid hs
    clear hm hs f_a c_a0 c_a1 c_a2 c_a3 c_a4 c_a5 c_a6 f_pp c_pp0 c_pp1 c_pp2 f_t c_t0 c_t1 c_t2 c_t3 c_t4 c_t5 c_t6
    obtain⟨W8,hW8⟩: ∃W8,W8=wr:=⟨_,rfl⟩
    rw[←hW8] at HM HS ⊢
    clear hW8
    by_cases hlt:k<no
    ·have HK:=hid (show k<P5.length by have:=HNO.out;omega)
     go_wp2_with fail
     go_loopw [19] (fun i wr=> ∃j:Nat,j≤(P5[k]'HK.out).d.length∧i=.int .i64 j∧Below W4.heap.size W6 wr∧SofP wr W4.heap.size (.slice Ao no co) P5) (fun i _=>(P5[k]'HK.out).d.length-(intOf i).toNat)
     case atStart=>exact⟨0,Nat.zero_le _,rfl,HM.out,HS.out⟩
     case round=>
      obtain⟨j,hj,rfl,hm,hs⟩:=hrel
      have HM9:=hid hm
      have HS9:=hid hs
      obtain⟨b,u,rfl,hb2,hc1⟩:=hs.get HK.out
      have HSR:=hid (hs.data _ (List.getElem_mem HK.out))
      clear hm hs
      have hdd:=HSR.out.le
      obtain⟨⟨te,de,xe,ae,ce⟩,he⟩: ∃e,P5[k]'HK.out=e:=⟨_,rfl⟩
      rw[he] at hc1 HSR hdd hj
      simp only[Pe.v] at hc1 HSR hdd hj
      have HEQ:=hid he
      clear he
      obtain⟨ne,hne⟩: ∃n,xe.length=n:=⟨_,rfl⟩
      rw[hne] at hc1 HSR hdd hj
      have HNE:=hid hne
      clear hne
      have kk0:(0:Int)≤(k:Int):=by omega
      have kk1:(k:Int)<(no:Int):=by omega
      by_cases hjl:j<ne
      ·obtain⟨g,y,rfl,hg1,hg2,hc,hf,hcur⟩:=HSR.out.at hjl
       have HG:=hid (And.intro hg1 hcur)
       clear hg1 hcur
       have jj0:(0:Int)≤(j:Int):=by omega
       have jj1:(j:Int)<(ne:Int):=by omega
       go_wp2_with fail
       go_roundw
       case rel=>exact⟨j+1,by rw[HEQ.out];have:=HNE.out;simp only;omega,by go_num,HM9.out.setCell HG.out.1 _,HS9.out.byte HG.out.2 _⟩
       case measure=>rw[HEQ.out];have:=HNE.out;simp[intOf];omega
      ·obtain rfl:j=ne:=by omega
       go_wp2_with fail
       go_roundw
       case rel=>exact⟨k+1,by omega,by go_num,HM9.out,HS9.out⟩
       case measure=>simp[intOf];omega
    ·obtain rfl:no=k:=by omega
     have HB38:=hid (HB36.out.trans (HM.out.mono hq_W4))
     have h38:=HB38.out.size
     have HB48:=hid ((HQ_W5.out.trans (HQ6.out.mono hq_W5)).trans HM.out)
     have h48:=HB48.out.size
     have g_a:=(HM.out.block _ (show w.heap.size+1<W4.heap.size by omega)).trans H_a.out
     have g_pp:=(HM.out.block _ (show w.heap.size+1+1<W4.heap.size by omega)).trans H_pp.out
     have g_t:=(HM.out.block _ (show W3.heap.size<W4.heap.size by exact l_t4)).trans H_t.out
     have l_a:=lt_blk g_a
     obtain⟨c_a0,c_a1,c_a2,c_a3,c_a4,c_a5,c_a6⟩:=cells7 g_a
     have f_a:=frees g_a
     have H_a:=hid g_a
     clear g_a
     have l_pp:=lt_blk g_pp
     obtain⟨c_pp0,c_pp1,c_pp2⟩:=cells3 g_pp
     have f_pp:=frees g_pp
     have H_pp:=hid g_pp
     clear g_pp
     have l_t:=lt_blk g_t
     obtain⟨c_t0,c_t1,c_t2,c_t3,c_t4,c_t5,c_t6⟩:=cells7 g_t
     have f_t:=frees g_t
     have H_t:=hid g_t
     clear g_t
     have HX9:=hid ((HOW9.out.keep HB48.out).more h48)
     have HX3:=hid (show OptsV W8 W8.heap.size (.slice A2 n2 c2) L from ⟨A2,n2,c2,F,rfl,(HE3.out.keep HB38.out).more h38,HN2.out,HC2.out,HL.out⟩)
     go_wp2_with fail
     refine(sameAu_v ⟨st,id,req,L,cnt,tim,nak⟩ (.slice A2 n2 c2) (.slice A9 n2 c9) _ W8.heap.size (Nat.le_refl _) HX3.out HX9.out (by have:=HLL.out;dsimp only;omega)).mono ?_
     rintro x Wx ⟨rfl,hb⟩
     have g_pp:=(hb.block _ l_pp).trans H_pp.out
     have HBX:=hid (HB38.out.trans (hb.mono h38))
     clear hb l_a f_a H_a c_a0 c_a1 c_a2 c_a3 c_a4 c_a5 c_a6 l_pp f_pp H_pp c_pp0 c_pp1 c_pp2 l_t f_t H_t c_t0 c_t1 c_t2 c_t3 c_t4 c_t5 c_t6
     have l_pp:=lt_blk g_pp
     obtain⟨c_pp0,c_pp1,c_pp2⟩:=cells3 g_pp
     have f_pp:=frees g_pp
     have H_pp:=hid g_pp
     clear g_pp
     have k1:(convert 30 9 (.slice Ap mp cp)).run Tryz.prog Wx=.ok (.string ⟨dp.toArray⟩) Wx:=run_str Tryz.underlying30 Tryz.underlying5 Tryz.underlying9 HDNp.out (HI3p.out.keep HBX.out)
     have HBW:=hid (HB_W3.out.trans (HBX.out.mono hs_W3))
     have hsw:=HBW.out.size
     go_wp2_with fail
     refine(awake_any _).mono ?_
     rintro x Wz ⟨rfl,hbz⟩
     have HZ:=hid (HBW.out.trans (hbz.mono hsw))
     clear hbz
     go_wp2_with fail
     go_ret
     exact⟨rfl,HZ.out⟩
set_option maxRecDepth 100000
open Go.ChangeShapes Go.WideShapes Go.ChangeAt Go.RowKit Go.Joins Go.Deep
theorem autoOwn_calls {H:Type} (enc:TypeId×Value→H) (W:World) (base:Nat) (v0 v1 v2 v3 v4:Value) (d0 d1 d2 d3 d4:DataW H) (p0 p1 p2 p3 p4:List MemPlace)
  (o0:Value.okWide Tryz.prog W .any base 24 v0) (o1:Value.okWide Tryz.prog W .any base 28 v1) (o2:Value.okWide Tryz.prog W .any base 32 v2) (o3:Value.okWide Tryz.prog W .any base 3 v3) (o4:Value.okWide Tryz.prog W .any base 5 v4)
  (h0:DataW.Trod enc Tryz.prog W 0 (fun _=>true) true 24 v0 d0 p0) (h1:DataW.Trod enc Tryz.prog W 0 (fun _=>true) true 28 v1 d1 p1) (h2:DataW.Trod enc Tryz.prog W 0 (fun _=>true) true 32 v2 d2 p2) (h3:DataW.Trod enc Tryz.prog W 0 (fun _=>true) true 3 v3 d3 p3) (h4:DataW.Trod enc Tryz.prog W 0 (fun _=>true) true 5 v4 d4 p4):
  Calls Tryz.prog 8 #[v0,v1,v2,v3,v4] W fun e W'=>e=.returned (.bool true)∧Below W.heap.size W W':=by
 obtain⟨Ar,nr,cr,R,mc,mt,mf,wt,rfl,hR,hnr,hcr,hlr⟩:=open_conf o0 h0
 obtain⟨st,id,req,Aa,na,ca,E,cnt,tim,nak,rfl,hE,hna,hca,hla,hda⟩:=open_auto o1 h1
 obtain⟨kp,ip,Ap,np,cp,lp,rfl,hpI,hpn,hpc,hpl⟩:=open_pk o2 h2
 obtain⟨tick,rfl,rfl,rfl,w3⟩:=open_int Tryz.underlying3 o3 h3
 obtain⟨xz,rfl,rfl,rfl,w4⟩:=open_int Tryz.underlying5 o4 h4
 have b0:0≤xz∧xz≤255:=by simpa[Lit.wf,IntKind.min,IntKind.max,IntKind.signed,IntKind.bits] using w4
 obtain⟨q,rfl⟩:=Int.eq_ofNat_of_zero_le b0.1
 have e1:(((UInt8.ofNat q).toNat:Nat):Int)=(q:Int):=by
  have:(UInt8.ofNat q).toNat=q%256:=by simp
  omega
 have h:=autoOwn_walk Ar Aa Ap nr cr na ca np cp R mc mt mf wt st id req cnt tim nak kp ip tick (UInt8.ofNat q) E lp W hR hnr hcr hlr hE hna hla hda hpI hpn hpc hpl
 rw[e1] at h
 exact h
end Go.Proofs.YthidhfkbfoejbaaGreat
