/- Bundle PW. -/
import Derived.Test.YthidhfkbfoejbaaGreatPV
import Derived.Test.YthidhfkbfoejbaaGreatPS
import Derived.Test.YthidhfkbfoejbaaGreatPL
set_option maxHeartbeats 8000000
namespace Go.Proofs.YthidhfkbfoejbaaGreat
open Lib (hid)
open Go.RowKit
set_option linter.unusedSimpArgs false
set_option linter.unusedVariables false
set_option linter.ambiguousOpen false
open Ne (Rl Opt RulesAt areB)
open Fs (av hasB)
set_option maxRecDepth 100000 in
theorem packets_walk (Ar Aa Ap:Option Addr) (nr cr na ca np cp:Nat) (R:List Rl) (mc mt mf wt st id req cnt tim nak kp ip tick:Int) (E:List Ent) (lp:List UInt8) (w:World) (hR:RulesAt w w.heap.size Ar R) (hnr:nr=R.length) (hcr:nr≤cr) (hlr:(nr:Int)≤9223372036854775807) (hE:OptsAt w w.heap.size Aa E) (hna:na=E.length) (hla:(na:Int)≤9223372036854775807) (hda: ∀e∈E,(e.d.length:Int)≤9223372036854775807) (hpI:At w w.heap.size Ap (lp.map bv)) (hpn:np=lp.length) (hpc:np≤cp) (hpl:(np:Int)≤9223372036854775807):
  Calls Tryz.prog 5 #[.agg #[.slice Ar nr cr,.int .i64 mc,.int .i64 mt,.int .i64 mf,.int .i64 wt],.agg #[.int .i64 st,.int .i64 id,.int .i64 req,.slice Aa na ca,.int .i64 cnt,.int .i64 tim,.int .i64 nak],.agg #[.int .i64 kp,.int .i64 ip,.slice Ap np cp],.int .i64 tick] w fun x w'=>x=.returned (.bool true)∧Below w.heap.size w w':=by
 have HR:=hid hR
 have HE:=hid hE
 have HNA:=hid hna
 have HDA:=hid hda
 obtain⟨m,hm⟩: ∃m,min nr 20=m:=⟨_,rfl⟩
 have HM:=hid hm
 have HRM:=hid (show m=(R.take 20).length by rw[List.length_take];omega)
 have hm20:m≤20:=by omega
 obtain⟨mp,hmp⟩: ∃m,min np 1500=m:=⟨_,rfl⟩
 have HMp:=hid hmp
 have HDNp:=hid (show mp=(lp.take 1500).length by rw[List.length_take];omega)
 have hmcp:mp≤cp:=by omega
 have hm15p:mp≤1500:=by omega
 have HIp:=hid (hpI.take 1500)
 rw[←List.map_take] at HIp
 clear hR hE hna hda hm hnr hpI hpn hmp
 go_enter Tryz.func5,Tryz.ntmps5
 go_upto_region 1 with(fail)
 refine wp_w (fun W=>W.heap[w.heap.size]? =some (.cells #[.slice Ar nr cr,.int .i64 mc,.int .i64 mt,.int .i64 mf,.int .i64 wt] 24 (0,0))∧W.heap[w.heap.size+1]? =some (.cells #[.int .i64 st,.int .i64 id,.int .i64 req,.slice Aa na ca,.int .i64 cnt,.int .i64 tim,.int .i64 nak] 28 (0,0))∧W.heap[w.heap.size+1+1]? =some (.cells #[.int .i64 kp,.int .i64 ip,.slice Ap np cp] 32 (0,0))∧Below w.heap.size w W) ⟨by exact hpa,by exact hpa,by exact hpa,by exact bel⟩ ?_
 rintro W1 ⟨g_c,g_a,g_pp,hbw⟩
 have HB_W1:=hid hbw
 have hs_W1:=hbw.size
 clear hbw
 have l_c:=lt_blk g_c
 obtain⟨c_c0,c_c1,c_c2,c_c3,c_c4⟩:=cells5 g_c
 have f_c:=frees g_c
 have H_c:=hid g_c
 clear g_c
 have l_a:=lt_blk g_a
 obtain⟨c_a0,c_a1,c_a2,c_a3,c_a4,c_a5,c_a6⟩:=cells7 g_a
 have f_a:=frees g_a
 have H_a:=hid g_a
 clear g_a
 have l_pp:=lt_blk g_pp
 obtain⟨c_pp0,c_pp1,c_pp2⟩:=cells3 g_pp
 have f_pp:=frees g_pp
 have H_pp:=hid g_pp
 clear g_pp
 have hz1:w.heap.size+1+1+1≤W1.heap.size:=by omega
 go_wp2_with fail
 refine(light_any Ar Aa Ap nr cr na ca np cp mc mt mf wt st id req cnt tim nak kp ip E _ w.heap.size hs_W1 (HE.out.keep HB_W1.out) HNA.out hla HDA.out hcr hlr hpc hpl).mono ?_
 rw[HM.out,HMp.out]
 rintro x W2 ⟨A2,n2,c2,rfl,hb,ho,hn2⟩
 have g_c:=(hb.block _ l_c).trans H_c.out
 have g_a:=(hb.block _ l_a).trans H_a.out
 have g_pp:=(hb.block _ l_pp).trans H_pp.out
 have HQ_W2:=hid hb
 have hq_W2:=hb.size
 have HB_W2:=hid (HB_W1.out.trans (HQ_W2.out.mono hs_W1))
 have hs_W2:w.heap.size≤W2.heap.size:=HB_W2.out.size
 clear l_c f_c H_c c_c0 c_c1 c_c2 c_c3 c_c4 l_a f_a H_a c_a0 c_a1 c_a2 c_a3 c_a4 c_a5 c_a6 l_pp f_pp H_pp c_pp0 c_pp1 c_pp2
 have l_c:=lt_blk g_c
 obtain⟨c_c0,c_c1,c_c2,c_c3,c_c4⟩:=cells5 g_c
 have f_c:=frees g_c
 have H_c:=hid g_c
 clear g_c
 have l_a:=lt_blk g_a
 obtain⟨c_a0,c_a1,c_a2,c_a3,c_a4,c_a5,c_a6⟩:=cells7 g_a
 have f_a:=frees g_a
 have H_a:=hid g_a
 clear g_a
 have l_pp:=lt_blk g_pp
 obtain⟨c_pp0,c_pp1,c_pp2⟩:=cells3 g_pp
 have f_pp:=frees g_pp
 have H_pp:=hid g_pp
 clear g_pp
 have HO2:=hid ho
 have HN2:=hid hn2
 have hn70:n2≤70:=by have:=lit_len E;omega
 have HC2:=hid (show n2≤c2 by obtain⟨A5,c5,hv,hc,-⟩:=ownsRow_form ho;cases hv;exact hc)
 clear hb ho hn2
 go_upto_region 2 with(fail)
 refine wp_w (fun W=>W.heap[w.heap.size]? =some (.cells #[.slice Ar m cr,.int .i64 mc,.int .i64 mt,.int .i64 mf,.int .i64 wt] 24 (0,0))∧W.heap[w.heap.size+1]? =some (.cells #[.int .i64 st,.int .i64 id,.int .i64 req,.slice A2 n2 c2,.int .i64 cnt,.int .i64 tim,.int .i64 nak] 28 (0,0))∧W.heap[w.heap.size+1+1]? =some (.cells #[.int .i64 kp,.int .i64 ip,.slice Ap mp cp] 32 (0,0))∧Below w.heap.size w W∧W.ownsRow (w.heap.size+1+1+1) 57 2 (.slice A2 n2 c2) n2 (cellsE (litE E))) ⟨(by(iterate 10 (with_reducible refine set_off ?_ (by omega)));refine rows5 (cs:=#[.slice Ar nr cr,.int .i64 mc,.int .i64 mt,.int .i64 mf,.int .i64 wt]) ?_ rfl _ _ _ _ _;skip;exact H_c.out),(by(iterate 3 (with_reducible refine set_off ?_ (by omega)));refine row7 (cs:=#[.int .i64 st,.int .i64 id,.int .i64 req,.slice Aa na ca,.int .i64 cnt,.int .i64 tim,.int .i64 nak]) ?_ rfl _ _ _ _ _ _ _;(iterate 5 (with_reducible refine set_off ?_ (by omega)));exact H_a.out),(by skip;refine row3l (cs:=#[.int .i64 kp,.int .i64 ip,.slice Ap np cp]) ?_ rfl _ _ _;(iterate 12 (with_reducible refine set_off ?_ (by omega)));exact H_pp.out),(by(iterate 15 (with_reducible refine Below.setCell ?_ (by first|omega|(dsimp only;omega)) _));exact HB_W2.out),(by refine own_base (own_keep HO2.out (fun k hk=>?_)) (by omega);have hle:=own_le HO2.out hk;(iterate 15 (with_reducible refine set_off ?_ (by omega)));rfl)⟩ ?_
 clear l_c f_c H_c c_c0 c_c1 c_c2 c_c3 c_c4 l_a f_a H_a c_a0 c_a1 c_a2 c_a3 c_a4 c_a5 c_a6 l_pp f_pp H_pp c_pp0 c_pp1 c_pp2
 rintro W3 ⟨g_c,g_a,g_pp,hbw,ex0⟩
 have HB_W3:=hid hbw
 have hs_W3:=hbw.size
 clear hbw
 have l_c:=lt_blk g_c
 obtain⟨c_c0,c_c1,c_c2,c_c3,c_c4⟩:=cells5 g_c
 have f_c:=frees g_c
 have H_c:=hid g_c
 clear g_c
 have l_a:=lt_blk g_a
 obtain⟨c_a0,c_a1,c_a2,c_a3,c_a4,c_a5,c_a6⟩:=cells7 g_a
 have f_a:=frees g_a
 have H_a:=hid g_a
 clear g_a
 have l_pp:=lt_blk g_pp
 obtain⟨c_pp0,c_pp1,c_pp2⟩:=cells3 g_pp
 have f_pp:=frees g_pp
 have H_pp:=hid g_pp
 clear g_pp
 have HO3:=hid ex0
 clear ex0 HO2
 have HR3:=hid ((rulesAt_take (HR.out.keep HB_W3.out) 20).more hs_W3)
 have HE3:=hid (lit_at HE.out (Nat.le_refl _) HB_W3.out HO3.out)
 have HI3p:=hid ((HIp.out.keep HB_W3.out).more hs_W3)
 have HLD:=hid (lit_data E)
 generalize R.take 20=R1 at HR3 HRM
 generalize litE E=F at HO3 HE3 HN2 HLD
 generalize lp.take 1500=dp at HIp HI3p HDNp
 obtain⟨L,hL⟩: ∃L,F.map Ent.o=L:=⟨_,rfl⟩
 have HL:=hid hL
 have HLL:=hid (show L.length≤1000 by rw[←hL,List.length_map];have:=HN2.out;omega)
 clear hL
 go_wp2_with fail
 refine(pack_any Ar A2 Ap m cr n2 c2 mp cp R1 mc mt mf wt st id req cnt tim nak kp ip tick F dp _ W3.heap.size (Nat.le_refl _) HR3.out HRM.out (by omega) HE3.out HN2.out (by omega) (fun e he=>by have:=HLD.out e he;omega) HI3p.out HDNp.out hmcp (by omega)).mono ?_
 rw[HL.out]
 obtain⟨⟨⟨⟨st1,id1,req1,ask1,cnt1,tim1,nak1⟩,out1,acts1⟩,ok1⟩,hr⟩: ∃r,packO ⟨R1,mc,mt,mf,wt⟩ ⟨st,id,req,L,cnt,tim,nak⟩ ⟨kp,ip,dp⟩ tick=r:=⟨_,rfl⟩
 have HRES:=hid hr
 have hlen:=packO_lens ⟨R1,mc,mt,mf,wt⟩ ⟨st,id,req,L,cnt,tim,nak⟩ ⟨kp,ip,dp⟩ tick (by have:=HLL.out;simpa using this)
 rw[hr] at hlen ⊢
 dsimp only at hlen
 have HLEN:=hid hlen
 clear hr hlen
 unfold PackP auV
 dsimp only
 rintro x W4 ⟨va,vo,vd,rfl,hb,hO,hP,hA⟩
 have g_c:=(hb.block _ l_c).trans H_c.out
 have g_a:=(hb.block _ l_a).trans H_a.out
 have g_pp:=(hb.block _ l_pp).trans H_pp.out
 have HQ_W4:=hid hb
 have hq_W4:=hb.size
 have HB_W4:=hid (HB_W3.out.trans (HQ_W4.out.mono hs_W3))
 have hs_W4:w.heap.size≤W4.heap.size:=HB_W4.out.size
 clear l_c f_c H_c c_c0 c_c1 c_c2 c_c3 c_c4 l_a f_a H_a c_a0 c_a1 c_a2 c_a3 c_a4 c_a5 c_a6 l_pp f_pp H_pp c_pp0 c_pp1 c_pp2
 have l_c:=lt_blk g_c
 obtain⟨c_c0,c_c1,c_c2,c_c3,c_c4⟩:=cells5 g_c
 have f_c:=frees g_c
 have H_c:=hid g_c
 clear g_c
 have l_a:=lt_blk g_a
 obtain⟨c_a0,c_a1,c_a2,c_a3,c_a4,c_a5,c_a6⟩:=cells7 g_a
 have f_a:=frees g_a
 have H_a:=hid g_a
 clear g_a
 have l_pp:=lt_blk g_pp
 obtain⟨c_pp0,c_pp1,c_pp2⟩:=cells3 g_pp
 have f_pp:=frees g_pp
 have H_pp:=hid g_pp
 clear g_pp
 have HO4:=hid hO
 have HP4:=hid hP
 have HA4:=hid hA
 obtain⟨E4,hE4,hEL⟩:=hO
 obtain⟨A4,c4,rfl,-,-⟩:=ownsRow_form hE4.1
 obtain⟨n4,hn4⟩: ∃n,E4.length=n:=⟨_,rfl⟩
 rw[hn4] at HO4 ⊢
 clear hb hE4 hEL hP hA hn4
 go_upto_region 3 with(fail)
 refine wp_w (fun W=>W.heap[w.heap.size]? =some (.cells #[.slice Ar m cr,.int .i64 mc,.int .i64 mt,.int .i64 mf,.int .i64 wt] 24 (0,0))∧W.heap[w.heap.size+1]? =some (.cells #[.int .i64 st,.int .i64 id,.int .i64 req,.slice A2 n2 c2,.int .i64 cnt,.int .i64 tim,.int .i64 nak] 28 (0,0))∧W.heap[w.heap.size+1+1]? =some (.cells #[.int .i64 kp,.int .i64 ip,.slice Ap mp cp] 32 (0,0))∧W.heap[W4.heap.size]? =some (.cells #[.int .i64 st1,.int .i64 id1,.int .i64 req1,.slice A4 n4 c4,.int .i64 cnt1,.int .i64 tim1,.int .i64 nak1] 28 (0,0))∧Below w.heap.size w W∧Below W4.heap.size W4 W) ⟨(alloc_off H_c.out),(alloc_off H_a.out),(alloc_off H_pp.out),(heap_alloc_new _ _),(Below.alloc HB_W4.out hs_W4 _),(Below.alloc (Below.refl _ _) (Nat.le_refl _) _)⟩ ?_
 clear l_c f_c H_c c_c0 c_c1 c_c2 c_c3 c_c4 l_a f_a H_a c_a0 c_a1 c_a2 c_a3 c_a4 c_a5 c_a6 l_pp f_pp H_pp c_pp0 c_pp1 c_pp2
 rintro W5 ⟨g_c,g_a,g_pp,g_t,hbw,ex0⟩
 have HB_W5:=hid hbw
 have hs_W5:=hbw.size
 clear hbw
 have l_c:=lt_blk g_c
 obtain⟨c_c0,c_c1,c_c2,c_c3,c_c4⟩:=cells5 g_c
 have f_c:=frees g_c
 have H_c:=hid g_c
 clear g_c
 have l_a:=lt_blk g_a
 obtain⟨c_a0,c_a1,c_a2,c_a3,c_a4,c_a5,c_a6⟩:=cells7 g_a
 have f_a:=frees g_a
 have H_a:=hid g_a
 clear g_a
 have l_pp:=lt_blk g_pp
 obtain⟨c_pp0,c_pp1,c_pp2⟩:=cells3 g_pp
 have f_pp:=frees g_pp
 have H_pp:=hid g_pp
 clear g_pp
 have l_t:=lt_blk g_t
 obtain⟨c_t0,c_t1,c_t2,c_t3,c_t4,c_t5,c_t6⟩:=cells7 g_t
 have f_t:=frees g_t
 have H_t:=hid g_t
 clear g_t
 have HQ5:=hid ex0
 have hq5:=ex0.size
 clear ex0
 have HO5:=hid (HO4.out.below HQ5.out)
 have HP5:=hid (HP4.out.below HQ5.out)
 have HA5:=hid (HA4.out.below HQ5.out)
 have HB35:=hid (HQ_W4.out.trans (HQ5.out.mono hq_W4))
 have HR5:=hid ((HR3.out.keep HB35.out).more HB35.out.size)
 have HE5:=hid ((HE3.out.keep HB35.out).more HB35.out.size)
 have HI5p:=hid ((HI3p.out.keep HB35.out).more HB35.out.size)
 clear HO4 HP4 HA4 HR3 HE3 HO3 HI3p
 go_wp2_with fail
 refine(rpack_any Ar A2 Ap m cr n2 c2 mp cp R1 mc mt mf wt st id req cnt tim nak kp ip tick F dp _ W5.heap.size (Nat.le_refl _) HR5.out HRM.out (by omega) HE5.out HN2.out HC2.out (by omega) HI5p.out HDNp.out hmcp (by omega)).mono ?_
 rw[HL.out,HRES.out]
 unfold RPackP auV
 dsimp only
 rintro x W6 ⟨va2,vo2,vd2,rfl,hb,hv2,hP,hA⟩
 have g_c:=(hb.block _ l_c).trans H_c.out
 have g_a:=(hb.block _ l_a).trans H_a.out
 have g_pp:=(hb.block _ l_pp).trans H_pp.out
 have g_t:=(hb.block _ l_t).trans H_t.out
 have HQ_W6:=hid hb
 have hq_W6:=hb.size
 have HB_W6:=hid (HB_W5.out.trans (HQ_W6.out.mono hs_W5))
 have hs_W6:w.heap.size≤W6.heap.size:=HB_W6.out.size
 clear l_c f_c H_c c_c0 c_c1 c_c2 c_c3 c_c4 l_a f_a H_a c_a0 c_a1 c_a2 c_a3 c_a4 c_a5 c_a6 l_pp f_pp H_pp c_pp0 c_pp1 c_pp2 l_t f_t H_t c_t0 c_t1 c_t2 c_t3 c_t4 c_t5 c_t6
 have l_c:=lt_blk g_c
 obtain⟨c_c0,c_c1,c_c2,c_c3,c_c4⟩:=cells5 g_c
 have f_c:=frees g_c
 have H_c:=hid g_c
 clear g_c
 have l_a:=lt_blk g_a
 obtain⟨c_a0,c_a1,c_a2,c_a3,c_a4,c_a5,c_a6⟩:=cells7 g_a
 have f_a:=frees g_a
 have H_a:=hid g_a
 clear g_a
 have l_pp:=lt_blk g_pp
 obtain⟨c_pp0,c_pp1,c_pp2⟩:=cells3 g_pp
 have f_pp:=frees g_pp
 have H_pp:=hid g_pp
 clear g_pp
 have l_t:=lt_blk g_t
 obtain⟨c_t0,c_t1,c_t2,c_t3,c_t4,c_t5,c_t6⟩:=cells7 g_t
 have f_t:=frees g_t
 have H_t:=hid g_t
 clear g_t
 have HV6:=hid (show OptsV W6 W6.heap.size va2 ask1 from by
  rcases hv2 with⟨hv,ha⟩|hv
  ·rw[hv,ha];exact⟨A2,n2,c2,F,rfl,(HE5.out.keep hb).more hb.size,HN2.out,HC2.out,HL.out⟩
  ·exact hv.v)
 obtain⟨A6,n6,c6,E6,rfl,-,-,-,-⟩:=HV6.out
 clear hv2
 have HP6:=hid hP
 have HA6:=hid hA
 clear hb hP hA
 go_upto_region 4 with(fail)
 refine wp_w (fun W=>W.heap[W4.heap.size]? =some (.cells #[.int .i64 st1,.int .i64 id1,.int .i64 req1,.slice A4 n4 c4,.int .i64 cnt1,.int .i64 tim1,.int .i64 nak1] 28 (0,0))∧W.heap[W6.heap.size]? =some (.cells #[.int .i64 st1,.int .i64 id1,.int .i64 req1,.slice A6 n6 c6,.int .i64 cnt1,.int .i64 tim1,.int .i64 nak1] 28 (0,0))∧Below w.heap.size w W∧Below W6.heap.size W6 W) ⟨(alloc_off H_t.out),(heap_alloc_new _ _),(Below.alloc HB_W6.out hs_W6 _),(Below.alloc (Below.refl _ _) (Nat.le_refl _) _)⟩ ?_
 clear l_c f_c H_c c_c0 c_c1 c_c2 c_c3 c_c4 l_a f_a H_a c_a0 c_a1 c_a2 c_a3 c_a4 c_a5 c_a6 l_pp f_pp H_pp c_pp0 c_pp1 c_pp2 l_t f_t H_t c_t0 c_t1 c_t2 c_t3 c_t4 c_t5 c_t6
 rintro W7 ⟨g_t,g_u,hbw,ex0⟩
 have HB_W7:=hid hbw
 have hs_W7:=hbw.size
 clear hbw
 have l_t:=lt_blk g_t
 obtain⟨c_t0,c_t1,c_t2,c_t3,c_t4,c_t5,c_t6⟩:=cells7 g_t
 have f_t:=frees g_t
 have H_t:=hid g_t
 clear g_t
 have l_u:=lt_blk g_u
 obtain⟨c_u0,c_u1,c_u2,c_u3,c_u4,c_u5,c_u6⟩:=cells7 g_u
 have f_u:=frees g_u
 have H_u:=hid g_u
 clear g_u
 have HQ7:=hid ex0
 have hq7:=ex0.size
 clear ex0
 have HB57:=hid (HQ_W6.out.trans (HQ7.out.mono hq_W6))
 have HO7:=hid (HO5.out.below HB57.out).v
 have HP7:=hid (HP5.out.below HB57.out).v
 have HA7:=hid (HA5.out.below HB57.out).v
 have HPR7:=hid (HP6.out.below HQ7.out).v
 have HAR7:=hid (HA6.out.below HQ7.out).v
 have HE7:=hid ((HV6.out.keep HQ7.out).more hq7)
 go_wp2_with fail
 refine(sameAu_v ⟨st1,id1,req1,ask1,cnt1,tim1,nak1⟩ (.slice A4 n4 c4) (.slice A6 n6 c6) _ W7.heap.size (Nat.le_refl _) HO7.out HE7.out (by have:=HLEN.out;dsimp only;omega)).mono ?_
 rintro x W8 ⟨rfl,hb8⟩
 have HQ8:=hid hb8
 have hq8:=hb8.size
 clear hb8 l_t f_t H_t c_t0 c_t1 c_t2 c_t3 c_t4 c_t5 c_t6 l_u f_u H_u c_u0 c_u1 c_u2 c_u3 c_u4 c_u5 c_u6
 go_wp2_with fail
 refine(sameAll_v vo vo2 out1 _ W7.heap.size hq8 (HP7.out.keep HQ8.out) (HPR7.out.keep HQ8.out) (by have:=HLEN.out;omega)).mono ?_
 rintro x W9 ⟨rfl,hb9⟩
 have HQ9:=hid (HQ8.out.trans (hb9.mono hq8))
 have hq9:=HQ9.out.size
 clear hb9
 go_wp2_with fail
 refine(sameActs_v vd vd2 acts1 _ W7.heap.size hq9 (HA7.out.keep HQ9.out) (HAR7.out.keep HQ9.out) (by have:=HLEN.out;omega)).mono ?_
 rintro x W10 ⟨rfl,hb10⟩
 have HQ10:=hid (HQ9.out.trans (hb10.mono hq9))
 have hq10:=HQ10.out.size
 clear hb10
 have hok:(ok1==ok1)=true:=by simp
 go_wp2_with fail
 refine(awake_any _).mono ?_
 rintro x W11 ⟨rfl,hb11⟩
 have HQ11:=hid (HQ10.out.trans (hb11.mono hq10))
 clear hb11
 go_wp2_with fail
 go_ret
 exact⟨rfl,HB_W7.out.trans (HQ11.out.mono hs_W7)⟩
set_option maxRecDepth 100000
open Go.ChangeShapes Go.WideShapes Go.ChangeAt Go.RowKit Go.Joins Go.Deep
theorem autoPackets_calls {H:Type} (enc:TypeId×Value→H) (W:World) (base:Nat) (v0 v1 v2 v3:Value) (d0 d1 d2 d3:DataW H) (p0 p1 p2 p3:List MemPlace)
  (o0:Value.okWide Tryz.prog W .any base 24 v0) (o1:Value.okWide Tryz.prog W .any base 28 v1) (o2:Value.okWide Tryz.prog W .any base 32 v2) (o3:Value.okWide Tryz.prog W .any base 3 v3)
  (h0:DataW.Trod enc Tryz.prog W 0 (fun _=>true) true 24 v0 d0 p0) (h1:DataW.Trod enc Tryz.prog W 0 (fun _=>true) true 28 v1 d1 p1) (h2:DataW.Trod enc Tryz.prog W 0 (fun _=>true) true 32 v2 d2 p2) (h3:DataW.Trod enc Tryz.prog W 0 (fun _=>true) true 3 v3 d3 p3):
  Calls Tryz.prog 5 #[v0,v1,v2,v3] W fun e W'=>e=.returned (.bool true)∧Below W.heap.size W W':=by
 obtain⟨Ar,nr,cr,R,mc,mt,mf,wt,rfl,hR,hnr,hcr,hlr⟩:=open_conf o0 h0
 obtain⟨st,id,req,Aa,na,ca,E,cnt,tim,nak,rfl,hE,hna,hca,hla,hda⟩:=open_auto o1 h1
 obtain⟨kp,ip,Ap,np,cp,lp,rfl,hpI,hpn,hpc,hpl⟩:=open_pk o2 h2
 obtain⟨tick,rfl,rfl,rfl,w3⟩:=open_int Tryz.underlying3 o3 h3
 exact packets_walk Ar Aa Ap nr cr na ca np cp R mc mt mf wt st id req cnt tim nak kp ip tick E lp W hR hnr hcr hlr hE hna hla hda hpI hpn hpc hpl
end Go.Proofs.YthidhfkbfoejbaaGreat
