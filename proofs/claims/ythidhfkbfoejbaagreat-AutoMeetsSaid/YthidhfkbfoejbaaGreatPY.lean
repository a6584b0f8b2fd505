/- Bundle PY. -/
import Derived.Test.YthidhfkbfoejbaaGreatPV
import Derived.Test.YthidhfkbfoejbaaGreatFY
set_option maxHeartbeats 8000000
namespace Go.Proofs.YthidhfkbfoejbaaGreat
open Lib (hid)
open Go.RowKit
set_option linter.unusedSimpArgs false
set_option linter.unusedVariables false
set_option linter.ambiguousOpen false
open Ne (Rl Opt RulesAt areB answerO)
open Fs (av hasB)
def pk0:Pk:=⟨0,0,[]⟩
theorem tim_start {wt:Int} (h0:1≤wt) (h1:wt≤1048576) {a:Au} (hs:Fs.timedB a.st=true) (ht:a.tim=0+wt):timB a=true:=by
 unfold timB
 rw[if_pos hs,ht]
 simp[inB];omega
theorem conf_wt {c:Cf} (h:confB c=true):1≤c.mc∧c.mc≤1000∧1≤c.wt∧c.wt≤1048576:=by
 unfold confB inB at h
 simp only[Bool.and_eq_true,decide_eq_true_eq] at h
 omega
theorem fine_of {c:Cf} {a:Au} {tick:Int} (hc:confB c=true) (ha:isB a=true) (h0:0≤tick) (h1:tick≤1099511627776):fineB c a tick=true:=by
 unfold fineB
 rw[hc,ha]
 simp[inB];omega
theorem up_now {c:Cf} {x:List Opt} (hc:confB c=true) (hx:(Op.encR x).2=0):doO c ⟨0,0,0,x,0,0,0⟩ 1 pk0 pk0 0=(⟨2,0,0,x,0,0,0⟩,[],Fs.tabActs 1 0):=by
 have hf:fineB c ⟨0,0,0,x,0,0,0⟩ 0=true:=fine_of hc (isB_of ⟨by simp,by simp,by simp,by simp,by simp,hx,by rfl⟩) (by omega) (by omega)
 unfold doO
 rw[if_pos ⟨hf,by rfl⟩,if_neg (by first|decide|(dsimp only;decide))]
 rfl
theorem open_now {c:Cf} {x:List Opt} (hc:confB c=true) (hx:(Op.encR x).2=0):doO c ⟨2,0,0,x,0,0,0⟩ 3 pk0 pk0 0=(⟨6,1,1,x,dec c.mc,0+c.wt,0⟩,[⟨1,1,(Op.encR x).1⟩],Fs.tabActs 3 2):=by
 have hf:fineB c ⟨2,0,0,x,0,0,0⟩ 0=true:=fine_of hc (isB_of ⟨by simp,by simp,by simp,by simp,by simp,hx,by rfl⟩) (by omega) (by omega)
 unfold doO
 rw[if_pos ⟨hf,by rfl⟩,if_pos (by rfl)]
 rfl
theorem dec_in {n:Int} (h0:0≤n) (h1:n≤1000):0≤dec n∧dec n≤1000:=by unfold dec;split<;>omega
theorem is_asked {c:Cf} {x:List Opt} (hc:confB c=true) (hx:(Op.encR x).2=0) (s:Int) (hs:s=6∨s=8):isB ⟨s,1,1,x,dec c.mc,0+c.wt,0⟩=true:=by
 obtain⟨h1,h2,h3,h4⟩:=conf_wt hc
 have hd:=dec_in (n:=c.mc) (by omega) h2
 refine isB_of ⟨by dsimp only;omega,by simp,by simp,hd,by simp,hx,tim_start h3 h4 (by rcases hs with rfl|rfl<;>rfl) rfl⟩
theorem enc_small {x:List Opt} (co:Int) (h0:0≤co) (h1:co≤255):Cp.encErr co 1 (Op.encR x).1.length=0:=by
 have:=encR_len x
 unfold Cp.encErr
 rw[if_neg (by simp[inB];omega),if_neg (by omega)]
theorem req_now {c:Cf} {x y:List Opt} (hc:confB c=true) (hx:(Op.encR x).2=0) (hy:(Op.encR y).2=0) (ht:(answerO c.rules y 0 c.mf).1=2):
  packO c ⟨6,1,1,x,dec c.mc,0+c.wt,0⟩ ⟨1,1,(Op.encR y).1⟩ 1=((⟨8,1,1,x,dec c.mc,0+c.wt,0⟩,[⟨2,1,(Op.encR y).1⟩],Fs.tabActs 7 6),true):=by
 have hf:fineB c ⟨6,1,1,x,dec c.mc,0+c.wt,0⟩ 1=true:=fine_of hc (is_asked hc hx 6 (.inl rfl)) (by omega) (by omega)
 have ha2:=Ne.taken_same ht
 have hb:Op.decR (Op.encR y).1=(y,0):=Op.back_enc (by rw[←hy])
 have hw:whichO c ⟨6,1,1,x,dec c.mc,0+c.wt,0⟩ ⟨1,1,(Op.encR y).1⟩=some (7,⟨2,1,(Op.encR y).1⟩,x):=by
  unfold whichO
  rw[if_pos rfl]
  unfold askedO
  dsimp only
  rw[hb]
  dsimp only
  rw[if_neg (by first|decide|(dsimp only;decide)),ha2,if_neg (by rw[hy];decide),ht,if_pos rfl]
 unfold packO
 rw[if_neg (by simp[inB]),if_neg (by dsimp only;rw[enc_small 1 (by omega) (by omega),hf];simp),hw]
 dsimp only
 rw[if_neg (by first|decide|(dsimp only;decide))]
 unfold doO
 rw[if_pos ⟨hf,by rfl⟩,if_pos (by rfl)]
 rfl
theorem ack_now {c:Cf} {x:List Opt} (hc:confB c=true) (hx:(Op.encR x).2=0):
  packO c ⟨8,1,1,x,dec c.mc,0+c.wt,0⟩ ⟨2,1,(Op.encR x).1⟩ 1=((⟨9,1,1,x,c.mc,0,0⟩,[],Fs.tabActs 9 8),true):=by
 have hf:fineB c ⟨8,1,1,x,dec c.mc,0+c.wt,0⟩ 1=true:=fine_of hc (is_asked hc hx 8 (.inr rfl)) (by omega) (by omega)
 have hw:whichO c ⟨8,1,1,x,dec c.mc,0+c.wt,0⟩ ⟨2,1,(Op.encR x).1⟩=some (9,⟨0,0,[]⟩,x):=by
  unfold whichO
  rw[if_neg (by simp),if_pos rfl,if_pos ⟨rfl,rfl⟩]
 unfold packO
 rw[if_neg (by simp[inB]),if_neg (by dsimp only;rw[enc_small 2 (by omega) (by omega),hf];simp),hw]
 dsimp only
 rw[if_neg (by first|decide|(dsimp only;decide))]
 unfold doO
 rw[if_pos ⟨hf,by rfl⟩,if_neg (by first|decide|(dsimp only;decide))]
 rfl
end Go.Proofs.YthidhfkbfoejbaaGreat
namespace Go.Proofs.YthidhfkbfoejbaaGreat
open Lib (hid)
open Go.RowKit
set_option linter.unusedSimpArgs false
set_option linter.unusedVariables false
set_option linter.ambiguousOpen false
open Ne (Rl Opt RulesAt areB)
open Fs (av hasB)
def SideP (c:Cf) (L:List Opt) (w:World) (x:Ending) (w':World):Prop:=
 ∃(s d r q t k:Int) (va vo:Value) (ok:Bool),x=.returned (.tuple #[.agg #[.int .i64 s,.int .i64 d,.int .i64 r,va,.int .i64 q,.int .i64 t,.int .i64 k],vo,.bool ok])∧Below w.heap.size w w'∧(∃A n c,va=.slice A n c)∧(∃A n c,vo=.slice A n c)∧(ok=(confB c&&(Op.encR L).2==0))∧
  (ok=true→s=6∧d=1∧r=1∧q=dec c.mc∧t=c.wt∧k=0∧OptsO w' w.heap.size va L∧PksO w' w.heap.size vo [⟨1,1,(Op.encR L).1⟩])
set_option maxRecDepth 100000 in
theorem side_ok (Ar Aa:Option Addr) (nr cr na ca:Nat) (R:List Rl) (mc mt mf wt:Int) (E:List Ent) (L:List Opt) (hL:E.map Ent.o=L) (w:World) (B:Nat) (hB:B≤w.heap.size) (hR:RulesAt w B Ar R) (hnr:nr=R.length) (hlr:nr≤1000000) (hE:OptsAt w B Aa E) (hna:na=E.length) (hla:na≤1000000) (hda: ∀e∈E,e.d.length≤400000000) (hc:confB ⟨R,mc,mt,mf,wt⟩=true) (he:(Op.encR L).2=0):
  Calls Tryz.prog 22 #[.agg #[.slice Ar nr cr,.int .i64 mc,.int .i64 mt,.int .i64 mf,.int .i64 wt],.slice Aa na ca] w (SideP ⟨R,mc,mt,mf,wt⟩ L w):=by
 have HB:=hid hB
 have HR:=hid hR
 have HNR:=hid hnr
 have HE:=hid hE
 have HNA:=hid hna
 have HDA:=hid hda
 have HL:=hid hL
 have HCC:=hid hc
 have HEE:=hid he
 clear hB hR hnr hE hna hda hL hc he
 have HUP:=hid (up_now (x:=L) HCC.out HEE.out)
 have HOP:=hid (open_now (x:=L) HCC.out HEE.out)
 have HA0:=hid (show auNew L=⟨0,0,0,L,0,0,0⟩ by unfold auNew;rw[if_pos HEE.out])
 have HE0:=hid (show errNew L=0 by unfold errNew;rw[if_pos HEE.out])
 have hll:L.length≤64:=(enc_ok HEE.out).1
 have HSH:=hid (enc_ok HEE.out).2
 go_enter Tryz.func22,Tryz.ntmps22
 go_upto_region 1 with(fail)
 refine wp_w (fun W=>W.heap[w.heap.size]? =some (.cells #[.slice Ar nr cr,.int .i64 mc,.int .i64 mt,.int .i64 mf,.int .i64 wt] 24 (0,0))∧W.heap[w.heap.size+1]? =some (.cells #[.int .i64 0,.int .i64 0,.int .i64 0,.slice none 0 0,.int .i64 0,.int .i64 0,.int .i64 0] 28 (0,0))∧Below w.heap.size w W) ⟨by exact hpa,by exact hpa,by exact bel⟩ ?_
 rintro W1 ⟨g_c,g_r,hbw⟩
 have HB_W1:=hid hbw
 have hs_W1:=hbw.size
 clear hbw
 have l_c:=lt_blk g_c
 obtain⟨c_c0,c_c1,c_c2,c_c3,c_c4⟩:=cells5 g_c
 have f_c:=frees g_c
 have H_c:=hid g_c
 clear g_c
 have l_r:=lt_blk g_r
 obtain⟨c_r0,c_r1,c_r2,c_r3,c_r4,c_r5,c_r6⟩:=cells7 g_r
 have f_r:=frees g_r
 have H_r:=hid g_r
 clear g_r
 have hBw:B≤W1.heap.size:=by have:=HB.out;omega
 go_wp2_with fail
 refine(new_any Aa na ca E L HL.out _ B hBw (HE.out.keep (HB_W1.out.mono HB.out)) HNA.out hla HDA.out).mono ?_
 rintro x W2 ⟨v8,rfl,E8,A5,n5,c5,rfl,he8,hn8,hc8,hb,ho8⟩
 have g_c:=(hb.block _ l_c).trans H_c.out
 have g_r:=(hb.block _ l_r).trans H_r.out
 have HQ_W2:=hid hb
 have hq_W2:=hb.size
 have HB_W2:=hid (HB_W1.out.trans (HQ_W2.out.mono hs_W1))
 have hs_W2:w.heap.size≤W2.heap.size:=HB_W2.out.size
 clear l_c f_c H_c c_c0 c_c1 c_c2 c_c3 c_c4 l_r f_r H_r c_r0 c_r1 c_r2 c_r3 c_r4 c_r5 c_r6
 have l_c:=lt_blk g_c
 obtain⟨c_c0,c_c1,c_c2,c_c3,c_c4⟩:=cells5 g_c
 have f_c:=frees g_c
 have H_c:=hid g_c
 clear g_c
 have l_r:=lt_blk g_r
 obtain⟨c_r0,c_r1,c_r2,c_r3,c_r4,c_r5,c_r6⟩:=cells7 g_r
 have f_r:=frees g_r
 have H_r:=hid g_r
 clear g_r
 have HE8:=hid he8
 have HN8:=hid hn8
 have HC8:=hid hc8
 have HO8:=hid ho8
 clear hb he8 hn8 hc8 ho8
 skip
 rw[HA0.out] at HE8 ⊢
 rw[HE0.out]
 dsimp only at HE8 ⊢
 have hn64:n5≤64:=by have h1:=congrArg List.length HE8.out;rw[List.length_map] at h1;have h2:=HN8.out;omega
 have HD8:=hid (ents_short (D:=253) HE8.out HSH.out)
 have hTW:w.heap.size+1+1≤W2.heap.size:=by omega
 go_upto_region 2 with(fail)
 refine wp_w (fun W=>W.heap[w.heap.size]? =some (.cells #[.slice Ar nr cr,.int .i64 mc,.int .i64 mt,.int .i64 mf,.int .i64 wt] 24 (0,0))∧W.heap[w.heap.size+1]? =some (.cells #[.int .i64 0,.int .i64 0,.int .i64 0,.slice none 0 0,.int .i64 0,.int .i64 0,.int .i64 0] 28 (0,0))∧W.heap[W2.heap.size]? =some (.cells #[.int .i64 0,.int .i64 0,.int .i64 0,.slice A5 n5 c5,.int .i64 0,.int .i64 0,.int .i64 0] 28 (0,0))∧Below w.heap.size w W∧Below W2.heap.size W2 W) ⟨(alloc_off H_c.out),(alloc_off H_r.out),(heap_alloc_new _ _),(Below.alloc HB_W2.out hs_W2 _),(Below.alloc (Below.refl _ _) (Nat.le_refl _) _)⟩ ?_
 clear l_c f_c H_c c_c0 c_c1 c_c2 c_c3 c_c4 l_r f_r H_r c_r0 c_r1 c_r2 c_r3 c_r4 c_r5 c_r6
 rintro W3 ⟨g_c,g_r,g_t,hbw,ex0⟩
 have HB_W3:=hid hbw
 have hs_W3:=hbw.size
 clear hbw
 have l_c:=lt_blk g_c
 obtain⟨c_c0,c_c1,c_c2,c_c3,c_c4⟩:=cells5 g_c
 have f_c:=frees g_c
 have H_c:=hid g_c
 clear g_c
 have l_r:=lt_blk g_r
 obtain⟨c_r0,c_r1,c_r2,c_r3,c_r4,c_r5,c_r6⟩:=cells7 g_r
 have f_r:=frees g_r
 have H_r:=hid g_r
 clear g_r
 have l_t:=lt_blk g_t
 obtain⟨c_t0,c_t1,c_t2,c_t3,c_t4,c_t5,c_t6⟩:=cells7 g_t
 have f_t:=frees g_t
 have H_t:=hid g_t
 clear g_t
 have HQ3:=hid ex0
 have hq3:=ex0.size
 have HO3:=hid (HO8.out.below ex0)
 clear ex0 HO8
 go_wp2_with fail
 refine(conf_ref Ar nr cr R mc mt mf wt _ B (by have:=HB.out;omega) (HR.out.keep (HB_W3.out.mono HB.out)) HNR.out hlr).mono ?_
 rw[HCC.out]
 rintro x W4 ⟨rfl,hb⟩
 have g_c:=(hb.block _ l_c).trans H_c.out
 have g_r:=(hb.block _ l_r).trans H_r.out
 have g_t:=(hb.block _ l_t).trans H_t.out
 have HQ_W4:=hid hb
 have hq_W4:=hb.size
 have HB_W4:=hid (HB_W3.out.trans (HQ_W4.out.mono hs_W3))
 have hs_W4:w.heap.size≤W4.heap.size:=HB_W4.out.size
 clear l_c f_c H_c c_c0 c_c1 c_c2 c_c3 c_c4 l_r f_r H_r c_r0 c_r1 c_r2 c_r3 c_r4 c_r5 c_r6 l_t f_t H_t c_t0 c_t1 c_t2 c_t3 c_t4 c_t5 c_t6
 have l_c:=lt_blk g_c
 obtain⟨c_c0,c_c1,c_c2,c_c3,c_c4⟩:=cells5 g_c
 have f_c:=frees g_c
 have H_c:=hid g_c
 clear g_c
 have l_r:=lt_blk g_r
 obtain⟨c_r0,c_r1,c_r2,c_r3,c_r4,c_r5,c_r6⟩:=cells7 g_r
 have f_r:=frees g_r
 have H_r:=hid g_r
 clear g_r
 have l_t:=lt_blk g_t
 obtain⟨c_t0,c_t1,c_t2,c_t3,c_t4,c_t5,c_t6⟩:=cells7 g_t
 have f_t:=frees g_t
 have H_t:=hid g_t
 clear g_t
 have hT4:W2.heap.size<W4.heap.size:=by omega
 have HO4:=hid (HO3.out.below hb)
 clear hb HO3
 go_wp2_with fail
 refine(do_any Ar A5 none none nr cr n5 c5 0 0 0 0 R mc mt mf wt 0 0 0 0 0 0 1 0 0 0 0 0 E8 [] [] _ W4.heap.size (Nat.le_refl _) ((HR.out.keep (HB_W4.out.mono HB.out)).more (by have:=HB.out;omega)) HNR.out hlr HO4.out.at HN8.out (by omega) (fun e he=>by have:=HD8.out e he;omega) (At.nil _ _ _) rfl (Nat.le_refl _) (by simp) (At.nil _ _ _) rfl (Nat.le_refl _) (by simp)).mono ?_
 rw[HE8.out,show doO ⟨R,mc,mt,mf,wt⟩ ⟨0,0,0,L,0,0,0⟩ 1 ⟨0,0,[]⟩ ⟨0,0,[]⟩ 0=_ from HUP.out]
 unfold DoP auV
 dsimp only
 rintro x W5 ⟨va,vo,vd,rfl,hb,⟨E4,hE4,hEL4⟩,-,-⟩
 have g_c:=(hb.block _ l_c).trans H_c.out
 have g_r:=(hb.block _ l_r).trans H_r.out
 have g_t:=(hb.block _ l_t).trans H_t.out
 have HQ_W5:=hid hb
 have hq_W5:=hb.size
 have HB_W5:=hid (HB_W4.out.trans (HQ_W5.out.mono hs_W4))
 have hs_W5:w.heap.size≤W5.heap.size:=HB_W5.out.size
 clear l_c f_c H_c c_c0 c_c1 c_c2 c_c3 c_c4 l_r f_r H_r c_r0 c_r1 c_r2 c_r3 c_r4 c_r5 c_r6 l_t f_t H_t c_t0 c_t1 c_t2 c_t3 c_t4 c_t5 c_t6
 have l_c:=lt_blk g_c
 obtain⟨c_c0,c_c1,c_c2,c_c3,c_c4⟩:=cells5 g_c
 have f_c:=frees g_c
 have H_c:=hid g_c
 clear g_c
 have l_r:=lt_blk g_r
 obtain⟨c_r0,c_r1,c_r2,c_r3,c_r4,c_r5,c_r6⟩:=cells7 g_r
 have f_r:=frees g_r
 have H_r:=hid g_r
 clear g_r
 have l_t:=lt_blk g_t
 obtain⟨c_t0,c_t1,c_t2,c_t3,c_t4,c_t5,c_t6⟩:=cells7 g_t
 have f_t:=frees g_t
 have H_t:=hid g_t
 clear g_t
 obtain⟨A4,c4,rfl,-,-⟩:=ownsRow_form hE4.1
 have HE4:=hid hE4
 have HEL4:=hid hEL4
 obtain⟨n4,hn4⟩: ∃n,E4.length=n:=⟨_,rfl⟩
 rw[hn4] at HE4 ⊢
 have HN4:=hid hn4
 have hn64b:n4≤64:=by have h1:=congrArg List.length hEL4;rw[List.length_map] at h1;omega
 have HD4:=hid (ents_short (D:=253) HEL4.out HSH.out)
 clear hb hE4 hEL4 hn4 HO4
 go_upto_region 5 with(fail)
 refine wp_w (fun W=>W.heap[w.heap.size]? =some (.cells #[.slice Ar nr cr,.int .i64 mc,.int .i64 mt,.int .i64 mf,.int .i64 wt] 24 (0,0))∧W.heap[w.heap.size+1]? =some (.cells #[.int .i64 0,.int .i64 0,.int .i64 0,.slice none 0 0,.int .i64 0,.int .i64 0,.int .i64 0] 28 (0,0))∧W.heap[W2.heap.size]? =some (.cells #[.int .i64 2,.int .i64 0,.int .i64 0,.slice A4 n4 c4,.int .i64 0,.int .i64 0,.int .i64 0] 28 (0,0))∧Below w.heap.size w W∧OwnOpts W (W2.heap.size+1) (.slice A4 n4 c4) E4) ⟨(by(iterate 7 (with_reducible refine set_off ?_ (by omega)));exact H_c.out),(by(iterate 7 (with_reducible refine set_off ?_ (by omega)));exact H_r.out),(by skip;refine row7 (cs:=#[.int .i64 0,.int .i64 0,.int .i64 0,.slice A5 n5 c5,.int .i64 0,.int .i64 0,.int .i64 0]) ?_ rfl _ _ _ _ _ _ _;skip;exact H_t.out),(by(iterate 7 (with_reducible refine Below.setCell ?_ (by first|omega|(dsimp only;omega)) _));exact HB_W5.out),((HE4.out.base (show W2.heap.size+1≤W4.heap.size by omega)).stays (row:=some W2.heap.size) (by exact grn) (fun r e=>.inl (by cases e;omega)))⟩ ?_
 clear l_c f_c H_c c_c0 c_c1 c_c2 c_c3 c_c4 l_r f_r H_r c_r0 c_r1 c_r2 c_r3 c_r4 c_r5 c_r6 l_t f_t H_t c_t0 c_t1 c_t2 c_t3 c_t4 c_t5 c_t6
 rintro W6 ⟨g_c,g_r,g_t,hbw,ex0⟩
 have HB_W6:=hid hbw
 have hs_W6:=hbw.size
 clear hbw
 have l_c:=lt_blk g_c
 obtain⟨c_c0,c_c1,c_c2,c_c3,c_c4⟩:=cells5 g_c
 have f_c:=frees g_c
 have H_c:=hid g_c
 clear g_c
 have l_r:=lt_blk g_r
 obtain⟨c_r0,c_r1,c_r2,c_r3,c_r4,c_r5,c_r6⟩:=cells7 g_r
 have f_r:=frees g_r
 have H_r:=hid g_r
 clear g_r
 have l_t:=lt_blk g_t
 obtain⟨c_t0,c_t1,c_t2,c_t3,c_t4,c_t5,c_t6⟩:=cells7 g_t
 have f_t:=frees g_t
 have H_t:=hid g_t
 clear g_t
 have HO6:=hid ex0
 clear ex0 HE4
 have hT6:W2.heap.size<W6.heap.size:=by omega
 have hX1:w.heap.size+1<W6.heap.size:=by omega
 go_wp2_with fail
 refine(do_any Ar A4 none none nr cr n4 c4 0 0 0 0 R mc mt mf wt 2 0 0 0 0 0 3 0 0 0 0 0 E4 [] [] _ W6.heap.size (Nat.le_refl _) ((HR.out.keep (HB_W6.out.mono HB.out)).more (by have:=HB.out;omega)) HNR.out hlr HO6.out.at HN4.out.symm (by omega) (fun e he=>by have:=HD4.out e he;omega) (At.nil _ _ _) rfl (Nat.le_refl _) (by simp) (At.nil _ _ _) rfl (Nat.le_refl _) (by simp)).mono ?_
 rw[HEL4.out,show doO ⟨R,mc,mt,mf,wt⟩ ⟨2,0,0,L,0,0,0⟩ 3 ⟨0,0,[]⟩ ⟨0,0,[]⟩ 0=_ from HOP.out]
 unfold DoP auV
 dsimp only
 rintro x W7 ⟨va,vo,vd,rfl,hb,hO,hP,-⟩
 have g_c:=(hb.block _ l_c).trans H_c.out
 have g_r:=(hb.block _ l_r).trans H_r.out
 have g_t:=(hb.block _ l_t).trans H_t.out
 have HQ_W7:=hid hb
 have hq_W7:=hb.size
 have HB_W7:=hid (HB_W6.out.trans (HQ_W7.out.mono hs_W6))
 have hs_W7:w.heap.size≤W7.heap.size:=HB_W7.out.size
 clear l_c f_c H_c c_c0 c_c1 c_c2 c_c3 c_c4 l_r f_r H_r c_r0 c_r1 c_r2 c_r3 c_r4 c_r5 c_r6 l_t f_t H_t c_t0 c_t1 c_t2 c_t3 c_t4 c_t5 c_t6
 have l_c:=lt_blk g_c
 obtain⟨c_c0,c_c1,c_c2,c_c3,c_c4⟩:=cells5 g_c
 have f_c:=frees g_c
 have H_c:=hid g_c
 clear g_c
 have l_r:=lt_blk g_r
 obtain⟨c_r0,c_r1,c_r2,c_r3,c_r4,c_r5,c_r6⟩:=cells7 g_r
 have f_r:=frees g_r
 have H_r:=hid g_r
 clear g_r
 have l_t:=lt_blk g_t
 obtain⟨c_t0,c_t1,c_t2,c_t3,c_t4,c_t5,c_t6⟩:=cells7 g_t
 have f_t:=frees g_t
 have H_t:=hid g_t
 clear g_t
 obtain⟨Ao,co,rfl⟩:=pks_form hP
 obtain⟨E5,hE5,hEL5⟩:=hO
 obtain⟨A6,c6,rfl,-,-⟩:=ownsRow_form hE5.1
 have HO7:=hid (show OptsO W7 W6.heap.size (.slice A6 E5.length c6) L from ⟨E5,hE5,hEL5⟩)
 have HP7:=hid hP
 obtain⟨n6,hn6⟩: ∃n,E5.length=n:=⟨_,rfl⟩
 rw[hn6] at HO7 ⊢
 clear hb hE5 hEL5 hn6 hP
 have HE7:=hid HO7.out
 go_upto_region 6 with(fail)
 refine wp_w (fun W=>W.heap[w.heap.size+1]? =some (.cells #[.int .i64 0,.int .i64 0,.int .i64 0,.slice none 0 0,.int .i64 0,.int .i64 0,.int .i64 0] 28 (0,0))∧W.heap[W2.heap.size]? =some (.cells #[.int .i64 6,.int .i64 1,.int .i64 1,.slice A6 n6 c6,.int .i64 (dec mc),.int .i64 wt,.int .i64 0] 28 (0,0))∧Below w.heap.size w W∧OptsO W W6.heap.size (.slice A6 n6 c6) L∧PksO W W6.heap.size (.slice Ao 1 co) [⟨1,1,(Op.encR L).1⟩]) ⟨(by(iterate 7 (with_reducible refine set_off ?_ (by omega)));exact H_r.out),(by skip;refine row7 (cs:=#[.int .i64 2,.int .i64 0,.int .i64 0,.slice A4 n4 c4,.int .i64 0,.int .i64 0,.int .i64 0]) ?_ rfl _ _ _ _ _ _ _;skip;exact H_t.out),(by(iterate 7 (with_reducible refine Below.setCell ?_ (by first|omega|(dsimp only;omega)) _));exact HB_W7.out),(by obtain⟨E9,h9,e9⟩:=HO7.out;exact⟨E9,h9.stays (row:=some W2.heap.size) (by exact grn) (fun r e=>.inl (by cases e;omega)),e9⟩),(HP7.out.stays (X:=W2.heap.size) (by exact grn) (by omega))⟩ ?_
 clear l_c f_c H_c c_c0 c_c1 c_c2 c_c3 c_c4 l_r f_r H_r c_r0 c_r1 c_r2 c_r3 c_r4 c_r5 c_r6 l_t f_t H_t c_t0 c_t1 c_t2 c_t3 c_t4 c_t5 c_t6
 rintro W8 ⟨g_r,g_t,hbw,ex0,ex1⟩
 have HB_W8:=hid hbw
 have hs_W8:=hbw.size
 clear hbw
 have l_r:=lt_blk g_r
 obtain⟨c_r0,c_r1,c_r2,c_r3,c_r4,c_r5,c_r6⟩:=cells7 g_r
 have f_r:=frees g_r
 have H_r:=hid g_r
 clear g_r
 have l_t:=lt_blk g_t
 obtain⟨c_t0,c_t1,c_t2,c_t3,c_t4,c_t5,c_t6⟩:=cells7 g_t
 have f_t:=frees g_t
 have H_t:=hid g_t
 clear g_t
 have HO8:=hid ex0
 have HP8:=hid ex1
 have hz68:w.heap.size≤W6.heap.size:=by omega
 clear ex0 ex1 HO7 HP7 HE7
 go_wp2_with fail
 obtain⟨Wf,hWf⟩: ∃Wf,Wf=(((((((W8.setCell ⟨w.heap.size+1,0,none⟩ (.int .i64 6)).setCell ⟨w.heap.size+1,1,none⟩ (.int .i64 1)).setCell ⟨w.heap.size+1,2,none⟩ (.int .i64 1)).setCell ⟨w.heap.size+1,3,none⟩ (.slice A6 n6 c6)).setCell ⟨w.heap.size+1,4,none⟩ (.int .i64 (dec mc))).setCell ⟨w.heap.size+1,5,none⟩ (.int .i64 wt)).setCell ⟨w.heap.size+1,6,none⟩ (.int .i64 0)):=⟨_,rfl⟩
 rw[←hWf]
 have hrow:Wf.heap[w.heap.size+1]? =some (.cells #[.int .i64 6,.int .i64 1,.int .i64 1,.slice A6 n6 c6,.int .i64 (dec mc),.int .i64 wt,.int .i64 0] 28 (0,0)):=by rw[hWf];exact row7 H_r.out rfl _ _ _ _ _ _ _
 have hgr:W8.grownBy Wf (some (w.heap.size+1)):=by rw[hWf];exact grn
 have hbl:Below w.heap.size w Wf:=Below.grown HB_W8.out hgr hs_W8 (fun k hk=>by cases hk;omega)
 clear hWf l_r f_r H_r c_r0 c_r1 c_r2 c_r3 c_r4 c_r5 c_r6 l_t f_t H_t c_t0 c_t1 c_t2 c_t3 c_t4 c_t5 c_t6
 obtain⟨u0,u1,u2,u3,u4,u5,u6⟩:=cells7 hrow
 refine bodyPost_ret (v:=.tuple #[.agg #[.int .i64 6,.int .i64 1,.int .i64 1,.slice A6 n6 c6,.int .i64 (dec mc),.int .i64 wt,.int .i64 0],.slice Ao 1 co,.bool true]) (by simp[results,Tryz.results22,go_sem,u0,u1,u2,u3,u4,u5,u6]) rfl ?_
 refine⟨6,1,1,dec mc,wt,0,.slice A6 n6 c6,.slice Ao 1 co,true,rfl,hbl,⟨_,_,_,rfl⟩,⟨_,_,_,rfl⟩,by rw[HCC.out,HEE.out];rfl,fun _=>⟨rfl,rfl,rfl,rfl,rfl,rfl,?_,?_⟩⟩
 ·obtain⟨E9,h9,e9⟩:=HO8.out;exact⟨E9,(h9.stays (row:=some (w.heap.size+1)) hgr (fun r e=>.inl (by cases e;omega))).base hz68,e9⟩
 ·exact PksO.base (HP8.out.stays hgr (by omega)) hz68
set_option maxRecDepth 100000 in
theorem side_conf (Ar Aa:Option Addr) (nr cr na ca:Nat) (R:List Rl) (mc mt mf wt:Int) (E:List Ent) (L:List Opt) (hL:E.map Ent.o=L) (w:World) (B:Nat) (hB:B≤w.heap.size) (hR:RulesAt w B Ar R) (hnr:nr=R.length) (hlr:nr≤1000000) (hE:OptsAt w B Aa E) (hna:na=E.length) (hla:na≤1000000) (hda: ∀e∈E,e.d.length≤400000000) (hno:confB ⟨R,mc,mt,mf,wt⟩=false∧(Op.encR L).2=0):
  Calls Tryz.prog 22 #[.agg #[.slice Ar nr cr,.int .i64 mc,.int .i64 mt,.int .i64 mf,.int .i64 wt],.slice Aa na ca] w (SideP ⟨R,mc,mt,mf,wt⟩ L w):=by
 have HB:=hid hB
 have HR:=hid hR
 have HNR:=hid hnr
 have HE:=hid hE
 have HNA:=hid hna
 have HDA:=hid hda
 have HL:=hid hL
 clear hB hR hnr hE hna hda hL
 have HNO:=hid hno
 clear hno
 obtain⟨Lx,hx⟩: ∃Lx,auNew L=⟨0,0,0,Lx,0,0,0⟩:=by unfold auNew;split;exact⟨_,rfl⟩;exact⟨_,rfl⟩
 have HA0:=hid hx
 clear hx
 have HCC:=hid HNO.out.1
 have HE0:=hid (show errNew L=0 by unfold errNew;rw[if_pos HNO.out.2])
 have HOK:=hid (show false=(confB ⟨R,mc,mt,mf,wt⟩&&(Op.encR L).2==0) by rw[HNO.out.1];rfl)
 go_enter Tryz.func22,Tryz.ntmps22
 go_upto_region 1 with(fail)
 refine wp_w (fun W=>W.heap[w.heap.size]? =some (.cells #[.slice Ar nr cr,.int .i64 mc,.int .i64 mt,.int .i64 mf,.int .i64 wt] 24 (0,0))∧W.heap[w.heap.size+1]? =some (.cells #[.int .i64 0,.int .i64 0,.int .i64 0,.slice none 0 0,.int .i64 0,.int .i64 0,.int .i64 0] 28 (0,0))∧Below w.heap.size w W) ⟨by exact hpa,by exact hpa,by exact bel⟩ ?_
 rintro W1 ⟨g_c,g_r,hbw⟩
 have HB_W1:=hid hbw
 have hs_W1:=hbw.size
 clear hbw
 have l_c:=lt_blk g_c
 obtain⟨c_c0,c_c1,c_c2,c_c3,c_c4⟩:=cells5 g_c
 have f_c:=frees g_c
 have H_c:=hid g_c
 clear g_c
 have l_r:=lt_blk g_r
 obtain⟨c_r0,c_r1,c_r2,c_r3,c_r4,c_r5,c_r6⟩:=cells7 g_r
 have f_r:=frees g_r
 have H_r:=hid g_r
 clear g_r
 have hBw:B≤W1.heap.size:=by have:=HB.out;omega
 go_wp2_with fail
 refine(new_any Aa na ca E L HL.out _ B hBw (HE.out.keep (HB_W1.out.mono HB.out)) HNA.out hla HDA.out).mono ?_
 rintro x W2 ⟨v8,rfl,E8,A5,n5,c5,rfl,he8,hn8,hc8,hb,ho8⟩
 have g_c:=(hb.block _ l_c).trans H_c.out
 have g_r:=(hb.block _ l_r).trans H_r.out
 have HQ_W2:=hid hb
 have hq_W2:=hb.size
 have HB_W2:=hid (HB_W1.out.trans (HQ_W2.out.mono hs_W1))
 have hs_W2:w.heap.size≤W2.heap.size:=HB_W2.out.size
 clear l_c f_c H_c c_c0 c_c1 c_c2 c_c3 c_c4 l_r f_r H_r c_r0 c_r1 c_r2 c_r3 c_r4 c_r5 c_r6
 have l_c:=lt_blk g_c
 obtain⟨c_c0,c_c1,c_c2,c_c3,c_c4⟩:=cells5 g_c
 have f_c:=frees g_c
 have H_c:=hid g_c
 clear g_c
 have l_r:=lt_blk g_r
 obtain⟨c_r0,c_r1,c_r2,c_r3,c_r4,c_r5,c_r6⟩:=cells7 g_r
 have f_r:=frees g_r
 have H_r:=hid g_r
 clear g_r
 have HE8:=hid he8
 have HN8:=hid hn8
 have HC8:=hid hc8
 have HO8:=hid ho8
 clear hb he8 hn8 hc8 ho8
 skip
 rw[HA0.out] at HE8 ⊢
 rw[HE0.out]
 dsimp only at HE8 ⊢
 have hTW:w.heap.size+1+1≤W2.heap.size:=by omega
 go_upto_region 2 with(fail)
 refine wp_w (fun W=>W.heap[w.heap.size]? =some (.cells #[.slice Ar nr cr,.int .i64 mc,.int .i64 mt,.int .i64 mf,.int .i64 wt] 24 (0,0))∧W.heap[w.heap.size+1]? =some (.cells #[.int .i64 0,.int .i64 0,.int .i64 0,.slice none 0 0,.int .i64 0,.int .i64 0,.int .i64 0] 28 (0,0))∧W.heap[W2.heap.size]? =some (.cells #[.int .i64 0,.int .i64 0,.int .i64 0,.slice A5 n5 c5,.int .i64 0,.int .i64 0,.int .i64 0] 28 (0,0))∧Below w.heap.size w W) ⟨(alloc_off H_c.out),(alloc_off H_r.out),(heap_alloc_new _ _),(Below.alloc HB_W2.out hs_W2 _)⟩ ?_
 clear l_c f_c H_c c_c0 c_c1 c_c2 c_c3 c_c4 l_r f_r H_r c_r0 c_r1 c_r2 c_r3 c_r4 c_r5 c_r6
 rintro W3 ⟨g_c,g_r,g_t,hbw⟩
 have HB_W3:=hid hbw
 have hs_W3:=hbw.size
 clear hbw
 have l_c:=lt_blk g_c
 obtain⟨c_c0,c_c1,c_c2,c_c3,c_c4⟩:=cells5 g_c
 have f_c:=frees g_c
 have H_c:=hid g_c
 clear g_c
 have l_r:=lt_blk g_r
 obtain⟨c_r0,c_r1,c_r2,c_r3,c_r4,c_r5,c_r6⟩:=cells7 g_r
 have f_r:=frees g_r
 have H_r:=hid g_r
 clear g_r
 have l_t:=lt_blk g_t
 obtain⟨c_t0,c_t1,c_t2,c_t3,c_t4,c_t5,c_t6⟩:=cells7 g_t
 have f_t:=frees g_t
 have H_t:=hid g_t
 clear g_t
 go_wp2_with fail
 refine(conf_ref Ar nr cr R mc mt mf wt _ B (by have:=HB.out;omega) (HR.out.keep (HB_W3.out.mono HB.out)) HNR.out hlr).mono ?_
 rw[HCC.out]
 rintro x W4 ⟨rfl,hb⟩
 have g_c:=(hb.block _ l_c).trans H_c.out
 have g_r:=(hb.block _ l_r).trans H_r.out
 have g_t:=(hb.block _ l_t).trans H_t.out
 have HQ_W4:=hid hb
 have hq_W4:=hb.size
 have HB_W4:=hid (HB_W3.out.trans (HQ_W4.out.mono hs_W3))
 have hs_W4:w.heap.size≤W4.heap.size:=HB_W4.out.size
 clear l_c f_c H_c c_c0 c_c1 c_c2 c_c3 c_c4 l_r f_r H_r c_r0 c_r1 c_r2 c_r3 c_r4 c_r5 c_r6 l_t f_t H_t c_t0 c_t1 c_t2 c_t3 c_t4 c_t5 c_t6
 have l_c:=lt_blk g_c
 obtain⟨c_c0,c_c1,c_c2,c_c3,c_c4⟩:=cells5 g_c
 have f_c:=frees g_c
 have H_c:=hid g_c
 clear g_c
 have l_r:=lt_blk g_r
 obtain⟨c_r0,c_r1,c_r2,c_r3,c_r4,c_r5,c_r6⟩:=cells7 g_r
 have f_r:=frees g_r
 have H_r:=hid g_r
 clear g_r
 have l_t:=lt_blk g_t
 obtain⟨c_t0,c_t1,c_t2,c_t3,c_t4,c_t5,c_t6⟩:=cells7 g_t
 have f_t:=frees g_t
 have H_t:=hid g_t
 clear g_t
 clear hb
 go_wp2_with fail
 obtain⟨Wf,hWf⟩: ∃Wf,Wf=(((((((W4.setCell ⟨w.heap.size+1,0,none⟩ (.int .i64 0)).setCell ⟨w.heap.size+1,1,none⟩ (.int .i64 0)).setCell ⟨w.heap.size+1,2,none⟩ (.int .i64 0)).setCell ⟨w.heap.size+1,3,none⟩ (.slice A5 n5 c5)).setCell ⟨w.heap.size+1,4,none⟩ (.int .i64 0)).setCell ⟨w.heap.size+1,5,none⟩ (.int .i64 0)).setCell ⟨w.heap.size+1,6,none⟩ (.int .i64 0)):=⟨_,rfl⟩
 rw[←hWf]
 have hrow:Wf.heap[w.heap.size+1]? =some (.cells #[.int .i64 0,.int .i64 0,.int .i64 0,.slice A5 n5 c5,.int .i64 0,.int .i64 0,.int .i64 0] 28 (0,0)):=by rw[hWf];exact row7 H_r.out rfl _ _ _ _ _ _ _
 have hgr:W4.grownBy Wf (some (w.heap.size+1)):=by rw[hWf];exact grn
 have hbl:Below w.heap.size w Wf:=Below.grown HB_W4.out hgr hs_W4 (fun k hk=>by cases hk;omega)
 clear hWf l_c f_c H_c c_c0 c_c1 c_c2 c_c3 c_c4 l_r f_r H_r c_r0 c_r1 c_r2 c_r3 c_r4 c_r5 c_r6 l_t f_t H_t c_t0 c_t1 c_t2 c_t3 c_t4 c_t5 c_t6
 obtain⟨u0,u1,u2,u3,u4,u5,u6⟩:=cells7 hrow
 refine bodyPost_ret (v:=.tuple #[.agg #[.int .i64 0,.int .i64 0,.int .i64 0,.slice A5 n5 c5,.int .i64 0,.int .i64 0,.int .i64 0],.slice none 0 0,.bool false]) (by simp[results,Tryz.results22,go_sem,u0,u1,u2,u3,u4,u5,u6]) rfl ?_
 exact⟨0,0,0,0,0,0,.slice A5 n5 c5,.slice none 0 0,false,rfl,hbl,⟨_,_,_,rfl⟩,⟨_,_,_,rfl⟩,HOK.out,fun h=>by cases h⟩
set_option maxRecDepth 100000 in
theorem side_enc (Ar Aa:Option Addr) (nr cr na ca:Nat) (R:List Rl) (mc mt mf wt:Int) (E:List Ent) (L:List Opt) (hL:E.map Ent.o=L) (w:World) (B:Nat) (hB:B≤w.heap.size) (hR:RulesAt w B Ar R) (hnr:nr=R.length) (hlr:nr≤1000000) (hE:OptsAt w B Aa E) (hna:na=E.length) (hla:na≤1000000) (hda: ∀e∈E,e.d.length≤400000000) (hno:(Op.encR L).2≠0):
  Calls Tryz.prog 22 #[.agg #[.slice Ar nr cr,.int .i64 mc,.int .i64 mt,.int .i64 mf,.int .i64 wt],.slice Aa na ca] w (SideP ⟨R,mc,mt,mf,wt⟩ L w):=by
 have HB:=hid hB
 have HR:=hid hR
 have HNR:=hid hnr
 have HE:=hid hE
 have HNA:=hid hna
 have HDA:=hid hda
 have HL:=hid hL
 clear hB hR hnr hE hna hda hL
 have HNO:=hid hno
 clear hno
 obtain⟨Lx,hx⟩: ∃Lx,auNew L=⟨0,0,0,Lx,0,0,0⟩:=by unfold auNew;split;exact⟨_,rfl⟩;exact⟨_,rfl⟩
 have HA0:=hid hx
 clear hx
 have HE0:=hid (show errNew L=160 by unfold errNew;rw[if_neg HNO.out])
 have HOK:=hid (show false=(confB ⟨R,mc,mt,mf,wt⟩&&(Op.encR L).2==0) by rw[show((Op.encR L).2==0)=false from by simpa using HNO.out,Bool.and_false])
 go_enter Tryz.func22,Tryz.ntmps22
 go_upto_region 1 with(fail)
 refine wp_w (fun W=>W.heap[w.heap.size]? =some (.cells #[.slice Ar nr cr,.int .i64 mc,.int .i64 mt,.int .i64 mf,.int .i64 wt] 24 (0,0))∧W.heap[w.heap.size+1]? =some (.cells #[.int .i64 0,.int .i64 0,.int .i64 0,.slice none 0 0,.int .i64 0,.int .i64 0,.int .i64 0] 28 (0,0))∧Below w.heap.size w W) ⟨by exact hpa,by exact hpa,by exact bel⟩ ?_
 rintro W1 ⟨g_c,g_r,hbw⟩
 have HB_W1:=hid hbw
 have hs_W1:=hbw.size
 clear hbw
 have l_c:=lt_blk g_c
 obtain⟨c_c0,c_c1,c_c2,c_c3,c_c4⟩:=cells5 g_c
 have f_c:=frees g_c
 have H_c:=hid g_c
 clear g_c
 have l_r:=lt_blk g_r
 obtain⟨c_r0,c_r1,c_r2,c_r3,c_r4,c_r5,c_r6⟩:=cells7 g_r
 have f_r:=frees g_r
 have H_r:=hid g_r
 clear g_r
 have hBw:B≤W1.heap.size:=by have:=HB.out;omega
 go_wp2_with fail
 refine(new_any Aa na ca E L HL.out _ B hBw (HE.out.keep (HB_W1.out.mono HB.out)) HNA.out hla HDA.out).mono ?_
 rintro x W2 ⟨v8,rfl,E8,A5,n5,c5,rfl,he8,hn8,hc8,hb,ho8⟩
 have g_c:=(hb.block _ l_c).trans H_c.out
 have g_r:=(hb.block _ l_r).trans H_r.out
 have HQ_W2:=hid hb
 have hq_W2:=hb.size
 have HB_W2:=hid (HB_W1.out.trans (HQ_W2.out.mono hs_W1))
 have hs_W2:w.heap.size≤W2.heap.size:=HB_W2.out.size
 clear l_c f_c H_c c_c0 c_c1 c_c2 c_c3 c_c4 l_r f_r H_r c_r0 c_r1 c_r2 c_r3 c_r4 c_r5 c_r6
 have l_c:=lt_blk g_c
 obtain⟨c_c0,c_c1,c_c2,c_c3,c_c4⟩:=cells5 g_c
 have f_c:=frees g_c
 have H_c:=hid g_c
 clear g_c
 have l_r:=lt_blk g_r
 obtain⟨c_r0,c_r1,c_r2,c_r3,c_r4,c_r5,c_r6⟩:=cells7 g_r
 have f_r:=frees g_r
 have H_r:=hid g_r
 clear g_r
 have HE8:=hid he8
 have HN8:=hid hn8
 have HC8:=hid hc8
 have HO8:=hid ho8
 clear hb he8 hn8 hc8 ho8
 skip
 rw[HA0.out] at HE8 ⊢
 rw[HE0.out]
 dsimp only at HE8 ⊢
 have hTW:w.heap.size+1+1≤W2.heap.size:=by omega
 go_upto_region 2 with(fail)
 refine wp_w (fun W=>W.heap[w.heap.size]? =some (.cells #[.slice Ar nr cr,.int .i64 mc,.int .i64 mt,.int .i64 mf,.int .i64 wt] 24 (0,0))∧W.heap[w.heap.size+1]? =some (.cells #[.int .i64 0,.int .i64 0,.int .i64 0,.slice none 0 0,.int .i64 0,.int .i64 0,.int .i64 0] 28 (0,0))∧W.heap[W2.heap.size]? =some (.cells #[.int .i64 0,.int .i64 0,.int .i64 0,.slice A5 n5 c5,.int .i64 0,.int .i64 0,.int .i64 0] 28 (0,0))∧Below w.heap.size w W) ⟨(alloc_off H_c.out),(alloc_off H_r.out),(heap_alloc_new _ _),(Below.alloc HB_W2.out hs_W2 _)⟩ ?_
 clear l_c f_c H_c c_c0 c_c1 c_c2 c_c3 c_c4 l_r f_r H_r c_r0 c_r1 c_r2 c_r3 c_r4 c_r5 c_r6
 rintro W3 ⟨g_c,g_r,g_t,hbw⟩
 have HB_W3:=hid hbw
 have hs_W3:=hbw.size
 clear hbw
 have l_c:=lt_blk g_c
 obtain⟨c_c0,c_c1,c_c2,c_c3,c_c4⟩:=cells5 g_c
 have f_c:=frees g_c
 have H_c:=hid g_c
 clear g_c
 have l_r:=lt_blk g_r
 obtain⟨c_r0,c_r1,c_r2,c_r3,c_r4,c_r5,c_r6⟩:=cells7 g_r
 have f_r:=frees g_r
 have H_r:=hid g_r
 clear g_r
 have l_t:=lt_blk g_t
 obtain⟨c_t0,c_t1,c_t2,c_t3,c_t4,c_t5,c_t6⟩:=cells7 g_t
 have f_t:=frees g_t
 have H_t:=hid g_t
 clear g_t
 go_wp2_with fail
 obtain⟨Wf,hWf⟩: ∃Wf,Wf=(((((((W3.setCell ⟨w.heap.size+1,0,none⟩ (.int .i64 0)).setCell ⟨w.heap.size+1,1,none⟩ (.int .i64 0)).setCell ⟨w.heap.size+1,2,none⟩ (.int .i64 0)).setCell ⟨w.heap.size+1,3,none⟩ (.slice A5 n5 c5)).setCell ⟨w.heap.size+1,4,none⟩ (.int .i64 0)).setCell ⟨w.heap.size+1,5,none⟩ (.int .i64 0)).setCell ⟨w.heap.size+1,6,none⟩ (.int .i64 0)):=⟨_,rfl⟩
 rw[←hWf]
 have hrow:Wf.heap[w.heap.size+1]? =some (.cells #[.int .i64 0,.int .i64 0,.int .i64 0,.slice A5 n5 c5,.int .i64 0,.int .i64 0,.int .i64 0] 28 (0,0)):=by rw[hWf];exact row7 H_r.out rfl _ _ _ _ _ _ _
 have hgr:W3.grownBy Wf (some (w.heap.size+1)):=by rw[hWf];exact grn
 have hbl:Below w.heap.size w Wf:=Below.grown HB_W3.out hgr hs_W3 (fun k hk=>by cases hk;omega)
 clear hWf l_c f_c H_c c_c0 c_c1 c_c2 c_c3 c_c4 l_r f_r H_r c_r0 c_r1 c_r2 c_r3 c_r4 c_r5 c_r6 l_t f_t H_t c_t0 c_t1 c_t2 c_t3 c_t4 c_t5 c_t6
 obtain⟨u0,u1,u2,u3,u4,u5,u6⟩:=cells7 hrow
 refine bodyPost_ret (v:=.tuple #[.agg #[.int .i64 0,.int .i64 0,.int .i64 0,.slice A5 n5 c5,.int .i64 0,.int .i64 0,.int .i64 0],.slice none 0 0,.bool false]) (by simp[results,Tryz.results22,go_sem,u0,u1,u2,u3,u4,u5,u6]) rfl ?_
 exact⟨0,0,0,0,0,0,.slice A5 n5 c5,.slice none 0 0,false,rfl,hbl,⟨_,_,_,rfl⟩,⟨_,_,_,rfl⟩,HOK.out,fun h=>by cases h⟩
theorem side_any (Ar Aa:Option Addr) (nr cr na ca:Nat) (R:List Rl) (mc mt mf wt:Int) (E:List Ent) (L:List Opt) (hL:E.map Ent.o=L) (w:World) (B:Nat) (hB:B≤w.heap.size) (hR:RulesAt w B Ar R) (hnr:nr=R.length) (hlr:nr≤1000000) (hE:OptsAt w B Aa E) (hna:na=E.length) (hla:na≤1000000) (hda: ∀e∈E,e.d.length≤400000000):Calls Tryz.prog 22 #[.agg #[.slice Ar nr cr,.int .i64 mc,.int .i64 mt,.int .i64 mf,.int .i64 wt],.slice Aa na ca] w (SideP ⟨R,mc,mt,mf,wt⟩ L w):=by
 by_cases he:(Op.encR L).2=0
 ·cases hc:confB ⟨R,mc,mt,mf,wt⟩
  ·exact side_conf Ar Aa nr cr na ca R mc mt mf wt E L hL w B hB hR hnr hlr hE hna hla hda ⟨hc,he⟩
  ·exact side_ok Ar Aa nr cr na ca R mc mt mf wt E L hL w B hB hR hnr hlr hE hna hla hda hc he
 ·exact side_enc Ar Aa nr cr na ca R mc mt mf wt E L hL w B hB hR hnr hlr hE hna hla hda he
end Go.Proofs.YthidhfkbfoejbaaGreat
