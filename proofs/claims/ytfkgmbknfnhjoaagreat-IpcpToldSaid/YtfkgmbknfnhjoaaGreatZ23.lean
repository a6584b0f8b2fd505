/- IpcpTold: its walk. -/
import Derived.Test.YtfkgmbknfnhjoaaGreatZ22
import Derived.Test.YtfkgmbknfnhjoaaGreatZ25
import Derived.Test.YtfkgmbknfnhjoaaGreatZ21
import Derived.Test.YtfkgmbknfnhjoaaGreatZ10
set_option maxHeartbeats 16000000
namespace Go.Proofs.YtfkgmbknfnhjoaaGreat
open Lib (hid)
open Go.RowKit
set_option linter.unusedSimpArgs false
set_option linter.unusedVariables false
set_option linter.ambiguousOpen false
open Ne (Rl Opt RulesAt areB wf64)
open Fs (av hasB)
theorem mine_str (q:Nat) {R:List UInt8} (h:[3,6]++putB q 4=R):(⟨#[3,6]⟩:ByteArray)++⟨(putB q 4).toArray⟩=⟨R.toArray⟩:=by
 subst h
 apply ByteArray.ext
 simp
set_option maxRecDepth 100000 in
theorem ipcpTold_walk (o q s j:Nat) (Al:Option Addr) (nl cl:Nat) (E:List Ent) (w:World) (ho:o≤4294967295) (hq:q≤4294967295) (hs:s≤4294967295) (hj:j≤255) (hE:OptsAt w w.heap.size Al E) (hnl:nl=E.length) (hln:(nl:Int)≤9223372036854775807) (hda: ∀e∈E,(e.d.length:Int)≤9223372036854775807):
  Calls Tryz.prog 4 #[.int .u32 (o:Int),.int .u32 (q:Int),.int .u32 (s:Int),.slice Al nl cl,.int .u8 (j:Int)] w fun x w'=>x=.returned (.bool true)∧Below w.heap.size w w':=by
 have HE:=hid hE
 have HNL:=hid hnl
 have HDA:=hid hda
 clear hE hnl hda
 by_cases ho0:o=0
 ·subst ho0
  go_enter Tryz.func4,Tryz.ntmps4
  go_wp2_with fail
  refine(awake18_any _).mono ?_
  rintro x W1 ⟨rfl,hb⟩
  go_wp2_with fail
  go_ret
  exact⟨rfl,hb⟩
 have ho1:((o:Int)==0)=false:=by simpa using ho0
 by_cases hq0:q=0
 ·subst hq0
  go_enter Tryz.func4,Tryz.ntmps4
  go_wp2_with fail
  refine(awake18_any _).mono ?_
  rintro x W1 ⟨rfl,hb⟩
  go_wp2_with fail
  go_ret
  exact⟨rfl,hb⟩
 have hq1:((q:Int)==0)=false:=by simpa using hq0
 have H1:=hid (show inB (o:Int) 1 4294967295=true by simp[inB];omega)
 have H2:=hid (show inB (q:Int) 1 4294967295=true by simp[inB];omega)
 have HJ:=hid (show(0:Int)≤(j:Int)∧(j:Int)≤255 by omega)
 have hw1:IntKind.i64.wrap (o:Int)=(o:Int):=IntWalk.i64_in _ (by omega)
 have hw2:IntKind.i64.wrap (q:Int)=(q:Int):=IntWalk.i64_in _ (by omega)
 have hw3:IntKind.u64.wrap (q:Int)=(q:Int):=IntWalk.u64_in _ (by omega)
 have hw4:IntKind.u64.wrap (s:Int)=(s:Int):=IntWalk.u64_in _ (by omega)
 have hw5:IntKind.i64.wrap (j:Int)=(j:Int):=IntWalk.i64_in _ (by omega)
 have HWF:=hid (show wf64 (q:Int) by unfold wf64;omega)
 obtain⟨R,hR⟩: ∃R,[3,6]++putB q 4=R:=⟨_,rfl⟩
 have HR:=hid hR
 have HRL:=hid (show R.length=6 by rw[←hR];simp[putB_length])
 have hms:=mine_str q hR
 clear hR
 go_enter Tryz.func4,Tryz.ntmps4
 go_wp2_with fail
 refine(conf_any _).mono ?_
 rintro x W1 ⟨rfl,hb1⟩
 go_wp2_with fail
 refine(up_any o q W1 H1.out H2.out).mono ?_
 unfold UpP
 rintro x W2 ⟨va,vo,rfl,hb2,ho',hp'⟩
 obtain⟨A2,n2,c2,rfl⟩:=ho'.form'
 obtain⟨A3,n3,c3,rfl⟩:=hp'.form'
 unfold npV upA
 dsimp only
 have hs1:=hb1.size
 have hb:=hb1.trans (hb2.mono hs1)
 have hs2:=hb.size
 go_upto_region 4 with(fail)
 obtain⟨T,hT⟩: ∃T,T=W2.heap.size:=⟨_,rfl⟩
 rw[←hT]
 refine wp_w (fun W=>W.heap[T]? =some (.cells #[.int .i64 6,.int .i64 1,.int .i64 1,.slice A2 n2 c2,.int .i64 2,.int .i64 5,.int .i64 0,.int .i64 o,.int .i64 q] 60 (0,0))∧Below w.heap.size w W∧(∃b,OptsO W b (.slice A2 n2 c2) (askI o))) ⟨by rw[hT];exact heap_alloc_new _ _,by exact Below.alloc hb hs2 _,⟨_,ho'.blw ((Below.refl _ _).alloc (Nat.le_refl _) _)⟩⟩ ?_
 clear hb1 hb2 hb ho' hp' hs1
 rintro W3 ⟨ht,hb,hoo⟩
 have hTw:w.heap.size≤T:=by omega
 clear hT hs2
 obtain⟨bo,hoo⟩:=hoo
 have HT3:=hid ht
 have HB3:=hid hb
 have HO3:=hid hoo
 have hs3:=hb.size
 have lT3:=lt_blk ht
 clear ht hb hoo
 go_wp2_with fail
 refine(awake18_any _).mono ?_
 rintro x W4 ⟨rfl,hb⟩
 have HT4:=hid ((hb.block _ lT3).trans HT3.out)
 have HB4:=hid (HB3.out.trans (hb.mono hs3))
 have HO4:=hid (HO3.out.blw hb)
 have hs4:=HB4.out.size
 have lT4:=lt_blk HT4.out
 clear hb
 go_wp2_with fail
 refine(rput_yes q 4 _ (by omega) (by omega) (by omega)).mono ?_
 unfold PutP
 rintro x W5 ⟨v5,rfl,hb,ho5⟩
 obtain⟨A5,c5,rfl,-,-⟩:=ownsRow_form ho5
 have q1:(convert 30 9 (.slice A5 4 c5)).run Tryz.prog W5=.ok (.string ⟨(putB q 4).toArray⟩) W5:=run_str Tryz.underlying30 Tryz.underlying5 Tryz.underlying9 (l:=putB q 4) (putB_length q 4).symm (At.of_own ho5)
 have HT5:=hid ((hb.block _ lT4).trans HT4.out)
 have HB5:=hid (HB4.out.trans (hb.mono hs4))
 have HO5:=hid (HO4.out.blw hb)
 have hs5:=HB5.out.size
 have lT5:=lt_blk HT5.out
 clear hb ho5
 go_upto_region 7 with(fail)
 clear q1
 clear hms
 go_wp2_with fail
 refine(rput_yes s 4 _ (by omega) (by omega) (by omega)).mono ?_
 unfold PutP
 rintro x W6 ⟨v6,rfl,hb,ho6⟩
 obtain⟨A6,c6,rfl,-,-⟩:=ownsRow_form ho6
 have HN6:=hid (own_below (own_new W5 5 [3,6] 2 #[.int .u8 3,.int .u8 6] rfl (by omega) rfl) hb)
 have HQ6:=hid (show Below W5.heap.size W5 W6 from((Below.refl _ _).alloc (Nat.le_refl _) _).trans (hb.mono (by simp)))
 have HA6:=hid (At.of_own ho6)
 clear hb ho6
 go_upto_region 8 with(at_builtin;go_loud (refine wpList_appv W5 rfl (.tmp 53) (.tmp 56) 30 rfl 5 Tryz.underlying30 (.int .u8 0) 1 1 infoU8 rfl (by decide) (by decide) (.slice (some ⟨W5.heap.size,0,none⟩) 2 2) 2 ([3,6].map bv) rfl HN6.out W6.heap.size A6 4 c6 ((putB s 4).map bv) rfl (by simp[putB_length]) (by omega) HA6.out (bv_all _) HQ6.out ?_);intro A7 c7 W7 ho7 hc7 hb7 hg7;have HO7:=hid ho7;have HC7:=hid hc7;have HQ7:=hid hb7;clear ho7 hc7 hb7 hg7)
 obtain⟨P,hP⟩: ∃P,P=W7.heap.size:=⟨_,rfl⟩
 rw[←hP]
 refine wp_w (fun W=>W.heap[P]? =some (.cells #[.int .i64 1,.int .i64 j,.slice A7 6 c7] 32 (0,0))∧W.heap[T]? =some (.cells #[.int .i64 6,.int .i64 1,.int .i64 1,.slice A2 n2 c2,.int .i64 2,.int .i64 5,.int .i64 0,.int .i64 o,.int .i64 q] 60 (0,0))∧Below w.heap.size w W∧OptsO W bo (.slice A2 n2 c2) (askI o)∧At W W.heap.size A7 (([3,6]++putB s 4).map bv)) ⟨by rw[hP];exact heap_alloc_new _ _,by exact alc_off ((HQ7.out.block _ lT5).trans HT5.out),by exact Below.alloc (HB5.out.trans (HQ7.out.mono hs5)) (by have:=HQ7.out.size;omega) _,by exact(HO5.out.blw HQ7.out).blw ((Below.refl _ _).alloc (Nat.le_refl _) _),by rw[List.map_append];exact((At.of_own HO7.out).keep ((Below.refl _ _).alloc (Nat.le_refl _) _)).more (by simp)⟩ ?_
 rintro W8 ⟨hpr,ht,hb,hoo,hat⟩
 have HPR:=hid hpr
 have HT:=hid ht
 have HB8:=hid hb
 have HO8:=hid hoo
 have HAT:=hid hat
 have HLN:=hid (show 6=([3,6]++putB s 4).length by simp[putB_length])
 have HLC:=hid (show 6≤c7 from HC7.out)
 have HLL:=hid (show 6≤1488 by omega)
 have hs8:=hb.size
 clear hP hpr ht hb hoo hat HT3 HT4 HT5 HB3 HB4 HB5 HO3 HO4 HO5 HO7 HC7 HQ6 HQ7 HN6 HA6 hs3 hs4 hs5 lT3 lT4 lT5
 obtain⟨E2,hE,hnn,hcc,he⟩:=HO8.out.opened
 have HE2:=hid hE
 have HNN:=hid hnn
 have HEE:=hid he
 have HEN:=hid (askI_ents he)
 have hn1:n2≤1000000:=by have:=HEN.out.1;have:=HNN.out;omega
 clear hE hnn hcc he
 obtain⟨kc,hkc⟩: ∃kc:Int,(if (s:Int)=(q:Int) then 2 else 3)=kc:=⟨_,rfl⟩
 have HKC:=hid hkc
 obtain⟨⟨a9,l9,x9⟩,hr⟩: ∃r,iPackO 3 2 4 5 ⟨6,1,1,askI o,2,5,0⟩ o q ⟨1,j,[3,6]++putB s 4⟩ 1=r:=⟨_,rfl⟩
 have hl9:l9=[⟨kc,j,R⟩]:=by
  have h:=told_one hs H1.out H2.out HJ.out
  rw[hr] at h
  dsimp only at h
  rw[h,hkc,Int.toNat_natCast,HR.out]
 subst hl9
 have HPK:=hid hr
 clear hr hkc
 go_cut [17] (fun s17 wx=> ∃(A5:Option Addr) (n5 c5:Nat) (W:World),W=wx∧s17=.slice A5 n5 c5∧(∃base,PksO W base (.slice A5 n5 c5) [⟨kc,j,R⟩])∧Below W8.heap.size W8 W)
 case first=>
  obtain⟨t0,t1,t2,t3,t4,t5,t6,t7,t8⟩:=cells9 (show W8.heap[T]? =some (.cells #[.int .i64 6,.int .i64 1,.int .i64 1,.slice A2 n2 c2,.int .i64 2,.int .i64 5,.int .i64 0,.int .i64 o,.int .i64 q] 60 (0,0)) from HT.out)
  obtain⟨p0,p1,p2⟩:=cells3 (show W8.heap[P]? =some (.cells #[.int .i64 1,.int .i64 j,.slice A7 6 c7] 32 (0,0)) from HPR.out)
  have lT:=lt_blk HT.out
  have lP:=lt_blk HPR.out
  have HSR:=hid (show∀w':World,Below W8.heap.size W8 w'→(w'.cell? ⟨T,0,none⟩=some (.int .i64 6)∧w'.cell? ⟨T,1,none⟩=some (.int .i64 1)∧w'.cell? ⟨T,2,none⟩=some (.int .i64 1)∧w'.cell? ⟨T,3,none⟩=some (.slice A2 n2 c2)∧w'.cell? ⟨T,4,none⟩=some (.int .i64 2)∧w'.cell? ⟨T,5,none⟩=some (.int .i64 5)∧w'.cell? ⟨T,6,none⟩=some (.int .i64 0)∧w'.cell? ⟨T,7,none⟩=some (.int .i64 o)∧w'.cell? ⟨T,8,none⟩=some (.int .i64 q)∧w'.cell? ⟨P,0,none⟩=some (.int .i64 1)∧w'.cell? ⟨P,1,none⟩=some (.int .i64 j)∧w'.cell? ⟨P,2,none⟩=some (.slice A7 6 c7)) from fun w' hb=>⟨(hb.cell (p:=⟨T,_,none⟩) lT).trans t0,(hb.cell (p:=⟨T,_,none⟩) lT).trans t1,(hb.cell (p:=⟨T,_,none⟩) lT).trans t2,(hb.cell (p:=⟨T,_,none⟩) lT).trans t3,(hb.cell (p:=⟨T,_,none⟩) lT).trans t4,(hb.cell (p:=⟨T,_,none⟩) lT).trans t5,(hb.cell (p:=⟨T,_,none⟩) lT).trans t6,(hb.cell (p:=⟨T,_,none⟩) lT).trans t7,(hb.cell (p:=⟨T,_,none⟩) lT).trans t8,(hb.cell (p:=⟨P,_,none⟩) lP).trans p0,(hb.cell (p:=⟨P,_,none⟩) lP).trans p1,(hb.cell (p:=⟨P,_,none⟩) lP).trans p2⟩)
  go_region_held3 (fun w'=>w'.cell? ⟨T,0,none⟩=some (.int .i64 6)∧w'.cell? ⟨T,1,none⟩=some (.int .i64 1)∧w'.cell? ⟨T,2,none⟩=some (.int .i64 1)∧w'.cell? ⟨T,3,none⟩=some (.slice A2 n2 c2)∧w'.cell? ⟨T,4,none⟩=some (.int .i64 2)∧w'.cell? ⟨T,5,none⟩=some (.int .i64 5)∧w'.cell? ⟨T,6,none⟩=some (.int .i64 0)∧w'.cell? ⟨T,7,none⟩=some (.int .i64 o)∧w'.cell? ⟨T,8,none⟩=some (.int .i64 q)∧w'.cell? ⟨P,0,none⟩=some (.int .i64 1)∧w'.cell? ⟨P,1,none⟩=some (.int .i64 j)∧w'.cell? ⟨P,2,none⟩=some (.slice A7 6 c7)) (exact HSR.out _ (by exact bel)) (first|((go_at_call 28;go_must (refine(conf_any _).mono ?_);rintro e w5 ⟨rfl,hb5⟩;obtain⟨xs5,d5,rfl⟩:=ext_of hb5;clear hb5))|((go_at_call 30;go_must (refine(ipack_any 1492 3 2 4 5 0 1 6 1 1 2 5 0 o q A2 n2 c2 1 A7 6 c7 1 j ([3,6]++putB s 4) E2 (askI o) HEE.out _ W8.heap.size (by first|exact Nat.le_refl _|(simp[size_ext,grow];done)|(simp[size_ext,grow];omega)) (by exact HE2.out.keep (by exact bel)) HNN.out hn1 (fun e he=>by have:=HEN.out.2 e he;omega) HWF.out (by exact HAT.out.keep (by exact bel)) HLN.out HLC.out (by have:=HLL.out;omega)).mono ?_);rw[HPK.out];unfold IDoP npV;(try dsimp only);rintro e w6 ⟨va6,vo6,vd6,rfl,hb6,hO,hP,hA⟩;obtain⟨A4,n4,c4,rfl⟩:=hO.form';obtain⟨A5,n5,c5,rfl⟩:=hP.form';obtain⟨A6,n6,c6,rfl⟩:=hA.form';obtain⟨xs6,d6,rfl⟩:=ext_of hb6;have HP6:=hid hP;clear hb6 hO hA hP)))
  all_goals
   go_wp2_with fail
   go_meet
   refine⟨A5,n5,c5,_,rfl,rfl,?_,by exact bel⟩
   have h5:=HP6.out
   first
    |exact⟨_,h5⟩
    |exact⟨_,h5.blw (Below.alloc (Below.refl _ _) (Nat.le_refl _) _)⟩
    |(apply Exists.intro;refine PksO.stays (X:=?_) h5 ?_ ?_;rotate_left;(repeat(first|with_reducible exact alloc_swap _ _ _|with_reducible refine grown_exts ?_ (by simp[size_ext,grow])|with_reducible refine grown_allocs ?_ (by simp[size_ext,grow])));all_goals(try (first|(simp[size_ext,grow];done)|(simp[size_ext,grow];omega)|omega)))
 case rest=>
  obtain⟨A5,n5,c5,W9,rfl,rfl,⟨bp,hp⟩,hb⟩:=hcut
  obtain⟨rfl,g2,o2,a2,k2,rfl,hg2,y0,y1,y2,hy,hk2⟩:=pks_one hp
  dsimp only at y0 y1 y2 hy
  have q2:(convert 30 9 (.slice a2 R.length k2)).run Tryz.prog W9=.ok (.string ⟨R.toArray⟩) W9:=run_str Tryz.underlying30 Tryz.underlying5 Tryz.underlying9 (l:=R) rfl hy
  have HT9:=hid ((hb.block _ (lt_blk HT.out)).trans HT.out)
  have HB9:=hid (HB8.out.trans (hb.mono hs8))
  have HO9:=hid (HO8.out.blw hb)
  have hs9:=HB9.out.size
  clear hp hb hy HPK HAT HLN HLC HLL HPR HT HE2 HNN HEE HEN hn1
  go_upto_region 11 with(fail)
  clear q2 y2 hk2
  go_cut [108] (fun sx wx=>sx=.bool false∧W9=wx)
  case first=>
   by_cases hsq:(s:Int)=(q:Int)
   ·obtain rfl:2=kc:=by have h:=HKC.out;rwa [if_pos hsq] at h
    have e1:((s:Int)==(q:Int))=true:=by simpa using hsq
    go_wp2_with fail
    go_meet
    exact⟨rfl,rfl⟩
   ·obtain rfl:3=kc:=by have h:=HKC.out;rwa [if_neg hsq] at h
    have e1:((s:Int)==(q:Int))=false:=by simpa using hsq
    go_wp2_with fail
    go_meet
    exact⟨rfl,rfl⟩
  case rest=>
   obtain⟨rfl,rfl⟩:=hcut
   clear y0 y1 hg2 HKC
   go_wp2_with fail
   refine(light18_any Al none nl cl 0 0 0 0 0 0 0 0 0 0 0 0 E W9 w.heap.size hs9 (HE.out.keep HB9.out) HNL.out hln HDA.out (Nat.le_refl _) (by omega)).mono ?_
   rw[show min 0 1500=0 from rfl]
   unfold Light18P
   rintro x W10 ⟨A10,n10,c10,rfl,hb,hown,hn10⟩
   have HT10:=hid ((hb.block _ (lt_blk HT9.out)).trans HT9.out)
   have HB10:=hid (HB9.out.trans (hb.mono hs9))
   have HO10:=hid (HO9.out.blw hb)
   have hs10:=HB10.out.size
   have HE10:=hid (lit_at9 HE.out (Nat.le_refl _) HB10.out hown)
   have h70:n10≤70:=by have:=lit_len9 E;omega
   generalize litE E=F at HE10 hn10
   have HN10:=hid hn10
   obtain⟨L,hL⟩: ∃L,F.map Ent.o=L:=⟨_,rfl⟩
   have HL:=hid hL
   clear hb hown hn10 hL
   go_upto_region 14 with(fail)
   obtain⟨Q,hQ⟩: ∃Q,Q=W10.heap.size:=⟨_,rfl⟩
   obtain⟨P,hP⟩: ∃P,P=Q+1:=⟨_,rfl⟩
   rw[←hQ,←hP]
   refine wp_w (fun W=>W.heap[Q]? =some (.cells #[.int .i64 0,.int .i64 0,.int .i64 0,.slice A10 n10 c10,.int .i64 0,.int .i64 0,.int .i64 0,.int .i64 0,.int .i64 0] 60 (0,0))∧W.heap[P]? =some (.cells #[.int .i64 0,.int .i64 0,.slice none 0 0] 32 (0,0))∧W.heap[T]? =some (.cells #[.int .i64 6,.int .i64 1,.int .i64 1,.slice A2 n2 c2,.int .i64 2,.int .i64 5,.int .i64 0,.int .i64 o,.int .i64 q] 60 (0,0))∧Below w.heap.size w W∧OptsO W bo (.slice A2 n2 c2) (askI o)∧OptsAt W W.heap.size A10 F) ⟨by rw[hQ];exact alc_off (heap_alloc_new _ _),by rw[hP,hQ];exact heap_alloc_at _ _ _ (by simp),by exact alc_off (alc_off HT10.out),by have h:=HB10.out;exact bel,by exact HO10.out.blw (by exact bel),by exact(HE10.out.keep (by exact bel)).more (by first|(simp;done)|(simp;omega))⟩ ?_
   rintro W11 ⟨hqr,hpr,ht,hb,hoo,hea⟩
   have HQR:=hid hqr
   have HPR0:=hid hpr
   have HT11:=hid ht
   have HB11:=hid hb
   have HO11:=hid hoo
   have HE11:=hid hea
   have hs11:=hb.size
   have lQ:=lt_blk hqr
   have lP0:=lt_blk hpr
   have nTP:T≠P:=by have:=lt_blk HT10.out;omega
   have nTQ:T≠Q:=by have:=lt_blk HT10.out;omega
   have hPw:w.heap.size≤P:=by omega
   obtain⟨-,-,-,s3,-,-,-,-,-⟩:=cells9 hqr
   clear hQ hP hqr hpr ht hb hoo hea HT9 HB9 HO9 HT10 HB10 HO10 HE10 hs9 hs10
   go_wp2_with fail
   refine(Op.renc_any A10 n10 c10 F _ W11.heap.size (Nat.le_refl _) HE11.out HN10.out).mono ?_
   rw[HL.out]
   unfold Op.EncP
   rintro x W12 ⟨v12,rfl,hb,hown⟩
   obtain⟨A12,c12,rfl,hc12,-⟩:=ownsRow_form hown
   have HT12:=hid ((hb.block _ (lt_blk HT11.out)).trans HT11.out)
   have HB12:=hid (HB11.out.trans (hb.mono hs11))
   have HO12:=hid (HO11.out.blw hb)
   have HP12:=hid ((hb.block _ lP0).trans HPR0.out)
   have HW12:=hid hown
   have HLC:=hid hc12
   have HLL:=hid (encR_len L)
   have hs12:=HB12.out.size
   have hX12:P<W11.heap.size:=lP0
   obtain⟨⟨eb,ee⟩,hee⟩: ∃r,Op.encR L=r:=⟨_,rfl⟩
   rw[hee] at HW12 HLC HLL ⊢
   dsimp only at HW12 HLC HLL ⊢
   clear hb hown hc12 s3 lQ lP0 HQR HPR0 HT11 HB11 HO11 HE11
   by_cases he:ee=0
   ·subst he
    have HEB:=hid hee
    clear hee
    have hp12:=HP12.out
    obtain⟨z0,z1,z2⟩:=cells3 hp12
    have fz:=frees hp12
    have lP12:=lt_blk hp12
    clear hp12
    go_upto_region 18 with(fail)
    obtain⟨W13,hW13⟩: ∃W13,W13=((W12.setCell ⟨P,0,none⟩ (.int .i64 1)).setCell ⟨P,1,none⟩ (.int .i64 (j:Int))).setCell ⟨P,2,none⟩ (.slice A12 eb.length c12):=⟨_,rfl⟩
    have hg13:W12.grownBy W13 (some P):=by rw[hW13];exact grown_store (grown_store (grown_set _ _ _ _) _ _) _ _
    have HPR:=hid (show W13.heap[P]? =some (.cells #[.int .i64 1,.int .i64 j,.slice A12 eb.length c12] 32 (0,0)) by rw[hW13];exact row3k HP12.out rfl _ _ _)
    rw[←hW13]
    clear hW13 z0 z1 z2 fz
    have HT:=hid ((hg13.block _ (lt_blk HT12.out) (fun e=>nTP (by cases e;rfl))).trans HT12.out)
    have HB13:=hid (Below.grown HB12.out hg13 hs12 (fun k hk=>by cases hk;exact hPw))
    have HO13:=hid (HO12.out.oth hg13 HP12.out (by decide) (by decide))
    have HAT:=hid (At.of_own (own_keep HW12.out (fun k hk=>hg13.block k (own_lt HW12.out hk) (fun e=>by cases e;have:=own_le HW12.out hk;omega))))
    have hs13:=HB13.out.size
    clear hg13 lP12 HT12 HB12 HO12 HP12 HW12
    obtain⟨E2,hE,hnn,hcc,he⟩:=HO13.out.opened
    have HE2:=hid hE
    have HNN:=hid hnn
    have HEE:=hid he
    have HEN:=hid (askI_ents he)
    have hn1:n2≤1000000:=by have:=HEN.out.1;have:=HNN.out;omega
    clear hE hnn hcc he
    obtain⟨kc,d,hk1,hk2,hk3⟩:=toldq_any H1.out H2.out HJ.out (show(Op.encR L).2=0 by rw[HEB.out])
    rw[HEB.out] at hk1 hk2 hk3
    dsimp only at hk1 hk2 hk3
    rw[Int.toNat_natCast,HR.out] at hk2 hk3
    obtain⟨⟨a9,l9,x9⟩,hr⟩: ∃r,iPackO 3 2 4 5 ⟨6,1,1,askI o,2,5,0⟩ o q ⟨1,j,eb⟩ 1=r:=⟨_,rfl⟩
    rw[hr] at hk1
    dsimp only at hk1
    subst hk1
    have HPK:=hid hr
    have HK2:=hid hk2
    have HK3:=hid hk3
    clear hr hk2 hk3
    go_cut [17] (fun s17 wx=> ∃(A5:Option Addr) (n5 c5:Nat) (W:World),W=wx∧s17=.slice A5 n5 c5∧(∃base,PksO W base (.slice A5 n5 c5) [⟨kc,j,d⟩])∧Below W13.heap.size W13 W)
    case first=>
     obtain⟨t0,t1,t2,t3,t4,t5,t6,t7,t8⟩:=cells9 (show W13.heap[T]? =some (.cells #[.int .i64 6,.int .i64 1,.int .i64 1,.slice A2 n2 c2,.int .i64 2,.int .i64 5,.int .i64 0,.int .i64 o,.int .i64 q] 60 (0,0)) from HT.out)
     obtain⟨p0,p1,p2⟩:=cells3 (show W13.heap[P]? =some (.cells #[.int .i64 1,.int .i64 j,.slice A12 eb.length c12] 32 (0,0)) from HPR.out)
     have lT:=lt_blk HT.out
     have lP:=lt_blk HPR.out
     have HSR:=hid (show∀w':World,Below W13.heap.size W13 w'→(w'.cell? ⟨T,0,none⟩=some (.int .i64 6)∧w'.cell? ⟨T,1,none⟩=some (.int .i64 1)∧w'.cell? ⟨T,2,none⟩=some (.int .i64 1)∧w'.cell? ⟨T,3,none⟩=some (.slice A2 n2 c2)∧w'.cell? ⟨T,4,none⟩=some (.int .i64 2)∧w'.cell? ⟨T,5,none⟩=some (.int .i64 5)∧w'.cell? ⟨T,6,none⟩=some (.int .i64 0)∧w'.cell? ⟨T,7,none⟩=some (.int .i64 o)∧w'.cell? ⟨T,8,none⟩=some (.int .i64 q)∧w'.cell? ⟨P,0,none⟩=some (.int .i64 1)∧w'.cell? ⟨P,1,none⟩=some (.int .i64 j)∧w'.cell? ⟨P,2,none⟩=some (.slice A12 eb.length c12)) from fun w' hb=>⟨(hb.cell (p:=⟨T,_,none⟩) lT).trans t0,(hb.cell (p:=⟨T,_,none⟩) lT).trans t1,(hb.cell (p:=⟨T,_,none⟩) lT).trans t2,(hb.cell (p:=⟨T,_,none⟩) lT).trans t3,(hb.cell (p:=⟨T,_,none⟩) lT).trans t4,(hb.cell (p:=⟨T,_,none⟩) lT).trans t5,(hb.cell (p:=⟨T,_,none⟩) lT).trans t6,(hb.cell (p:=⟨T,_,none⟩) lT).trans t7,(hb.cell (p:=⟨T,_,none⟩) lT).trans t8,(hb.cell (p:=⟨P,_,none⟩) lP).trans p0,(hb.cell (p:=⟨P,_,none⟩) lP).trans p1,(hb.cell (p:=⟨P,_,none⟩) lP).trans p2⟩)
     go_region_held3 (fun w'=>w'.cell? ⟨T,0,none⟩=some (.int .i64 6)∧w'.cell? ⟨T,1,none⟩=some (.int .i64 1)∧w'.cell? ⟨T,2,none⟩=some (.int .i64 1)∧w'.cell? ⟨T,3,none⟩=some (.slice A2 n2 c2)∧w'.cell? ⟨T,4,none⟩=some (.int .i64 2)∧w'.cell? ⟨T,5,none⟩=some (.int .i64 5)∧w'.cell? ⟨T,6,none⟩=some (.int .i64 0)∧w'.cell? ⟨T,7,none⟩=some (.int .i64 o)∧w'.cell? ⟨T,8,none⟩=some (.int .i64 q)∧w'.cell? ⟨P,0,none⟩=some (.int .i64 1)∧w'.cell? ⟨P,1,none⟩=some (.int .i64 j)∧w'.cell? ⟨P,2,none⟩=some (.slice A12 eb.length c12)) (exact HSR.out _ (by exact bel)) (first|((go_at_call 28;go_must (refine(conf_any _).mono ?_);rintro e w5 ⟨rfl,hb5⟩;obtain⟨xs5,d5,rfl⟩:=ext_of hb5;clear hb5))|((go_at_call 30;go_must (refine(ipack_any 1492 3 2 4 5 0 1 6 1 1 2 5 0 o q A2 n2 c2 1 A12 eb.length c12 1 j eb E2 (askI o) HEE.out _ W13.heap.size (by first|exact Nat.le_refl _|(simp[size_ext,grow];done)|(simp[size_ext,grow];omega)) (by exact HE2.out.keep (by exact bel)) HNN.out hn1 (fun e he=>by have:=HEN.out.2 e he;omega) HWF.out (by exact HAT.out.keep (by exact bel)) rfl HLC.out (by have:=HLL.out;omega)).mono ?_);rw[HPK.out];unfold IDoP npV;(try dsimp only);rintro e w6 ⟨va6,vo6,vd6,rfl,hb6,hO,hP,hA⟩;obtain⟨A4,n4,c4,rfl⟩:=hO.form';obtain⟨A5,n5,c5,rfl⟩:=hP.form';obtain⟨A6,n6,c6,rfl⟩:=hA.form';obtain⟨xs6,d6,rfl⟩:=ext_of hb6;have HP6:=hid hP;clear hb6 hO hA hP)))
     all_goals
      go_wp2_with fail
      go_meet
      refine⟨A5,n5,c5,_,rfl,rfl,?_,by exact bel⟩
      have h5:=HP6.out
      first
       |exact⟨_,h5⟩
       |exact⟨_,h5.blw (Below.alloc (Below.refl _ _) (Nat.le_refl _) _)⟩
       |(apply Exists.intro;refine PksO.stays (X:=?_) h5 ?_ ?_;rotate_left;(repeat(first|with_reducible exact alloc_swap _ _ _|with_reducible refine grown_exts ?_ (by simp[size_ext,grow])|with_reducible refine grown_allocs ?_ (by simp[size_ext,grow])));all_goals(try (first|(simp[size_ext,grow];done)|(simp[size_ext,grow];omega)|omega)))
    case rest=>
     obtain⟨A5,n5,c5,W14,rfl,rfl,⟨bp,hp⟩,hb⟩:=hcut
     obtain⟨rfl,g3,o3,a3,k3,rfl,hg3,y0,y1,y2,hy,hk3⟩:=pks_one hp
     dsimp only at y0 y1 y2 hy
     have q3: ∀n,(convert 30 9 (.slice a3 d.length k3)).run Tryz.prog (W14.drewN n)=.ok (.string ⟨d.toArray⟩) (W14.drewN n):=fun n=>run_str (w:=W14.drewN n) Tryz.underlying30 Tryz.underlying5 Tryz.underlying9 (l:=d) rfl hy
     have HA14:=hid (HAT.out.keep hb)
     have q4: ∀n,(convert 30 9 (.slice A12 eb.length c12)).run Tryz.prog (W14.drewN n)=.ok (.string ⟨eb.toArray⟩) (W14.drewN n):=fun n=>run_str (w:=W14.drewN n) Tryz.underlying30 Tryz.underlying5 Tryz.underlying9 (l:=eb) rfl HA14.out
     have HB14:=hid (HB13.out.trans (hb.mono hs13))
     clear hp hb hy hk3 HPK HAT HLC HLL HPR HT HE2 HNN HEE HEN hn1
     go_upto_region 21 with(fail)
     obtain⟨nb,hnb⟩: ∃n,eb.length=n:=⟨_,rfl⟩
     rw[hnb] at q4 ⊢
     have HNB:=hid hnb
     clear hnb
     by_cases hbR:eb=R
     ·obtain rfl:2=kc:=(HK2.out.2 hbR).symm
      subst hbR
      obtain rfl:nb=6:=by rw[←HNB.out];exact HRL.out
      go_quiet (fail)
      all_goals
       go_wp2_with fail
       go_ret
       exact⟨rfl,by have h:=HB14.out;exact bel⟩
     ·have e1:(eb==R)=false:=by simpa using hbR
      by_cases hb0:eb=[]
      ·obtain⟨rfl,rfl⟩:=HK3.out hb0
       obtain rfl:nb=0:=by rw[←HNB.out,hb0];rfl
       clear hb0 hbR
       go_quiet (fail)
       all_goals
        go_wp2_with fail
        go_ret
        exact⟨rfl,by have h:=HB14.out;exact bel⟩
      ·have e2:(kc==2)=false:=by
        have h: ¬kc=2:=fun h=>hbR (HK2.out.1 h)
        simpa using h
       have g3:0<nb:=by have:=List.length_pos_iff.2 hb0;have:=HNB.out;omega
       have g1:(0:Int)<(nb:Int):=by omega
       have g2:decide ((0:Int)<(nb:Int))=true:=by simp;omega
       clear hb0 hbR
       go_quiet (fail)
       all_goals
        go_wp2_with fail
        go_ret
        exact⟨rfl,by have h:=HB14.out;exact bel⟩
   ·have he1:(ee==0)=false:=by simpa using he
    go_wp2_with fail
    go_ret
    exact⟨rfl,HB12.out⟩
end Go.Proofs.YtfkgmbknfnhjoaaGreat
