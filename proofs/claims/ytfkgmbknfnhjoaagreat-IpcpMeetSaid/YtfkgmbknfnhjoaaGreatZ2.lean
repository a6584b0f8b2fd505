/- A control to which something comes. -/
import Derived.Test.YtfkgmbknfnhjoaaGreatZ1
set_option maxHeartbeats 8000000
namespace Go.Proofs.YtfkgmbknfnhjoaaGreat
open Lib (hid)
open Go.RowKit
set_option linter.unusedSimpArgs false
set_option linter.unusedVariables false
set_option linter.ambiguousOpen false
open Ne (Rl Opt RulesAt areB wf64)
open Fs (av hasB)
def runC (a:Au) (va vr:Value) (mc mt mf wt:Int) (a0:Au) (va0:Value) (own peer tick:Int) (vo vd:Value):Array Value:=
 #[.int .i64 a.st,.int .i64 a.id,.int .i64 a.req,va,.int .i64 a.cnt,.int .i64 a.tim,.int .i64 a.nak,vr,.int .i64 mc,.int .i64 mt,.int .i64 mf,.int .i64 wt,.int .i64 a0.st,.int .i64 a0.id,.int .i64 a0.req,va0,.int .i64 a0.cnt,.int .i64 a0.tim,.int .i64 a0.nak,.int .i64 own,.int .i64 peer,.int .i64 tick,vo,vd]
theorem runC_get {W:World} {b:Nat} {a:Au} {va vr:Value} {mc mt mf wt:Int} {a0:Au} {va0:Value} {own peer tick:Int} {vo vd:Value} (h:W.heap[b]? =some (.cells (runC a va vr mc mt mf wt a0 va0 own peer tick vo vd) 128 (0,0))):
  (W.cell? ⟨b,0,none⟩=some (.int .i64 a.st)∧W.cell? ⟨b,1,none⟩=some (.int .i64 a.id)∧W.cell? ⟨b,2,none⟩=some (.int .i64 a.req)∧W.cell? ⟨b,3,none⟩=some (va)∧W.cell? ⟨b,4,none⟩=some (.int .i64 a.cnt)∧W.cell? ⟨b,5,none⟩=some (.int .i64 a.tim)∧W.cell? ⟨b,6,none⟩=some (.int .i64 a.nak))∧(W.cell? ⟨b,7,none⟩=some (vr)∧W.cell? ⟨b,8,none⟩=some (.int .i64 mc)∧W.cell? ⟨b,9,none⟩=some (.int .i64 mt)∧W.cell? ⟨b,10,none⟩=some (.int .i64 mf)∧W.cell? ⟨b,11,none⟩=some (.int .i64 wt))∧W.cell? ⟨b,19,none⟩=some (.int .i64 own)∧W.cell? ⟨b,20,none⟩=some (.int .i64 peer)∧W.cell? ⟨b,21,none⟩=some (.int .i64 tick)∧W.cell? ⟨b,22,none⟩=some (vo)∧W.cell? ⟨b,23,none⟩=some (vd):=
 ⟨⟨cell9 h 0 rfl,cell9 h 1 rfl,cell9 h 2 rfl,cell9 h 3 rfl,cell9 h 4 rfl,cell9 h 5 rfl,cell9 h 6 rfl⟩,⟨cell9 h 7 rfl,cell9 h 8 rfl,cell9 h 9 rfl,cell9 h 10 rfl,cell9 h 11 rfl⟩,cell9 h 19 rfl,cell9 h 20 rfl,cell9 h 21 rfl,cell9 h 22 rfl,cell9 h 23 rfl⟩
def BeginP (mc mt mf wt:Int) (a:Au) (va:Value) (own peer tick:Int) (w:World) (x:Ending) (w':World):Prop:=
 ∃b A,x=.returned (.tuple #[.pointer (some ⟨b,0,none⟩),.bool (fineI mc mt mf wt a own peer tick)])∧Below w.heap.size w w'∧w.heap.size≤b∧w'.heap[b]? =some (.cells (runC a va (.slice A 1 1) mc mt mf wt a va own peer tick (.slice none 0 0) (.slice none 0 0)) 128 (0,0))∧RulesAt w' b A [ruleI peer]
set_option maxRecDepth 100000 in
theorem ibegin_any (mr mc mt mf wt ec lo:Int) (st id req cnt tim nak own peer:Int) (Aa:Option Addr) (na ca:Nat) (tick:Int) (E:List Ent) (L:List Opt) (hL:E.map Ent.o=L) (w:World) (B:Nat) (hB:B≤w.heap.size) (hE:OptsAt w B Aa E) (hna:na=E.length) (hp:wf64 peer):
  Calls Tryz.prog 69 #[.agg #[.int .i64 mr,.int .i64 mc,.int .i64 mt,.int .i64 mf,.int .i64 wt,.int .i64 ec,.int .i64 lo],.agg #[.int .i64 st,.int .i64 id,.int .i64 req,.slice Aa na ca,.int .i64 cnt,.int .i64 tim,.int .i64 nak,.int .i64 own,.int .i64 peer],.int .i64 tick] w (BeginP mc mt mf wt ⟨st,id,req,L,cnt,tim,nak⟩ (.slice Aa na ca) own peer tick w):=by
 have HB:=hid hB
 have HE:=hid hE
 have HNA:=hid hna
 have HP:=hid hp
 have HL:=hid hL
 clear hB hE hna hp hL
 cases h1:okI mc mt mf wt ⟨st,id,req,L,cnt,tim,nak⟩ own peer
 ·have HV:=hid (show fineI mc mt mf wt ⟨st,id,req,L,cnt,tim,nak⟩ own peer tick=false by simp[fineI,h1])
  have HK:=hid (show checkI mc mt mf wt ⟨st,id,req,L,cnt,tim,nak⟩ own peer=180 by simp[checkI,h1])
  clear h1
  go_enter Tryz.func69,Tryz.ntmps69
  go_upto_region 1 with(fail)
  refine wp_w (fun W=>W.heap[w.heap.size]? =some (.cells #[.int .i64 mr,.int .i64 mc,.int .i64 mt,.int .i64 mf,.int .i64 wt,.int .i64 ec,.int .i64 lo] 64 (0,0))∧W.heap[w.heap.size+1]? =some (.cells #[.int .i64 st,.int .i64 id,.int .i64 req,.slice Aa na ca,.int .i64 cnt,.int .i64 tim,.int .i64 nak,.int .i64 own,.int .i64 peer] 60 (0,0))∧Below w.heap.size w W) ⟨by exact hpa,by exact hpa,by exact bel⟩ ?_
  rintro W1 ⟨hc,hn,hb⟩
  have HC1:=hid hc
  have HN1:=hid hn
  have HB1:=hid hb
  have hs1:=hb.size
  have lc:=lt_blk hc
  have ln:=lt_blk hn
  obtain⟨c0,c1,c2,c3,c4,c5,c6⟩:=cells7 hc
  obtain⟨n0,n1,n2,n3,n4,n5,n6,n7,n8⟩:=cells9 hn
  clear hc hn hb
  go_region_held3 (fun w'=>w'.cell? ⟨w.heap.size,0,none⟩=some (.int .i64 mr)∧w'.cell? ⟨w.heap.size,1,none⟩=some (.int .i64 mc)∧w'.cell? ⟨w.heap.size,2,none⟩=some (.int .i64 mt)∧w'.cell? ⟨w.heap.size,3,none⟩=some (.int .i64 mf)∧w'.cell? ⟨w.heap.size,4,none⟩=some (.int .i64 wt)∧w'.cell? ⟨w.heap.size,5,none⟩=some (.int .i64 ec)∧w'.cell? ⟨w.heap.size,6,none⟩=some (.int .i64 lo)∧w'.cell? ⟨w.heap.size+1,0,none⟩=some (.int .i64 st)∧w'.cell? ⟨w.heap.size+1,1,none⟩=some (.int .i64 id)∧w'.cell? ⟨w.heap.size+1,2,none⟩=some (.int .i64 req)∧w'.cell? ⟨w.heap.size+1,3,none⟩=some (.slice Aa na ca)∧w'.cell? ⟨w.heap.size+1,4,none⟩=some (.int .i64 cnt)∧w'.cell? ⟨w.heap.size+1,5,none⟩=some (.int .i64 tim)∧w'.cell? ⟨w.heap.size+1,6,none⟩=some (.int .i64 nak)∧w'.cell? ⟨w.heap.size+1,7,none⟩=some (.int .i64 own)∧w'.cell? ⟨w.heap.size+1,8,none⟩=some (.int .i64 peer)) (first|(go_keep;done)|(go_simp;done)|(simp[go_sem];done)) ((go_at_call 41;go_must (refine(iauto_any mr mc mt mf wt ec lo peer HP.out _).mono ?_);rintro e w8 ⟨A8,rfl,hb8,hR8⟩;obtain⟨xs8,d8,rfl⟩:=ext_of hb8;have HR8:=hid hR8;clear hb8 hR8))
  all_goals
   go_upto_region 2 with(fail)
   refine wp_w (fun W=>W.heap[w.heap.size]? =some (.cells #[.int .i64 mr,.int .i64 mc,.int .i64 mt,.int .i64 mf,.int .i64 wt,.int .i64 ec,.int .i64 lo] 64 (0,0))∧W.heap[w.heap.size+1]? =some (.cells #[.int .i64 st,.int .i64 id,.int .i64 req,.slice Aa na ca,.int .i64 cnt,.int .i64 tim,.int .i64 nak,.int .i64 own,.int .i64 peer] 60 (0,0))∧W.heap[grow W1.heap.size xs8]? =some (.cells (runC ⟨st,id,req,L,cnt,tim,nak⟩ (.slice Aa na ca) (.slice A8 1 1) mc mt mf wt ⟨st,id,req,L,cnt,tim,nak⟩ (.slice Aa na ca) own peer tick (.slice none 0 0) (.slice none 0 0)) 128 (0,0))∧Below w.heap.size w W∧RulesAt W (grow W1.heap.size xs8) A8 [ruleI peer]) ⟨(by exact alc_off ((heap_ext _ _ _ _ lc).trans HC1.out)),(by exact alc_off ((heap_ext _ _ _ _ ln).trans HN1.out)),(by exact heap_alloc_at _ _ _ (by simp[size_ext])),(by have:=HB1.out;exact bel),(by exact(HR8.out.keep ((Below.refl _ _).alloc (Nat.le_refl _) _)).more (by simp[size_ext]))⟩ ?_
   have hb8:w.heap.size≤grow W1.heap.size xs8:=by simp only[grow];omega
   have hb82:w.heap.size+1<grow W1.heap.size xs8:=by simp only[grow];omega
   generalize grow W1.heap.size xs8=b at hb8 hb82 ⊢
   clear c0 c1 c2 c3 c4 c5 c6 n0 n1 n2 n3 n4 n5 n6 n7 n8 HR8
   rintro W2 ⟨hc,hn,hr,hb,hR⟩
   have HB2:=hid hb
   have hs2:=hb.size
   have HR2:=hid hR
   have HRR:=hid hr
   have lr:=lt_blk hr
   have lc:=lt_blk hc
   have ln:=lt_blk hn
   obtain⟨c0,c1,c2,c3,c4,c5,c6⟩:=cells7 hc
   obtain⟨n0,n1,n2,n3,n4,n5,n6,n7,n8⟩:=cells9 hn
   clear hc hn hr hb hR
   go_wp2_with (first|(go_at_call 37;go_must (refine(icheck_any mr mc mt mf wt ec lo st id req cnt tim nak own peer Aa na ca E L HL.out _ W2.heap.size (by first|exact Nat.le_refl _|(simp[size_ext,grow];done)|(simp[size_ext,grow];omega)) (by exact((HE.out.keep (HB2.out.mono HB.out)).more (by have:=HB.out;omega)).keep (by exact bel)) HNA.out HP.out).mono ?_);rw[HK.out];rintro e w7 ⟨rfl,hb7⟩;obtain⟨xs7,d7,rfl⟩:=ext_of hb7;clear hb7)|(go_at_call 72;refine(within_it _ _ _ _ (by assumption)).mono ?_;rintro e w9 ⟨rfl,rfl⟩)|(go_at_call 72;refine(within_if _ _ _ _ (by assumption)).mono ?_;rintro e w9 ⟨rfl,rfl⟩))
   refine bodyPost_ret (v:=.tuple #[.pointer (some ⟨b,0,none⟩),.bool false]) (by simp[results,Tryz.results69,go_sem]) rfl ?_
   have hbf:=HB2.out
   exact⟨b,A8,by rw[HV.out],by exact bel,hb8,(heap_ext _ _ _ _ lr).trans HRR.out,HR2.out.keep (below_ext (Below.refl _ _) (Nat.le_of_lt lr) _ _)⟩
 ·cases h2:inB tick 0 1099511627776
  ·have HV:=hid (show fineI mc mt mf wt ⟨st,id,req,L,cnt,tim,nak⟩ own peer tick=false by simp[fineI,h1,h2])
   have HK:=hid (show checkI mc mt mf wt ⟨st,id,req,L,cnt,tim,nak⟩ own peer=0 by simp[checkI,h1])
   clear h1
   go_enter Tryz.func69,Tryz.ntmps69
   go_upto_region 1 with(fail)
   refine wp_w (fun W=>W.heap[w.heap.size]? =some (.cells #[.int .i64 mr,.int .i64 mc,.int .i64 mt,.int .i64 mf,.int .i64 wt,.int .i64 ec,.int .i64 lo] 64 (0,0))∧W.heap[w.heap.size+1]? =some (.cells #[.int .i64 st,.int .i64 id,.int .i64 req,.slice Aa na ca,.int .i64 cnt,.int .i64 tim,.int .i64 nak,.int .i64 own,.int .i64 peer] 60 (0,0))∧Below w.heap.size w W) ⟨by exact hpa,by exact hpa,by exact bel⟩ ?_
   rintro W1 ⟨hc,hn,hb⟩
   have HC1:=hid hc
   have HN1:=hid hn
   have HB1:=hid hb
   have hs1:=hb.size
   have lc:=lt_blk hc
   have ln:=lt_blk hn
   obtain⟨c0,c1,c2,c3,c4,c5,c6⟩:=cells7 hc
   obtain⟨n0,n1,n2,n3,n4,n5,n6,n7,n8⟩:=cells9 hn
   clear hc hn hb
   go_region_held3 (fun w'=>w'.cell? ⟨w.heap.size,0,none⟩=some (.int .i64 mr)∧w'.cell? ⟨w.heap.size,1,none⟩=some (.int .i64 mc)∧w'.cell? ⟨w.heap.size,2,none⟩=some (.int .i64 mt)∧w'.cell? ⟨w.heap.size,3,none⟩=some (.int .i64 mf)∧w'.cell? ⟨w.heap.size,4,none⟩=some (.int .i64 wt)∧w'.cell? ⟨w.heap.size,5,none⟩=some (.int .i64 ec)∧w'.cell? ⟨w.heap.size,6,none⟩=some (.int .i64 lo)∧w'.cell? ⟨w.heap.size+1,0,none⟩=some (.int .i64 st)∧w'.cell? ⟨w.heap.size+1,1,none⟩=some (.int .i64 id)∧w'.cell? ⟨w.heap.size+1,2,none⟩=some (.int .i64 req)∧w'.cell? ⟨w.heap.size+1,3,none⟩=some (.slice Aa na ca)∧w'.cell? ⟨w.heap.size+1,4,none⟩=some (.int .i64 cnt)∧w'.cell? ⟨w.heap.size+1,5,none⟩=some (.int .i64 tim)∧w'.cell? ⟨w.heap.size+1,6,none⟩=some (.int .i64 nak)∧w'.cell? ⟨w.heap.size+1,7,none⟩=some (.int .i64 own)∧w'.cell? ⟨w.heap.size+1,8,none⟩=some (.int .i64 peer)) (first|(go_keep;done)|(go_simp;done)|(simp[go_sem];done)) ((go_at_call 41;go_must (refine(iauto_any mr mc mt mf wt ec lo peer HP.out _).mono ?_);rintro e w8 ⟨A8,rfl,hb8,hR8⟩;obtain⟨xs8,d8,rfl⟩:=ext_of hb8;have HR8:=hid hR8;clear hb8 hR8))
   all_goals
    go_upto_region 2 with(fail)
    refine wp_w (fun W=>W.heap[w.heap.size]? =some (.cells #[.int .i64 mr,.int .i64 mc,.int .i64 mt,.int .i64 mf,.int .i64 wt,.int .i64 ec,.int .i64 lo] 64 (0,0))∧W.heap[w.heap.size+1]? =some (.cells #[.int .i64 st,.int .i64 id,.int .i64 req,.slice Aa na ca,.int .i64 cnt,.int .i64 tim,.int .i64 nak,.int .i64 own,.int .i64 peer] 60 (0,0))∧W.heap[grow W1.heap.size xs8]? =some (.cells (runC ⟨st,id,req,L,cnt,tim,nak⟩ (.slice Aa na ca) (.slice A8 1 1) mc mt mf wt ⟨st,id,req,L,cnt,tim,nak⟩ (.slice Aa na ca) own peer tick (.slice none 0 0) (.slice none 0 0)) 128 (0,0))∧Below w.heap.size w W∧RulesAt W (grow W1.heap.size xs8) A8 [ruleI peer]) ⟨(by exact alc_off ((heap_ext _ _ _ _ lc).trans HC1.out)),(by exact alc_off ((heap_ext _ _ _ _ ln).trans HN1.out)),(by exact heap_alloc_at _ _ _ (by simp[size_ext])),(by have:=HB1.out;exact bel),(by exact(HR8.out.keep ((Below.refl _ _).alloc (Nat.le_refl _) _)).more (by simp[size_ext]))⟩ ?_
    have hb8:w.heap.size≤grow W1.heap.size xs8:=by simp only[grow];omega
    have hb82:w.heap.size+1<grow W1.heap.size xs8:=by simp only[grow];omega
    generalize grow W1.heap.size xs8=b at hb8 hb82 ⊢
    clear c0 c1 c2 c3 c4 c5 c6 n0 n1 n2 n3 n4 n5 n6 n7 n8 HR8
    rintro W2 ⟨hc,hn,hr,hb,hR⟩
    have HB2:=hid hb
    have hs2:=hb.size
    have HR2:=hid hR
    have HRR:=hid hr
    have lr:=lt_blk hr
    have lc:=lt_blk hc
    have ln:=lt_blk hn
    obtain⟨c0,c1,c2,c3,c4,c5,c6⟩:=cells7 hc
    obtain⟨n0,n1,n2,n3,n4,n5,n6,n7,n8⟩:=cells9 hn
    clear hc hn hr hb hR
    go_wp2_with (first|(go_at_call 37;go_must (refine(icheck_any mr mc mt mf wt ec lo st id req cnt tim nak own peer Aa na ca E L HL.out _ W2.heap.size (by first|exact Nat.le_refl _|(simp[size_ext,grow];done)|(simp[size_ext,grow];omega)) (by exact((HE.out.keep (HB2.out.mono HB.out)).more (by have:=HB.out;omega)).keep (by exact bel)) HNA.out HP.out).mono ?_);rw[HK.out];rintro e w7 ⟨rfl,hb7⟩;obtain⟨xs7,d7,rfl⟩:=ext_of hb7;clear hb7)|(go_at_call 72;refine(within_it _ _ _ _ (by assumption)).mono ?_;rintro e w9 ⟨rfl,rfl⟩)|(go_at_call 72;refine(within_if _ _ _ _ (by assumption)).mono ?_;rintro e w9 ⟨rfl,rfl⟩))
    refine bodyPost_ret (v:=.tuple #[.pointer (some ⟨b,0,none⟩),.bool false]) (by simp[results,Tryz.results69,go_sem]) rfl ?_
    have hbf:=HB2.out
    exact⟨b,A8,by rw[HV.out],by exact bel,hb8,(heap_ext _ _ _ _ lr).trans HRR.out,HR2.out.keep (below_ext (Below.refl _ _) (Nat.le_of_lt lr) _ _)⟩
  ·have HV:=hid (show fineI mc mt mf wt ⟨st,id,req,L,cnt,tim,nak⟩ own peer tick=true by simp[fineI,h1,h2])
   have HK:=hid (show checkI mc mt mf wt ⟨st,id,req,L,cnt,tim,nak⟩ own peer=0 by simp[checkI,h1])
   clear h1
   go_enter Tryz.func69,Tryz.ntmps69
   go_upto_region 1 with(fail)
   refine wp_w (fun W=>W.heap[w.heap.size]? =some (.cells #[.int .i64 mr,.int .i64 mc,.int .i64 mt,.int .i64 mf,.int .i64 wt,.int .i64 ec,.int .i64 lo] 64 (0,0))∧W.heap[w.heap.size+1]? =some (.cells #[.int .i64 st,.int .i64 id,.int .i64 req,.slice Aa na ca,.int .i64 cnt,.int .i64 tim,.int .i64 nak,.int .i64 own,.int .i64 peer] 60 (0,0))∧Below w.heap.size w W) ⟨by exact hpa,by exact hpa,by exact bel⟩ ?_
   rintro W1 ⟨hc,hn,hb⟩
   have HC1:=hid hc
   have HN1:=hid hn
   have HB1:=hid hb
   have hs1:=hb.size
   have lc:=lt_blk hc
   have ln:=lt_blk hn
   obtain⟨c0,c1,c2,c3,c4,c5,c6⟩:=cells7 hc
   obtain⟨n0,n1,n2,n3,n4,n5,n6,n7,n8⟩:=cells9 hn
   clear hc hn hb
   go_region_held3 (fun w'=>w'.cell? ⟨w.heap.size,0,none⟩=some (.int .i64 mr)∧w'.cell? ⟨w.heap.size,1,none⟩=some (.int .i64 mc)∧w'.cell? ⟨w.heap.size,2,none⟩=some (.int .i64 mt)∧w'.cell? ⟨w.heap.size,3,none⟩=some (.int .i64 mf)∧w'.cell? ⟨w.heap.size,4,none⟩=some (.int .i64 wt)∧w'.cell? ⟨w.heap.size,5,none⟩=some (.int .i64 ec)∧w'.cell? ⟨w.heap.size,6,none⟩=some (.int .i64 lo)∧w'.cell? ⟨w.heap.size+1,0,none⟩=some (.int .i64 st)∧w'.cell? ⟨w.heap.size+1,1,none⟩=some (.int .i64 id)∧w'.cell? ⟨w.heap.size+1,2,none⟩=some (.int .i64 req)∧w'.cell? ⟨w.heap.size+1,3,none⟩=some (.slice Aa na ca)∧w'.cell? ⟨w.heap.size+1,4,none⟩=some (.int .i64 cnt)∧w'.cell? ⟨w.heap.size+1,5,none⟩=some (.int .i64 tim)∧w'.cell? ⟨w.heap.size+1,6,none⟩=some (.int .i64 nak)∧w'.cell? ⟨w.heap.size+1,7,none⟩=some (.int .i64 own)∧w'.cell? ⟨w.heap.size+1,8,none⟩=some (.int .i64 peer)) (first|(go_keep;done)|(go_simp;done)|(simp[go_sem];done)) ((go_at_call 41;go_must (refine(iauto_any mr mc mt mf wt ec lo peer HP.out _).mono ?_);rintro e w8 ⟨A8,rfl,hb8,hR8⟩;obtain⟨xs8,d8,rfl⟩:=ext_of hb8;have HR8:=hid hR8;clear hb8 hR8))
   all_goals
    go_upto_region 2 with(fail)
    refine wp_w (fun W=>W.heap[w.heap.size]? =some (.cells #[.int .i64 mr,.int .i64 mc,.int .i64 mt,.int .i64 mf,.int .i64 wt,.int .i64 ec,.int .i64 lo] 64 (0,0))∧W.heap[w.heap.size+1]? =some (.cells #[.int .i64 st,.int .i64 id,.int .i64 req,.slice Aa na ca,.int .i64 cnt,.int .i64 tim,.int .i64 nak,.int .i64 own,.int .i64 peer] 60 (0,0))∧W.heap[grow W1.heap.size xs8]? =some (.cells (runC ⟨st,id,req,L,cnt,tim,nak⟩ (.slice Aa na ca) (.slice A8 1 1) mc mt mf wt ⟨st,id,req,L,cnt,tim,nak⟩ (.slice Aa na ca) own peer tick (.slice none 0 0) (.slice none 0 0)) 128 (0,0))∧Below w.heap.size w W∧RulesAt W (grow W1.heap.size xs8) A8 [ruleI peer]) ⟨(by exact alc_off ((heap_ext _ _ _ _ lc).trans HC1.out)),(by exact alc_off ((heap_ext _ _ _ _ ln).trans HN1.out)),(by exact heap_alloc_at _ _ _ (by simp[size_ext])),(by have:=HB1.out;exact bel),(by exact(HR8.out.keep ((Below.refl _ _).alloc (Nat.le_refl _) _)).more (by simp[size_ext]))⟩ ?_
    have hb8:w.heap.size≤grow W1.heap.size xs8:=by simp only[grow];omega
    have hb82:w.heap.size+1<grow W1.heap.size xs8:=by simp only[grow];omega
    generalize grow W1.heap.size xs8=b at hb8 hb82 ⊢
    clear c0 c1 c2 c3 c4 c5 c6 n0 n1 n2 n3 n4 n5 n6 n7 n8 HR8
    rintro W2 ⟨hc,hn,hr,hb,hR⟩
    have HB2:=hid hb
    have hs2:=hb.size
    have HR2:=hid hR
    have HRR:=hid hr
    have lr:=lt_blk hr
    have lc:=lt_blk hc
    have ln:=lt_blk hn
    obtain⟨c0,c1,c2,c3,c4,c5,c6⟩:=cells7 hc
    obtain⟨n0,n1,n2,n3,n4,n5,n6,n7,n8⟩:=cells9 hn
    clear hc hn hr hb hR
    go_wp2_with (first|(go_at_call 37;go_must (refine(icheck_any mr mc mt mf wt ec lo st id req cnt tim nak own peer Aa na ca E L HL.out _ W2.heap.size (by first|exact Nat.le_refl _|(simp[size_ext,grow];done)|(simp[size_ext,grow];omega)) (by exact((HE.out.keep (HB2.out.mono HB.out)).more (by have:=HB.out;omega)).keep (by exact bel)) HNA.out HP.out).mono ?_);rw[HK.out];rintro e w7 ⟨rfl,hb7⟩;obtain⟨xs7,d7,rfl⟩:=ext_of hb7;clear hb7)|(go_at_call 72;refine(within_it _ _ _ _ (by assumption)).mono ?_;rintro e w9 ⟨rfl,rfl⟩)|(go_at_call 72;refine(within_if _ _ _ _ (by assumption)).mono ?_;rintro e w9 ⟨rfl,rfl⟩))
    refine bodyPost_ret (v:=.tuple #[.pointer (some ⟨b,0,none⟩),.bool true]) (by simp[results,Tryz.results69,go_sem]) rfl ?_
    have hbf:=HB2.out
    exact⟨b,A8,by rw[HV.out],by exact bel,hb8,(heap_ext _ _ _ _ lr).trans HRR.out,HR2.out.keep (below_ext (Below.refl _ _) (Nat.le_of_lt lr) _ _)⟩
def ToldP (a:Au) (own peer:Int) (vo vd:Value) (w:World) (x:Ending) (w':World):Prop:=
 ∃va,x=.returned (.tuple #[npV a va own peer,vo,vd])∧Below w.heap.size w w'∧OptsO w' w.heap.size va a.ask
end Go.Proofs.YtfkgmbknfnhjoaaGreat
