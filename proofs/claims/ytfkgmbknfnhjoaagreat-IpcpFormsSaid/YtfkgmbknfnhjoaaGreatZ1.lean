/- An address's control in plain words; its small functions. -/
import Derived.Test.YtfkgmbknfnhjoaaGreatPD
set_option maxHeartbeats 8000000
namespace Go.Proofs.YtfkgmbknfnhjoaaGreat
open Lib (hid)
open Go.RowKit
set_option linter.unusedSimpArgs false
set_option linter.unusedVariables false
set_option linter.ambiguousOpen false
open Ne (Rl Opt RulesAt areB wf64)
open Fs (av hasB)
theorem alc_off {w:World} {X:Nat} {o obj:Obj} (h:w.heap[X]? =some o):(w.alloc obj).heap[X]? =some o:=(Below.heap_alloc w obj X (lt_blk h)).trans h
theorem row9 {w:World} {X:Nat} {cs:Array Value} {T:TypeId} (h:w.heap[X]? =some (.cells cs T (0,0))) (hc:cs.size=9) (a b c d e f g i j:Value):
  (((((((((w.setCell ⟨X,0,none⟩ a).setCell ⟨X,1,none⟩ b).setCell ⟨X,2,none⟩ c).setCell ⟨X,3,none⟩ d).setCell ⟨X,4,none⟩ e).setCell ⟨X,5,none⟩ f).setCell ⟨X,6,none⟩ g).setCell ⟨X,7,none⟩ i).setCell ⟨X,8,none⟩ j).heap[X]? =some (.cells #[a,b,c,d,e,f,g,i,j] T (0,0)):=by
 obtain⟨l⟩:=cs
 match l,hc with
 |[x0,x1,x2,x3,x4,x5,x6,x7,x8],_=>
  exact(heap_setCell_same _ X 8 _ _ _ (heap_setCell_same _ X 7 _ _ _ (heap_setCell_same _ X 6 _ _ _ (heap_setCell_same _ X 5 _ _ _ (heap_setCell_same _ X 4 _ _ _ (heap_setCell_same _ X 3 _ _ _ (heap_setCell_same _ X 2 _ _ _ (heap_setCell_same _ X 1 _ _ _ (heap_setCell_same _ X 0 _ _ _ h))))))))).trans (by simp only[List.setIfInBounds_toArray,List.set_cons_zero,List.set_cons_succ])
def ruleI (p:Int):Rl:=⟨3,4,3,0,0,p,true⟩
def cfI (mc mt mf wt p:Int):Cf:=⟨[ruleI p],mc,mt,mf,wt⟩
def npV (a:Au) (va:Value) (own peer:Int):Value:=.agg #[.int .i64 a.st,.int .i64 a.id,.int .i64 a.req,va,.int .i64 a.cnt,.int .i64 a.tim,.int .i64 a.nak,.int .i64 own,.int .i64 peer]
def okI (mc mt mf wt:Int) (a:Au) (own peer:Int):Bool:=inB own 1 4294967295&&(inB peer 1 4294967295&&(confB (cfI mc mt mf wt peer)&&isB a))
def fineI (mc mt mf wt:Int) (a:Au) (own peer tick:Int):Bool:=okI mc mt mf wt a own peer&&inB tick 0 1099511627776
theorem cell9 {W:World} {X:Nat} {cs:Array Value} {T:TypeId} (h:W.heap[X]? =some (.cells cs T (0,0))) (i:Nat) {v:Value} (hv:cs[i]? =some v):W.cell? ⟨X,i,none⟩=some v:=(cell_of_row W X i _ _ _ h).trans hv
theorem set_inI {w:World} {X i:Nat} {cs cs':Array Value} {T:TypeId} {v:Value} (h:w.heap[X]? =some (.cells cs T (0,0))) (hc:cs.setIfInBounds i v=cs'):(w.setCell ⟨X,i,none⟩ v).heap[X]? =some (.cells cs' T (0,0)):=by
 subst hc;exact heap_setCell_same w X i cs T _ h
theorem set_offI {w:World} {X Y i:Nat} {o:Option Obj} {v:Value} (h:w.heap[X]? =o) (hne:X≠Y):(w.setCell ⟨Y,i,none⟩ v).heap[X]? =o:=(heap_setCell_other _ _ _ _ (by simpa using hne)).trans h
theorem OptsO.form' {W:World} {b:Nat} {v:Value} {L:List Opt} (h:OptsO W b v L): ∃A n c,v=.slice A n c:=by
 obtain⟨E,h,-⟩:=h
 obtain⟨A,c,rfl,-,-⟩:=ownsRow_form h.1
 exact⟨_,_,_,rfl⟩
theorem PksO.form' {w:World} {base:Nat} {v:Value} {out:List Pk} (h:PksO w base v out): ∃A n c,v=.slice A n c:=by
 obtain⟨P,hP,he⟩:=h
 obtain⟨A,c,rfl,-,-⟩:=ownsRow_form hP.1
 exact⟨_,_,_,rfl⟩
theorem ActsO.form' {w:World} {base:Nat} {v:Value} {l:List Int} (h:ActsO w base v l): ∃A n c,v=.slice A n c:=by
 obtain⟨A,c,rfl,-,-⟩:=ownsRow_form h
 exact⟨_,_,_,rfl⟩
theorem OptsO.oth {A C:World} {base X:Nat} {v:Value} {L:List Opt} {cur:Array Value} {e':TypeId} (h:OptsO A base v L) (hg:A.grownBy C (some X)) (hX:A.heap[X]? =some (.cells cur e' (0,0))) (h1:e'≠111) (h2:e'≠5):OptsO C base v L:=by
 obtain⟨E,h,he⟩:=h
 exact⟨E,h.other hg hX h1 h2,he⟩
theorem PksO.oth {A C:World} {base X:Nat} {v:Value} {L:List Pk} {cur:Array Value} {e':TypeId} (h:PksO A base v L) (hg:A.grownBy C (some X)) (hX:A.heap[X]? =some (.cells cur e' (0,0))) (h1:e'≠32) (h2:e'≠5):PksO C base v L:=by
 obtain⟨P,hp,he⟩:=h
 exact⟨P,⟨own_stays hp.1 hg fun r e=>by cases e;exact .inr (.inr ⟨_,_,hX,h1⟩),fun x hx=>own_stays (hp.2 x hx) hg fun r e=>by cases e;exact .inr (.inr ⟨_,_,hX,h2⟩)⟩,he⟩
theorem ActsO.oth {A C:World} {base X:Nat} {v:Value} {l:List Int} {cur:Array Value} {e':TypeId} (h:ActsO A base v l) (hg:A.grownBy C (some X)) (hX:A.heap[X]? =some (.cells cur e' (0,0))) (h1:e'≠104):ActsO C base v l:=own_stays h hg fun r e=>by cases e;exact .inr (.inr ⟨_,_,hX,h1⟩)
theorem OptsO.blw {A C:World} {b:Nat} {v:Value} {L:List Opt} (h:OptsO A b v L) (hb:Below A.heap.size A C):OptsO C b v L:=by
 obtain⟨E,h,he⟩:=h
 exact⟨E,h.below hb,he⟩
theorem PksO.blw {A C:World} {b:Nat} {v:Value} {L:List Pk} (h:PksO A b v L) (hb:Below A.heap.size A C):PksO C b v L:=by
 obtain⟨E,h,he⟩:=h
 exact⟨E,h.below hb,he⟩
theorem OptsO.bas {A:World} {b b':Nat} {v:Value} {L:List Opt} (h:OptsO A b v L) (hb:b'≤b):OptsO A b' v L:=by
 obtain⟨E,h,he⟩:=h
 exact⟨E,h.base hb,he⟩
theorem PksO.bas {A:World} {b b':Nat} {v:Value} {L:List Pk} (h:PksO A b v L) (hb:b'≤b):PksO A b' v L:=by
 obtain⟨E,h,he⟩:=h
 exact⟨E,h.base hb,he⟩
theorem within_ipcp (n lo hi:Int) (w:World):Calls Tryz.prog 72 #[.int .i64 n,.int .i64 lo,.int .i64 hi] w fun e w'=>e=.returned (.bool (inB n lo hi))∧w=w':=by
 by_cases h1:lo≤n<;>by_cases h2:n≤hi
 all_goals
  go_enter Tryz.func72,Tryz.ntmps72
  go_wp2
  go_ret
  exact⟨by simp[inB,h1,h2],rfl⟩
theorem within_it (n lo hi:Int) (w:World) (h:inB n lo hi=true):Calls Tryz.prog 72 #[.int .i64 n,.int .i64 lo,.int .i64 hi] w fun e w'=>e=.returned (.bool true)∧w=w':=by
 have:=within_ipcp n lo hi w
 rwa [h] at this
theorem within_if (n lo hi:Int) (w:World) (h:inB n lo hi=false):Calls Tryz.prog 72 #[.int .i64 n,.int .i64 lo,.int .i64 hi] w fun e w'=>e=.returned (.bool false)∧w=w':=by
 have:=within_ipcp n lo hi w
 rwa [h] at this
theorem within_q {n lo hi:Int} {w:World} {k:Nat} {b:Bool} (h:inB n lo hi=b):Calls Tryz.prog 72 #[.int .i64 n,.int .i64 lo,.int .i64 hi] (w.drewN k) fun e w'=>e=.returned (.bool b)∧ ∃m,w'=w.drewN m:=
 (within_ipcp n lo hi _).mono fun e w' ⟨he,hw⟩=>⟨by rw[he,h],k,hw.symm⟩
theorem ruleI_at {W:World} {X B:Nat} {p:Int} {T:TypeId} (hp:wf64 p) (h:W.heap[X]? =some (.cells #[.int .i64 3,.int .i64 4,.int .i64 3,.int .i64 0,.int .i64 0,.int .i64 p,.bool true] T (0,0))) (hB:X<B):RulesAt W B (some ⟨X,0,none⟩) [ruleI p]:=by
 refine⟨.inr ⟨X,0,rfl,hB,fun k hk=>?_⟩,?_⟩
 ·obtain rfl:k=0:=by simpa using hk
  exact⟨cell9 h 0 rfl,cell9 h 1 rfl,cell9 h 2 rfl,cell9 h 3 rfl,cell9 h 4 rfl,cell9 h 5 rfl,cell9 h 6 rfl⟩
 ·intro r hr
  simp only[List.mem_singleton] at hr
  subst hr
  exact⟨by unfold wf64 ruleI;simp,by unfold wf64 ruleI;simp,by unfold wf64 ruleI;simp,by unfold wf64 ruleI;simp,hp⟩
def IautoP (mc mt mf wt p:Int) (w:World) (x:Ending) (w':World):Prop:=
 ∃A,x=.returned (.agg #[.slice A 1 1,.int .i64 mc,.int .i64 mt,.int .i64 mf,.int .i64 wt])∧Below w.heap.size w w'∧RulesAt w' w'.heap.size A [ruleI p]
set_option maxRecDepth 100000 in
theorem iauto_any (mr mc mt mf wt ec lo:Int) (p:Int) (hp:wf64 p) (w:World):Calls Tryz.prog 41 #[.agg #[.int .i64 mr,.int .i64 mc,.int .i64 mt,.int .i64 mf,.int .i64 wt,.int .i64 ec,.int .i64 lo],.int .i64 p] w (IautoP mc mt mf wt p w):=by
 go_enter Tryz.func41,Tryz.ntmps41
 go_wp2_with fail
 refine bodyPost_ret (v:=.agg #[.slice (some ⟨w.heap.size+1+1+1,0,none⟩) 1 1,.int .i64 mc,.int .i64 mt,.int .i64 mf,.int .i64 wt]) (by simp[results,Tryz.results41,go_sem]) rfl ⟨_,rfl,by exact bel,?_⟩
 exact ruleI_at hp (T:=136) (by exact hpa) (by simp)
set_option maxRecDepth 100000 in
theorem rauto_any (mr mc mt mf wt ec lo:Int) (p:Int) (hp:wf64 p) (w:World):Calls Tryz.prog 42 #[.agg #[.int .i64 mr,.int .i64 mc,.int .i64 mt,.int .i64 mf,.int .i64 wt,.int .i64 ec,.int .i64 lo],.int .i64 p] w (IautoP mc mt mf wt p w):=by
 go_enter Tryz.func42,Tryz.ntmps42
 go_wp2_with fail
 refine bodyPost_ret (v:=.agg #[.slice (some ⟨w.heap.size+1+1,0,none⟩) 1 1,.int .i64 mc,.int .i64 mt,.int .i64 mf,.int .i64 wt]) (by simp[results,Tryz.results42,go_sem]) rfl ⟨_,rfl,by exact bel,?_⟩
 exact ruleI_at hp (T:=136) (by exact hpa) (by simp)
theorem cells9 {W:World} {X:Nat} {a b c d e f g h i:Value} {T:TypeId} (H:W.heap[X]? =some (.cells #[a,b,c,d,e,f,g,h,i] T (0,0))):W.cell? ⟨X,0,none⟩=some a∧W.cell? ⟨X,1,none⟩=some b∧W.cell? ⟨X,2,none⟩=some c∧W.cell? ⟨X,3,none⟩=some d∧W.cell? ⟨X,4,none⟩=some e∧W.cell? ⟨X,5,none⟩=some f∧W.cell? ⟨X,6,none⟩=some g∧W.cell? ⟨X,7,none⟩=some h∧W.cell? ⟨X,8,none⟩=some i:=
 ⟨cell9 H 0 rfl,cell9 H 1 rfl,cell9 H 2 rfl,cell9 H 3 rfl,cell9 H 4 rfl,cell9 H 5 rfl,cell9 H 6 rfl,cell9 H 7 rfl,cell9 H 8 rfl⟩
def checkI (mc mt mf wt:Int) (a:Au) (own peer:Int):Int:=if okI mc mt mf wt a own peer=true then 0 else 180
set_option maxRecDepth 100000 in
theorem icheck_any (mr mc mt mf wt ec lo:Int) (st id req cnt tim nak own peer:Int) (Aa:Option Addr) (na ca:Nat) (E:List Ent) (L:List Opt) (hL:E.map Ent.o=L) (w:World) (B:Nat) (hB:B≤w.heap.size) (hE:OptsAt w B Aa E) (hna:na=E.length) (hp:wf64 peer):
  Calls Tryz.prog 37 #[.agg #[.int .i64 mr,.int .i64 mc,.int .i64 mt,.int .i64 mf,.int .i64 wt,.int .i64 ec,.int .i64 lo],.agg #[.int .i64 st,.int .i64 id,.int .i64 req,.slice Aa na ca,.int .i64 cnt,.int .i64 tim,.int .i64 nak,.int .i64 own,.int .i64 peer]] w fun x w'=>x=.returned (.int .i64 (checkI mc mt mf wt ⟨st,id,req,L,cnt,tim,nak⟩ own peer))∧Below w.heap.size w w':=by
 have HB:=hid hB
 have HE:=hid hE
 have HNA:=hid hna
 have HP:=hid hp
 have HL:=hid hL
 clear hB hE hna hp hL
 cases h1:inB own 1 4294967295
 ·have HV:=hid (show checkI mc mt mf wt ⟨st,id,req,L,cnt,tim,nak⟩ own peer=180 by simp[checkI,okI,h1])
  go_enter Tryz.func37,Tryz.ntmps37
  go_upto_region 1 with(fail)
  refine wp_w (fun W=>W.heap[w.heap.size]? =some (.cells #[.int .i64 mr,.int .i64 mc,.int .i64 mt,.int .i64 mf,.int .i64 wt,.int .i64 ec,.int .i64 lo] 64 (0,0))∧W.heap[w.heap.size+1]? =some (.cells #[.int .i64 st,.int .i64 id,.int .i64 req,.slice Aa na ca,.int .i64 cnt,.int .i64 tim,.int .i64 nak,.int .i64 own,.int .i64 peer] 60 (0,0))∧Below w.heap.size w W) ⟨by exact hpa,by exact hpa,by exact bel⟩ ?_
  rintro W1 ⟨hc,hn,hb⟩
  have HC1:=hid hc
  have HN1:=hid hn
  have HB1:=hid hb
  have hs1:=hb.size
  have lc:=lt_blk hc
  have ln:=lt_blk hn
  obtain⟨c0,c1,c2,c3,c4,c5,c6⟩:=cells7 hc
  obtain⟨n0,n1,n2,n3,n4,n5,n6,n7,n8⟩:=cells9 hn
  clear hc hn hb
  go_quiet ((go_at_call 72;exact within_q h1))
  all_goals
   go_wp2_with fail
   go_ret
   exact⟨by rw[HV.out];rfl,by have:=HB1.out;exact bel⟩
 ·cases h2:inB peer 1 4294967295
  ·have HV:=hid (show checkI mc mt mf wt ⟨st,id,req,L,cnt,tim,nak⟩ own peer=180 by simp[checkI,okI,h1,h2])
   go_enter Tryz.func37,Tryz.ntmps37
   go_upto_region 1 with(fail)
   refine wp_w (fun W=>W.heap[w.heap.size]? =some (.cells #[.int .i64 mr,.int .i64 mc,.int .i64 mt,.int .i64 mf,.int .i64 wt,.int .i64 ec,.int .i64 lo] 64 (0,0))∧W.heap[w.heap.size+1]? =some (.cells #[.int .i64 st,.int .i64 id,.int .i64 req,.slice Aa na ca,.int .i64 cnt,.int .i64 tim,.int .i64 nak,.int .i64 own,.int .i64 peer] 60 (0,0))∧Below w.heap.size w W) ⟨by exact hpa,by exact hpa,by exact bel⟩ ?_
   rintro W1 ⟨hc,hn,hb⟩
   have HC1:=hid hc
   have HN1:=hid hn
   have HB1:=hid hb
   have hs1:=hb.size
   have lc:=lt_blk hc
   have ln:=lt_blk hn
   obtain⟨c0,c1,c2,c3,c4,c5,c6⟩:=cells7 hc
   obtain⟨n0,n1,n2,n3,n4,n5,n6,n7,n8⟩:=cells9 hn
   clear hc hn hb
   go_quiet ((go_at_call 72;first|exact within_q h1|exact within_q h2))
   all_goals
    go_wp2_with fail
    go_ret
    exact⟨by rw[HV.out];rfl,by have:=HB1.out;exact bel⟩
  ·by_cases h3:confB (cfI mc mt mf wt peer)=true∧isB ⟨st,id,req,L,cnt,tim,nak⟩=true
   ·have HV:=hid (show checkI mc mt mf wt ⟨st,id,req,L,cnt,tim,nak⟩ own peer=0 by simp[checkI,okI,h1,h2,h3.1,h3.2])
    have HK:=hid (show checkE ⟨[ruleI peer],mc,mt,mf,wt⟩ ⟨st,id,req,L,cnt,tim,nak⟩=0 by unfold checkE;exact if_pos h3)
    clear h3
    go_enter Tryz.func37,Tryz.ntmps37
    go_upto_region 1 with(fail)
    refine wp_w (fun W=>W.heap[w.heap.size]? =some (.cells #[.int .i64 mr,.int .i64 mc,.int .i64 mt,.int .i64 mf,.int .i64 wt,.int .i64 ec,.int .i64 lo] 64 (0,0))∧W.heap[w.heap.size+1]? =some (.cells #[.int .i64 st,.int .i64 id,.int .i64 req,.slice Aa na ca,.int .i64 cnt,.int .i64 tim,.int .i64 nak,.int .i64 own,.int .i64 peer] 60 (0,0))∧Below w.heap.size w W) ⟨by exact hpa,by exact hpa,by exact bel⟩ ?_
    rintro W1 ⟨hc,hn,hb⟩
    have HC1:=hid hc
    have HN1:=hid hn
    have HB1:=hid hb
    have hs1:=hb.size
    have lc:=lt_blk hc
    have ln:=lt_blk hn
    obtain⟨c0,c1,c2,c3,c4,c5,c6⟩:=cells7 hc
    obtain⟨n0,n1,n2,n3,n4,n5,n6,n7,n8⟩:=cells9 hn
    clear hc hn hb
    go_region_held3 (fun w'=>w'.cell? ⟨w.heap.size,0,none⟩=some (.int .i64 mr)∧w'.cell? ⟨w.heap.size,1,none⟩=some (.int .i64 mc)∧w'.cell? ⟨w.heap.size,2,none⟩=some (.int .i64 mt)∧w'.cell? ⟨w.heap.size,3,none⟩=some (.int .i64 mf)∧w'.cell? ⟨w.heap.size,4,none⟩=some (.int .i64 wt)∧w'.cell? ⟨w.heap.size,5,none⟩=some (.int .i64 ec)∧w'.cell? ⟨w.heap.size,6,none⟩=some (.int .i64 lo)∧w'.cell? ⟨w.heap.size+1,0,none⟩=some (.int .i64 st)∧w'.cell? ⟨w.heap.size+1,1,none⟩=some (.int .i64 id)∧w'.cell? ⟨w.heap.size+1,2,none⟩=some (.int .i64 req)∧w'.cell? ⟨w.heap.size+1,3,none⟩=some (.slice Aa na ca)∧w'.cell? ⟨w.heap.size+1,4,none⟩=some (.int .i64 cnt)∧w'.cell? ⟨w.heap.size+1,5,none⟩=some (.int .i64 tim)∧w'.cell? ⟨w.heap.size+1,6,none⟩=some (.int .i64 nak)∧w'.cell? ⟨w.heap.size+1,7,none⟩=some (.int .i64 own)∧w'.cell? ⟨w.heap.size+1,8,none⟩=some (.int .i64 peer)) (first|(go_keep;done)|(go_simp;done)|(simp[go_sem];done)) (first|(go_at_call 72;refine(within_it _ _ _ _ (by assumption)).mono ?_;rintro e w9 ⟨rfl,rfl⟩)|(go_at_call 72;refine(within_if _ _ _ _ (by assumption)).mono ?_;rintro e w9 ⟨rfl,rfl⟩)|(go_at_call 41;go_must (refine(iauto_any mr mc mt mf wt ec lo peer HP.out _).mono ?_);rintro e w8 ⟨A8,rfl,hb8,hR8⟩;obtain⟨xs8,d8,rfl⟩:=ext_of hb8;have HR8:=hid hR8;clear hb8 hR8)|(go_at_call 25;go_must (refine(acheck_any A8 1 1 [ruleI peer] mc mt mf wt st id req cnt tim nak Aa na ca E L HL.out _ _ (Nat.le_refl _) (by exact(HR8.out.keep (by exact bel)).more (by simp[size_ext,grow])) rfl (by omega) (by exact(HE.out.keep (HB1.out.mono HB.out|>.trans (by have:=HB.out;exact bel))).more (by have:=HB.out;simp[size_ext,grow];omega)) HNA.out).mono ?_);rw[HK.out];rintro e w7 ⟨rfl,hb7⟩;obtain⟨xs7,d7,rfl⟩:=ext_of hb7;clear hb7))
    all_goals
     go_wp2_with fail
     go_ret
     exact⟨by rw[HV.out];rfl,by have:=HB1.out;exact bel⟩
   ·have HV:=hid (show checkI mc mt mf wt ⟨st,id,req,L,cnt,tim,nak⟩ own peer=180 by
     unfold checkI okI
     rw[if_neg (by rw[h1,h2];simpa using h3)])
    have HK:=hid (show checkE ⟨[ruleI peer],mc,mt,mf,wt⟩ ⟨st,id,req,L,cnt,tim,nak⟩=160 by unfold checkE;exact if_neg h3)
    clear h3
    go_enter Tryz.func37,Tryz.ntmps37
    go_upto_region 1 with(fail)
    refine wp_w (fun W=>W.heap[w.heap.size]? =some (.cells #[.int .i64 mr,.int .i64 mc,.int .i64 mt,.int .i64 mf,.int .i64 wt,.int .i64 ec,.int .i64 lo] 64 (0,0))∧W.heap[w.heap.size+1]? =some (.cells #[.int .i64 st,.int .i64 id,.int .i64 req,.slice Aa na ca,.int .i64 cnt,.int .i64 tim,.int .i64 nak,.int .i64 own,.int .i64 peer] 60 (0,0))∧Below w.heap.size w W) ⟨by exact hpa,by exact hpa,by exact bel⟩ ?_
    rintro W1 ⟨hc,hn,hb⟩
    have HC1:=hid hc
    have HN1:=hid hn
    have HB1:=hid hb
    have hs1:=hb.size
    have lc:=lt_blk hc
    have ln:=lt_blk hn
    obtain⟨c0,c1,c2,c3,c4,c5,c6⟩:=cells7 hc
    obtain⟨n0,n1,n2,n3,n4,n5,n6,n7,n8⟩:=cells9 hn
    clear hc hn hb
    go_region_held3 (fun w'=>w'.cell? ⟨w.heap.size,0,none⟩=some (.int .i64 mr)∧w'.cell? ⟨w.heap.size,1,none⟩=some (.int .i64 mc)∧w'.cell? ⟨w.heap.size,2,none⟩=some (.int .i64 mt)∧w'.cell? ⟨w.heap.size,3,none⟩=some (.int .i64 mf)∧w'.cell? ⟨w.heap.size,4,none⟩=some (.int .i64 wt)∧w'.cell? ⟨w.heap.size,5,none⟩=some (.int .i64 ec)∧w'.cell? ⟨w.heap.size,6,none⟩=some (.int .i64 lo)∧w'.cell? ⟨w.heap.size+1,0,none⟩=some (.int .i64 st)∧w'.cell? ⟨w.heap.size+1,1,none⟩=some (.int .i64 id)∧w'.cell? ⟨w.heap.size+1,2,none⟩=some (.int .i64 req)∧w'.cell? ⟨w.heap.size+1,3,none⟩=some (.slice Aa na ca)∧w'.cell? ⟨w.heap.size+1,4,none⟩=some (.int .i64 cnt)∧w'.cell? ⟨w.heap.size+1,5,none⟩=some (.int .i64 tim)∧w'.cell? ⟨w.heap.size+1,6,none⟩=some (.int .i64 nak)∧w'.cell? ⟨w.heap.size+1,7,none⟩=some (.int .i64 own)∧w'.cell? ⟨w.heap.size+1,8,none⟩=some (.int .i64 peer)) (first|(go_keep;done)|(go_simp;done)|(simp[go_sem];done)) (first|(go_at_call 72;refine(within_it _ _ _ _ (by assumption)).mono ?_;rintro e w9 ⟨rfl,rfl⟩)|(go_at_call 72;refine(within_if _ _ _ _ (by assumption)).mono ?_;rintro e w9 ⟨rfl,rfl⟩)|(go_at_call 41;go_must (refine(iauto_any mr mc mt mf wt ec lo peer HP.out _).mono ?_);rintro e w8 ⟨A8,rfl,hb8,hR8⟩;obtain⟨xs8,d8,rfl⟩:=ext_of hb8;have HR8:=hid hR8;clear hb8 hR8)|(go_at_call 25;go_must (refine(acheck_any A8 1 1 [ruleI peer] mc mt mf wt st id req cnt tim nak Aa na ca E L HL.out _ _ (Nat.le_refl _) (by exact(HR8.out.keep (by exact bel)).more (by simp[size_ext,grow])) rfl (by omega) (by exact(HE.out.keep (HB1.out.mono HB.out|>.trans (by have:=HB.out;exact bel))).more (by have:=HB.out;simp[size_ext,grow];omega)) HNA.out).mono ?_);rw[HK.out];rintro e w7 ⟨rfl,hb7⟩;obtain⟨xs7,d7,rfl⟩:=ext_of hb7;clear hb7))
    all_goals
     go_wp2_with fail
     go_ret
     exact⟨by rw[HV.out];rfl,by have:=HB1.out;exact bel⟩
end Go.Proofs.YtfkgmbknfnhjoaaGreat
