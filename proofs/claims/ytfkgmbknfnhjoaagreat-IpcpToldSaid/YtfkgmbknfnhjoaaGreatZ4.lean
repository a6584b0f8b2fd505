/- What an event makes of a control. -/
import Derived.Test.YtfkgmbknfnhjoaaGreatZ3
import Derived.Test.YtfkgmbknfnhjoaaGreatQ46
set_option maxHeartbeats 8000000
namespace Go.Proofs.YtfkgmbknfnhjoaaGreat
open Lib (hid)
open Go.RowKit
set_option linter.unusedSimpArgs false
set_option linter.unusedVariables false
set_option linter.ambiguousOpen false
open Ne (Rl Opt RulesAt areB wf64)
open Fs (av hasB)
def set9 (W:World) (b:Nat) (a:Au) (va vo vd:Value):World:=
 ((((((((W.setCell ⟨b,0,none⟩ (.int .i64 a.st)).setCell ⟨b,1,none⟩ (.int .i64 a.id)).setCell ⟨b,2,none⟩ (.int .i64 a.req)).setCell ⟨b,3,none⟩ va).setCell ⟨b,4,none⟩ (.int .i64 a.cnt)).setCell ⟨b,5,none⟩ (.int .i64 a.tim)).setCell ⟨b,6,none⟩ (.int .i64 a.nak)).setCell ⟨b,22,none⟩ vo).setCell ⟨b,23,none⟩ vd
theorem set9_grown (W:World) (b:Nat) (a:Au) (va vo vd:Value):W.grownBy (set9 W b a va vo vd) (some b):=
 grown_store (grown_store (grown_store (grown_store (grown_store (grown_store (grown_store (grown_store (grown_set _ _ _ _) _ _) _ _) _ _) _ _) _ _) _ _) _ _) _ _
theorem set9_gen {W:World} {b:Nat} {cs:Array Value} {T:TypeId} (h:W.heap[b]? =some (.cells cs T (0,0))) (a:Au) (va vo vd:Value):
  (set9 W b a va vo vd).heap[b]? =some (.cells (((((((((cs.setIfInBounds 0 (.int .i64 a.st)).setIfInBounds 1 (.int .i64 a.id)).setIfInBounds 2 (.int .i64 a.req)).setIfInBounds 3 va).setIfInBounds 4 (.int .i64 a.cnt)).setIfInBounds 5 (.int .i64 a.tim)).setIfInBounds 6 (.int .i64 a.nak)).setIfInBounds 22 vo).setIfInBounds 23 vd) T (0,0)):=by
 have h0:=heap_setCell_same W b 0 cs T (.int .i64 a.st) h
 have h1:=heap_setCell_same _ b 1 _ T (.int .i64 a.id) h0
 have h2:=heap_setCell_same _ b 2 _ T (.int .i64 a.req) h1
 have h3:=heap_setCell_same _ b 3 _ T va h2
 have h4:=heap_setCell_same _ b 4 _ T (.int .i64 a.cnt) h3
 have h5:=heap_setCell_same _ b 5 _ T (.int .i64 a.tim) h4
 have h6:=heap_setCell_same _ b 6 _ T (.int .i64 a.nak) h5
 have h7:=heap_setCell_same _ b 22 _ T vo h6
 have h8:=heap_setCell_same _ b 23 _ T vd h7
 exact h8
theorem set9_row {W:World} {b:Nat} {a:Au} {va vr:Value} {mc mt mf wt:Int} {a0:Au} {va0:Value} {own peer tick:Int} {vo vd:Value} (h:W.heap[b]? =some (.cells (runC a va vr mc mt mf wt a0 va0 own peer tick vo vd) 128 (0,0))) (a':Au) (va' vo' vd':Value):
  (set9 W b a' va' vo' vd').heap[b]? =some (.cells (runC a' va' vr mc mt mf wt a0 va0 own peer tick vo' vd') 128 (0,0)):=by
 rw[set9_gen h]
 unfold runC
 simp only[List.setIfInBounds_toArray,List.set_cons_zero,List.set_cons_succ]
def EventP (b:Nat) (r:Au×List Pk×List Int) (vr:Value) (mc mt mf wt:Int) (a0:Au) (va0:Value) (own peer tick:Int) (w w':World):Prop:=
 ∃va vo vd,w'.heap[b]? =some (.cells (runC r.1 va vr mc mt mf wt a0 va0 own peer tick vo vd) 128 (0,0))∧w.grownBy w' (some b)∧OptsO w' w.heap.size va r.1.ask∧PksO w' w.heap.size vo r.2.1∧ActsO w' w.heap.size vd r.2.2
theorem EventP.of {w W2 W3:World} {b:Nat} {a:Au} {va vr:Value} {mc mt mf wt:Int} {a0:Au} {va0:Value} {own peer tick:Int} {vo vd:Value} {r:Au×List Pk×List Int} {va' vo' vd':Value} (hw:Below w.heap.size w W2) (hr:W2.heap[b]? =some (.cells (runC a va vr mc mt mf wt a0 va0 own peer tick vo vd) 128 (0,0))) (hb:Below W2.heap.size W2 W3) (hO:OptsO W3 W2.heap.size va' r.1.ask) (hP:PksO W3 W2.heap.size vo' r.2.1) (hA:ActsO W3 W2.heap.size vd' r.2.2):
  EventP b r vr mc mt mf wt a0 va0 own peer tick w (set9 W3 b r.1 va' vo' vd'):=by
 have hr3:=(hb.block _ (lt_blk hr)).trans hr
 have hg:=set9_grown W3 b r.1 va' vo' vd'
 have hwb:=hw.trans (hb.mono hw.size)
 refine⟨va',vo',vd',set9_row hr3 _ _ _ _,World.grownBy.trans (b:=W3) ⟨hwb.os,hwb.tape,hwb.output,hwb.size,fun k hk _=>hwb.block k hk⟩ hg,?_,?_,?_⟩
 ·exact(hO.oth hg hr3 (by decide) (by decide)).bas hw.size
 ·exact(hP.oth hg hr3 (by decide) (by decide)).bas hw.size
 ·exact own_base (hA.oth hg hr3 (by decide)) hw.size
set_option maxRecDepth 100000 in
theorem event_any (b:Nat) (a:Au) (Aa Ar Ai:Option Addr) (na ca ni ci:Nat) (mc mt mf wt:Int) (a0:Au) (va0:Value) (own peer tick e ic ii:Int) (vo0 vd0:Value) (E:List Ent) (li:List UInt8) (w:World)
  (hrow:w.heap[b]? =some (.cells (runC a (.slice Aa na ca) (.slice Ar 1 1) mc mt mf wt a0 va0 own peer tick vo0 vd0) 128 (0,0))) (hR:RulesAt w b Ar [ruleI peer]) (B:Nat) (hBb:B≤w.heap.size) (hE:OptsAt w B Aa E) (hna:na=E.length) (hla:na≤1000000) (hda: ∀e∈E,e.d.length≤400000000) (he:E.map Ent.o=a.ask) (hI:At w B Ai (li.map bv)) (hni:ni=li.length) (hci:ni≤ci) (hli:ni≤400000000) (hvo: ∃A n c,vo0=.slice A n c) (hvd: ∃A n c,vd0=.slice A n c):
  Calls Tryz.prog 71 #[.pointer (some ⟨b,0,none⟩),.int .i64 e,.agg #[.int .i64 ic,.int .i64 ii,.slice Ai ni ci]] w fun x w'=>x=.returned (.tuple #[])∧EventP b (doO (cfI mc mt mf wt peer) a e ⟨ic,ii,li⟩ ⟨0,0,[]⟩ tick) (.slice Ar 1 1) mc mt mf wt a0 va0 own peer tick w w':=by
 obtain⟨A7,n7,c7,rfl⟩:=hvo
 obtain⟨A8,n8,c8,rfl⟩:=hvd
 have HR:=hid hR
 have HE:=hid hE
 have HNA:=hid hna
 have HDA:=hid hda
 have HEA:=hid he
 have HI:=hid hI
 have HNI:=hid hni
 have HBB:=hid hBb
 have HROW:=hid hrow
 have lb:=lt_blk hrow
 clear hR hE hna hda he hI hni hrow hBb
 obtain⟨r,hr⟩: ∃r,doO (cfI mc mt mf wt peer) a e ⟨ic,ii,li⟩ ⟨0,0,[]⟩ tick=r:=⟨_,rfl⟩
 have HDO:=hid hr
 rw[hr]
 clear hr
 go_enter Tryz.func71,Tryz.ntmps71
 go_upto_region 1 with(fail)
 refine wp_w (fun W=>W.heap[b]? =some (.cells (runC a (.slice Aa na ca) (.slice Ar 1 1) mc mt mf wt a0 va0 own peer tick (.slice A7 n7 c7) (.slice A8 n8 c8)) 128 (0,0))∧W.heap[w.heap.size]? =some (.cells #[.int .i64 ic,.int .i64 ii,.slice Ai ni ci] 32 (0,0))∧Below w.heap.size w W) ⟨alc_off HROW.out,heap_alloc_new _ _,by exact bel⟩ ?_
 rintro W1 ⟨hr,hk,hb⟩
 have HR1:=hid hr
 have HB1:=hid hb
 have hs1:=hb.size
 have lr:=lt_blk hr
 obtain⟨k0,k1,k2⟩:=cells3 hk
 obtain⟨⟨x0,x1,x2,x3,x4,x5,x6⟩,⟨x7,x8,x9,x10,x11⟩,-,-,x21,-,-⟩:=runC_get hr
 clear hr hk hb
 have HRW:=hid ((HR.out.keep (HB1.out.mono (Nat.le_of_lt lb))).more (show b≤W1.heap.size by omega))
 have HEW:=hid ((HE.out.keep (HB1.out.mono HBB.out)).more (show B≤W1.heap.size by have:=HBB.out;omega))
 have HIW:=hid ((HI.out.keep (HB1.out.mono HBB.out)).more (show B≤W1.heap.size by have:=HBB.out;omega))
 refine wp_region_c 18 (fun w'=>w'.cell? ⟨b,0,none⟩=some (.int .i64 a.st)∧w'.cell? ⟨b,1,none⟩=some (.int .i64 a.id)∧w'.cell? ⟨b,2,none⟩=some (.int .i64 a.req)∧w'.cell? ⟨b,3,none⟩=some (.slice Aa na ca)∧w'.cell? ⟨b,4,none⟩=some (.int .i64 a.cnt)∧w'.cell? ⟨b,5,none⟩=some (.int .i64 a.tim)∧w'.cell? ⟨b,6,none⟩=some (.int .i64 a.nak)∧w'.cell? ⟨b,7,none⟩=some (.slice Ar 1 1)∧w'.cell? ⟨b,8,none⟩=some (.int .i64 mc)∧w'.cell? ⟨b,9,none⟩=some (.int .i64 mt)∧w'.cell? ⟨b,10,none⟩=some (.int .i64 mf)∧w'.cell? ⟨b,11,none⟩=some (.int .i64 wt)∧w'.cell? ⟨b,21,none⟩=some (.int .i64 tick)∧w'.cell? ⟨w.heap.size,0,none⟩=some (.int .i64 ic)∧w'.cell? ⟨w.heap.size,1,none⟩=some (.int .i64 ii)∧w'.cell? ⟨w.heap.size,2,none⟩=some (.slice Ai ni ci)) (by kernel_rfl) (by(try dsimp only);(first|(go_keep;done)|(go_simp;done)|(simp[go_sem];done))) (fun hHeld=>?_)
 refine tkW 0 (v:=?_) (sc_of hHeld) ?_ ?_
 rotate_left
 ·(intro w;go_simp;try with_reducible rfl)
 try simp only[Act.put,List.setIfInBounds_toArray,List.set_cons_zero,List.set_cons_succ]
 refine tkW 1 (v:=?_) (sc_of hHeld) ?_ ?_
 rotate_left
 ·(intro w;go_simp;try with_reducible rfl)
 try simp only[Act.put,List.setIfInBounds_toArray,List.set_cons_zero,List.set_cons_succ]
 refine tkW 2 (v:=?_) (sc_of hHeld) ?_ ?_
 rotate_left
 ·(intro w;go_simp;try with_reducible rfl)
 try simp only[Act.put,List.setIfInBounds_toArray,List.set_cons_zero,List.set_cons_succ]
 refine tkW 3 (v:=?_) (sc_of hHeld) ?_ ?_
 rotate_left
 ·(intro w;go_simp;try with_reducible rfl)
 try simp only[Act.put,List.setIfInBounds_toArray,List.set_cons_zero,List.set_cons_succ]
 refine tkW 4 (v:=?_) (sc_of hHeld) ?_ ?_
 rotate_left
 ·(intro w;go_simp;try with_reducible rfl)
 try simp only[Act.put,List.setIfInBounds_toArray,List.set_cons_zero,List.set_cons_succ]
 refine tkW 5 (v:=?_) (sc_of hHeld) ?_ ?_
 rotate_left
 ·(intro w;go_simp;try with_reducible rfl)
 try simp only[Act.put,List.setIfInBounds_toArray,List.set_cons_zero,List.set_cons_succ]
 refine tkL 6 (v:=?_) hHeld ?_ ?_
 rotate_left
 ·(intro w h;(try dsimp only at h);go_simp;try with_reducible rfl)
 try simp only[Act.put,List.setIfInBounds_toArray,List.set_cons_zero,List.set_cons_succ]
 refine tkW 7 (v:=?_) (sc_of hHeld) ?_ ?_
 rotate_left
 ·(intro w;go_simp;try with_reducible rfl)
 try simp only[Act.put,List.setIfInBounds_toArray,List.set_cons_zero,List.set_cons_succ]
 refine tkW 8 (v:=?_) (sc_of hHeld) ?_ ?_
 rotate_left
 ·(intro w;go_simp;try with_reducible rfl)
 try simp only[Act.put,List.setIfInBounds_toArray,List.set_cons_zero,List.set_cons_succ]
 refine tkW 9 (v:=?_) (sc_of hHeld) ?_ ?_
 rotate_left
 ·(intro w;go_simp;try with_reducible rfl)
 try simp only[Act.put,List.setIfInBounds_toArray,List.set_cons_zero,List.set_cons_succ]
 refine tkL 10 (v:=?_) hHeld ?_ ?_
 rotate_left
 ·(intro w h;(try dsimp only at h);go_simp;try with_reducible rfl)
 try simp only[Act.put,List.setIfInBounds_toArray,List.set_cons_zero,List.set_cons_succ]
 refine tkW 11 (v:=?_) (sc_of hHeld) ?_ ?_
 rotate_left
 ·(intro w;go_simp;try with_reducible rfl)
 try simp only[Act.put,List.setIfInBounds_toArray,List.set_cons_zero,List.set_cons_succ]
 refine tkL 12 (v:=?_) hHeld ?_ ?_
 rotate_left
 ·(intro w h;(try dsimp only at h);go_simp;try with_reducible rfl)
 try simp only[Act.put,List.setIfInBounds_toArray,List.set_cons_zero,List.set_cons_succ]
 refine tkW 13 (v:=?_) (sc_of hHeld) ?_ ?_
 rotate_left
 ·(intro w;go_simp;try with_reducible rfl)
 try simp only[Act.put,List.setIfInBounds_toArray,List.set_cons_zero,List.set_cons_succ]
 refine tkW 14 (v:=?_) (sc_of hHeld) ?_ ?_
 rotate_left
 ·(intro w;go_simp;try with_reducible rfl)
 try simp only[Act.put,List.setIfInBounds_toArray,List.set_cons_zero,List.set_cons_succ]
 refine tkW 15 (v:=?_) (sc_of hHeld) ?_ ?_
 rotate_left
 ·(intro w;go_simp;try with_reducible rfl)
 try simp only[Act.put,List.setIfInBounds_toArray,List.set_cons_zero,List.set_cons_succ]
 refine tkW 16 (v:=?_) (sc_of hHeld) ?_ ?_
 rotate_left
 ·(intro w;go_simp;try with_reducible rfl)
 try simp only[Act.put,List.setIfInBounds_toArray,List.set_cons_zero,List.set_cons_succ]
 refine tkL 17 (v:=?_) hHeld ?_ ?_
 rotate_left
 ·(intro w h;(try dsimp only at h);go_simp;try with_reducible rfl)
 try simp only[Act.put,List.setIfInBounds_toArray,List.set_cons_zero,List.set_cons_succ]
 refine stepP (i:=18) (o:=_) rfl (by kernel_rfl) (by kernel_rfl) (fun K hK=>?_)
 (go_simp;go_at_call 14;go_must (refine(do_any Ar Aa Ai none 1 1 na ca ni ci 0 0 [ruleI peer] mc mt mf wt a.st a.id a.req a.cnt a.tim a.nak e ic ii 0 0 tick E li [] _ W1.heap.size (by first|exact Nat.le_refl _|(simp;done)) (by exact HRW.out.keep (by exact bel)) rfl (by omega) (by exact HEW.out.keep (by exact bel)) HNA.out hla HDA.out (by exact HIW.out.keep (by exact bel)) HNI.out hci hli (At.nil _ _ _) rfl (Nat.le_refl _) (by omega)).mono ?_);rw[HEA.out,show doO ⟨[ruleI peer],mc,mt,mf,wt⟩ ⟨a.st,a.id,a.req,a.ask,a.cnt,a.tim,a.nak⟩ e ⟨ic,ii,li⟩ ⟨0,0,[]⟩ tick=r from HDO.out];unfold DoP auV;(try dsimp only);rintro x w2 ⟨va,vo,vd,rfl,hb2,hO,hP,hA⟩;obtain⟨A2,n2,c2,rfl⟩:=hO.form';obtain⟨A3,n3,c3,rfl⟩:=hP.form';obtain⟨A4,n4,c4,rfl⟩:=hA.form';have hr2:=(hb2.block _ lr).trans HR1.out;have HB2:=hid hb2;have HO2:=hid hO;have HP2:=hid hP;have HA2:=hid hA;have lb2:=lt_blk hr2;clear hb2 hO hP hA;obtain⟨⟨y0,y1,y2,y3,y4,y5,y6⟩,-,-,-,-,y22,y23⟩:=runC_get hr2;have fr:=frees hr2;clear hr2)
 refine hK.out _ _ ?_
 clear hK K
 try simp only[Act.put,List.setIfInBounds_toArray,List.set_cons_zero,List.set_cons_succ]
 refine tkW 19 (v:=?_) (sc_past (by kernel_rfl)) ?_ ?_
 rotate_left
 ·(intro w;go_simp;try with_reducible rfl)
 try simp only[Act.put,List.setIfInBounds_toArray,List.set_cons_zero,List.set_cons_succ]
 refine tkW 20 (v:=?_) (sc_past (by kernel_rfl)) ?_ ?_
 rotate_left
 ·(intro w;go_simp;try with_reducible rfl)
 try simp only[Act.put,List.setIfInBounds_toArray,List.set_cons_zero,List.set_cons_succ]
 refine tkW 21 (v:=?_) (sc_past (by kernel_rfl)) ?_ ?_
 rotate_left
 ·(intro w;go_simp;try with_reducible rfl)
 try simp only[Act.put,List.setIfInBounds_toArray,List.set_cons_zero,List.set_cons_succ]
 refine tkW 22 (v:=?_) (sc_past (by kernel_rfl)) ?_ ?_
 rotate_left
 ·(intro w;go_simp;try with_reducible rfl)
 try simp only[Act.put,List.setIfInBounds_toArray,List.set_cons_zero,List.set_cons_succ]
 refine tkW 23 (v:=?_) (sc_past (by kernel_rfl)) ?_ ?_
 rotate_left
 ·(intro w;go_simp;try with_reducible rfl)
 try simp only[Act.put,List.setIfInBounds_toArray,List.set_cons_zero,List.set_cons_succ]
 refine tkW 24 (v:=?_) (sc_past (by kernel_rfl)) ?_ ?_
 rotate_left
 ·(intro w;go_simp;try with_reducible rfl)
 try simp only[Act.put,List.setIfInBounds_toArray,List.set_cons_zero,List.set_cons_succ]
 refine stepP (i:=25) (o:=_) rfl (by kernel_rfl) (by kernel_rfl) (fun K hK=>?_)
 go_simp
 refine hK.out _ _ ?_
 clear hK K
 try simp only[Act.put,List.setIfInBounds_toArray,List.set_cons_zero,List.set_cons_succ]
 refine tkW 26 (v:=?_) (sc_past (by kernel_rfl)) ?_ ?_
 rotate_left
 ·(intro w;go_simp;try with_reducible rfl)
 try simp only[Act.put,List.setIfInBounds_toArray,List.set_cons_zero,List.set_cons_succ]
 refine tkW 27 (v:=?_) (sc_past (by kernel_rfl)) ?_ ?_
 rotate_left
 ·(intro w;go_simp;try with_reducible rfl)
 try simp only[Act.put,List.setIfInBounds_toArray,List.set_cons_zero,List.set_cons_succ]
 refine stepP (i:=28) (o:=_) rfl (by kernel_rfl) (by kernel_rfl) (fun K hK=>?_)
 go_simp
 refine hK.out _ _ ?_
 clear hK K
 try simp only[Act.put,List.setIfInBounds_toArray,List.set_cons_zero,List.set_cons_succ]
 refine tkW 29 (v:=?_) (sc_past (by kernel_rfl)) ?_ ?_
 rotate_left
 ·(intro w;go_simp;try with_reducible rfl)
 try simp only[Act.put,List.setIfInBounds_toArray,List.set_cons_zero,List.set_cons_succ]
 refine tkW 30 (v:=?_) (sc_past (by kernel_rfl)) ?_ ?_
 rotate_left
 ·(intro w;go_simp;try with_reducible rfl)
 try simp only[Act.put,List.setIfInBounds_toArray,List.set_cons_zero,List.set_cons_succ]
 refine stepP (i:=31) (o:=_) rfl (by kernel_rfl) (by kernel_rfl) (fun K hK=>?_)
 go_simp
 refine hK.out _ _ ?_
 clear hK K
 try simp only[Act.put,List.setIfInBounds_toArray,List.set_cons_zero,List.set_cons_succ]
 try simp only[Act.put,List.getElem_toArray,List.getElem_cons_zero,List.getElem_cons_succ,List.setIfInBounds_toArray,List.set_cons_zero,List.set_cons_succ]
 refine doneC (by kernel_rfl) ?_ _
 change bodyPost _ _ _ Exit.normal _ _
 refine bodyPost_end (v:=.tuple #[]) ?_ ?_ ?_
 ·simp[results,Tryz.results71,go_sem]
 ·rfl
 exact⟨rfl,EventP.of (W2:=W1.drew) HB1.out.drew HR1.out HB2.out HO2.out HP2.out HA2.out⟩
end Go.Proofs.YtfkgmbknfnhjoaaGreat
