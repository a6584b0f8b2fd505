/- Z1 Q46 -/
import Derived.Test.YtfkgmbknfnhjoaaGreatSPD
import Derived.Test.YtfkgmbknfnhjoaaGreatSA
import Derived.Orders
import Derived.Deep.RegionHeld3
set_option linter.all false
set_option linter.ambiguousOpen false
set_option maxHeartbeats 8000000
namespace Go.Proofs.YtfkgmbknfnhjoaaGreat
open Lib (hid)
open Go.RowKit
open Ne (Rl bF aD bM dJ)
open Fs (av hasB)
theorem kP {w:World} {X:Nat} {o obj:Obj} (h:w.heap[X]? =some o):(w.alloc obj).heap[X]? =some o:=(Below.heap_alloc w obj X (aj h)).trans h
theorem rR {w:World} {X:Nat} {cs:Array Value} {T:TypeId} (h:w.heap[X]? =some (.cells cs T (0,0))) (hc:cs.size=9) (a b c d e f g i j:Value):
  (((((((((w.setCell ⟨X,0,none⟩ a).setCell ⟨X,1,none⟩ b).setCell ⟨X,2,none⟩ c).setCell ⟨X,3,none⟩ d).setCell ⟨X,4,none⟩ e).setCell ⟨X,5,none⟩ f).setCell ⟨X,6,none⟩ g).setCell ⟨X,7,none⟩ i).setCell ⟨X,8,none⟩ j).heap[X]? =some (.cells #[a,b,c,d,e,f,g,i,j] T (0,0)):=by
 obtain⟨l⟩:=cs
 match l,hc with
 |[x0,x1,x2,x3,x4,x5,x6,x7,x8],_=>
  exact(heap_setCell_same _ X 8 _ _ _ (heap_setCell_same _ X 7 _ _ _ (heap_setCell_same _ X 6 _ _ _ (heap_setCell_same _ X 5 _ _ _ (heap_setCell_same _ X 4 _ _ _ (heap_setCell_same _ X 3 _ _ _ (heap_setCell_same _ X 2 _ _ _ (heap_setCell_same _ X 1 _ _ _ (heap_setCell_same _ X 0 _ _ _ h))))))))).trans (by simp only[aaB,aaC,aaD])
def dX (p:Int):Rl:=⟨3,4,3,0,0,p,true⟩
def vY (mc mt mf wt p:Int):Cf:=⟨[dX p],mc,mt,mf,wt⟩
def iH (a:Au) (va:Value) (own peer:Int):Value:=.agg #[.int .i64 a.st,.int .i64 a.id,.int .i64 a.req,va,.int .i64 a.cnt,.int .i64 a.ay,.int .i64 a.au,.int .i64 own,.int .i64 peer]
def rO (mc mt mf wt:Int) (a:Au) (own peer:Int):Bool:=bC own 1 4294967295&&(bC peer 1 4294967295&&(dA (vY mc mt mf wt peer)&&fA a))
def iD (mc mt mf wt:Int) (a:Au) (own peer tick:Int):Bool:=rO mc mt mf wt a own peer&&bC tick 0 1099511627776
theorem dU {W:World} {X:Nat} {cs:Array Value} {T:TypeId} (h:W.heap[X]? =some (.cells cs T (0,0))) (i:Nat) {v:Value} (hv:cs[i]? =some v):W.cell? ⟨X,i,none⟩=some v:=(cell_of_row W X i _ _ _ h).trans hv
theorem yU {w:World} {X i:Nat} {cs cs':Array Value} {T:TypeId} {v:Value} (h:w.heap[X]? =some (.cells cs T (0,0))) (hc:cs.setIfInBounds i v=cs'):(w.setCell ⟨X,i,none⟩ v).heap[X]? =some (.cells cs' T (0,0)):=by
 subst hc;exact heap_setCell_same w X i cs T _ h
theorem gq {w:World} {X Y i:Nat} {o:Option Obj} {v:Value} (h:w.heap[X]? =o) (hne:X≠Y):(w.setCell ⟨Y,i,none⟩ v).heap[X]? =o:=(heap_setCell_other _ _ _ _ (by simpa using hne)).trans h
theorem bA.form' {W:World} {b:Nat} {v:Value} {L:List bF} (h:bA W b v L): ∃A n c,v=.slice A n c:=by
 obtain⟨E,h,-⟩:=h
 obtain⟨A,c,rfl,-,-⟩:=ownsRow_form h.1
 exact⟨_,_,_,rfl⟩
theorem dP.form' {w:World} {base:Nat} {v:Value} {out:List Pk} (h:dP w base v out): ∃A n c,v=.slice A n c:=by
 obtain⟨P,hP,he⟩:=h
 obtain⟨A,c,rfl,-,-⟩:=ownsRow_form hP.1
 exact⟨_,_,_,rfl⟩
theorem aU.form' {w:World} {base:Nat} {v:Value} {l:List Int} (h:aU w base v l): ∃A n c,v=.slice A n c:=by
 obtain⟨A,c,rfl,-,-⟩:=ownsRow_form h
 exact⟨_,_,_,rfl⟩
theorem bA.zx {A C:World} {base X:Nat} {v:Value} {L:List bF} {cur:Array Value} {e':TypeId} (h:bA A base v L) (hg:A.grownBy C (some X)) (hX:A.heap[X]? =some (.cells cur e' (0,0))) (h1:e'≠111) (h2:e'≠5):bA C base v L:=by
 obtain⟨E,h,he⟩:=h
 exact⟨E,h.other hg hX h1 h2,he⟩
theorem dP.zx {A C:World} {base X:Nat} {v:Value} {L:List Pk} {cur:Array Value} {e':TypeId} (h:dP A base v L) (hg:A.grownBy C (some X)) (hX:A.heap[X]? =some (.cells cur e' (0,0))) (h1:e'≠32) (h2:e'≠5):dP C base v L:=by
 obtain⟨P,hp,he⟩:=h
 exact⟨P,⟨aW hp.1 hg fun r e=>by cases e;exact .inr (.inr ⟨_,_,hX,h1⟩),fun x hx=>aW (hp.2 x hx) hg fun r e=>by cases e;exact .inr (.inr ⟨_,_,hX,h2⟩)⟩,he⟩
theorem aU.zx {A C:World} {base X:Nat} {v:Value} {l:List Int} {cur:Array Value} {e':TypeId} (h:aU A base v l) (hg:A.grownBy C (some X)) (hX:A.heap[X]? =some (.cells cur e' (0,0))) (h1:e'≠104):aU C base v l:=aW h hg fun r e=>by cases e;exact .inr (.inr ⟨_,_,hX,h1⟩)
theorem bA.vW {A C:World} {b:Nat} {v:Value} {L:List bF} (h:bA A b v L) (hb:Below A.heap.size A C):bA C b v L:=by
 obtain⟨E,h,he⟩:=h
 exact⟨E,h.below hb,he⟩
theorem dP.vW {A C:World} {b:Nat} {v:Value} {L:List Pk} (h:dP A b v L) (hb:Below A.heap.size A C):dP C b v L:=by
 obtain⟨E,h,he⟩:=h
 exact⟨E,h.below hb,he⟩
theorem bA.yg {A:World} {b b':Nat} {v:Value} {L:List bF} (h:bA A b v L) (hb:b'≤b):bA A b' v L:=by
 obtain⟨E,h,he⟩:=h
 exact⟨E,h.base hb,he⟩
theorem dP.yg {A:World} {b b':Nat} {v:Value} {L:List Pk} (h:dP A b v L) (hb:b'≤b):dP A b' v L:=by
 obtain⟨E,h,he⟩:=h
 exact⟨E,h.base hb,he⟩
theorem nX (n lo hi:Int) (w:World):Calls Tryz.prog 72 #[.int .i64 n,.int .i64 lo,.int .i64 hi] w fun e w'=>e=.returned (.bool (bC n lo hi))∧w=w':=by
 by_cases h1:lo≤n<;>by_cases h2:n≤hi
 all_goals
  go_enter Tryz.func72,Tryz.ntmps72
  go_wp2
  go_ret
  exact⟨by simp[bC,h1,h2],rfl⟩
theorem iY (n lo hi:Int) (w:World) (h:bC n lo hi=true):Calls Tryz.prog 72 #[.int .i64 n,.int .i64 lo,.int .i64 hi] w fun e w'=>e=.returned (.bool true)∧w=w':=by
 have:=nX n lo hi w
 rwa [h] at this
theorem iX (n lo hi:Int) (w:World) (h:bC n lo hi=false):Calls Tryz.prog 72 #[.int .i64 n,.int .i64 lo,.int .i64 hi] w fun e w'=>e=.returned (.bool false)∧w=w':=by
 have:=nX n lo hi w
 rwa [h] at this
theorem vK {n lo hi:Int} {w:World} {k:Nat} {b:Bool} (h:bC n lo hi=b):Calls Tryz.prog 72 #[.int .i64 n,.int .i64 lo,.int .i64 hi] (w.drewN k) fun e w'=>e=.returned (.bool b)∧ ∃m,w'=w.drewN m:=
 (nX n lo hi _).mono fun e w' ⟨he,hw⟩=>⟨by rw[he,h],k,hw.symm⟩
theorem Bc {W:World} {X B:Nat} {p:Int} {T:TypeId} (hp:dJ p) (h:W.heap[X]? =some (.cells #[.int .i64 3,.int .i64 4,.int .i64 3,.int .i64 0,.int .i64 0,.int .i64 p,.bool true] T (0,0))) (hB:X<B):aD W B (some ⟨X,0,none⟩) [dX p]:=by
 refine⟨.inr ⟨X,0,rfl,hB,fun k hk=>?_⟩,?_⟩
 ·obtain rfl:k=0:=by simpa using hk
  exact⟨dU h 0 rfl,dU h 1 rfl,dU h 2 rfl,dU h 3 rfl,dU h 4 rfl,dU h 5 rfl,dU h 6 rfl⟩
 ·intro r hr
  simp only[List.mem_singleton] at hr
  subst hr
  exact⟨by unfold dJ dX;simp,by unfold dJ dX;simp,by unfold dJ dX;simp,by unfold dJ dX;simp,hp⟩
def GX (mc mt mf wt p:Int) (w:World) (x:Ending) (w':World):Prop:=
 ∃A,x=.returned (.agg #[.slice A 1 1,.int .i64 mc,.int .i64 mt,.int .i64 mf,.int .i64 wt])∧Below w.heap.size w w'∧aD w' w'.heap.size A [dX p]
set_option maxRecDepth 100000 in
theorem rF (mr mc mt mf wt ec lo:Int) (p:Int) (hp:dJ p) (w:World):Calls Tryz.prog 41 #[.agg #[.int .i64 mr,.int .i64 mc,.int .i64 mt,.int .i64 mf,.int .i64 wt,.int .i64 ec,.int .i64 lo],.int .i64 p] w (GX mc mt mf wt p w):=by
 go_enter Tryz.func41,Tryz.ntmps41
 go_wp2_with fail
 refine bodyPost_ret (v:=.agg #[.slice (some ⟨w.heap.size+1+1+1,0,none⟩) 1 1,.int .i64 mc,.int .i64 mt,.int .i64 mf,.int .i64 wt]) (by simp[results,Tryz.results41,go_sem]) rfl ⟨_,rfl,by exact aA,?_⟩
 exact Bc hp (T:=136) (by exact hpa) (by simp)
set_option maxRecDepth 100000 in
theorem kr (mr mc mt mf wt ec lo:Int) (p:Int) (hp:dJ p) (w:World):Calls Tryz.prog 42 #[.agg #[.int .i64 mr,.int .i64 mc,.int .i64 mt,.int .i64 mf,.int .i64 wt,.int .i64 ec,.int .i64 lo],.int .i64 p] w (GX mc mt mf wt p w):=by
 go_enter Tryz.func42,Tryz.ntmps42
 go_wp2_with fail
 refine bodyPost_ret (v:=.agg #[.slice (some ⟨w.heap.size+1+1,0,none⟩) 1 1,.int .i64 mc,.int .i64 mt,.int .i64 mf,.int .i64 wt]) (by simp[results,Tryz.results42,go_sem]) rfl ⟨_,rfl,by exact aA,?_⟩
 exact Bc hp (T:=136) (by exact hpa) (by simp)
theorem aL {W:World} {X:Nat} {a b c d e f g h i:Value} {T:TypeId} (H:W.heap[X]? =some (.cells #[a,b,c,d,e,f,g,h,i] T (0,0))):W.cell? ⟨X,0,none⟩=some a∧W.cell? ⟨X,1,none⟩=some b∧W.cell? ⟨X,2,none⟩=some c∧W.cell? ⟨X,3,none⟩=some d∧W.cell? ⟨X,4,none⟩=some e∧W.cell? ⟨X,5,none⟩=some f∧W.cell? ⟨X,6,none⟩=some g∧W.cell? ⟨X,7,none⟩=some h∧W.cell? ⟨X,8,none⟩=some i:=
 ⟨dU H 0 rfl,dU H 1 rfl,dU H 2 rfl,dU H 3 rfl,dU H 4 rfl,dU H 5 rfl,dU H 6 rfl,dU H 7 rfl,dU H 8 rfl⟩
def h_ (mc mt mf wt:Int) (a:Au) (own peer:Int):Int:=if rO mc mt mf wt a own peer=true then 0 else 180
set_option maxRecDepth 100000 in
theorem pG (mr mc mt mf wt ec lo:Int) (st id req cnt ay au own peer:Int) (Aa:Option Addr) (na ca:Nat) (E:List aH) (L:List bF) (hL:E.map aH.o=L) (w:World) (B:Nat) (hB:B≤w.heap.size) (hE:aJ w B Aa E) (hna:na=E.length) (hp:dJ peer):
  Calls Tryz.prog 37 #[.agg #[.int .i64 mr,.int .i64 mc,.int .i64 mt,.int .i64 mf,.int .i64 wt,.int .i64 ec,.int .i64 lo],.agg #[.int .i64 st,.int .i64 id,.int .i64 req,.slice Aa na ca,.int .i64 cnt,.int .i64 ay,.int .i64 au,.int .i64 own,.int .i64 peer]] w fun x w'=>x=.returned (.int .i64 (h_ mc mt mf wt ⟨st,id,req,L,cnt,ay,au⟩ own peer))∧Below w.heap.size w w':=by
 have HB:=hid hB
 have HE:=hid hE
 have dz:=hid hna
 have HP:=hid hp
 have HL:=hid hL
 clear hB hE hna hp hL
 cases h1:bC own 1 4294967295
 ·have HV:=hid (show h_ mc mt mf wt ⟨st,id,req,L,cnt,ay,au⟩ own peer=180 by simp[h_,rO,h1])
  go_enter Tryz.func37,Tryz.ntmps37
  go_upto_region 1 with(fail)
  refine bY (fun W=>W.heap[w.heap.size]? =some (.cells #[.int .i64 mr,.int .i64 mc,.int .i64 mt,.int .i64 mf,.int .i64 wt,.int .i64 ec,.int .i64 lo] 64 (0,0))∧W.heap[w.heap.size+1]? =some (.cells #[.int .i64 st,.int .i64 id,.int .i64 req,.slice Aa na ca,.int .i64 cnt,.int .i64 ay,.int .i64 au,.int .i64 own,.int .i64 peer] 60 (0,0))∧Below w.heap.size w W) ⟨by exact hpa,by exact hpa,by exact aA⟩ ?_
  rintro W1 ⟨hc,hn,hb⟩
  have zi:=hid hc
  have lD:=hid hn
  have HB1:=hid hb
  have hs1:=hb.size
  have lc:=aj hc
  have ln:=aj hn
  obtain⟨c0,c1,c2,c3,c4,c5,c6⟩:=aG hc
  obtain⟨n0,n1,n2,n3,n4,n5,n6,n7,n8⟩:=aL hn
  clear hc hn hb
  go_quiet ((go_at_call 72;exact vK h1))
  all_goals
   go_wp2_with fail
   go_ret
   exact⟨by rw[HV.out];rfl,by have:=HB1.out;exact aA⟩
 focus
  cases h2:bC peer 1 4294967295
 ·have HV:=hid (show h_ mc mt mf wt ⟨st,id,req,L,cnt,ay,au⟩ own peer=180 by simp[h_,rO,h1,h2])
  go_enter Tryz.func37,Tryz.ntmps37
  go_upto_region 1 with(fail)
  refine bY (fun W=>W.heap[w.heap.size]? =some (.cells #[.int .i64 mr,.int .i64 mc,.int .i64 mt,.int .i64 mf,.int .i64 wt,.int .i64 ec,.int .i64 lo] 64 (0,0))∧W.heap[w.heap.size+1]? =some (.cells #[.int .i64 st,.int .i64 id,.int .i64 req,.slice Aa na ca,.int .i64 cnt,.int .i64 ay,.int .i64 au,.int .i64 own,.int .i64 peer] 60 (0,0))∧Below w.heap.size w W) ⟨by exact hpa,by exact hpa,by exact aA⟩ ?_
  rintro W1 ⟨hc,hn,hb⟩
  have zi:=hid hc
  have lD:=hid hn
  have HB1:=hid hb
  have hs1:=hb.size
  have lc:=aj hc
  have ln:=aj hn
  obtain⟨c0,c1,c2,c3,c4,c5,c6⟩:=aG hc
  obtain⟨n0,n1,n2,n3,n4,n5,n6,n7,n8⟩:=aL hn
  clear hc hn hb
  go_quiet ((go_at_call 72;first|exact vK h1|exact vK h2))
  all_goals
   go_wp2_with fail
   go_ret
   exact⟨by rw[HV.out];rfl,by have:=HB1.out;exact aA⟩
 focus
  by_cases h3:dA (vY mc mt mf wt peer)=true∧fA ⟨st,id,req,L,cnt,ay,au⟩=true
 focus
  have HV:=hid (show h_ mc mt mf wt ⟨st,id,req,L,cnt,ay,au⟩ own peer=0 by simp[h_,rO,h1,h2,h3.1,h3.2])
  have HK:=hid (show g_ ⟨[dX peer],mc,mt,mf,wt⟩ ⟨st,id,req,L,cnt,ay,au⟩=0 by unfold g_;exact if_pos h3)
 rotate_left
 focus
  have HV:=hid (show h_ mc mt mf wt ⟨st,id,req,L,cnt,ay,au⟩ own peer=180 by
   unfold h_ rO
   rw[if_neg (by rw[h1,h2];simpa using h3)])
  have HK:=hid (show g_ ⟨[dX peer],mc,mt,mf,wt⟩ ⟨st,id,req,L,cnt,ay,au⟩=160 by unfold g_;exact if_neg h3)
 rotate_left
 all_goals
  clear h3
  go_enter Tryz.func37,Tryz.ntmps37
  go_upto_region 1 with(fail)
  refine bY (fun W=>W.heap[w.heap.size]? =some (.cells #[.int .i64 mr,.int .i64 mc,.int .i64 mt,.int .i64 mf,.int .i64 wt,.int .i64 ec,.int .i64 lo] 64 (0,0))∧W.heap[w.heap.size+1]? =some (.cells #[.int .i64 st,.int .i64 id,.int .i64 req,.slice Aa na ca,.int .i64 cnt,.int .i64 ay,.int .i64 au,.int .i64 own,.int .i64 peer] 60 (0,0))∧Below w.heap.size w W) ⟨by exact hpa,by exact hpa,by exact aA⟩ ?_
  rintro W1 ⟨hc,hn,hb⟩
  have zi:=hid hc
  have lD:=hid hn
  have HB1:=hid hb
  have hs1:=hb.size
  have lc:=aj hc
  have ln:=aj hn
  obtain⟨c0,c1,c2,c3,c4,c5,c6⟩:=aG hc
  obtain⟨n0,n1,n2,n3,n4,n5,n6,n7,n8⟩:=aL hn
  clear hc hn hb
  go_region_held3 (fun w'=>w'.cell? ⟨w.heap.size,0,none⟩=some (.int .i64 mr)∧w'.cell? ⟨w.heap.size,1,none⟩=some (.int .i64 mc)∧w'.cell? ⟨w.heap.size,2,none⟩=some (.int .i64 mt)∧w'.cell? ⟨w.heap.size,3,none⟩=some (.int .i64 mf)∧w'.cell? ⟨w.heap.size,4,none⟩=some (.int .i64 wt)∧w'.cell? ⟨w.heap.size,5,none⟩=some (.int .i64 ec)∧w'.cell? ⟨w.heap.size,6,none⟩=some (.int .i64 lo)∧w'.cell? ⟨w.heap.size+1,0,none⟩=some (.int .i64 st)∧w'.cell? ⟨w.heap.size+1,1,none⟩=some (.int .i64 id)∧w'.cell? ⟨w.heap.size+1,2,none⟩=some (.int .i64 req)∧w'.cell? ⟨w.heap.size+1,3,none⟩=some (.slice Aa na ca)∧w'.cell? ⟨w.heap.size+1,4,none⟩=some (.int .i64 cnt)∧w'.cell? ⟨w.heap.size+1,5,none⟩=some (.int .i64 ay)∧w'.cell? ⟨w.heap.size+1,6,none⟩=some (.int .i64 au)∧w'.cell? ⟨w.heap.size+1,7,none⟩=some (.int .i64 own)∧w'.cell? ⟨w.heap.size+1,8,none⟩=some (.int .i64 peer)) (first|(go_keep;done)|(go_simp;done)|(simp[go_sem];done)) (first|(go_at_call 72;refine(iY _ _ _ _ (by assumption)).mono ?_;rintro e w9 ⟨rfl,rfl⟩)|(go_at_call 72;refine(iX _ _ _ _ (by assumption)).mono ?_;rintro e w9 ⟨rfl,rfl⟩)|(go_at_call 41;go_must (refine(rF mr mc mt mf wt ec lo peer HP.out _).mono ?_);rintro e w8 ⟨A8,rfl,nO,su⟩;obtain⟨yZ,d8,rfl⟩:=aB nO;have xU:=hid su;clear nO su)|(go_at_call 25;go_must (refine(BX A8 1 1 [dX peer] mc mt mf wt st id req cnt ay au Aa na ca E L HL.out _ _ (aaE _) (by exact(xU.out.keep (by exact aA)).more (by simp[size_ext,grow])) rfl (by omega) (by exact(HE.out.keep (HB1.out.mono HB.out|>.trans (by have:=HB.out;exact aA))).more (by have:=HB.out;simp[size_ext,grow];omega)) dz.out).mono ?_);rw[HK.out];rintro e w7 ⟨rfl,lM⟩;obtain⟨Vu,d7,rfl⟩:=aB lM;clear lM))
  all_goals
   go_wp2_with fail
   go_ret
   exact⟨by rw[HV.out];rfl,by have:=HB1.out;exact aA⟩
end Go.Proofs.YtfkgmbknfnhjoaaGreat

namespace Go.Proofs.YtfkgmbknfnhjoaaGreat
open Go.RowKit
section
variable {P:Program} {ops:Array Oper} {Q:Exit→Act→World→Prop} {md:Region.Mode} {S:World→Prop} {z:Nat}
def SC (z:Nat) (S:World→Prop) (listed:Array Bool) (w:World):Prop:=listed.getD z true=false→S w
def eF (P:Program) (md:Region.Mode) (ops:Array Oper) (Q:Exit→Act→World→Prop) (z:Nat) (S:World→Prop):Nat→Array Bool→Act→World→Prop
 |0,listed,a,w=>Region.ready md ops listed=[]∧Q .normal a w
 |fuel+1,listed,a,w=>
  (Region.ready md ops listed=[]→Q .normal a w)∧
  ∀i∈Region.ready md ops listed,wpOp P ops Q i (fun a' w'=>SC z S (listed.setIfInBounds i true) w'∧eF P md ops Q z S fuel (listed.setIfInBounds i true) a' w') a w
theorem vL: ∀(fuel:Nat) (listed:Array Bool) (a:Act) (w:World),eF P md ops Q z S fuel listed a w→wpAny P md ops Q fuel listed a w
 |0,_,_,_,h=>h
 |fuel+1,_,_,_,h=>⟨h.1,fun i hi=>wpOp_mono (fun a' w' h'=>vL fuel _ a' w' h'.2) (h.2 i hi)⟩
def mM (md:Region.Mode) (ops:Array Oper) (z i:Nat):Bool:=((ops[z]?).map fun o=>o.after.any fun e=>Region.binds md e&&e.on==i).getD false
theorem Bw {i:Nat} {o:Oper} (h:mM md ops z i=true) (ho:ops[z]? =some o): ∃e∈o.after,Region.binds md e=true∧e.on=i:=by
 unfold mM at h
 rw[ho] at h
 simp only[Option.map_some,Option.getD_some,Array.any_eq_true'] at h
 obtain⟨e,he,h2⟩:=h
 simp only[Bool.and_eq_true,beq_iff_eq] at h2
 exact⟨e,he,h2.1,h2.2⟩
theorem oF {listed:Array Bool} {i:Nat} (h:i≠z):(listed.setIfInBounds i true).getD z true=listed.getD z true:=by
 rw[Array.getD_eq_getD_getElem?,Array.getElem?_setIfInBounds_ne h,←Array.getD_eq_getD_getElem?]
theorem SC.set {listed:Array Bool} {i:Nat} {w:World} (h:i≠z) (hS:SC z S listed w):SC z S (listed.setIfInBounds i true) w:=fun h1=>hS (by rwa [oF h] at h1)
theorem qK {T:World→Prop} {i:Nat} {oi:Oper} {v:Value} (hz:i≠z) (hi:ops[i]? =some oi) (hsel: ∀(j:Nat) (o:Oper) cs b,ops[j]? =some o→o.op≠ .select cs b)
  (hQ: ∀c a w,Q (.panic c) (a.put oi.dst v) w→Q (.panic c) a w):
  ∀(fuel:Nat) (listed:Array Bool) (a:Act) (w:World),
   ((∀w,T w)∨(listed.getD z true=false∧(∀w,S w→T w)∧mM md ops z i=true))→
   (∀j oj,ops[j]? =some oj→j≠i→listed.getD j true=false→(∀e∈oj.after,Region.binds md e=true→e.on≠i)→oi.apart ops oj=true)→
   i∈Region.ready md ops listed→YieldsIf P ops T oi v a→T w→SC z S listed w→
   eF P md ops Q z S fuel (listed.setIfInBounds i true) (a.put oi.dst v) w→eF P md ops Q z S (fuel+1) listed a w:=by
 intro fuel
 induction fuel with
 |zero=>
  intro listed a w hc _ hr hy hT hS H
  refine⟨fun h=>(by rw[h] at hr;cases hr),fun j hj=>?_⟩
  by_cases hji:j=i
  ·subst hji;exact hy.wpOp hi hT ⟨hS.set hz,H⟩
  ·have:=ready_mono hj hji
   rw[H.1] at this
   cases this
 |succ fuel ih=>
  intro listed a w hc hfree hr hy hT hS H
  refine⟨fun h=>(by rw[h] at hr;cases hr),fun j hj=>?_⟩
  by_cases hji:j=i
  ·subst hji;exact hy.wpOp hi hT ⟨hS.set hz,H⟩
  ·have h1:=H.2 j (ready_mono hj hji)
   obtain⟨hjun,oj,hoj,hall⟩:=mem_ready.1 hj
   have hnot: ∀e∈oj.after,Region.binds md e=true→e.on≠i:=fun e he hb heq=>by
    have h1:=hall e he hb
    have h0:=(mem_ready.1 hr).1
    rw[heq] at h1
    rcases Nat.lt_or_ge i listed.size with h'|h'
    ·simp[h'] at h0 h1;rw[h0] at h1;cases h1
    ·simp[Array.getElem?_eq_none h'] at h1
   have h2:=wpOp_putIf hoj (hfree j oj hoj hji hjun hnot) (fun cs b=>hsel i oi cs b hi) (fun cs b=>hsel j oj cs b hoj) hQ hy h1
   have hfree': ∀k ok,ops[k]? =some ok→k≠i→(listed.setIfInBounds j true).getD k true=false→
     (∀e∈ok.after,Region.binds md e=true→e.on≠i)→oi.apart ops ok=true:=fun k ok hk hki hun hno=>by
    refine hfree k ok hk hki ?_ hno
    by_cases hjk:j=k
    ·subst hjk;exact hjun
    ·rw[getD_set_ne true hjk] at hun;exact hun
   have hback: ∀w',SC z S ((listed.setIfInBounds i true).setIfInBounds j true) w'→SC z S (listed.setIfInBounds j true) w':=fun w' h4 h5=>h4 (by
    rw[Array.setIfInBounds_comm _ _ (Ne.symm hji),oF hz];exact h5)
   have hc':(∀w,T w)∨((listed.setIfInBounds j true).getD z true=false∧(∀w,S w→T w)∧mM md ops z i=true):=by
    rcases hc with hc|⟨c1,c2,c3⟩
    ·exact .inl hc
    ·refine .inr ⟨?_,c2,c3⟩
     have hjz:j≠z:=fun e=>by
      subst e
      obtain⟨ed,he,hb,ho⟩:=Bw c3 hoj
      exact hnot ed he hb ho
     rw[oF hjz];exact c1
   refine wpOp_mono (fun a' w' h3=>⟨hback w' h3.2.1,ih (listed.setIfInBounds j true) a' w' hc' hfree' (ready_mono hr (Ne.symm hji)) h3.1 ?_ (hback w' h3.2.1) ?_⟩) h2
   ·rcases hc' with hc|⟨c1,c2,c3⟩
    ·exact hc _
    ·exact c2 _ (hback w' h3.2.1 c1)
   ·rw[Array.setIfInBounds_comm _ _ hji]
    exact h3.2.2
theorem Xl {i:Nat} {oi:Oper} {v:Value} {fuel:Nat} {listed:Array Bool} {a:Act} {w:World} (hi:ops[i]? =some oi)
  (hs:Region.noSelect ops=true) (hf:Region.free md ops listed i=true) (hr:(Region.ready md ops listed).contains i=true) (hw:(mM md ops z i&&(!listed.getD z true&&decide (i≠z)))=true)
  (hQ: ∀c a w,Q (.panic c) (a.put oi.dst v) w→Q (.panic c) a w) (hS:S w) (hg:Region.wanted oi (yielded ops a.tmps)=true) (hy: ∀w,S w→(execOp a.eval oi).run P w=.ok (.value v) w)
  (h:eF P md ops Q z S fuel (listed.setIfInBounds i true) (a.put oi.dst v) w):eF P md ops Q z S (fuel+1) listed a w:=by
 simp only[Bool.and_eq_true,Bool.not_eq_true',decide_eq_true_eq] at hw
 exact qK (T:=S) hw.2.2 hi (Region.noSelect_spec hs) hQ fuel listed a w (.inr ⟨hw.2.1,fun _ h=>h,hw.1⟩) (Region.free_spec hi hf) (by simpa using hr) (.inl ⟨hg,hy⟩) hS (fun _=>hS) h
theorem Xn {i:Nat} {oi:Oper} {v:Value} {fuel:Nat} {listed:Array Bool} {a:Act} {w:World} (hi:ops[i]? =some oi)
  (hs:Region.noSelect ops=true) (hf:Region.free md ops listed i=true) (hr:(Region.ready md ops listed).contains i=true) (hw:decide (i≠z)=true)
  (hQ: ∀c a w,Q (.panic c) (a.put oi.dst v) w→Q (.panic c) a w) (hS:SC z S listed w) (hg:Region.wanted oi (yielded ops a.tmps)=true) (hy: ∀w,(execOp a.eval oi).run P w=.ok (.value v) w)
  (h:eF P md ops Q z S fuel (listed.setIfInBounds i true) (a.put oi.dst v) w):eF P md ops Q z S (fuel+1) listed a w:=
 qK (T:=fun _=>True) (by simpa using hw) hi (Region.noSelect_spec hs) hQ fuel listed a w (.inl fun _=>trivial) (Region.free_spec hi hf) (by simpa using hr) (.inl ⟨hg,fun w _=>hy w⟩) trivial hS h
theorem SQ {i:Nat} {o:Oper} {fuel:Nat} {listed:Array Bool} {a:Act} {w:World} (ho:ops[i]? =some o) (hr:Region.ready md ops listed=[i])
  (h: ∀K':Act→World→Prop,(∀a w,SC z S (listed.setIfInBounds i true) w→eF P md ops Q z S fuel (listed.setIfInBounds i true) a w→K' a w)→if Region.wanted o (yielded ops a.tmps)=true then Oper.wp P o a w K' Q else K' (a.put o.dst undef) w):
  eF P md ops Q z S (fuel+1) listed a w:=by
 refine⟨fun h0=>(by rw[hr] at h0;cases h0),fun j hj=>?_⟩
 rw[hr,List.mem_singleton] at hj
 subst hj
 exact wpOp_step ho (fun K' hK=>h K' (fun a w hS hW=>hK a w ⟨hS,hW⟩))
theorem JL {i:Nat} {o:Oper} {fuel:Nat} {listed:Array Bool} {a:Act} {w:World} (ho:ops[i]? =some o) (hr:Region.ready md ops listed=[i])
  (h: ∀K':Act→World→Prop,Shut (∀a w,S w→(S w→eF P md ops Q z S fuel (listed.setIfInBounds i true) a w)→K' a w)→if Region.wanted o (yielded ops a.tmps)=true then Oper.wp P o a w K' Q else K' (a.put o.dst undef) w):
  eF P md ops Q z S (fuel+1) listed a w:=
 SQ ho hr fun K' hK=>h K' fun a w hS hW=>hK a w (fun _=>hS) (hW hS)
theorem lZ {i:Nat} {o:Oper} {fuel:Nat} {listed:Array Bool} {a:Act} {w:World} (ho:ops[i]? =some o) (hr:Region.ready md ops listed=[i]) (hz:(listed.setIfInBounds i true).getD z true=true)
  (h: ∀K':Act→World→Prop,Shut (∀a w,eF P md ops Q z S fuel (listed.setIfInBounds i true) a w→K' a w)→if Region.wanted o (yielded ops a.tmps)=true then Oper.wp P o a w K' Q else K' (a.put o.dst undef) w):
  eF P md ops Q z S (fuel+1) listed a w:=
 SQ ho hr fun K' hK=>h K' fun a w hW=>hK a w (fun h1=>by rw[hz] at h1;cases h1) hW
theorem DW {listed:Array Bool} {a:Act} {w:World} (hr:Region.ready md ops listed=[]) (h:Q .normal a w): ∀fuel,eF P md ops Q z S fuel listed a w
 |0=>⟨hr,h⟩
 |_+1=>⟨fun _=>h,by rw[hr];simp⟩
theorem kY {id:Nat} {a:Act} {w:World} (z:Nat) (S:World→Prop) (hm:P.follows .mixedOrders=true) (hS:S w.drew)
  (h:S w.drew→eF P .any ops Q z S ops.size (Array.replicate ops.size false) a w.drew):(Code.region id ops true).wp P Q a w:=
 wp_region_any hm (vL _ _ _ _ (h hS))
theorem dK {listed:Array Bool} {w:World} (h:S w):SC z S listed w:=fun _=>h
theorem bU {listed:Array Bool} {w:World} (h:listed.getD z true=true):SC z S listed w:=fun h1=>by rw[h] at h1;cases h1
theorem Ko (i:Nat) {oi:Oper} {v:Value} {fuel:Nat} {listed:Array Bool} {a:Act} {w:World} (hS:S w) (hy: ∀w,S w→(execOp a.eval oi).run P w=.ok (.value v) w) (h:eF P md ops Q z S fuel (listed.setIfInBounds i true) (a.put oi.dst v) w) (hi:ops[i]? =some oi:=by rfl)
  (hs:Region.noSelect ops=true:=by as_aux_lemma=>kernel_rfl) (hf:Region.free md ops listed i=true:=by as_aux_lemma=>kernel_rfl) (hr:(Region.ready md ops listed).contains i=true:=by as_aux_lemma=>kernel_rfl) (hw:(mM md ops z i&&(!listed.getD z true&&decide (i≠z)))=true:=by as_aux_lemma=>kernel_rfl)
  (hQ: ∀c a w,Q (.panic c) (a.put oi.dst v) w→Q (.panic c) a w:=by exact fun _ _ _ h=>h) (hg:Region.wanted oi (yielded ops a.tmps)=true:=by rfl):eF P md ops Q z S (fuel+1) listed a w:=Xl hi hs hf hr hw hQ hS hg hy h
theorem gU (i:Nat) {oi:Oper} {v:Value} {fuel:Nat} {listed:Array Bool} {a:Act} {w:World} (hS:SC z S listed w) (hy: ∀w,(execOp a.eval oi).run P w=.ok (.value v) w) (h:eF P md ops Q z S fuel (listed.setIfInBounds i true) (a.put oi.dst v) w) (hi:ops[i]? =some oi:=by rfl)
  (hs:Region.noSelect ops=true:=by as_aux_lemma=>kernel_rfl) (hf:Region.free md ops listed i=true:=by as_aux_lemma=>kernel_rfl) (hr:(Region.ready md ops listed).contains i=true:=by as_aux_lemma=>kernel_rfl) (hw:decide (i≠z)=true:=by as_aux_lemma=>kernel_rfl)
  (hQ: ∀c a w,Q (.panic c) (a.put oi.dst v) w→Q (.panic c) a w:=by exact fun _ _ _ h=>h) (hg:Region.wanted oi (yielded ops a.tmps)=true:=by rfl):eF P md ops Q z S (fuel+1) listed a w:=Xn hi hs hf hr hw hQ hS hg hy h
end
end Go.Proofs.YtfkgmbknfnhjoaaGreat
