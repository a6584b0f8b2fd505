/- Z2 Z3 -/
import Derived.Test.YtfkgmbknfnhjoaaGreatSQ46
set_option linter.all false
set_option linter.ambiguousOpen false
set_option maxHeartbeats 8000000
namespace Go.Proofs.YtfkgmbknfnhjoaaGreat
open Lib (hid)
open Go.RowKit
open Ne (Rl bF aD bM dJ)
open Fs (av hasB)
def rT (a:Au) (va vr:Value) (mc mt mf wt:Int) (a0:Au) (zy:Value) (own peer tick:Int) (vo vd:Value):Array Value:=
 #[.int .i64 a.st,.int .i64 a.id,.int .i64 a.req,va,.int .i64 a.cnt,.int .i64 a.ay,.int .i64 a.au,vr,.int .i64 mc,.int .i64 mt,.int .i64 mf,.int .i64 wt,.int .i64 a0.st,.int .i64 a0.id,.int .i64 a0.req,zy,.int .i64 a0.cnt,.int .i64 a0.ay,.int .i64 a0.au,.int .i64 own,.int .i64 peer,.int .i64 tick,vo,vd]
theorem iL {W:World} {b:Nat} {a:Au} {va vr:Value} {mc mt mf wt:Int} {a0:Au} {zy:Value} {own peer tick:Int} {vo vd:Value} (h:W.heap[b]? =some (.cells (rT a va vr mc mt mf wt a0 zy own peer tick vo vd) 128 (0,0))):
  (W.cell? ⟨b,0,none⟩=some (.int .i64 a.st)∧W.cell? ⟨b,1,none⟩=some (.int .i64 a.id)∧W.cell? ⟨b,2,none⟩=some (.int .i64 a.req)∧W.cell? ⟨b,3,none⟩=some (va)∧W.cell? ⟨b,4,none⟩=some (.int .i64 a.cnt)∧W.cell? ⟨b,5,none⟩=some (.int .i64 a.ay)∧W.cell? ⟨b,6,none⟩=some (.int .i64 a.au))∧(W.cell? ⟨b,7,none⟩=some (vr)∧W.cell? ⟨b,8,none⟩=some (.int .i64 mc)∧W.cell? ⟨b,9,none⟩=some (.int .i64 mt)∧W.cell? ⟨b,10,none⟩=some (.int .i64 mf)∧W.cell? ⟨b,11,none⟩=some (.int .i64 wt))∧W.cell? ⟨b,19,none⟩=some (.int .i64 own)∧W.cell? ⟨b,20,none⟩=some (.int .i64 peer)∧W.cell? ⟨b,21,none⟩=some (.int .i64 tick)∧W.cell? ⟨b,22,none⟩=some (vo)∧W.cell? ⟨b,23,none⟩=some (vd):=
 ⟨⟨dU h 0 rfl,dU h 1 rfl,dU h 2 rfl,dU h 3 rfl,dU h 4 rfl,dU h 5 rfl,dU h 6 rfl⟩,⟨dU h 7 rfl,dU h 8 rfl,dU h 9 rfl,dU h 10 rfl,dU h 11 rfl⟩,dU h 19 rfl,dU h 20 rfl,dU h 21 rfl,dU h 22 rfl,dU h 23 rfl⟩
def tX (mc mt mf wt:Int) (a:Au) (va:Value) (own peer tick:Int) (w:World) (x:Ending) (w':World):Prop:=
 ∃b A,x=.returned (.tuple #[.pointer (some ⟨b,0,none⟩),.bool (iD mc mt mf wt a own peer tick)])∧Below w.heap.size w w'∧w.heap.size≤b∧w'.heap[b]? =some (.cells (rT a va (.slice A 1 1) mc mt mf wt a va own peer tick (.slice none 0 0) (.slice none 0 0)) 128 (0,0))∧aD w' b A [dX peer]
set_option maxRecDepth 100000 in
theorem kJ (mr mc mt mf wt ec lo:Int) (st id req cnt ay au own peer:Int) (Aa:Option Addr) (na ca:Nat) (tick:Int) (E:List aH) (L:List bF) (hL:E.map aH.o=L) (w:World) (B:Nat) (hB:B≤w.heap.size) (hE:aJ w B Aa E) (hna:na=E.length) (hp:dJ peer):
  Calls Tryz.prog 69 #[.agg #[.int .i64 mr,.int .i64 mc,.int .i64 mt,.int .i64 mf,.int .i64 wt,.int .i64 ec,.int .i64 lo],.agg #[.int .i64 st,.int .i64 id,.int .i64 req,.slice Aa na ca,.int .i64 cnt,.int .i64 ay,.int .i64 au,.int .i64 own,.int .i64 peer],.int .i64 tick] w (tX mc mt mf wt ⟨st,id,req,L,cnt,ay,au⟩ (.slice Aa na ca) own peer tick w):=by
 have HB:=hid hB
 have HE:=hid hE
 have dz:=hid hna
 have HP:=hid hp
 have HL:=hid hL
 clear hB hE hna hp hL
 cases h1:rO mc mt mf wt ⟨st,id,req,L,cnt,ay,au⟩ own peer
 focus
  have HV:=hid (show iD mc mt mf wt ⟨st,id,req,L,cnt,ay,au⟩ own peer tick=false by simp[iD,h1])
  have HK:=hid (show h_ mc mt mf wt ⟨st,id,req,L,cnt,ay,au⟩ own peer=180 by simp[h_,h1])
 rotate_left
 focus
  cases h2:bC tick 0 1099511627776
 focus
  have HV:=hid (show iD mc mt mf wt ⟨st,id,req,L,cnt,ay,au⟩ own peer tick=false by simp[iD,h1,h2])
  have HK:=hid (show h_ mc mt mf wt ⟨st,id,req,L,cnt,ay,au⟩ own peer=0 by simp[h_,h1])
 rotate_left
 ·have HV:=hid (show iD mc mt mf wt ⟨st,id,req,L,cnt,ay,au⟩ own peer tick=true by simp[iD,h1,h2])
  have HK:=hid (show h_ mc mt mf wt ⟨st,id,req,L,cnt,ay,au⟩ own peer=0 by simp[h_,h1])
  clear h1
  go_enter Tryz.func69,Tryz.ntmps69
  go_upto_region 1 with(fail)
  refine bY (fun W=>W.heap[w.heap.size]? =some (.cells #[.int .i64 mr,.int .i64 mc,.int .i64 mt,.int .i64 mf,.int .i64 wt,.int .i64 ec,.int .i64 lo] 64 (0,0))∧W.heap[w.heap.size+1]? =some (.cells #[.int .i64 st,.int .i64 id,.int .i64 req,.slice Aa na ca,.int .i64 cnt,.int .i64 ay,.int .i64 au,.int .i64 own,.int .i64 peer] 60 (0,0))∧Below w.heap.size w W) ⟨by exact hpa,by exact hpa,by exact aA⟩ ?_
  rintro W1 ⟨hc,hn,hb⟩
  have zi:=hid hc
  have lD:=hid hn
  have HB1:=hid hb
  have hs1:=hb.size
  have lc:=aj hc
  have ln:=aj hn
  obtain⟨c0,c1,c2,c3,c4,c5,c6⟩:=aG hc
  obtain⟨n0,n1,n2,n3,n4,n5,n6,n7,n8⟩:=aL hn
  clear hc hn hb
  go_region_held3 (fun w'=>w'.cell? ⟨w.heap.size,0,none⟩=some (.int .i64 mr)∧w'.cell? ⟨w.heap.size,1,none⟩=some (.int .i64 mc)∧w'.cell? ⟨w.heap.size,2,none⟩=some (.int .i64 mt)∧w'.cell? ⟨w.heap.size,3,none⟩=some (.int .i64 mf)∧w'.cell? ⟨w.heap.size,4,none⟩=some (.int .i64 wt)∧w'.cell? ⟨w.heap.size,5,none⟩=some (.int .i64 ec)∧w'.cell? ⟨w.heap.size,6,none⟩=some (.int .i64 lo)∧w'.cell? ⟨w.heap.size+1,0,none⟩=some (.int .i64 st)∧w'.cell? ⟨w.heap.size+1,1,none⟩=some (.int .i64 id)∧w'.cell? ⟨w.heap.size+1,2,none⟩=some (.int .i64 req)∧w'.cell? ⟨w.heap.size+1,3,none⟩=some (.slice Aa na ca)∧w'.cell? ⟨w.heap.size+1,4,none⟩=some (.int .i64 cnt)∧w'.cell? ⟨w.heap.size+1,5,none⟩=some (.int .i64 ay)∧w'.cell? ⟨w.heap.size+1,6,none⟩=some (.int .i64 au)∧w'.cell? ⟨w.heap.size+1,7,none⟩=some (.int .i64 own)∧w'.cell? ⟨w.heap.size+1,8,none⟩=some (.int .i64 peer)) (first|(go_keep;done)|(go_simp;done)|(simp[go_sem];done)) ((go_at_call 41;go_must (refine(rF mr mc mt mf wt ec lo peer HP.out _).mono ?_);rintro e w8 ⟨A8,rfl,nO,su⟩;obtain⟨yZ,d8,rfl⟩:=aB nO;have xU:=hid su;clear nO su))
  all_goals
   go_upto_region 2 with(fail)
   refine bY (fun W=>W.heap[w.heap.size]? =some (.cells #[.int .i64 mr,.int .i64 mc,.int .i64 mt,.int .i64 mf,.int .i64 wt,.int .i64 ec,.int .i64 lo] 64 (0,0))∧W.heap[w.heap.size+1]? =some (.cells #[.int .i64 st,.int .i64 id,.int .i64 req,.slice Aa na ca,.int .i64 cnt,.int .i64 ay,.int .i64 au,.int .i64 own,.int .i64 peer] 60 (0,0))∧W.heap[grow W1.heap.size yZ]? =some (.cells (rT ⟨st,id,req,L,cnt,ay,au⟩ (.slice Aa na ca) (.slice A8 1 1) mc mt mf wt ⟨st,id,req,L,cnt,ay,au⟩ (.slice Aa na ca) own peer tick (.slice none 0 0) (.slice none 0 0)) 128 (0,0))∧Below w.heap.size w W∧aD W (grow W1.heap.size yZ) A8 [dX peer]) ⟨(by exact kP ((aO _ _ _ _ lc).trans zi.out)),(by exact kP ((aO _ _ _ _ ln).trans lD.out)),(by exact aF _ _ _ (by simp[size_ext])),(by have:=HB1.out;exact aA),(by exact(xU.out.keep ((Below.refl _ _).alloc (aaE _) _)).more (by simp[size_ext]))⟩ ?_
   have nO:w.heap.size≤grow W1.heap.size yZ:=by simp only[grow];omega
   have TW:w.heap.size+1<grow W1.heap.size yZ:=by simp only[grow];omega
   generalize grow W1.heap.size yZ=b at nO TW ⊢
   clear c0 c1 c2 c3 c4 c5 c6 n0 n1 n2 n3 n4 n5 n6 n7 n8 xU
   rintro W2 ⟨hc,hn,hr,hb,hR⟩
   have HB2:=hid hb
   have hs2:=hb.size
   have HR2:=hid hR
   have HRR:=hid hr
   have lr:=aj hr
   have lc:=aj hc
   have ln:=aj hn
   obtain⟨c0,c1,c2,c3,c4,c5,c6⟩:=aG hc
   obtain⟨n0,n1,n2,n3,n4,n5,n6,n7,n8⟩:=aL hn
   clear hc hn hr hb hR
   go_wp2_with (first|(go_at_call 37;go_must (refine(pG mr mc mt mf wt ec lo st id req cnt ay au own peer Aa na ca E L HL.out _ W2.heap.size (by first|exact aaE _|(simp[size_ext,grow];done)|(simp[size_ext,grow];omega)) (by exact((HE.out.keep (HB2.out.mono HB.out)).more (by have:=HB.out;omega)).keep (by exact aA)) dz.out HP.out).mono ?_);rw[HK.out];rintro e w7 ⟨rfl,lM⟩;obtain⟨Vu,d7,rfl⟩:=aB lM;clear lM)|((first|(go_at_call 72;refine(iY _ _ _ _ (by assumption)).mono ?_)|(go_at_call 72;refine(iX _ _ _ _ (by assumption)).mono ?_));rintro e w9 ⟨rfl,rfl⟩))
   refine bodyPost_ret (v:=.tuple #[.pointer (some ⟨b,0,none⟩),.bool true]) (by simp[results,Tryz.results69,go_sem]) rfl ?_
   have hbf:=HB2.out
   exact⟨b,A8,by rw[HV.out],by exact aA,nO,(aO _ _ _ _ lr).trans HRR.out,HR2.out.keep (ru (Below.refl _ _) (Nat.le_of_lt lr) _ _)⟩
 all_goals
  clear h1
  go_enter Tryz.func69,Tryz.ntmps69
  go_upto_region 1 with(fail)
  refine bY (fun W=>W.heap[w.heap.size]? =some (.cells #[.int .i64 mr,.int .i64 mc,.int .i64 mt,.int .i64 mf,.int .i64 wt,.int .i64 ec,.int .i64 lo] 64 (0,0))∧W.heap[w.heap.size+1]? =some (.cells #[.int .i64 st,.int .i64 id,.int .i64 req,.slice Aa na ca,.int .i64 cnt,.int .i64 ay,.int .i64 au,.int .i64 own,.int .i64 peer] 60 (0,0))∧Below w.heap.size w W) ⟨by exact hpa,by exact hpa,by exact aA⟩ ?_
  rintro W1 ⟨hc,hn,hb⟩
  have zi:=hid hc
  have lD:=hid hn
  have HB1:=hid hb
  have hs1:=hb.size
  have lc:=aj hc
  have ln:=aj hn
  obtain⟨c0,c1,c2,c3,c4,c5,c6⟩:=aG hc
  obtain⟨n0,n1,n2,n3,n4,n5,n6,n7,n8⟩:=aL hn
  clear hc hn hb
  go_region_held3 (fun w'=>w'.cell? ⟨w.heap.size,0,none⟩=some (.int .i64 mr)∧w'.cell? ⟨w.heap.size,1,none⟩=some (.int .i64 mc)∧w'.cell? ⟨w.heap.size,2,none⟩=some (.int .i64 mt)∧w'.cell? ⟨w.heap.size,3,none⟩=some (.int .i64 mf)∧w'.cell? ⟨w.heap.size,4,none⟩=some (.int .i64 wt)∧w'.cell? ⟨w.heap.size,5,none⟩=some (.int .i64 ec)∧w'.cell? ⟨w.heap.size,6,none⟩=some (.int .i64 lo)∧w'.cell? ⟨w.heap.size+1,0,none⟩=some (.int .i64 st)∧w'.cell? ⟨w.heap.size+1,1,none⟩=some (.int .i64 id)∧w'.cell? ⟨w.heap.size+1,2,none⟩=some (.int .i64 req)∧w'.cell? ⟨w.heap.size+1,3,none⟩=some (.slice Aa na ca)∧w'.cell? ⟨w.heap.size+1,4,none⟩=some (.int .i64 cnt)∧w'.cell? ⟨w.heap.size+1,5,none⟩=some (.int .i64 ay)∧w'.cell? ⟨w.heap.size+1,6,none⟩=some (.int .i64 au)∧w'.cell? ⟨w.heap.size+1,7,none⟩=some (.int .i64 own)∧w'.cell? ⟨w.heap.size+1,8,none⟩=some (.int .i64 peer)) (first|(go_keep;done)|(go_simp;done)|(simp[go_sem];done)) ((go_at_call 41;go_must (refine(rF mr mc mt mf wt ec lo peer HP.out _).mono ?_);rintro e w8 ⟨A8,rfl,nO,su⟩;obtain⟨yZ,d8,rfl⟩:=aB nO;have xU:=hid su;clear nO su))
  all_goals
   go_upto_region 2 with(fail)
   refine bY (fun W=>W.heap[w.heap.size]? =some (.cells #[.int .i64 mr,.int .i64 mc,.int .i64 mt,.int .i64 mf,.int .i64 wt,.int .i64 ec,.int .i64 lo] 64 (0,0))∧W.heap[w.heap.size+1]? =some (.cells #[.int .i64 st,.int .i64 id,.int .i64 req,.slice Aa na ca,.int .i64 cnt,.int .i64 ay,.int .i64 au,.int .i64 own,.int .i64 peer] 60 (0,0))∧W.heap[grow W1.heap.size yZ]? =some (.cells (rT ⟨st,id,req,L,cnt,ay,au⟩ (.slice Aa na ca) (.slice A8 1 1) mc mt mf wt ⟨st,id,req,L,cnt,ay,au⟩ (.slice Aa na ca) own peer tick (.slice none 0 0) (.slice none 0 0)) 128 (0,0))∧Below w.heap.size w W∧aD W (grow W1.heap.size yZ) A8 [dX peer]) ⟨(by exact kP ((aO _ _ _ _ lc).trans zi.out)),(by exact kP ((aO _ _ _ _ ln).trans lD.out)),(by exact aF _ _ _ (by simp[size_ext])),(by have:=HB1.out;exact aA),(by exact(xU.out.keep ((Below.refl _ _).alloc (aaE _) _)).more (by simp[size_ext]))⟩ ?_
   have nO:w.heap.size≤grow W1.heap.size yZ:=by simp only[grow];omega
   have TW:w.heap.size+1<grow W1.heap.size yZ:=by simp only[grow];omega
   generalize grow W1.heap.size yZ=b at nO TW ⊢
   clear c0 c1 c2 c3 c4 c5 c6 n0 n1 n2 n3 n4 n5 n6 n7 n8 xU
   rintro W2 ⟨hc,hn,hr,hb,hR⟩
   have HB2:=hid hb
   have hs2:=hb.size
   have HR2:=hid hR
   have HRR:=hid hr
   have lr:=aj hr
   have lc:=aj hc
   have ln:=aj hn
   obtain⟨c0,c1,c2,c3,c4,c5,c6⟩:=aG hc
   obtain⟨n0,n1,n2,n3,n4,n5,n6,n7,n8⟩:=aL hn
   clear hc hn hr hb hR
   go_wp2_with (first|(go_at_call 37;go_must (refine(pG mr mc mt mf wt ec lo st id req cnt ay au own peer Aa na ca E L HL.out _ W2.heap.size (by first|exact aaE _|(simp[size_ext,grow];done)|(simp[size_ext,grow];omega)) (by exact((HE.out.keep (HB2.out.mono HB.out)).more (by have:=HB.out;omega)).keep (by exact aA)) dz.out HP.out).mono ?_);rw[HK.out];rintro e w7 ⟨rfl,lM⟩;obtain⟨Vu,d7,rfl⟩:=aB lM;clear lM)|((first|(go_at_call 72;refine(iY _ _ _ _ (by assumption)).mono ?_)|(go_at_call 72;refine(iX _ _ _ _ (by assumption)).mono ?_));rintro e w9 ⟨rfl,rfl⟩))
   refine bodyPost_ret (v:=.tuple #[.pointer (some ⟨b,0,none⟩),.bool false]) (by simp[results,Tryz.results69,go_sem]) rfl ?_
   have hbf:=HB2.out
   exact⟨b,A8,by rw[HV.out],by exact aA,nO,(aO _ _ _ _ lr).trans HRR.out,HR2.out.keep (ru (Below.refl _ _) (Nat.le_of_lt lr) _ _)⟩
def Wn (a:Au) (own peer:Int) (vo vd:Value) (w:World) (x:Ending) (w':World):Prop:=
 ∃va,x=.returned (.tuple #[iH a va own peer,vo,vd])∧Below w.heap.size w w'∧bA w' w.heap.size va a.ask
end Go.Proofs.YtfkgmbknfnhjoaaGreat

set_option maxHeartbeats 8000000
namespace Go.Proofs.YtfkgmbknfnhjoaaGreat
open Lib (hid)
open Go.RowKit
open Ne (Rl bF aD bM dJ)
open Fs (av hasB)
set_option maxRecDepth 100000 in
theorem gu (b:Nat) (a:Au) (Aa:Option Addr) (na ca:Nat) (vr:Value) (mc mt mf wt:Int) (a0:Au) (zy:Value) (own peer tick:Int) (vo vd:Value) (E:List aH) (w:World) (B:Nat) (hB:B≤w.heap.size) (hrow:w.heap[b]? =some (.cells (rT a (.slice Aa na ca) vr mc mt mf wt a0 zy own peer tick vo vd) 128 (0,0))) (hE:aJ w B Aa E) (hna:na=E.length) (hla:na≤1000000) (hda: ∀e∈E,e.d.length≤400000000) (he:E.map aH.o=a.ask):
  Calls Tryz.prog 70 #[.pointer (some ⟨b,0,none⟩)] w (Wn a own peer vo vd w):=by
 have HB:=hid hB
 have HR:=hid hrow
 have HE:=hid hE
 have dz:=hid hna
 have jr:=hid hda
 have Tj:=hid he
 have lb:=aj hrow
 obtain⟨⟨x0,x1,x2,x3,x4,x5,x6⟩,-⟩:=iL hrow
 clear hB hrow hE hna hda he
 go_enter Tryz.func70,Tryz.ntmps70
 go_upto_region 3 with(fail)
 refine bY (fun W=>W.heap[w.heap.size]? =some (.cells #[.int .i64 0,.int .i64 0,.int .i64 0,.slice none 0 0,.int .i64 0,.int .i64 0,.int .i64 0,.int .i64 0,.int .i64 0] 60 (0,0))∧W.heap[w.heap.size+1]? =some (.cells #[.int .i64 a.st,.int .i64 a.id,.int .i64 a.req,.slice Aa na ca,.int .i64 a.cnt,.int .i64 a.ay,.int .i64 a.au] 29 (0,0))∧Below w.heap.size w W) ⟨by exact hpa,by exact hpa,by exact aA⟩ ?_
 clear x0 x1 x2 x3 x4 x5 x6
 rintro W1 ⟨hn,ht,hb⟩
 have lD:=hid hn
 have HT1:=hid ht
 have HB1:=hid hb
 have hs1:=hb.size
 have ln:=aj hn
 have lt:=aj ht
 have x3:=(hb.cell (p:=⟨b,3,none⟩) lb).trans (iL HR.out).1.2.2.2.1
 clear hn ht hb
 go_wp2_with fail
 go_loopw [19,6] (fun i v wr=> ∃(k c2:Nat) (A2:Option Addr) (E2:List aH),k≤na∧i=.int .i64 k∧v=.slice A2 k c2∧k≤c2∧E2.map aH.o=(E.take k).map aH.o∧Below W1.heap.size W1 wr∧aI wr W1.heap.size (.slice A2 k c2) E2) (fun i _ _=>na-(intOf i).toNat)
 case atStart=>exact⟨0,0,none,[],Nat.zero_le _,rfl,rfl,aaE _,rfl,Below.refl _ _,aI.nil _ _⟩
 case round=>
  clear x3
  obtain⟨k,c2,A2,E2,hk,rfl,rfl,hkc,hE2,hbl,hown⟩:=hrel
  have HE2:=hid hE2
  have HKC:=hid hkc
  have cu:=hid hbl
  have HOW:=hid hown
  have HBA:=hid (HB1.out.trans (hbl.mono hs1))
  have Av:=hbl.size
  have HL2:=hid (show E2.length=k by have:=congrArg List.length hE2;simp at this;have h2:=dz.out;omega)
  clear hE2 hbl hown hkc
  by_cases hlt:k<na
  ·have HK:=hid (show k<E.length by have:=dz.out;omega)
   obtain⟨g,o,rfl,hgB,hx,hy⟩:=(HE.out.keep (HBA.out.mono HB.out)).get HK.out
   have qV:=hid (Ne.uM HK.out)
   obtain⟨e0,he0,hmem⟩: ∃e0,E[k]'HK.out=e0∧e0∈E:=⟨_,rfl,List.getElem_mem _⟩
   rw[he0] at hx hy qV
   have hat:=(HE.out.keep (HBA.out.mono HB.out)).2 e0 hmem
   have hdl:=jr.out e0 hmem
   obtain⟨t,d,a',ce⟩:=e0
   have hgz:g<wr.heap.size:=by have:=HB.out;omega
   have CS:(0:Int)≤(k:Int):=by omega
   have Fj:(k:Int)<(na:Int):=by omega
   have HAT:=hid hat
   unfold aH.v at hy
   simp only at hx hy hdl hat
   clear hat he0 hmem
   go_upto_region 6 with(fail)
   obtain⟨wz,hwz⟩: ∃wz,wz=wr.alloc (.cells #[.int .i64 t,.slice a' d.length ce] 111):=⟨_,rfl⟩
   rw[←hwz]
   obtain⟨T,hT⟩: ∃T,T=wr.heap.size:=⟨_,rfl⟩
   rw[←hT]
   have Iq:T<wz.heap.size:=by rw[hwz,hT];simp
   have z0:wz.cell? ⟨T,0,none⟩=some (.int .i64 t):=by rw[hwz,hT,cell_of_row _ _ 0 _ _ (0,0) (heap_alloc_new wr _)];rfl
   have z1:wz.cell? ⟨T,1,none⟩=some (.slice a' d.length ce):=by rw[hwz,hT,cell_of_row _ _ 1 _ _ (0,0) (heap_alloc_new wr _)];rfl
   have zH:=hid (show Below W1.heap.size W1 wz by rw[hwz];exact cu.out.alloc Av _)
   have Ku:=hid (show Below wr.heap.size wr wz by rw[hwz];exact(Below.refl _ _).alloc (aaE _) _)
   have hszz:=zH.out.size
   have IB:=Ku.out.size
   have O7:=hid Iq
   have hTr:T=wr.heap.size:=hT
   have zF:=hid (show At wz wz.heap.size a' (d.map bv) from(HAT.out.1.keep (Ku.out.mono (by have:=HB.out;omega))).more (by have:=HB.out;omega))
   have jU:=hid (show wr.ownsRow W1.heap.size 111 2 (.slice A2 k c2) k (cellsE E2) by have h:=HOW.out.1;rwa [HL2.out] at h)
   have HT0:=hid hTr
   have KN:=hid (show wz.heap[T]? =some (.cells #[.int .i64 t,.slice a' d.length ce] 111 (0,0)) by rw[hwz,hT];exact heap_alloc_new wr _)
   have XE:=hid (show∀g,(Value.slice A2 k c2).ownBlock=some g→g<T from fun g e=>by rw[hT];exact eY HOW.out.1 e)
   clear hwz hT hTr
   go_region_held3 (fun w'=>w'.cell? ⟨T,0,none⟩=some (.int .i64 t)∧w'.cell? ⟨T,1,none⟩=some (.slice a' d.length ce)) (first|(go_keep;done)|(go_simp;done)|(simp[go_sem];done)) (first|((refine gT wz rfl (.tmp 26) (.tmp 28) 30 rfl 5 Tryz.underlying30 (.int .u8 0) 1 1 dW rfl (by decide) (by decide) (.slice (some ⟨wz.heap.size,0,none⟩) 0 0) 0 [] rfl (by exact oz wz wz.heap.size 5 1 (aaE _)) wz.heap.size a' d.length ce (d.map bv) rfl (by simp) (by omega) (by exact zF.out.keep (by exact aA)) (yw _) (by exact aA) ?_);intro A3 c3 w2 ho2 hc2 hb2 hg2;simp only[Nat.zero_add,List.nil_append] at ho2;have j_:=hid ho2;have HB2:=hid hb2;have hsz2:=hb2.size;have q0:w2.cell? ⟨T,0,none⟩=some (.int .i64 t):=(hb2.cell (p:=⟨T,_,none⟩) Iq).trans z0;have q1:w2.cell? ⟨T,1,none⟩=some (.slice a' d.length ce):=(hb2.cell (p:=⟨T,_,none⟩) Iq).trans z1;clear ho2 hc2 hb2 hg2)|((refine gT W1 rfl (.tmp 23) (.tmp 31) 25 rfl 111 Tryz.underlying25 (.agg #[.int .i64 0,.slice none 0 0]) 2 32 dV rfl (by decide) (by decide) (.slice A2 k c2) k (cellsE E2) rfl (by exact own_below jU.out (by have:=HB2.out;have:=Ku.out;exact aA)) (w2.heap.size+1) (some ⟨w2.heap.size,0,none⟩) 1 1 [.int .i64 t,.slice A3 d.length c3] rfl rfl (by omega) (by exact At.gW _ _ _ _ _ rfl rfl) (by intro u hu;simp at hu;rcases hu with rfl|rfl<;>rfl) (by have h1:=zH.out;have h2:=HB2.out;exact aA) ?_);intro A4 c4 w3 ho3 hc3 hb3 hg3;have gZ:=hid ho3;have HB3:=hid hb3;have sQ:=hid hg3;have zk:=hid hc3;have HT3:=hid (show w3.heap[T]? =some (.cells #[.int .i64 t,.slice a' d.length ce] 111 (0,0)) from(hg3.block T (by have:=O7.out;simp;omega) (fun e=>by have:=XE.out T e.symm;omega)).trans ((Below.heap_alloc w2 _ T (by have:=O7.out;omega)).trans ((HB2.out.block T O7.out).trans KN.out)));have q0:w3.cell? ⟨T,0,none⟩=some (.int .i64 t):=(cell_of_row _ _ 0 _ _ (0,0) HT3.out).trans rfl;have q1:w3.cell? ⟨T,1,none⟩=some (.slice a' d.length ce):=(cell_of_row _ _ 1 _ _ (0,0) HT3.out).trans rfl;clear ho3 hc3 hb3 hg3))
   all_goals
    have uf:=hid (aI.pushed (tt:=t) (dd:=d) (A2:=A3) (c2:=c3) (HOW.out.below (Ku.out.trans (HB2.out.mono IB|>.trans (Below.alloc (Below.refl _ w2) (by omega) _)))) (own_below (aK j_.out (show W1.heap.size≤wz.heap.size by omega)) (Below.alloc (Below.refl _ w2) (aaE _) _)) (by rw[HL2.out];exact gZ.out) sQ.out)
    go_wp2_with fail
    go_roundw
    case rel=>exact⟨k+1,c4,A4,_,by omega,by go_num,rfl,zk.out,by rw[List.map_append,HE2.out,qV.out];rfl,HB3.out,uf.out⟩
    case measure=>simp[intOf];omega
  ·obtain rfl:na=k:=by omega
   have HOF:=hid (show bA wr w.heap.size (.slice A2 na c2) a.ask from ⟨E2,HOW.out.base hs1,by have h:=HE2.out;rw[dz.out,List.take_length] at h;exact h.trans Tj.out⟩)
   have HB2:=hid (HB1.out.trans (cu.out.mono hs1))
   have iA:=hid ((cu.out.block _ ln).trans lD.out)
   have HT2:=hid ((cu.out.block _ lt).trans HT1.out)
   have HR2:=hid ((HB2.out.block _ lb).trans HR.out)
   have Xc:=aj HT2.out
   have t3:=(aG HT2.out).2.2.2.1
   have ft:=frees HT2.out 3
   go_upto_region 9 with(fail)
   refine bY (fun W=>W.heap[w.heap.size]? =some (.cells #[.int .i64 0,.int .i64 0,.int .i64 0,.slice none 0 0,.int .i64 0,.int .i64 0,.int .i64 0,.int .i64 0,.int .i64 0] 60 (0,0))∧W.heap[w.heap.size+1]? =some (.cells #[.int .i64 a.st,.int .i64 a.id,.int .i64 a.req,.slice A2 na c2,.int .i64 a.cnt,.int .i64 a.ay,.int .i64 a.au] 29 (0,0))∧W.heap[b]? =some (.cells (rT a (.slice Aa na ca) vr mc mt mf wt a0 zy own peer tick vo vd) 128 (0,0))∧Below w.heap.size w W∧bA W w.heap.size (.slice A2 na c2) a.ask) ⟨?_,?_,?_,?_,?_⟩ ?_
   ·exact gq iA.out (by omega)
   ·exact yU HT2.out rfl
   ·exact gq HR2.out (by omega)
   ·exact HB2.out.setCell (by simp) _
   ·exact bA.zx HOF.out (bV _ _ _ _) HT2.out (by decide) (by decide)
   clear Xc t3 ft Av
   rintro W4 ⟨hn,ht,hr,hb,ho⟩
   have wL:=hid hn
   have fu:=hid hb
   have qR:=hid ho
   have hs4:=hb.size
   obtain⟨t0,t1,t2,t3,t4,t5,t6⟩:=aG ht
   obtain⟨-,-,x19,x20,-,x22,x23⟩:=iL hr
   obtain⟨z0,z1,z2,z3,z4,z5,z6,z7,z8⟩:=aL hn
   have fz:=frees hn
   have ln4:=aj hn
   have lb4:=aj hr
   have lt4:=aj ht
   have nb: ¬b=w.heap.size:=by omega
   clear hn ht hr hb ho
   go_region_held3 (fun w'=>w'.cell? ⟨w.heap.size+1,0,none⟩=some (.int .i64 a.st)∧w'.cell? ⟨w.heap.size+1,1,none⟩=some (.int .i64 a.id)∧w'.cell? ⟨w.heap.size+1,2,none⟩=some (.int .i64 a.req)∧w'.cell? ⟨w.heap.size+1,3,none⟩=some (.slice A2 na c2)∧w'.cell? ⟨w.heap.size+1,4,none⟩=some (.int .i64 a.cnt)∧w'.cell? ⟨w.heap.size+1,5,none⟩=some (.int .i64 a.ay)∧w'.cell? ⟨w.heap.size+1,6,none⟩=some (.int .i64 a.au)∧w'.cell? ⟨b,19,none⟩=some (.int .i64 own)∧w'.cell? ⟨b,20,none⟩=some (.int .i64 peer)∧w'.cell? ⟨b,22,none⟩=some vo∧w'.cell? ⟨b,23,none⟩=some vd) (first|(go_keep;done)|(go_simp;done)|(simp[go_sem];done)) (fail)
   all_goals
    go_wp2_with fail
    generalize hWf:World.setCell _ _ _=Wf
    have hgr:W4.grownBy Wf (some w.heap.size):=by rw[←hWf];exact grn
    have hrow:Wf.heap[w.heap.size]? =some (.cells #[.int .i64 a.st,.int .i64 a.id,.int .i64 a.req,.slice A2 na c2,.int .i64 a.cnt,.int .i64 a.ay,.int .i64 a.au,.int .i64 own,.int .i64 peer] 60 (0,0)):=by rw[←hWf];exact rR wL.out rfl _ _ _ _ _ _ _ _ _
    clear hWf t0 t1 t2 t3 t4 t5 t6 x19 x20 x22 x23 z0 z1 z2 z3 z4 z5 z6 z7 z8 fz
    obtain⟨u0,u1,u2,u3,u4,u5,u6,u7,u8⟩:=aL hrow
    refine bodyPost_ret (v:=.tuple #[iH a (.slice A2 na c2) own peer,vo,vd]) (by unfold iH;simp[results,Tryz.results70,go_sem,u0,u1,u2,u3,u4,u5,u6,u7,u8]) rfl ?_
    exact⟨.slice A2 na c2,rfl,(Below.grown fu.out hgr hs4 (fun k hk=>by cases hk;exact aaE _)).drew,qR.out.zx (uQ hgr) wL.out (by decide) (by decide)⟩
end Go.Proofs.YtfkgmbknfnhjoaaGreat
