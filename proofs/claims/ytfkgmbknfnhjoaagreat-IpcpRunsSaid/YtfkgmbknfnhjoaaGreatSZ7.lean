/- Z4 Z7 -/
import Derived.Test.YtfkgmbknfnhjoaaGreatSZ3
import Derived.Test.YtfkgmbknfnhjoaaGreatSQ46
set_option linter.all false
set_option linter.ambiguousOpen false
set_option maxHeartbeats 8000000
namespace Go.Proofs.YtfkgmbknfnhjoaaGreat
open Lib (hid)
open Go.RowKit
open Ne (Rl bF aD bM dJ)
open Fs (av hasB)
def Ow (W:World) (b:Nat) (a:Au) (va vo vd:Value):World:=
 ((((((((W.setCell ⟨b,0,none⟩ (.int .i64 a.st)).setCell ⟨b,1,none⟩ (.int .i64 a.id)).setCell ⟨b,2,none⟩ (.int .i64 a.req)).setCell ⟨b,3,none⟩ va).setCell ⟨b,4,none⟩ (.int .i64 a.cnt)).setCell ⟨b,5,none⟩ (.int .i64 a.ay)).setCell ⟨b,6,none⟩ (.int .i64 a.au)).setCell ⟨b,22,none⟩ vo).setCell ⟨b,23,none⟩ vd
theorem DC (W:World) (b:Nat) (a:Au) (va vo vd:Value):W.grownBy (Ow W b a va vo vd) (some b):=
 aM (aM (aM (aM (aM (aM (aM (aM (bV _ _ _ _) _ _) _ _) _ _) _ _) _ _) _ _) _ _) _ _
theorem JG {W:World} {b:Nat} {cs:Array Value} {T:TypeId} (h:W.heap[b]? =some (.cells cs T (0,0))) (a:Au) (va vo vd:Value):
  (Ow W b a va vo vd).heap[b]? =some (.cells (((((((((cs.setIfInBounds 0 (.int .i64 a.st)).setIfInBounds 1 (.int .i64 a.id)).setIfInBounds 2 (.int .i64 a.req)).setIfInBounds 3 va).setIfInBounds 4 (.int .i64 a.cnt)).setIfInBounds 5 (.int .i64 a.ay)).setIfInBounds 6 (.int .i64 a.au)).setIfInBounds 22 vo).setIfInBounds 23 vd) T (0,0)):=by
 have h0:=heap_setCell_same W b 0 cs T (.int .i64 a.st) h
 have h1:=heap_setCell_same _ b 1 _ T (.int .i64 a.id) h0
 have h2:=heap_setCell_same _ b 2 _ T (.int .i64 a.req) h1
 have h3:=heap_setCell_same _ b 3 _ T va h2
 have h4:=heap_setCell_same _ b 4 _ T (.int .i64 a.cnt) h3
 have h5:=heap_setCell_same _ b 5 _ T (.int .i64 a.ay) h4
 have h6:=heap_setCell_same _ b 6 _ T (.int .i64 a.au) h5
 have h7:=heap_setCell_same _ b 22 _ T vo h6
 have h8:=heap_setCell_same _ b 23 _ T vd h7
 exact h8
theorem JH {W:World} {b:Nat} {a:Au} {va vr:Value} {mc mt mf wt:Int} {a0:Au} {zy:Value} {own peer tick:Int} {vo vd:Value} (h:W.heap[b]? =some (.cells (rT a va vr mc mt mf wt a0 zy own peer tick vo vd) 128 (0,0))) (a':Au) (UY U0 UZ:Value):
  (Ow W b a' UY U0 UZ).heap[b]? =some (.cells (rT a' UY vr mc mt mf wt a0 zy own peer tick U0 UZ) 128 (0,0)):=by
 rw[JG h]
 unfold rT
 simp only[aaB,aaC,aaD]
def ng (b:Nat) (r:Au×List Pk×List Int) (vr:Value) (mc mt mf wt:Int) (a0:Au) (zy:Value) (own peer tick:Int) (w w':World):Prop:=
 ∃va vo vd,w'.heap[b]? =some (.cells (rT r.1 va vr mc mt mf wt a0 zy own peer tick vo vd) 128 (0,0))∧w.grownBy w' (some b)∧bA w' w.heap.size va r.1.ask∧dP w' w.heap.size vo r.2.1∧aU w' w.heap.size vd r.2.2
theorem ng.of {w W2 W3:World} {b:Nat} {a:Au} {va vr:Value} {mc mt mf wt:Int} {a0:Au} {zy:Value} {own peer tick:Int} {vo vd:Value} {r:Au×List Pk×List Int} {UY U0 UZ:Value} (hw:Below w.heap.size w W2) (hr:W2.heap[b]? =some (.cells (rT a va vr mc mt mf wt a0 zy own peer tick vo vd) 128 (0,0))) (hb:Below W2.heap.size W2 W3) (hO:bA W3 W2.heap.size UY r.1.ask) (hP:dP W3 W2.heap.size U0 r.2.1) (hA:aU W3 W2.heap.size UZ r.2.2):
  ng b r vr mc mt mf wt a0 zy own peer tick w (Ow W3 b r.1 UY U0 UZ):=by
 have hr3:=(hb.block _ (aj hr)).trans hr
 have hg:=DC W3 b r.1 UY U0 UZ
 have hwb:=hw.trans (hb.mono hw.size)
 refine⟨UY,U0,UZ,JH hr3 _ _ _ _,World.grownBy.trans (b:=W3) ⟨hwb.os,hwb.tape,hwb.output,hwb.size,fun k hk _=>hwb.block k hk⟩ hg,?_,?_,?_⟩
 ·exact(hO.zx hg hr3 (by decide) (by decide)).yg hw.size
 ·exact(hP.zx hg hr3 (by decide) (by decide)).yg hw.size
 ·exact aK (hA.zx hg hr3 (by decide)) hw.size
set_option maxRecDepth 100000 in
theorem rE (b:Nat) (a:Au) (Aa Ar Ai:Option Addr) (na ca ni ci:Nat) (mc mt mf wt:Int) (a0:Au) (zy:Value) (own peer tick e ic ii:Int) (vo0 vd0:Value) (E:List aH) (li:List UInt8) (w:World)
  (hrow:w.heap[b]? =some (.cells (rT a (.slice Aa na ca) (.slice Ar 1 1) mc mt mf wt a0 zy own peer tick vo0 vd0) 128 (0,0))) (hR:aD w b Ar [dX peer]) (B:Nat) (hBb:B≤w.heap.size) (hE:aJ w B Aa E) (hna:na=E.length) (hla:na≤1000000) (hda: ∀e∈E,e.d.length≤400000000) (he:E.map aH.o=a.ask) (hI:At w B Ai (li.map bv)) (hni:ni=li.length) (hci:ni≤ci) (iF:ni≤400000000) (Zz: ∃A n c,vo0=.slice A n c) (hvd: ∃A n c,vd0=.slice A n c):
  Calls Tryz.prog 71 #[.pointer (some ⟨b,0,none⟩),.int .i64 e,.agg #[.int .i64 ic,.int .i64 ii,.slice Ai ni ci]] w fun x w'=>x=.returned (.tuple #[])∧ng b (jo (vY mc mt mf wt peer) a e ⟨ic,ii,li⟩ ⟨0,0,[]⟩ tick) (.slice Ar 1 1) mc mt mf wt a0 zy own peer tick w w':=by
 obtain⟨A7,n7,c7,rfl⟩:=Zz
 obtain⟨A8,n8,c8,rfl⟩:=hvd
 have HR:=hid hR
 have HE:=hid hE
 have dz:=hid hna
 have jr:=hid hda
 have Tj:=hid he
 have HI:=hid hI
 have gy:=hid hni
 have OQ:=hid hBb
 have Ev:=hid hrow
 have lb:=aj hrow
 clear hR hE hna hda he hI hni hrow hBb
 obtain⟨r,hr⟩: ∃r,jo (vY mc mt mf wt peer) a e ⟨ic,ii,li⟩ ⟨0,0,[]⟩ tick=r:=⟨_,rfl⟩
 have qg:=hid hr
 rw[hr]
 clear hr
 go_enter Tryz.func71,Tryz.ntmps71
 go_upto_region 1 with(fail)
 refine bY (fun W=>W.heap[b]? =some (.cells (rT a (.slice Aa na ca) (.slice Ar 1 1) mc mt mf wt a0 zy own peer tick (.slice A7 n7 c7) (.slice A8 n8 c8)) 128 (0,0))∧W.heap[w.heap.size]? =some (.cells #[.int .i64 ic,.int .i64 ii,.slice Ai ni ci] 32 (0,0))∧Below w.heap.size w W) ⟨kP Ev.out,heap_alloc_new _ _,by exact aA⟩ ?_
 rintro W1 ⟨hr,hk,hb⟩
 have HR1:=hid hr
 have HB1:=hid hb
 have hs1:=hb.size
 have lr:=aj hr
 obtain⟨k0,k1,k2⟩:=cells3 hk
 obtain⟨⟨x0,x1,x2,x3,x4,x5,x6⟩,⟨x7,x8,x9,x10,Xp⟩,-,-,x21,-,-⟩:=iL hr
 clear hr hk hb
 have HRW:=hid ((HR.out.keep (HB1.out.mono (Nat.le_of_lt lb))).more (show b≤W1.heap.size by omega))
 have HEW:=hid ((HE.out.keep (HB1.out.mono OQ.out)).more (show B≤W1.heap.size by have:=OQ.out;omega))
 have HIW:=hid ((HI.out.keep (HB1.out.mono OQ.out)).more (show B≤W1.heap.size by have:=OQ.out;omega))
 refine kY 18 (fun w'=>w'.cell? ⟨b,0,none⟩=some (.int .i64 a.st)∧w'.cell? ⟨b,1,none⟩=some (.int .i64 a.id)∧w'.cell? ⟨b,2,none⟩=some (.int .i64 a.req)∧w'.cell? ⟨b,3,none⟩=some (.slice Aa na ca)∧w'.cell? ⟨b,4,none⟩=some (.int .i64 a.cnt)∧w'.cell? ⟨b,5,none⟩=some (.int .i64 a.ay)∧w'.cell? ⟨b,6,none⟩=some (.int .i64 a.au)∧w'.cell? ⟨b,7,none⟩=some (.slice Ar 1 1)∧w'.cell? ⟨b,8,none⟩=some (.int .i64 mc)∧w'.cell? ⟨b,9,none⟩=some (.int .i64 mt)∧w'.cell? ⟨b,10,none⟩=some (.int .i64 mf)∧w'.cell? ⟨b,11,none⟩=some (.int .i64 wt)∧w'.cell? ⟨b,21,none⟩=some (.int .i64 tick)∧w'.cell? ⟨w.heap.size,0,none⟩=some (.int .i64 ic)∧w'.cell? ⟨w.heap.size,1,none⟩=some (.int .i64 ii)∧w'.cell? ⟨w.heap.size,2,none⟩=some (.slice Ai ni ci)) (by kernel_rfl) (by(try dsimp only);(first|(go_keep;done)|(go_simp;done)|(simp[go_sem];done))) (fun hHeld=>?_)
 refine gU 0 (v:=?_) (dK hHeld) ?_ ?_
 rotate_left
 ·(intro w;go_simp;try with_reducible rfl)
 try simp only[Act.put,aaB,aaC,aaD]
 refine gU 1 (v:=?_) (dK hHeld) ?_ ?_
 rotate_left
 ·(intro w;go_simp;try with_reducible rfl)
 try simp only[Act.put,aaB,aaC,aaD]
 refine gU 2 (v:=?_) (dK hHeld) ?_ ?_
 rotate_left
 ·(intro w;go_simp;try with_reducible rfl)
 try simp only[Act.put,aaB,aaC,aaD]
 refine gU 3 (v:=?_) (dK hHeld) ?_ ?_
 rotate_left
 ·(intro w;go_simp;try with_reducible rfl)
 try simp only[Act.put,aaB,aaC,aaD]
 refine gU 4 (v:=?_) (dK hHeld) ?_ ?_
 rotate_left
 ·(intro w;go_simp;try with_reducible rfl)
 try simp only[Act.put,aaB,aaC,aaD]
 refine gU 5 (v:=?_) (dK hHeld) ?_ ?_
 rotate_left
 ·(intro w;go_simp;try with_reducible rfl)
 try simp only[Act.put,aaB,aaC,aaD]
 refine Ko 6 (v:=?_) hHeld ?_ ?_
 rotate_left
 ·(intro w h;(try dsimp only at h);go_simp;try with_reducible rfl)
 try simp only[Act.put,aaB,aaC,aaD]
 refine gU 7 (v:=?_) (dK hHeld) ?_ ?_
 rotate_left
 ·(intro w;go_simp;try with_reducible rfl)
 try simp only[Act.put,aaB,aaC,aaD]
 refine gU 8 (v:=?_) (dK hHeld) ?_ ?_
 rotate_left
 ·(intro w;go_simp;try with_reducible rfl)
 try simp only[Act.put,aaB,aaC,aaD]
 refine gU 9 (v:=?_) (dK hHeld) ?_ ?_
 rotate_left
 ·(intro w;go_simp;try with_reducible rfl)
 try simp only[Act.put,aaB,aaC,aaD]
 refine Ko 10 (v:=?_) hHeld ?_ ?_
 rotate_left
 ·(intro w h;(try dsimp only at h);go_simp;try with_reducible rfl)
 try simp only[Act.put,aaB,aaC,aaD]
 refine gU 11 (v:=?_) (dK hHeld) ?_ ?_
 rotate_left
 ·(intro w;go_simp;try with_reducible rfl)
 try simp only[Act.put,aaB,aaC,aaD]
 refine Ko 12 (v:=?_) hHeld ?_ ?_
 rotate_left
 ·(intro w h;(try dsimp only at h);go_simp;try with_reducible rfl)
 try simp only[Act.put,aaB,aaC,aaD]
 refine gU 13 (v:=?_) (dK hHeld) ?_ ?_
 rotate_left
 ·(intro w;go_simp;try with_reducible rfl)
 try simp only[Act.put,aaB,aaC,aaD]
 refine gU 14 (v:=?_) (dK hHeld) ?_ ?_
 rotate_left
 ·(intro w;go_simp;try with_reducible rfl)
 try simp only[Act.put,aaB,aaC,aaD]
 refine gU 15 (v:=?_) (dK hHeld) ?_ ?_
 rotate_left
 ·(intro w;go_simp;try with_reducible rfl)
 try simp only[Act.put,aaB,aaC,aaD]
 refine gU 16 (v:=?_) (dK hHeld) ?_ ?_
 rotate_left
 ·(intro w;go_simp;try with_reducible rfl)
 try simp only[Act.put,aaB,aaC,aaD]
 refine Ko 17 (v:=?_) hHeld ?_ ?_
 rotate_left
 ·(intro w h;(try dsimp only at h);go_simp;try with_reducible rfl)
 try simp only[Act.put,aaB,aaC,aaD]
 refine lZ (i:=18) (o:=_) rfl (by kernel_rfl) (by kernel_rfl) (fun K hK=>?_)
 (go_simp;go_at_call 14;go_must (refine(yC Ar Aa Ai none 1 1 na ca ni ci 0 0 [dX peer] mc mt mf wt a.st a.id a.req a.cnt a.ay a.au e ic ii 0 0 tick E li [] _ W1.heap.size (by first|exact aaE _|(simp;done)) (by exact HRW.out.keep (by exact aA)) rfl (by omega) (by exact HEW.out.keep (by exact aA)) dz.out hla jr.out (by exact HIW.out.keep (by exact aA)) gy.out hci iF (At.nil _ _ _) rfl (aaE _) (by omega)).mono ?_);rw[Tj.out,show jo ⟨[dX peer],mc,mt,mf,wt⟩ ⟨a.st,a.id,a.req,a.ask,a.cnt,a.ay,a.au⟩ e ⟨ic,ii,li⟩ ⟨0,0,[]⟩ tick=r from qg.out];unfold U8 vV;(try dsimp only);rintro x w2 ⟨va,vo,vd,rfl,hb2,hO,hP,hA⟩;obtain⟨A2,n2,c2,rfl⟩:=hO.form';obtain⟨A3,n3,c3,rfl⟩:=hP.form';obtain⟨A4,n4,c4,rfl⟩:=hA.form';have hr2:=(hb2.block _ lr).trans HR1.out;have HB2:=hid hb2;have j_:=hid hO;have HP2:=hid hP;have HA2:=hid hA;have Gn:=aj hr2;clear hb2 hO hP hA;obtain⟨⟨y0,y1,y2,y3,y4,y5,y6⟩,-,-,-,-,y22,y23⟩:=iL hr2;have fr:=frees hr2;clear hr2)
 refine hK.out _ _ ?_
 clear hK K
 try simp only[Act.put,aaB,aaC,aaD]
 refine gU 19 (v:=?_) (bU (by kernel_rfl)) ?_ ?_
 rotate_left
 ·(intro w;go_simp;try with_reducible rfl)
 try simp only[Act.put,aaB,aaC,aaD]
 refine gU 20 (v:=?_) (bU (by kernel_rfl)) ?_ ?_
 rotate_left
 ·(intro w;go_simp;try with_reducible rfl)
 try simp only[Act.put,aaB,aaC,aaD]
 refine gU 21 (v:=?_) (bU (by kernel_rfl)) ?_ ?_
 rotate_left
 ·(intro w;go_simp;try with_reducible rfl)
 try simp only[Act.put,aaB,aaC,aaD]
 refine gU 22 (v:=?_) (bU (by kernel_rfl)) ?_ ?_
 rotate_left
 ·(intro w;go_simp;try with_reducible rfl)
 try simp only[Act.put,aaB,aaC,aaD]
 refine gU 23 (v:=?_) (bU (by kernel_rfl)) ?_ ?_
 rotate_left
 ·(intro w;go_simp;try with_reducible rfl)
 try simp only[Act.put,aaB,aaC,aaD]
 refine gU 24 (v:=?_) (bU (by kernel_rfl)) ?_ ?_
 rotate_left
 ·(intro w;go_simp;try with_reducible rfl)
 try simp only[Act.put,aaB,aaC,aaD]
 refine lZ (i:=25) (o:=_) rfl (by kernel_rfl) (by kernel_rfl) (fun K hK=>?_)
 go_simp
 refine hK.out _ _ ?_
 clear hK K
 try simp only[Act.put,aaB,aaC,aaD]
 refine gU 26 (v:=?_) (bU (by kernel_rfl)) ?_ ?_
 rotate_left
 ·(intro w;go_simp;try with_reducible rfl)
 try simp only[Act.put,aaB,aaC,aaD]
 refine gU 27 (v:=?_) (bU (by kernel_rfl)) ?_ ?_
 rotate_left
 ·(intro w;go_simp;try with_reducible rfl)
 try simp only[Act.put,aaB,aaC,aaD]
 refine lZ (i:=28) (o:=_) rfl (by kernel_rfl) (by kernel_rfl) (fun K hK=>?_)
 go_simp
 refine hK.out _ _ ?_
 clear hK K
 try simp only[Act.put,aaB,aaC,aaD]
 refine gU 29 (v:=?_) (bU (by kernel_rfl)) ?_ ?_
 rotate_left
 ·(intro w;go_simp;try with_reducible rfl)
 try simp only[Act.put,aaB,aaC,aaD]
 refine gU 30 (v:=?_) (bU (by kernel_rfl)) ?_ ?_
 rotate_left
 ·(intro w;go_simp;try with_reducible rfl)
 try simp only[Act.put,aaB,aaC,aaD]
 refine lZ (i:=31) (o:=_) rfl (by kernel_rfl) (by kernel_rfl) (fun K hK=>?_)
 go_simp
 refine hK.out _ _ ?_
 clear hK K
 try simp only[Act.put,aaB,aaC,aaD]
 try simp only[Act.put,List.getElem_toArray,List.getElem_cons_zero,List.getElem_cons_succ,aaB,aaC,aaD]
 refine DW (by kernel_rfl) ?_ _
 change bodyPost _ _ _ Exit.normal _ _
 refine bodyPost_end (v:=.tuple #[]) ?_ ?_ ?_
 ·simp[results,Tryz.results71,go_sem]
 ·rfl
 exact⟨rfl,ng.of (W2:=W1.drew) HB1.out.drew HR1.out HB2.out j_.out HP2.out HA2.out⟩
end Go.Proofs.YtfkgmbknfnhjoaaGreat

set_option maxHeartbeats 8000000
namespace Go.Proofs.YtfkgmbknfnhjoaaGreat
open Lib (hid)
open Go.RowKit
open Ne (Rl bF aD bM dJ)
open Fs (av hasB)
def fH (own:Int):List bF:=[(3,bX own.toNat 4)]
def tq (own:Int):Au:=⟨0,0,0,fH own,0,0,0⟩
theorem encI (own:Int):Op.encR (fH own)=([3,6]++bX own.toNat 4,0):=by
 have h1:Op.encs (fH own)=[3,6]++bX own.toNat 4:=by
  unfold Op.encs fH
  simp[Op.sV,aP]
 have h2:(fH own).all Op.okO=true:=by
  unfold fH
  simp[Op.okO,bC,aP]
 unfold Op.encR
 rw[if_neg (by simp[fH]),if_pos h2,h1,if_neg (by simp[aP])]
theorem AB (own:Int):uD (fH own)=tq own∧pE (fH own)=0:=by
 unfold uD pE
 rw[encI]
 exact⟨rfl,rfl⟩
theorem rG {n a b:Int} (h:bC n a b=true):a≤n∧n≤b:=by
 unfold bC at h
 simpa using h
def Tz (own peer:Int) (w:World) (x:Ending) (w':World):Prop:=
 ∃va,x=.returned (.tuple #[iH (tq own) va own peer,.int .i64 0])∧Below w.heap.size w w'∧bA w' w.heap.size va (fH own)
set_option maxRecDepth 100000 in
theorem Az (own peer:Int) (w:World) (h1:bC own 1 4294967295=true) (h2:bC peer 1 4294967295=true):Calls Tryz.prog 35 #[.int .i64 own,.int .i64 peer] w (Tz own peer w):=by
 have hown:=rG h1
 have HM:=hid (show Op.gI 3 4 own=true by unfold Op.gI;simp;omega)
 go_enter Tryz.func35,Tryz.ntmps35
 go_upto_region 1 with(fail)
 refine bY (fun W=>W.heap[w.heap.size]? =some (.cells #[.int .i64 0,.int .i64 0,.int .i64 0,.slice none 0 0,.int .i64 0,.int .i64 0,.int .i64 0,.int .i64 0,.int .i64 0] 60 (0,0))∧Below w.heap.size w W) ⟨heap_alloc_new _ _,by exact aA⟩ ?_
 rintro W1 ⟨hz,hb⟩
 have HZ1:=hid hz
 have HB1:=hid hb
 have hs1:=hb.size
 have lz:=aj hz
 clear hz hb
 go_wp2_with ((first|(go_at_call 72;refine(iY _ _ _ _ (by assumption)).mono ?_)|(go_at_call 72;refine(iX _ _ _ _ (by assumption)).mono ?_));rintro e w9 ⟨rfl,rfl⟩)
 refine(Op.IQ 3 4 own _ (by omega)).mono ?_
 unfold Op.wP
 rw[HM.out]
 rintro x W2 ⟨⟨t,d,a,c⟩,rfl,hb,ho,he⟩
 simp only[aH.o,Op.SF,if_true,Prod.mk.injEq] at he
 obtain⟨rfl,rfl⟩:=he
 have hl4:(bX own.toNat (4:Int).toNat).length=4:=aP own.toNat 4
 unfold aH.v at ho ⊢
 dsimp only at ho ⊢
 generalize hd:bX own.toNat (4:Int).toNat=d at ho hl4 ⊢
 have HD:=hid hd
 have hdl:d.length=4:=hl4
 rw[hdl] at ho ⊢
 obtain⟨A',c',hv,hc4,-⟩:=ownsRow_form ho
 cases hv
 have j_:=hid ho
 have HB2:=hid hb
 have hs2:=hb.size
 have HZ2:=hid ((hb.block _ lz).trans HZ1.out)
 clear hb ho hd hl4
 have HAS:=hid (show([⟨3,d,a,c⟩]:List aH).map aH.o=fH own by unfold fH;rw[←HD.out];rfl)
 go_wp2_with fail
 refine(NT (some ⟨W2.heap.size+1,0,none⟩) 1 1 [⟨3,d,a,c⟩] (fH own) HAS.out _ _ (aaE _) ⟨?_,fun e he=>?_⟩ rfl (by omega) (fun e he=>?_)).mono ?_
 ·exact(At.gW (W2.alloc _) _ _ _ (W2.heap.size+1) (by simp) (by simp[cellsE,aH.v,hdl])).more (by simp)
 ·simp only[List.mem_singleton] at he
  subst he
  exact⟨((At.bq j_.out).keep (by exact aA)).more (by simp;omega),by dsimp only;omega⟩
 ·simp only[List.mem_singleton] at he
  subst he
  dsimp only
  omega
 rw[(AB own).1,(AB own).2]
 rintro x W3 ⟨v,rfl,E4,A4,n4,c4,rfl,he,hn,hc,hb3,vR⟩
 have HB3:=hid (show Below W2.heap.size W2 W3 from Below.trans (by exact aA) (hb3.mono (by simp;omega)))
 have qR:=hid (show bA W3 W2.heap.size (.slice A4 n4 c4) (fH own) from ⟨E4,aI.base vR (by simp;omega),he⟩)
 have hs3:=HB3.out.size
 clear he hn hc hb3 vR
 unfold tq
 dsimp only
 have HZ3:=hid ((HB3.out.block _ (aj HZ2.out)).trans HZ2.out)
 have lz3:=aj HZ3.out
 have nu:=hid ((HB1.out.trans (HB2.out.mono hs1)).trans (HB3.out.mono (aaF hs1 hs2)))
 clear h1 h2 hown hdl hc4
 go_upto_region 5 with(fail)
 refine bY (fun W=>W.heap[w.heap.size]? =some (.cells #[.int .i64 0,.int .i64 0,.int .i64 0,.slice none 0 0,.int .i64 0,.int .i64 0,.int .i64 0,.int .i64 0,.int .i64 0] 60 (0,0))∧W.heap[W3.heap.size]? =some (.cells #[.int .i64 0,.int .i64 0,.int .i64 0,.slice A4 n4 c4,.int .i64 0,.int .i64 0,.int .i64 0] 29 (0,0))∧Below W3.heap.size W3 W) ⟨by exact kP HZ3.out,heap_alloc_new _ _,by exact aA⟩ ?_
 rintro W4 ⟨hz,ht,hb⟩
 have xV:=hid hz
 have fu:=hid hb
 have qU:=hid ((qR.out.vW hb).yg (b':=w.heap.size) (by omega))
 have lz4:=aj hz
 obtain⟨t0,t1,t2,t3,t4,t5,t6⟩:=aG ht
 obtain⟨z0,z1,z2,z3,z4,z5,z6,z7,z8⟩:=aL hz
 have fz:=frees hz
 clear hz ht hb
 go_wp2_with fail
 generalize hWf:World.setCell _ _ _=Wf
 have hgr:W4.grownBy Wf (some (w.heap.size)):=by rw[←hWf];exact grn
 have hrow:=(show Wf.heap[w.heap.size]? =some (.cells #[_,_,_,_,_,_,_,_,_] 60 (0,0)) by rw[←hWf];exact rR xV.out rfl _ _ _ _ _ _ _ _ _)
 clear hWf z0 z1 z2 z3 z4 z5 z6 z7 z8 fz t0 t1 t2 t3 t4 t5 t6
 obtain⟨u0,u1,u2,u3,u4,u5,u6,u7,u8⟩:=aL hrow
 refine bodyPost_ret (v:=.tuple #[iH (tq own) (.slice A4 n4 c4) own peer,.int .i64 0]) (by unfold iH tq;simp[results,Tryz.results35,go_sem,u0,u1,u2,u3,u4,u5,u6,u7,u8]) rfl ?_
 exact⟨_,rfl,Below.grown (nu.out.trans (fu.out.mono nu.out.size)) hgr (aaF nu.out.size fu.out.size) (fun k hk=>by cases hk;exact aaE _),qU.out.zx hgr xV.out (by decide) (by decide)⟩
end Go.Proofs.YtfkgmbknfnhjoaaGreat
