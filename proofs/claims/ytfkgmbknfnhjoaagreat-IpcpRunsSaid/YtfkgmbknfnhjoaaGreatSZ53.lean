/- Z53 -/
import Derived.Test.YtfkgmbknfnhjoaaGreatSZ50
import Derived.Test.YtfkgmbknfnhjoaaGreatSZ43
import Derived.Test.YtfkgmbknfnhjoaaGreatSZ46
set_option linter.all false
set_option linter.ambiguousOpen false
set_option maxHeartbeats 16000000
namespace Go.Proofs.YtfkgmbknfnhjoaaGreat
open Lib (hid)
open Go.RowKit
open Ne (Rl bF aD bM dJ)
open Fs (av hasB)
theorem Hu {mc mt mf wt own peer e kc ki tick:Int} {a:Au} {d:Nat} {li:List UInt8} (ha:fA a=true):fA (j4 mc mt mf wt a own peer d e kc ki li tick).1=true:=by
 unfold j4
 split
 ·exact Le ha
 ·split
  ·exact Fg ha
  ·split
   ·exact xw ha
   ·exact xw ha
theorem Cr {mc mt mf wt own peer e kc ki tick:Int} {a:Au} {d:Nat} {li:List UInt8} (ha:o_ own a.ask):AZ own (j4 mc mt mf wt a own peer d e kc ki li tick):=by
 unfold j4
 split
 ·exact Fe ha
 ·split
  ·exact Aw ha
  ·split
   ·exact sD ha
   ·exact sD ha
theorem ER {mc mt mf wt own peer e kc ki tick:Int} {a:Au} {d:Nat} {li:List UInt8} (ha:a.ask.length≤1000):(j4 mc mt mf wt a own peer d e kc ki li tick).2.1.length≤13:=by
 unfold j4
 split
 ·exact(xu ..).1
 ·split
  ·exact(sF ..).1
  ·split
   ·exact(kU _ _ _ _ _ _ _ _ _ ha).1
   ·exact(kU _ _ _ _ _ _ _ _ _ ha).1
theorem wS {E:List aH} {own:Int} {L:List bF} (ha:o_ own L) (h:E.map aH.o=L):E.length≤1∧ ∀e∈E,e.d.length≤4:=by
 rcases ha with rfl|rfl
 ·have h1:=congrArg List.length h
  rw[List.length_map] at h1
  refine⟨by rw[h1];exact aaE _,fun e he=>?_⟩
  have h2:e.o∈fH own:=by rw[←h];exact List.mem_map_of_mem he
  unfold fH at h2
  simp only[List.mem_singleton] at h2
  have h3:=congrArg (fun x=>x.2.length) h2
  have h4:e.d.length=4:=by simpa[aH.o,aP] using h3
  omega
 ·obtain rfl:E=[]:=List.map_eq_nil_iff.1 h
  exact⟨by simp,fun e he=>by cases he⟩
theorem ED {own:Int} {L:List bF} (ha:o_ own L):(Op.encR L).1=[3,6]++bX own.toNat 4∨(Op.encR L).1=[]:=by
 rcases ha with rfl|rfl
 ·exact .inl (by rw[encI])
 ·exact .inr rfl
theorem bA.UQ {A C:World} {base X:Nat} {v:Value} {L:List bF} (h:bA A base v L) (hg:A.grownBy C (some X)) (hX:X<base):bA C base v L:=by
 obtain⟨E,hE,he⟩:=h
 exact⟨E,hE.stays hg (fun r e=>by cases e;exact .inl hX),he⟩
theorem oo {W W':World} {xs:List Obj} {d d':Nat} (h:W.heap=W'.heap):(ext W xs d).heap=(ext W' xs d').heap:=by
 unfold ext
 simp[h]
theorem bA.uI {A C:World} {b:Nat} {v:Value} {L:List bF} (h:bA A b v L) (e:C.heap=A.heap):bA C b v L:=by
 obtain⟨E,hE,he⟩:=h
 exact⟨E,⟨dx hE.1 (fun k _=>by rw[e]),fun x hx=>dx (hE.2 x hx) (fun k _=>by rw[e])⟩,he⟩
theorem dP.uI {A C:World} {b:Nat} {v:Value} {L:List Pk} (h:dP A b v L) (e:C.heap=A.heap):dP C b v L:=by
 obtain⟨E,hE,he⟩:=h
 exact⟨E,⟨dx hE.1 (fun k _=>by rw[e]),fun x hx=>dx (hE.2 x hx) (fun k _=>by rw[e])⟩,he⟩
section
variable {W W':World} {xs:List Obj} {d d' b:Nat} {v:Value} {L:List bF} {l:List Pk} {Z F:Obj}
theorem NV (h:bA (ext W.drew xs d) b v L):bA ((ext W xs d').alloc F) b v L:=(h.uI (oo (W:=W) (W':=W.drew) rfl)).vW (Below.alloc (Below.refl _ _) (aaE _) _)
theorem NW (h:bA (ext (W.alloc Z).drew xs d) b v L) (hb:W.heap.size<b):bA (ext (W.alloc F) xs d') b v L:=
 (h.uI (C:=ext (W.alloc Z) xs d') (oo (W:=W.alloc Z) (W':=(W.alloc Z).drew) rfl)).UQ (bJ (dS _ _ _) (by simp)) hb
theorem Oa (h:dP (ext W.drew xs d) b v l):dP ((ext W xs d').alloc F) b v l:=(h.uI (oo (W:=W) (W':=W.drew) rfl)).vW (Below.alloc (Below.refl _ _) (aaE _) _)
theorem Ob (h:dP (ext (W.alloc Z).drew xs d) b v l) (hb:W.heap.size<b):dP (ext (W.alloc F) xs d') b v l:=
 (h.uI (C:=ext (W.alloc Z) xs d') (oo (W:=W.alloc Z) (W':=(W.alloc Z).drew) rfl)).stays (bJ (dS _ _ _) (by simp)) hb
end
theorem Fy (q:Nat) {R:List UInt8} (h:[3,6]++bX q 4=R):(⟨#[3,6]⟩:ByteArray)++⟨(bX q 4).toArray⟩=⟨R.toArray⟩:=by
 subst h
 apply ByteArray.ext
 simp
def O9 (w:World) (T nl:Nat) (mr mc mt mf wt ec lo own peer:Int) (i tv:Value) (wr:World):Prop:=
 ∃(k:Nat) (t:Int) (a:Au) (An:Option Addr) (nn cn:Nat) (E:List aH),k≤nl∧k≤40∧i=.int .i64 k∧tv=.int .i64 t∧(0≤t∧t≤255*(k:Int))∧wr.heap[w.heap.size]? =some (.cells #[.int .i64 mr,.int .i64 mc,.int .i64 mt,.int .i64 mf,.int .i64 wt,.int .i64 ec,.int .i64 lo] 64 (0,0))∧wr.heap[T]? =some (.cells (SG a (.slice An nn cn) own peer) 60 (0,0))∧aJ wr wr.heap.size An E∧nn=E.length∧nn≤cn∧E.map aH.o=a.ask∧fA a=true∧o_ own a.ask∧Below w.heap.size w wr
def Y8 (u:Nat→Value) (s1 s2 s3 s4 s9 s11 s12 s13:Value):Act:=⟨#[u 0,s1,s2,s3,s4,u 5,u 6,u 7,u 8,s9,u 10,s11,s12,s13,u 14,u 15,u 16,u 17,u 18,u 19,u 20,u 21,u 22,u 23,u 24,u 25,u 26,u 27,u 28,u 29,u 30,u 31,u 32,u 33,u 34,u 35,u 36,u 37,u 38,u 39,u 40,u 41,u 42,u 43,u 44,u 45,u 46,u 47,u 48,u 49,u 50,u 51,u 52,u 53,u 54,u 55,u 56,u 57,u 58,u 59,u 60,u 61,u 62,u 63,u 64,u 65,u 66,u 67,u 68,u 69,u 70,u 71,u 72,u 73,u 74,u 75,u 76,u 77,u 78,u 79,u 80,u 81,u 82,u 83,u 84,u 85,u 86,u 87,u 88,u 89,u 90,u 91,u 92,u 93,u 94,u 95,u 96,u 97,u 98,u 99,u 100,u 101,u 102,u 103,u 104,u 105,u 106,u 107,u 108,u 109,u 110,u 111,u 112,u 113,u 114,u 115,u 116,u 117,u 118,u 119,u 120,u 121,u 122,u 123,u 124,u 125,u 126],[]⟩
def V9 (w:World) (T nl:Nat) (mr mc mt mf wt ec lo own peer:Int) (s1 s2 s3 s4 s9 s11:Value) (a:Act) (W:World):Prop:= ∃(u:Nat→Value) (s12 s13:Value),O9 w T nl mr mc mt mf wt ec lo own peer s13 s12 W∧a=Y8 u s1 s2 s3 s4 s9 s11 s12 s13
theorem uW {w W:World} {T nl:Nat} {mr mc mt mf wt ec lo own peer:Int} {s1 s2 s3 s4 s9 s11 s12 s13:Value} {a:Act} (h:O9 w T nl mr mc mt mf wt ec lo own peer s13 s12 W) (ha:a=Y8 (fun n=>a.tmps.getD n undef) s1 s2 s3 s4 s9 s11 s12 s13):V9 w T nl mr mc mt mf wt ec lo own peer s1 s2 s3 s4 s9 s11 a W:=⟨_,_,_,h,ha⟩
def Y9 (u:Nat→Value) (s1 s2 s3 s4 s9 s11 s12 s13 SL s15 s17:Value):Act:=⟨#[u 0,s1,s2,s3,s4,u 5,u 6,u 7,u 8,s9,u 10,s11,s12,s13,SL,s15,u 16,s17,u 18,u 19,u 20,u 21,u 22,u 23,u 24,u 25,u 26,u 27,u 28,u 29,u 30,u 31,u 32,u 33,u 34,u 35,u 36,u 37,u 38,u 39,u 40,u 41,u 42,u 43,u 44,u 45,u 46,u 47,u 48,u 49,u 50,u 51,u 52,u 53,u 54,u 55,u 56,u 57,u 58,u 59,u 60,u 61,u 62,u 63,u 64,u 65,u 66,u 67,u 68,u 69,u 70,u 71,u 72,u 73,u 74,u 75,u 76,u 77,u 78,u 79,u 80,u 81,u 82,u 83,u 84,u 85,u 86,u 87,u 88,u 89,u 90,u 91,u 92,u 93,u 94,u 95,u 96,u 97,u 98,u 99,u 100,u 101,u 102,u 103,u 104,u 105,u 106,u 107,u 108,u 109,u 110,u 111,u 112,u 113,u 114,u 115,u 116,u 117,u 118,u 119,u 120,u 121,u 122,u 123,u 124,u 125,u 126],[]⟩
def V_ (W0:World) (n:Nat) (s1 s2 s3 s4 s9 s11 s12 s13 SL s15:Value) (a:Act) (W:World):Prop:= ∃(u:Nat→Value) (k:Nat),k≤n∧Below W0.heap.size W0 W∧a=Y9 u s1 s2 s3 s4 s9 s11 s12 s13 SL s15 (.int .i64 k)
theorem uX {W0 W:World} {n k:Nat} {s1 s2 s3 s4 s9 s11 s12 s13 SL s15:Value} {a:Act} (hk:k≤n) (h:Below W0.heap.size W0 W) (ha:a=Y9 (fun n=>a.tmps.getD n undef) s1 s2 s3 s4 s9 s11 s12 s13 SL s15 (.int .i64 k)):V_ W0 n s1 s2 s3 s4 s9 s11 s12 s13 SL s15 a W:=⟨_,_,hk,h,ha⟩
set_option maxRecDepth 100000 in
theorem wB (mr mc mt mf wt ec lo own peer:Int) (Ao:Option Addr) (nl co:Nat) (O:List KP) (w:World) (hp:dJ peer) (hO:uw w w.heap.size Ao O) (hnl:nl=O.length) (hln:(nl:Int)≤9223372036854775807):
  Calls Tryz.prog 8 #[.agg #[.int .i64 mr,.int .i64 mc,.int .i64 mt,.int .i64 mf,.int .i64 wt,.int .i64 ec,.int .i64 lo],.int .i64 own,.int .i64 peer,.slice Ao nl co] w fun x w'=>x=.returned (.bool true)∧Below w.heap.size w w':=by
 have HO:=hid hO
 have zO:=hid hnl
 have HP:=hid hp
 clear hO hnl hp
 by_cases hin:bC own 1 4294967295=true∧bC peer 1 4294967295=true
 rotate_left
 ·go_enter Tryz.func8,Tryz.ntmps8
  go_upto_region 1 with(fail)
  refine bY (fun W=>W.heap[w.heap.size]? =some (.cells #[.int .i64 mr,.int .i64 mc,.int .i64 mt,.int .i64 mf,.int .i64 wt,.int .i64 ec,.int .i64 lo] 64 (0,0))∧Below w.heap.size w W) ⟨by exact hpa,by exact aA⟩ ?_
  rintro W1 ⟨hc,hb⟩
  have HB1:=hid hb
  have hs1:=hb.size
  clear hc hb
  go_wp2_with fail
  refine(Li own peer W1 hin).mono ?_
  unfold NoP
  rintro x W2 ⟨rfl,hb⟩
  have HB2:=hid (HB1.out.trans (hb.mono hs1))
  have hs2:=HB2.out.size
  clear hb
  go_wp2_with fail
  refine(nH _).mono ?_
  rintro x W3 ⟨rfl,hb⟩
  have HB3:=hid (HB2.out.trans ((((Below.refl _ _).alloc (aaE _) _).trans (hb.mono (by simp))).mono hs2))
  clear hb
  go_wp2_with fail
  go_ret
  exact⟨rfl,HB3.out⟩
 obtain⟨h1,h2⟩:=hin
 have b1:=rG h1
 have H1:=hid h1
 have H2:=hid h2
 clear h1 h2
 obtain⟨o,rfl⟩:=Int.eq_ofNat_of_zero_le (show 0≤own by omega)
 have hw3:IntKind.u64.wrap (o:Int)=(o:Int):=IntWalk.u64_in _ (by omega)
 obtain⟨R,hR⟩: ∃R,[3,6]++bX o 4=R:=⟨_,rfl⟩
 have HR:=hid hR
 have GR:=hid (show R.length=6 by rw[←hR];simp[aP])
 have hms:=Fy o hR
 clear hR
 go_enter Tryz.func8,Tryz.ntmps8
 go_upto_region 1 with(fail)
 refine bY (fun W=>W.heap[w.heap.size]? =some (.cells #[.int .i64 mr,.int .i64 mc,.int .i64 mt,.int .i64 mf,.int .i64 wt,.int .i64 ec,.int .i64 lo] 64 (0,0))∧Below w.heap.size w W) ⟨by exact hpa,by exact aA⟩ ?_
 rintro W1 ⟨hc,hb⟩
 have zi:=hid hc
 have HB1:=hid hb
 have hs1:=hb.size
 clear hc hb
 go_wp2_with fail
 refine(Az o peer W1 H1.out H2.out).mono ?_
 unfold Tz iH
 rintro x W2 ⟨va,rfl,hb,ho⟩
 obtain⟨A2,n2,c2,rfl⟩:=ho.form'
 obtain⟨E2,hE2,hn2,hc2',he2⟩:=ho.opened
 have xR:=hid ((hb.block _ (aj zi.out)).trans zi.out)
 have HB2:=hid (HB1.out.trans (hb.mono hs1))
 have HE2:=hid hE2
 have iA:=hid hn2
 have tF:=hid hc2'
 have HA2:=hid he2
 have hs2:=HB2.out.size
 clear hb ho hE2 hn2 hc2' he2
 go_upto_region 2 with(fail)
 obtain⟨T,hT⟩: ∃T,T=W2.heap.size:=⟨_,rfl⟩
 rw[←hT]
 refine bY (fun W=>W.heap[T]? =some (.cells (SG (tq (o:Int)) (.slice A2 n2 c2) o peer) 60 (0,0))∧Below W2.heap.size W2 W) ⟨by rw[hT];exact heap_alloc_new _ _,(Below.refl _ _).alloc (aaE _) _⟩ ?_
 rintro W3 ⟨ht,hb⟩
 have hTw:w.heap.size<T:=by have:=aj xR.out;omega
 clear hT
 have HT3:=hid ht
 have zk:=hid ((hb.block _ (aj xR.out)).trans xR.out)
 have HB3:=hid (HB2.out.trans (hb.mono hs2))
 have qj:=hid ((HE2.out.keep hb).more hb.size)
 have hs3:=HB3.out.size
 clear ht hb
 go_wp2_with fail
 refine(nH _).mono ?_
 rintro x W4 ⟨rfl,hb⟩
 have Ey:=hid ((hb.block _ (aj HT3.out)).trans HT3.out)
 have Vb:=hid ((hb.block _ (aj zk.out)).trans zk.out)
 have fu:=hid (HB3.out.trans (hb.mono hs3))
 have rX:=hid ((qj.out.keep hb).more hb.size)
 have hs4:=fu.out.size
 clear hb HT3 zk HB3 qj xR HB2 HE2 hs3 hs2
 obtain⟨c0,c1,c2',c3,c4,c5,c6⟩:=aG Vb.out
 obtain⟨t0,t1,t2,t3,t4,t5,t6,t7,t8⟩:=aL (show W4.heap[T]? =some (.cells #[.int .i64 0,.int .i64 0,.int .i64 0,.slice A2 n2 c2,.int .i64 0,.int .i64 0,.int .i64 0,.int .i64 o,.int .i64 peer] 60 (0,0)) from Ey.out)
 obtain⟨ok,hok⟩: ∃b,rO mc mt mf wt ⟨0,0,0,fH (o:Int),0,0,0⟩ o peer=b:=⟨_,rfl⟩
 have jU:=hid hok
 clear hok
 go_wp2_with fail
 refine(Ed mr mc mt mf wt ec lo 0 0 0 0 0 0 o peer A2 n2 c2 E2 (fH (o:Int)) HA2.out W4 W4.heap.size (aaE _) rX.out iA.out HP.out).mono ?_
 rw[jU.out]
 rintro x W5 ⟨rfl,hb⟩
 have Vh:=hid ((hb.block _ (aj Ey.out)).trans Ey.out)
 have Xw:=hid ((hb.block _ (aj Vb.out)).trans Vb.out)
 have dO:=hid (fu.out.trans (hb.mono hs4))
 have zl:=hid ((rX.out.keep hb).more hb.size)
 have hs5:=dO.out.size
 clear hb c0 c1 c2' c3 c4 c5 c6 t0 t1 t2 t3 t4 t5 t6 t7 t8 Ey Vb fu rX hs4
 cases ok
 ·go_wp2_with fail
  go_ret
  exact⟨rfl,dO.out⟩
 have HCF:=hid (show dA (vY mc mt mf wt peer)=true∧fA ⟨0,0,0,fH (o:Int),0,0,0⟩=true by
  have h:=jU.out
  unfold rO at h
  simp only[Bool.and_eq_true] at h
  exact⟨h.2.2.1,h.2.2.2⟩)
 clear jU
 go_wp2_with fail
 refine(vH o 4 _ (by omega) (by omega) (by omega)).mono ?_
 unfold TD
 rintro x W6 ⟨v6,rfl,hb,Vs⟩
 obtain⟨A6,c6,rfl,-,-⟩:=ownsRow_form Vs
 have q1:(convert 30 9 (.slice A6 4 c6)).run Tryz.prog W6=.ok (.string ⟨(bX o 4).toArray⟩) W6:=gM Tryz.underlying30 Tryz.underlying5 Tryz.underlying9 (l:=bX o 4) (aP o 4).symm (At.bq Vs)
 have BU:=hid ((hb.block _ (aj Vh.out)).trans Vh.out)
 have HC6:=hid ((hb.block _ (aj Xw.out)).trans Xw.out)
 have lC:=hid (dO.out.trans (hb.mono hs5))
 have Xz:=hid ((zl.out.keep hb).more hb.size)
 have hs6:=lC.out.size
 clear hb Vs Vh Xw dO zl hs5
 go_upto_region 7 with(fail)
 clear q1
 clear hms
 go_wp2_with fail
 refine wp_loop (V9 w T nl mr mc mt mf wt ec lo o peer (.int .i64 (o:Int)) (.int .i64 peer) (.slice Ao nl co) (.pointer (some ⟨w.heap.size,0,none⟩)) (.pointer (some ⟨T,0,none⟩)) (.string ⟨R.toArray⟩)) (fun a _=>nl-(intOf (a.tmps.getD 13 undef)).toNat) (uW ⟨0,0,tq (o:Int),A2,n2,c2,E2,Nat.zero_le _,by omega,rfl,rfl,by omega,HC6.out,BU.out,Xz.out,iA.out,tF.out,HA2.out,HCF.out.2,.inl rfl,lC.out⟩ (by kernel_rfl)) ?_
 clear BU HC6 lC Xz hs6 iA tF HA2 zi HB1 hs1
 rintro a0 wr ⟨u,s12,s13,hrel,rfl⟩
 unfold Y8
 obtain⟨k,t,⟨st,id,req,L,cnt,ay,au⟩,An,nn,cn,E,hk,hk4,rfl,rfl,htt,hc,hrow,hE,hnn,hcn,XJ,WL,yF,hb⟩:=hrel
 dsimp only at XJ yF
 have HC:=hid hc
 have HT:=hid (show wr.heap[T]? =some (.cells #[.int .i64 st,.int .i64 id,.int .i64 req,.slice An nn cn,.int .i64 cnt,.int .i64 ay,.int .i64 au,.int .i64 o,.int .i64 peer] 60 (0,0)) from hrow)
 have HE:=hid hE
 have HNN:=hid hnn
 have oI:=hid XJ
 have HIS:=hid WL
 have HAS:=hid yF
 have HB:=hid hb
 have jB:=hid (wS yF XJ)
 have hn1:nn≤1:=by have:=jB.out.1;omega
 have hsr:=hb.size
 clear hc hrow hE hnn XJ WL yF hb
 by_cases hlt:k<nl∧k<40
 rotate_left
 ·by_cases hl1:k<nl
  all_goals
   first
    |have g1:(k:Int)<(nl:Int):=by omega
    |have g1: ¬(k:Int)<(nl:Int):=by omega
   first
    |have g2:decide ((k:Int)<(nl:Int))=true:=by simp;omega
    |have g2:decide ((k:Int)<(nl:Int))=false:=by simp;omega
   try have g3: ¬(k:Int)<40:=by omega
   try have g4:decide ((k:Int)<40)=false:=by simp;omega
   go_wp2_with fail
   go_ret
   exact⟨rfl,HB.out⟩
 obtain⟨hl1,hl4⟩:=hlt
 have g1:(k:Int)<(nl:Int):=by omega
 have g2:(k:Int)<40:=by omega
 have g3:(0:Int)≤(k:Int):=by omega
 obtain⟨b,ob,rfl,tL,hop⟩:=(HO.out.keep HB.out).get (show k<O.length by have:=zO.out;omega)
 obtain⟨⟨dd,e,kc,ki,Ai,ni,ci,li,later⟩,hx⟩: ∃x,O[k]'(by have:=zO.out;omega)=x:=⟨_,rfl⟩
 rw[hx] at hop
 clear hx
 obtain⟨X_,op1,op2,Ya,Yb,Yc,ZU,ZW,onc,onl,od1,ol1⟩:=hop
 dsimp only at X_ op1 op2 Ya Yb Yc ZU ZW onc onl od1 ol1
 have DL:=hid (ZU.more hsr)
 have gy:=hid ZW
 have hbr:b<wr.heap.size:=by omega
 have hwl:IntKind.i64.wrap (later:Int)=(later:Int):=IntWalk.i64_in _ (by omega)
 have hwt:IntKind.i64.wrap (t+(later:Int))=t+(later:Int):=IntWalk.i64_in _ (by omega)
 clear ZU ZW
 obtain⟨tt,WW⟩: ∃tt,t+(later:Int)=tt:=⟨_,rfl⟩
 go_upto_region 12 with(fail)
 try rw[WW]
 have htb:0≤tt∧tt≤255*((k+1:Nat):Int):=by omega
 clear hwt hwl WW
 obtain⟨⟨a1,o1,d1⟩,hr⟩: ∃r,j4 mc mt mf wt ⟨st,id,req,L,cnt,ay,au⟩ o peer dd e kc ki li tt=r:=⟨_,rfl⟩
 have HRR:=hid hr
 have HI1:=hid (show fA a1=true by have h:=Hu (mc:=mc) (mt:=mt) (mf:=mf) (wt:=wt) (own:=o) (peer:=peer) (e:=e) (kc:=kc) (ki:=ki) (tick:=tt) (d:=dd) (li:=li) HIS.out;rw[hr] at h;exact h)
 have zn:=hid (show o1.length≤13 by have h:=ER (mc:=mc) (mt:=mt) (mf:=mf) (wt:=wt) (own:=o) (peer:=peer) (e:=e) (kc:=kc) (ki:=ki) (tick:=tt) (d:=dd) (li:=li) (a:=⟨st,id,req,L,cnt,ay,au⟩) (by have h:=congrArg List.length oI.out;rw[List.length_map] at h;have:=jB.out.1;dsimp only;omega);rw[hr] at h;exact h)
 have J6:=hid (show AZ (o:Int) (a1,o1,d1) by rw[←hr];exact Cr HAS.out)
 clear hr
 go_cut [14,15,16] (fun SL s15 s16 wx=> ∃(P:Nat) (A4 A5:Option Addr) (m4 k4 m5 k5:Nat) (W:World),W=wx∧SL=.pointer (some ⟨P,0,none⟩)∧s15=.slice A5 m5 k5∧s16=.bool true∧W.heap[P]? =some (.cells (SG a1 (.slice A4 m4 k4) o peer) 60 (0,0))∧(∃z,bA W z (.slice A4 m4 k4) a1.ask)∧(∃z,dP W z (.slice A5 m5 k5) o1)∧Below wr.heap.size wr W∧wr.heap.size≤P)
 case first=>
  obtain⟨Ch,BJ,Ci,Cj,Ck,Cm,Cn⟩:=aG HC.out
  obtain⟨tt0,tt1,tt2,tt3,tt4,tt5,tt6,tt7,tt8⟩:=aL HT.out
  have lc:=aj HC.out
  have lT:=aj HT.out
  have zq:=hid (show∀w':World,Below wr.heap.size wr w'→(w'.cell? ⟨w.heap.size,0,none⟩=some (.int .i64 mr)∧w'.cell? ⟨w.heap.size,1,none⟩=some (.int .i64 mc)∧w'.cell? ⟨w.heap.size,2,none⟩=some (.int .i64 mt)∧w'.cell? ⟨w.heap.size,3,none⟩=some (.int .i64 mf)∧w'.cell? ⟨w.heap.size,4,none⟩=some (.int .i64 wt)∧w'.cell? ⟨w.heap.size,5,none⟩=some (.int .i64 ec)∧w'.cell? ⟨w.heap.size,6,none⟩=some (.int .i64 lo)∧w'.cell? ⟨T,0,none⟩=some (.int .i64 st)∧w'.cell? ⟨T,1,none⟩=some (.int .i64 id)∧w'.cell? ⟨T,2,none⟩=some (.int .i64 req)∧w'.cell? ⟨T,3,none⟩=some (.slice An nn cn)∧w'.cell? ⟨T,4,none⟩=some (.int .i64 cnt)∧w'.cell? ⟨T,5,none⟩=some (.int .i64 ay)∧w'.cell? ⟨T,6,none⟩=some (.int .i64 au)∧w'.cell? ⟨T,7,none⟩=some (.int .i64 o)∧w'.cell? ⟨T,8,none⟩=some (.int .i64 peer)∧w'.cell? ⟨b,ob+k*6,none⟩=some (.int .u8 (dd:Int))∧w'.cell? ⟨b,ob+k*6+1,none⟩=some (.int .i64 e)∧w'.cell? ⟨b,ob+k*6+2,none⟩=some (.int .i64 kc)∧w'.cell? ⟨b,ob+k*6+2+1,none⟩=some (.int .i64 ki)∧w'.cell? ⟨b,ob+k*6+2+2,none⟩=some (.slice Ai ni ci)∧w'.cell? ⟨b,ob+k*6+5,none⟩=some (.int .u8 (later:Int))) from fun w' hb=>⟨(hb.cell (p:=⟨w.heap.size,_,none⟩) lc).trans Ch,(hb.cell (p:=⟨w.heap.size,_,none⟩) lc).trans BJ,(hb.cell (p:=⟨w.heap.size,_,none⟩) lc).trans Ci,(hb.cell (p:=⟨w.heap.size,_,none⟩) lc).trans Cj,(hb.cell (p:=⟨w.heap.size,_,none⟩) lc).trans Ck,(hb.cell (p:=⟨w.heap.size,_,none⟩) lc).trans Cm,(hb.cell (p:=⟨w.heap.size,_,none⟩) lc).trans Cn,(hb.cell (p:=⟨T,_,none⟩) lT).trans tt0,(hb.cell (p:=⟨T,_,none⟩) lT).trans tt1,(hb.cell (p:=⟨T,_,none⟩) lT).trans tt2,(hb.cell (p:=⟨T,_,none⟩) lT).trans tt3,(hb.cell (p:=⟨T,_,none⟩) lT).trans tt4,(hb.cell (p:=⟨T,_,none⟩) lT).trans tt5,(hb.cell (p:=⟨T,_,none⟩) lT).trans tt6,(hb.cell (p:=⟨T,_,none⟩) lT).trans tt7,(hb.cell (p:=⟨T,_,none⟩) lT).trans tt8,(hb.cell (p:=⟨b,_,none⟩) hbr).trans X_,(hb.cell (p:=⟨b,_,none⟩) hbr).trans op1,(hb.cell (p:=⟨b,_,none⟩) hbr).trans op2,(hb.cell (p:=⟨b,_,none⟩) hbr).trans Ya,(hb.cell (p:=⟨b,_,none⟩) hbr).trans Yb,(hb.cell (p:=⟨b,_,none⟩) hbr).trans Yc⟩)
  clear Ch BJ Ci Cj Ck Cm Cn tt0 tt1 tt2 tt3 tt4 tt5 tt6 tt7 tt8 X_ op1 op2 Ya Yb Yc
  go_region_held3 (fun w'=>w'.cell? ⟨w.heap.size,0,none⟩=some (.int .i64 mr)∧w'.cell? ⟨w.heap.size,1,none⟩=some (.int .i64 mc)∧w'.cell? ⟨w.heap.size,2,none⟩=some (.int .i64 mt)∧w'.cell? ⟨w.heap.size,3,none⟩=some (.int .i64 mf)∧w'.cell? ⟨w.heap.size,4,none⟩=some (.int .i64 wt)∧w'.cell? ⟨w.heap.size,5,none⟩=some (.int .i64 ec)∧w'.cell? ⟨w.heap.size,6,none⟩=some (.int .i64 lo)∧w'.cell? ⟨T,0,none⟩=some (.int .i64 st)∧w'.cell? ⟨T,1,none⟩=some (.int .i64 id)∧w'.cell? ⟨T,2,none⟩=some (.int .i64 req)∧w'.cell? ⟨T,3,none⟩=some (.slice An nn cn)∧w'.cell? ⟨T,4,none⟩=some (.int .i64 cnt)∧w'.cell? ⟨T,5,none⟩=some (.int .i64 ay)∧w'.cell? ⟨T,6,none⟩=some (.int .i64 au)∧w'.cell? ⟨T,7,none⟩=some (.int .i64 o)∧w'.cell? ⟨T,8,none⟩=some (.int .i64 peer)∧w'.cell? ⟨b,ob+k*6,none⟩=some (.int .u8 (dd:Int))∧w'.cell? ⟨b,ob+k*6+1,none⟩=some (.int .i64 e)∧w'.cell? ⟨b,ob+k*6+2,none⟩=some (.int .i64 kc)∧w'.cell? ⟨b,ob+k*6+2+1,none⟩=some (.int .i64 ki)∧w'.cell? ⟨b,ob+k*6+2+2,none⟩=some (.slice Ai ni ci)∧w'.cell? ⟨b,ob+k*6+5,none⟩=some (.int .u8 (later:Int))) (exact zq.out _ (by exact aA)) ((go_at_call 34;go_must (refine(Ah mr mc mt mf wt ec lo st id req cnt ay au o peer An nn cn dd later e kc ki Ai ni ci li tt E L oI.out _ wr.heap.size (by first|exact aaE _|(simp[size_ext,grow];done)|(simp[size_ext,grow];omega)) (by exact HE.out.keep (by exact aA)) HNN.out hcn (by omega) (fun e he=>by have:=jB.out.2 e he;omega) HP.out od1 (by exact DL.out.keep (by exact aA)) gy.out onc onl).mono ?_);rw[HRR.out];unfold Gx iH;(try dsimp only);rintro e9 w9 ⟨va,vo,rfl,jf,Zd,Ze⟩;obtain⟨A4,m4,k4,rfl⟩:=Zd.form';obtain⟨A5,m5,k5,rfl⟩:=Ze.form';obtain⟨xs9,d9,rfl⟩:=aB jf;have qm:=hid Zd;have HP9:=hid Ze;clear jf Zd Ze))
  all_goals
   go_wp2_with fail
   go_meet
   refine⟨_,A4,A5,m4,k4,m5,k5,_,rfl,rfl,rfl,rfl,?_,?_,?_,by exact aA,?_⟩
   ·unfold SG
    try dsimp only
    repeat(first|(with_reducible refine aF _ _ _ ?_;((first|(simp[size_ext,grow];done)|(simp[size_ext,grow];omega))))|(with_reducible refine(aO _ _ _ _ ?_).trans ?_;(focus ((first|(simp[size_ext,grow];done)|(simp[size_ext,grow];omega)))))|(with_reducible refine(aC _ _ _ ?_).trans ?_;(focus ((first|(simp[size_ext,grow];done)|(simp[size_ext,grow];omega))))))
   ·have h5:=qm.out
    first
     |(with_reducible exact⟨_,NV h5⟩)
     |(with_reducible refine⟨_,NW h5 ?_⟩;simp)
   ·have h5:=HP9.out
    first
     |(with_reducible exact⟨_,Oa h5⟩)
     |(with_reducible refine⟨_,Ob h5 ?_⟩;simp)
   ·first|exact aaE _|(simp[size_ext,grow];done)|(simp[size_ext,grow];omega)
 case rest=>
  obtain⟨P,A4,A5,m4,k4,m5,k5,W4,rfl,rfl,rfl,rfl,hr,⟨z4,ho⟩,⟨z5,hpk⟩,hb,hP⟩:=hcut
  obtain⟨E4,Cw,xg,hc4,uS⟩:=ho.opened
  have HX:=hid hr
  have DN:=hid ho
  have rX:=hid Cw
  have wL:=hid xg
  have YA:=hid hc4
  have Kt:=hid uS
  have GL:=hid hpk
  replace HC:=hid ((hb.block _ (aj HC.out)).trans HC.out)
  have Ey:=hid ((hb.block _ (aj HT.out)).trans HT.out)
  have fu:=hid (HB.out.trans (hb.mono hsr))
  have hs4:=fu.out.size
  have nTP:T≠P:=by have:=aj HT.out;omega
  have KA:=hid (wS J6.out.1 uS)
  have hm4:m4≤1:=by have:=KA.out.1;omega
  clear hr ho hpk hb Cw xg hc4 uS HT HE HNN oI HIS jB hP X_ op1 op2 Ya Yb Yc
  obtain⟨c0,c1,c2',c3,c4,c5,c6⟩:=aG HC.out
  obtain⟨x0,x1,x2,x3,x4,x5,x6,x7,x8⟩:=aL (show W4.heap[P]? =some (.cells #[.int .i64 a1.st,.int .i64 a1.id,.int .i64 a1.req,.slice A4 m4 k4,.int .i64 a1.cnt,.int .i64 a1.ay,.int .i64 a1.au,.int .i64 o,.int .i64 peer] 60 (0,0)) from HX.out)
  have HCK:=hid (show h_ mc mt mf wt ⟨a1.st,a1.id,a1.req,a1.ask,a1.cnt,a1.ay,a1.au⟩ o peer=0 by
   unfold h_ rO
   rw[H1.out,H2.out,HCF.out.1,show fA ⟨a1.st,a1.id,a1.req,a1.ask,a1.cnt,a1.ay,a1.au⟩=true from HI1.out]
   rfl)
  go_wp2_with fail
  refine(pG mr mc mt mf wt ec lo a1.st a1.id a1.req a1.cnt a1.ay a1.au o peer A4 m4 k4 E4 a1.ask Kt.out W4 W4.heap.size (aaE _) rX.out wL.out HP.out).mono ?_
  rw[HCK.out]
  rintro x W5 ⟨rfl,hb⟩
  have YQ:=hid ((hb.block _ (aj HX.out)).trans HX.out)
  replace HC:=hid ((hb.block _ (aj HC.out)).trans HC.out)
  have Vh:=hid ((hb.block _ (aj Ey.out)).trans Ey.out)
  have dO:=hid (fu.out.trans (hb.mono hs4))
  have qU:=hid (DN.out.vW hb)
  have YL:=hid (GL.out.vW hb)
  have hs5:=dO.out.size
  clear hb c0 c1 c2' c3 c4 c5 c6 x0 x1 x2 x3 x4 x5 x6 x7 x8 HX Ey fu DN GL hs4 rX
  obtain⟨x0,x1,x2,x3,x4,x5,x6,x7,x8⟩:=aL (show W5.heap[P]? =some (.cells #[.int .i64 a1.st,.int .i64 a1.id,.int .i64 a1.req,.slice A4 m4 k4,.int .i64 a1.cnt,.int .i64 a1.ay,.int .i64 a1.au,.int .i64 o,.int .i64 peer] 60 (0,0)) from YQ.out)
  go_upto_region 15 with(fail)
  clear x0 x1 x2 x3 x4 x5 x6 x7 x8
  obtain⟨P5,BK,J9⟩:=YL.out
  have hPA:=BK.at
  have hmp:m5=P5.length:=by
   obtain⟨A',c',hv,-,-⟩:=ownsRow_form BK.1
   cases hv
   rfl
  have XB:=hid hPA
  have DR:=hid J9
  have HMP:=hid hmp
  clear BK J9 hPA hmp
  have hwk:IntKind.i64.wrap ((k:Int)+1)=(k:Int)+1:=IntWalk.i64_in _ (by omega)
  have HWK:=hid hwk
  have aaq:(m5:Int)≤1000:=by have h:=congrArg List.length DR.out;rw[List.length_map] at h;have:=zn.out;have:=HMP.out;omega
  clear hwk g1 g2
  go_wp2_with fail
  refine wp_loop (V_ W5 m5 (.int .i64 (o:Int)) (.int .i64 peer) (.slice (some ⟨b,ob,none⟩) nl co) (.pointer (some ⟨w.heap.size,0,none⟩)) (.pointer (some ⟨T,0,none⟩)) (.string ⟨R.toArray⟩) (.int .i64 tt) (.int .i64 k) (.pointer (some ⟨P,0,none⟩)) (.slice A5 m5 k5)) (fun a _=>m5-(intOf (a.tmps.getD 17 undef)).toNat) (uX (k:=0) (Nat.zero_le _) (Below.refl _ _) (by kernel_rfl)) ?_
  rintro a2 wq ⟨u2,kq,hkq,hbq,rfl⟩
  unfold Y9
  have OT:=hid hbq
  have hsq:=hbq.size
  clear hbq
  by_cases hl2:kq<m5
  focus
   have hkp:kq<P5.length:=by have:=HMP.out;omega
   obtain⟨g,og,rfl,hgB,y0,y1,y2⟩:=(XB.out.keep OT.out).get hkp
   have hmem:P5[kq]∈P5:=List.getElem_mem hkp
   obtain⟨hat,hce⟩:=(XB.out.keep OT.out).2 _ hmem
   have Fa:=J6.out.2 P5[kq].o (by rw[←DR.out];exact List.mem_map_of_mem hmem)
   obtain⟨⟨ec,ei,xd,ae,ce⟩,he⟩: ∃x,P5[kq]=x:=⟨_,rfl⟩
   rw[he] at y0 y1 y2 hat hce Fa
   clear he hmem
   unfold Pe.v at y2
   unfold Pe.o at Fa
   dsimp only at y0 y1 y2 hat hce Fa
   have gi:(kq:Int)<(m5:Int):=by omega
   have gi0:(0:Int)≤(kq:Int):=by omega
   have hwq:IntKind.i64.wrap ((kq:Int)+1)=((kq+1:Nat):Int):=by rw[IntWalk.i64_in _ (by omega)];omega
   have hgw:g<wq.heap.size:=by omega
   by_cases hc1:ec=1
  focus
   obtain⟨nb,hnb⟩: ∃n,xd.length=n:=⟨_,rfl⟩
   have q2:(convert 30 9 (.slice ae nb ce)).run Tryz.prog wq=.ok (.string ⟨xd.toArray⟩) wq:=gM Tryz.underlying30 Tryz.underlying5 Tryz.underlying9 (l:=xd) hnb.symm hat
   rw[hnb] at y2
   have hx:=Fa hc1
   clear Fa hat hce
   subst hc1
   rcases ED J6.out.1 with h6|h6
  focus
   have hxR:xd=R:=by rw[hx,h6,Int.toNat_natCast,HR.out]
   clear hx h6
   subst hxR
   clear hnb
  rotate_left
  focus
   have hx0:xd=[]:=by rw[hx,h6]
   have e2:(xd==R)=false:=by
    have h:=GR.out
    rw[hx0]
    cases R with
    |nil=>simp at h
    |cons a l=>rfl
   obtain rfl:nb=0:=by rw[←hnb,hx0];rfl
   clear hx h6 hx0 hnb
  rotate_left
  focus
   have e1:(ec==1)=false:=by simpa using hc1
   clear Fa hat hce hc1
  rotate_left
  ·have gi: ¬(kq:Int)<(m5:Int):=by omega
   have hrx:=(OT.out.block _ (aj YQ.out)).trans YQ.out
   have hrt:=(OT.out.block _ (aj Vh.out)).trans Vh.out
   have hrc:=(OT.out.block _ (aj HC.out)).trans HC.out
   have HTQ:=hid hrt
   have HCQ:=hid hrc
   have hbw:=dO.out.trans (OT.out.mono hs5)
   have Yn:=hid hbw
   have HOQ:=hid (qU.out.vW OT.out)
   have Zw:=hbw.size
   obtain⟨x0,x1,x2,x3,x4,x5,x6,x7,x8⟩:=aL (show wq.heap[P]? =some (.cells #[.int .i64 a1.st,.int .i64 a1.id,.int .i64 a1.req,.slice A4 m4 k4,.int .i64 a1.cnt,.int .i64 a1.ay,.int .i64 a1.au,.int .i64 o,.int .i64 peer] 60 (0,0)) from hrx)
   obtain⟨t0,t1,t2,t3,t4,t5,t6,t7,t8⟩:=aL (show wq.heap[T]? =some (.cells #[.int .i64 st,.int .i64 id,.int .i64 req,.slice An nn cn,.int .i64 cnt,.int .i64 ay,.int .i64 au,.int .i64 o,.int .i64 peer] 60 (0,0)) from hrt)
   have ft:=frees hrt
   have lT:=aj hrt
   have lP:=aj hrx
   have hwk:=HWK.out
   clear hrx hrt hrc hbw
   go_wp2_with fail
   generalize hWf:World.setCell _ _ _=Wf
   have hst:lX wq T a1 (.slice A4 m4 k4) o peer=Wf:=hWf
   have hg:=kX wq T a1 (.slice A4 m4 k4) o peer
   have hrow:=oD HTQ.out rfl a1 (.slice A4 m4 k4) o peer
   rw[hst] at hg hrow
   have WM:=HOQ.out.zx hg HTQ.out (by decide) (by decide)
   obtain⟨E9,TU,Iw,T9,J7⟩:=WM.opened
   refine⟨uW (s12:=.int .i64 tt) (s13:=.int .i64 ((k:Int)+1)) ?_ (by kernel_rfl),by simp[intOf];omega⟩
   exact⟨k+1,tt,a1,A4,m4,k4,E9,by omega,by omega,by go_num,rfl,htb,(hg.block _ (aj HCQ.out) (fun e=>by have:=Option.some.inj e;omega)).trans HCQ.out,hrow,TU,Iw,T9,J7,HI1.out,J6.out.1,Below.grown Yn.out hg Zw (fun y hy=>by have:=Option.some.inj hy;omega)⟩
  all_goals
   go_wp2_with fail
   exact⟨uX (k:=kq+1) (by omega) OT.out (by kernel_rfl),by simp[intOf];omega⟩
end Go.Proofs.YtfkgmbknfnhjoaaGreat
