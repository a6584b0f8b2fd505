/- PO -/
import Derived.Test.YtfkgmbknfnhjoaaGreatSPM
set_option linter.all false
set_option linter.ambiguousOpen false
set_option maxHeartbeats 8000000
namespace Go.Proofs.YtfkgmbknfnhjoaaGreat
open Lib (hid)
open Go.RowKit
open Ne (Rl bF aD bM aS bN)
open Fs (av hasB)
set_option maxRecDepth 100000 in
theorem JE (Ar Aa Ai:Option Addr) (nr cr na ca ni ci:Nat) (R:List Rl) (mc mt mf wt st id req cnt ay au ii:Int) (E:List aH) (li:List UInt8) (w:World) (B:Nat) (hB:B≤w.heap.size) (hR:aD w B Ar R) (hnr:nr=R.length) (hlr:nr≤1000000) (hE:aJ w B Aa E) (hna:na=E.length) (hca:na≤ca) (hla:na≤1000000) (hI:At w B Ai (li.map bv)) (hni:ni=li.length) (hci:ni≤ci):Calls Tryz.prog 63 #[.agg #[.slice Ar nr cr,.int .i64 mc,.int .i64 mt,.int .i64 mf,.int .i64 wt],.agg #[.int .i64 st,.int .i64 id,.int .i64 req,.slice Aa na ca,.int .i64 cnt,.int .i64 ay,.int .i64 au],.agg #[.int .i64 7,.int .i64 ii,.slice Ai ni ci]] w (jG (bK ⟨R,mc,mt,mf,wt⟩ ⟨st,id,req,E.map aH.o,cnt,ay,au⟩ ⟨7,ii,li⟩) ⟨st,id,req,E.map aH.o,cnt,ay,au⟩ (.slice Aa na ca) w):=by
 have HB:=hid hB
 have HR:=hid hR
 have gB:=hid hnr
 have HE:=hid hE
 have dz:=hid hna
 have HI:=hid hI
 have gy:=hid hni
 obtain⟨L,hL⟩: ∃L,E.map aH.o=L:=⟨_,rfl⟩
 have HL:=hid hL
 rw[hL]
 clear hB hR hnr hE hna hL hI hni
 by_cases hl:li=[]
 ·have e0:((ni:Int)==0)=true:=by have:=gy.out;rw[hl] at this;simp at this;simp[this]
  have HO:=hid (show bK ⟨R,mc,mt,mf,wt⟩ ⟨st,id,req,L,cnt,ay,au⟩ ⟨7,ii,li⟩=none by rw[hl];rfl)
  rw[HO.out]
  clear hl
  go_enter Tryz.func63,Tryz.ntmps63
  go_upto_region 2 with(fail)
  refine jC ?_
  rintro W2 ⟨h6,h7,h8,h12,bR,iq,hbw⟩
  have aQ:=hid hbw
  have H6:=hid h6
  have H7:=hid h7
  have H8:=hid h8
  have fC:=hid h12
  have qM:=hid bR
  have vM:=hid iq
  have hszW:=hbw.size
  have l6:=aj h6
  have l7:=aj h7
  have l8:=aj h8
  have bn:=aj h12
  have vT:=aj bR
  have vg:=aj iq
  obtain⟨p0,p1,p2,p3,p4⟩:=cells5 h6
  obtain⟨q0,q1,q2,q3,q4,q5,q6⟩:=aG h7
  obtain⟨r0,r1,r2⟩:=cells3 h8
  obtain⟨z0,z1,z2⟩:=cells3 iq
  obtain⟨s0,s1,s2⟩:=cells3 h12
  obtain⟨m0,m1,m2,m3,m4,m5,m6⟩:=aG bR
  have f0:=frees h12 0
  have f1:=frees h12 1
  have f2:=frees h12 2
  have g0:=frees bR 0
  have g1:=frees bR 1
  have g2:=frees bR 2
  have g3:=frees bR 3
  have g4:=frees bR 4
  have g5:=frees bR 5
  have g6:=frees bR 6
  have k3:=frees h7 3
  clear h6 h7 h8 h12 bR iq hbw
  go_wp2_with fail
  go_region_held3 (fun w'=>w'.cell? ⟨w.heap.size+1+1+1+1+1,0,none⟩=some (.int .i64 0)∧w'.cell? ⟨w.heap.size+1+1+1+1+1,1,none⟩=some (.int .i64 0)∧w'.cell? ⟨w.heap.size+1+1+1+1+1,2,none⟩=some (.slice none 0 0)∧w'.cell? ⟨w.heap.size+1,0,none⟩=some (.int .i64 st)∧w'.cell? ⟨w.heap.size+1,1,none⟩=some (.int .i64 id)∧w'.cell? ⟨w.heap.size+1,2,none⟩=some (.int .i64 req)∧w'.cell? ⟨w.heap.size+1,3,none⟩=some (.slice Aa na ca)∧w'.cell? ⟨w.heap.size+1,4,none⟩=some (.int .i64 cnt)∧w'.cell? ⟨w.heap.size+1,5,none⟩=some (.int .i64 ay)∧w'.cell? ⟨w.heap.size+1,6,none⟩=some (.int .i64 au)) (first|(go_keep;done)|(go_simp;done)|(simp[go_sem];done)) (fail)
  all_goals
   clear p0 p1 p2 p3 p4 q0 q1 q2 q3 q4 q5 q6 r0 r1 r2 z0 z1 z2 s0 s1 s2 m0 m1 m2 m3 m4 m5 m6 f0 f1 f2 g0 g1 g2 g3 g4 g5 g6 k3
   obtain⟨Wc,hWc⟩: ∃Wc:World,Wc=(((W2.setCell ⟨w.heap.size+1+1+1,0,none⟩ (.int .i64 0)).setCell ⟨w.heap.size+1+1+1,1,none⟩ (.int .i64 0)).setCell ⟨w.heap.size+1+1+1,2,none⟩ (.slice none 0 0)):=⟨_,rfl⟩
   obtain⟨Wf,hWf⟩: ∃Wf:World,Wf=((((((((Wc.setCell ⟨w.heap.size+1+1+1+1,0,none⟩ (.int .i64 st)).setCell ⟨w.heap.size+1+1+1+1,1,none⟩ (.int .i64 id)).setCell ⟨w.heap.size+1+1+1+1,2,none⟩ (.int .i64 req)).setCell ⟨w.heap.size+1+1+1+1,3,none⟩ (.slice Aa na ca)).setCell ⟨w.heap.size+1+1+1+1,4,none⟩ (.int .i64 cnt)).setCell ⟨w.heap.size+1+1+1+1,5,none⟩ (.int .i64 ay)).setCell ⟨w.heap.size+1+1+1+1,6,none⟩ (.int .i64 au))).drew:=⟨_,rfl⟩
   have bO:Wf=(((((((((((W2.setCell ⟨w.heap.size+1+1+1,0,none⟩ (.int .i64 0)).setCell ⟨w.heap.size+1+1+1,1,none⟩ (.int .i64 0)).setCell ⟨w.heap.size+1+1+1,2,none⟩ (.slice none 0 0)).setCell ⟨w.heap.size+1+1+1+1,0,none⟩ (.int .i64 st)).setCell ⟨w.heap.size+1+1+1+1,1,none⟩ (.int .i64 id)).setCell ⟨w.heap.size+1+1+1+1,2,none⟩ (.int .i64 req)).setCell ⟨w.heap.size+1+1+1+1,3,none⟩ (.slice Aa na ca)).setCell ⟨w.heap.size+1+1+1+1,4,none⟩ (.int .i64 cnt)).setCell ⟨w.heap.size+1+1+1+1,5,none⟩ (.int .i64 ay)).setCell ⟨w.heap.size+1+1+1+1,6,none⟩ (.int .i64 au))).drew:=by rw[hWf,hWc]
   go_wp2_with fail
   rw[←bO]
   have mU:=hid (fC.out)
   have mV:=hid ((show Wc.heap[w.heap.size+1+1+1+1]? =(W2).heap[w.heap.size+1+1+1+1]? by rw[hWc];exact cB (by omega) _ _ _).trans (qM.out))
   have hg1:(W2).grownBy Wc (some (w.heap.size+1+1+1)):=by rw[hWc];exact grn
   have iG:Wc.heap[w.heap.size+1+1+1]? =some (.cells #[.int .i64 0,.int .i64 0,(.slice none 0 0)] 32 (0,0)):=by rw[hWc];exact iB mU.out rfl _ _ _
   have hrc:Wf.heap[w.heap.size+1+1+1]? =some (.cells #[.int .i64 0,.int .i64 0,(.slice none 0 0)] 32 (0,0)):=by rw[hWf,dR,dD (by omega)];exact iG
   have hra:Wf.heap[w.heap.size+1+1+1+1]? =some (.cells #[.int .i64 st,.int .i64 id,.int .i64 req,(.slice Aa na ca),.int .i64 cnt,.int .i64 ay,.int .i64 au] 29 (0,0)):=by rw[hWf,dR];exact gF mV.out rfl _ _ _ _ _ _ _
   have hg2:Wc.grownBy Wf (some (w.heap.size+1+1+1+1)):=by rw[hWf];exact grn
   clear bO hWf hWc
   have hbf:Below w.heap.size w Wf:=Below.grown (Below.grown (aQ.out) hg1 (hszW) (fun k hk=>by cases hk;omega)) hg2 (aaF (hszW) hg1.size) (fun k hk=>by cases hk;omega)
   obtain⟨u0,u1,u2⟩:=cells3 hrc
   obtain⟨e0,e1,e2,e3,e4,e5,e6⟩:=aG hra
   refine bodyPost_ret (v:=.tuple #[.int .i64 0,.agg #[.int .i64 0,.int .i64 0,.slice none 0 0],.agg #[.int .i64 st,.int .i64 id,.int .i64 req,.slice Aa na ca,.int .i64 cnt,.int .i64 ay,.int .i64 au],.bool false]) (by simp[results,Tryz.results63,go_sem,u0,u1,u2,e0,e1,e2,e3,e4,e5,e6]) rfl ?_
   exact⟨_,_,_,_,_,_,_,_,_,rfl,hbf⟩
 focus
  obtain⟨x,r,hl2⟩:=List.exists_cons_of_ne_nil hl
  obtain⟨b,o,EY,tL,hcc⟩:=HI.out.get (by rw[hl2];simp)
  have HX:=hid (hcc 0 (bv x) (by rw[hl2];rfl))
  clear hcc
  obtain⟨xn,hxn⟩: ∃xn:Nat,x.toNat=xn:=⟨_,rfl⟩
  have hbv:bv x=.int .u8 (xn:Int):=by rw[←hxn];rfl
  rw[hbv] at HX
  have CS:(0:Int)<(ni:Int):=by have:=gy.out;rw[hl2] at this;simp at this;omega
  have e0:((ni:Int)==0)=false:=by simp;omega
  have je:=hid (show bK ⟨R,mc,mt,mf,wt⟩ ⟨st,id,req,L,cnt,ay,au⟩ ⟨7,ii,li⟩=if 1≤xn∧xn≤7 then some (15,⟨0,0,[]⟩,L) else some (14,⟨0,0,[]⟩,L) by rw[hl2,←hxn];rfl)
  rw[je.out]
  have VD:=hid EY
  clear je hbv hxn hl hl2 EY
  by_cases DX:1≤xn∧xn≤7
 ·rw[if_pos DX]
  have hge:decide ((1:Int)≤(xn:Int))=true:=by simp;omega
  have hle:decide ((xn:Int)≤7)=true:=by simp;omega
  clear DX
  go_enter Tryz.func63,Tryz.ntmps63
  go_upto_region 2 with(fail)
  refine jC ?_
  rintro W2 ⟨h6,h7,h8,h12,bR,iq,hbw⟩
  have aQ:=hid hbw
  have H6:=hid h6
  have H7:=hid h7
  have H8:=hid h8
  have fC:=hid h12
  have qM:=hid bR
  have vM:=hid iq
  have hszW:=hbw.size
  have l6:=aj h6
  have l7:=aj h7
  have l8:=aj h8
  have bn:=aj h12
  have vT:=aj bR
  have vg:=aj iq
  obtain⟨p0,p1,p2,p3,p4⟩:=cells5 h6
  obtain⟨q0,q1,q2,q3,q4,q5,q6⟩:=aG h7
  obtain⟨r0,r1,r2⟩:=cells3 h8
  obtain⟨z0,z1,z2⟩:=cells3 iq
  obtain⟨s0,s1,s2⟩:=cells3 h12
  obtain⟨m0,m1,m2,m3,m4,m5,m6⟩:=aG bR
  have f0:=frees h12 0
  have f1:=frees h12 1
  have f2:=frees h12 2
  have g0:=frees bR 0
  have g1:=frees bR 1
  have g2:=frees bR 2
  have g3:=frees bR 3
  have g4:=frees bR 4
  have g5:=frees bR 5
  have g6:=frees bR 6
  have k3:=frees h7 3
  clear h6 h7 h8 h12 bR iq hbw
  have EY:=VD.out
  subst EY
  have hbz:b<W2.heap.size:=by have:=HB.out;omega
  have cx:W2.cell? ⟨b,o+0,none⟩=some (.int .u8 (xn:Int)):=(aQ.out.cell (p:=⟨b,o+0,none⟩) (by have:=HB.out;show b<_;omega)).trans HX.out
  simp only[Nat.add_zero] at cx
  go_wp2_with fail
  go_region_held3 (fun w'=>w'.cell? ⟨w.heap.size+1+1+1+1+1,0,none⟩=some (.int .i64 0)∧w'.cell? ⟨w.heap.size+1+1+1+1+1,1,none⟩=some (.int .i64 0)∧w'.cell? ⟨w.heap.size+1+1+1+1+1,2,none⟩=some (.slice none 0 0)∧w'.cell? ⟨w.heap.size+1,0,none⟩=some (.int .i64 st)∧w'.cell? ⟨w.heap.size+1,1,none⟩=some (.int .i64 id)∧w'.cell? ⟨w.heap.size+1,2,none⟩=some (.int .i64 req)∧w'.cell? ⟨w.heap.size+1,3,none⟩=some (.slice Aa na ca)∧w'.cell? ⟨w.heap.size+1,4,none⟩=some (.int .i64 cnt)∧w'.cell? ⟨w.heap.size+1,5,none⟩=some (.int .i64 ay)∧w'.cell? ⟨w.heap.size+1,6,none⟩=some (.int .i64 au)) (first|(go_keep;done)|(go_simp;done)|(simp[go_sem];done)) (fail)
  all_goals
   clear p0 p1 p2 p3 p4 q0 q1 q2 q3 q4 q5 q6 r0 r1 r2 z0 z1 z2 s0 s1 s2 m0 m1 m2 m3 m4 m5 m6 f0 f1 f2 g0 g1 g2 g3 g4 g5 g6 k3
   obtain⟨Wc,hWc⟩: ∃Wc:World,Wc=(((W2.setCell ⟨w.heap.size+1+1+1,0,none⟩ (.int .i64 0)).setCell ⟨w.heap.size+1+1+1,1,none⟩ (.int .i64 0)).setCell ⟨w.heap.size+1+1+1,2,none⟩ (.slice none 0 0)):=⟨_,rfl⟩
   obtain⟨Wf,hWf⟩: ∃Wf:World,Wf=((((((((Wc.setCell ⟨w.heap.size+1+1+1+1,0,none⟩ (.int .i64 st)).setCell ⟨w.heap.size+1+1+1+1,1,none⟩ (.int .i64 id)).setCell ⟨w.heap.size+1+1+1+1,2,none⟩ (.int .i64 req)).setCell ⟨w.heap.size+1+1+1+1,3,none⟩ (.slice Aa na ca)).setCell ⟨w.heap.size+1+1+1+1,4,none⟩ (.int .i64 cnt)).setCell ⟨w.heap.size+1+1+1+1,5,none⟩ (.int .i64 ay)).setCell ⟨w.heap.size+1+1+1+1,6,none⟩ (.int .i64 au))).drew:=⟨_,rfl⟩
   have bO:Wf=(((((((((((W2.setCell ⟨w.heap.size+1+1+1,0,none⟩ (.int .i64 0)).setCell ⟨w.heap.size+1+1+1,1,none⟩ (.int .i64 0)).setCell ⟨w.heap.size+1+1+1,2,none⟩ (.slice none 0 0)).setCell ⟨w.heap.size+1+1+1+1,0,none⟩ (.int .i64 st)).setCell ⟨w.heap.size+1+1+1+1,1,none⟩ (.int .i64 id)).setCell ⟨w.heap.size+1+1+1+1,2,none⟩ (.int .i64 req)).setCell ⟨w.heap.size+1+1+1+1,3,none⟩ (.slice Aa na ca)).setCell ⟨w.heap.size+1+1+1+1,4,none⟩ (.int .i64 cnt)).setCell ⟨w.heap.size+1+1+1+1,5,none⟩ (.int .i64 ay)).setCell ⟨w.heap.size+1+1+1+1,6,none⟩ (.int .i64 au))).drew:=by rw[hWf,hWc]
   go_wp2_with fail
   rw[←bO]
   have mU:=hid (fC.out)
   have mV:=hid ((show Wc.heap[w.heap.size+1+1+1+1]? =(W2).heap[w.heap.size+1+1+1+1]? by rw[hWc];exact cB (by omega) _ _ _).trans (qM.out))
   have hg1:(W2).grownBy Wc (some (w.heap.size+1+1+1)):=by rw[hWc];exact grn
   have iG:Wc.heap[w.heap.size+1+1+1]? =some (.cells #[.int .i64 0,.int .i64 0,(.slice none 0 0)] 32 (0,0)):=by rw[hWc];exact iB mU.out rfl _ _ _
   have hrc:Wf.heap[w.heap.size+1+1+1]? =some (.cells #[.int .i64 0,.int .i64 0,(.slice none 0 0)] 32 (0,0)):=by rw[hWf,dR,dD (by omega)];exact iG
   have hra:Wf.heap[w.heap.size+1+1+1+1]? =some (.cells #[.int .i64 st,.int .i64 id,.int .i64 req,(.slice Aa na ca),.int .i64 cnt,.int .i64 ay,.int .i64 au] 29 (0,0)):=by rw[hWf,dR];exact gF mV.out rfl _ _ _ _ _ _ _
   have hg2:Wc.grownBy Wf (some (w.heap.size+1+1+1+1)):=by rw[hWf];exact grn
   clear bO hWf hWc
   have hbf:Below w.heap.size w Wf:=Below.grown (Below.grown (aQ.out) hg1 (hszW) (fun k hk=>by cases hk;omega)) hg2 (aaF (hszW) hg1.size) (fun k hk=>by cases hk;omega)
   obtain⟨u0,u1,u2⟩:=cells3 hrc
   obtain⟨e0,e1,e2,e3,e4,e5,e6⟩:=aG hra
   refine bodyPost_ret (v:=.tuple #[.int .i64 15,.agg #[.int .i64 0,.int .i64 0,.slice none 0 0],.agg #[.int .i64 st,.int .i64 id,.int .i64 req,.slice Aa na ca,.int .i64 cnt,.int .i64 ay,.int .i64 au],.bool true]) (by simp[results,Tryz.results63,go_sem,u0,u1,u2,e0,e1,e2,e3,e4,e5,e6]) rfl ?_
   exact⟨none,0,0,Aa,na,ca,rfl,hbf,bB.nil _ _,(fun h=>by cases h),fun _=>rfl⟩
 focus
  by_cases h18:1≤xn
 focus
  rw[if_neg DX]
  have hge:decide ((1:Int)≤(xn:Int))=true:=by simp;omega
  have hle:decide ((xn:Int)≤7)=false:=by simp;omega
 rotate_left
 focus
  rw[if_neg DX]
  have hge:decide ((1:Int)≤(xn:Int))=false:=by simp;omega
  have hle:decide ((xn:Int)≤7)=true:=by simp;omega
 rotate_left
 all_goals
  clear DX
  go_enter Tryz.func63,Tryz.ntmps63
  go_upto_region 2 with(fail)
  refine jC ?_
  rintro W2 ⟨h6,h7,h8,h12,bR,iq,hbw⟩
  have aQ:=hid hbw
  have H6:=hid h6
  have H7:=hid h7
  have H8:=hid h8
  have fC:=hid h12
  have qM:=hid bR
  have vM:=hid iq
  have hszW:=hbw.size
  have l6:=aj h6
  have l7:=aj h7
  have l8:=aj h8
  have bn:=aj h12
  have vT:=aj bR
  have vg:=aj iq
  obtain⟨p0,p1,p2,p3,p4⟩:=cells5 h6
  obtain⟨q0,q1,q2,q3,q4,q5,q6⟩:=aG h7
  obtain⟨r0,r1,r2⟩:=cells3 h8
  obtain⟨z0,z1,z2⟩:=cells3 iq
  obtain⟨s0,s1,s2⟩:=cells3 h12
  obtain⟨m0,m1,m2,m3,m4,m5,m6⟩:=aG bR
  have f0:=frees h12 0
  have f1:=frees h12 1
  have f2:=frees h12 2
  have g0:=frees bR 0
  have g1:=frees bR 1
  have g2:=frees bR 2
  have g3:=frees bR 3
  have g4:=frees bR 4
  have g5:=frees bR 5
  have g6:=frees bR 6
  have k3:=frees h7 3
  clear h6 h7 h8 h12 bR iq hbw
  have EY:=VD.out
  subst EY
  have hbz:b<W2.heap.size:=by have:=HB.out;omega
  have cx:W2.cell? ⟨b,o+0,none⟩=some (.int .u8 (xn:Int)):=(aQ.out.cell (p:=⟨b,o+0,none⟩) (by have:=HB.out;show b<_;omega)).trans HX.out
  simp only[Nat.add_zero] at cx
  go_wp2_with fail
  go_region_held3 (fun w'=>w'.cell? ⟨w.heap.size+1+1+1+1+1,0,none⟩=some (.int .i64 0)∧w'.cell? ⟨w.heap.size+1+1+1+1+1,1,none⟩=some (.int .i64 0)∧w'.cell? ⟨w.heap.size+1+1+1+1+1,2,none⟩=some (.slice none 0 0)∧w'.cell? ⟨w.heap.size+1,0,none⟩=some (.int .i64 st)∧w'.cell? ⟨w.heap.size+1,1,none⟩=some (.int .i64 id)∧w'.cell? ⟨w.heap.size+1,2,none⟩=some (.int .i64 req)∧w'.cell? ⟨w.heap.size+1,3,none⟩=some (.slice Aa na ca)∧w'.cell? ⟨w.heap.size+1,4,none⟩=some (.int .i64 cnt)∧w'.cell? ⟨w.heap.size+1,5,none⟩=some (.int .i64 ay)∧w'.cell? ⟨w.heap.size+1,6,none⟩=some (.int .i64 au)) (first|(go_keep;done)|(go_simp;done)|(simp[go_sem];done)) (fail)
  all_goals
   clear p0 p1 p2 p3 p4 q0 q1 q2 q3 q4 q5 q6 r0 r1 r2 z0 z1 z2 s0 s1 s2 m0 m1 m2 m3 m4 m5 m6 f0 f1 f2 g0 g1 g2 g3 g4 g5 g6 k3
   obtain⟨Wc,hWc⟩: ∃Wc:World,Wc=(((W2.setCell ⟨w.heap.size+1+1+1,0,none⟩ (.int .i64 0)).setCell ⟨w.heap.size+1+1+1,1,none⟩ (.int .i64 0)).setCell ⟨w.heap.size+1+1+1,2,none⟩ (.slice none 0 0)):=⟨_,rfl⟩
   obtain⟨Wf,hWf⟩: ∃Wf:World,Wf=((((((((Wc.setCell ⟨w.heap.size+1+1+1+1,0,none⟩ (.int .i64 st)).setCell ⟨w.heap.size+1+1+1+1,1,none⟩ (.int .i64 id)).setCell ⟨w.heap.size+1+1+1+1,2,none⟩ (.int .i64 req)).setCell ⟨w.heap.size+1+1+1+1,3,none⟩ (.slice Aa na ca)).setCell ⟨w.heap.size+1+1+1+1,4,none⟩ (.int .i64 cnt)).setCell ⟨w.heap.size+1+1+1+1,5,none⟩ (.int .i64 ay)).setCell ⟨w.heap.size+1+1+1+1,6,none⟩ (.int .i64 au))).drew:=⟨_,rfl⟩
   have bO:Wf=(((((((((((W2.setCell ⟨w.heap.size+1+1+1,0,none⟩ (.int .i64 0)).setCell ⟨w.heap.size+1+1+1,1,none⟩ (.int .i64 0)).setCell ⟨w.heap.size+1+1+1,2,none⟩ (.slice none 0 0)).setCell ⟨w.heap.size+1+1+1+1,0,none⟩ (.int .i64 st)).setCell ⟨w.heap.size+1+1+1+1,1,none⟩ (.int .i64 id)).setCell ⟨w.heap.size+1+1+1+1,2,none⟩ (.int .i64 req)).setCell ⟨w.heap.size+1+1+1+1,3,none⟩ (.slice Aa na ca)).setCell ⟨w.heap.size+1+1+1+1,4,none⟩ (.int .i64 cnt)).setCell ⟨w.heap.size+1+1+1+1,5,none⟩ (.int .i64 ay)).setCell ⟨w.heap.size+1+1+1+1,6,none⟩ (.int .i64 au))).drew:=by rw[hWf,hWc]
   go_wp2_with fail
   rw[←bO]
   have mU:=hid (fC.out)
   have mV:=hid ((show Wc.heap[w.heap.size+1+1+1+1]? =(W2).heap[w.heap.size+1+1+1+1]? by rw[hWc];exact cB (by omega) _ _ _).trans (qM.out))
   have hg1:(W2).grownBy Wc (some (w.heap.size+1+1+1)):=by rw[hWc];exact grn
   have iG:Wc.heap[w.heap.size+1+1+1]? =some (.cells #[.int .i64 0,.int .i64 0,(.slice none 0 0)] 32 (0,0)):=by rw[hWc];exact iB mU.out rfl _ _ _
   have hrc:Wf.heap[w.heap.size+1+1+1]? =some (.cells #[.int .i64 0,.int .i64 0,(.slice none 0 0)] 32 (0,0)):=by rw[hWf,dR,dD (by omega)];exact iG
   have hra:Wf.heap[w.heap.size+1+1+1+1]? =some (.cells #[.int .i64 st,.int .i64 id,.int .i64 req,(.slice Aa na ca),.int .i64 cnt,.int .i64 ay,.int .i64 au] 29 (0,0)):=by rw[hWf,dR];exact gF mV.out rfl _ _ _ _ _ _ _
   have hg2:Wc.grownBy Wf (some (w.heap.size+1+1+1+1)):=by rw[hWf];exact grn
   clear bO hWf hWc
   have hbf:Below w.heap.size w Wf:=Below.grown (Below.grown (aQ.out) hg1 (hszW) (fun k hk=>by cases hk;omega)) hg2 (aaF (hszW) hg1.size) (fun k hk=>by cases hk;omega)
   obtain⟨u0,u1,u2⟩:=cells3 hrc
   obtain⟨e0,e1,e2,e3,e4,e5,e6⟩:=aG hra
   refine bodyPost_ret (v:=.tuple #[.int .i64 14,.agg #[.int .i64 0,.int .i64 0,.slice none 0 0],.agg #[.int .i64 st,.int .i64 id,.int .i64 req,.slice Aa na ca,.int .i64 cnt,.int .i64 ay,.int .i64 au],.bool true]) (by simp[results,Tryz.results63,go_sem,u0,u1,u2,e0,e1,e2,e3,e4,e5,e6]) rfl ?_
   exact⟨none,0,0,Aa,na,ca,rfl,hbf,bB.nil _ _,(fun h=>by cases h),fun _=>rfl⟩
end Go.Proofs.YtfkgmbknfnhjoaaGreat
