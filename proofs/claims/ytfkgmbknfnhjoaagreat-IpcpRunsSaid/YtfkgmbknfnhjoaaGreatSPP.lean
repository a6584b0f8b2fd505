/- PP -/
import Derived.Test.YtfkgmbknfnhjoaaGreatSPN
import Derived.BigQuiet
set_option linter.all false
set_option linter.ambiguousOpen false
set_option maxHeartbeats 8000000
namespace Go.Proofs.YtfkgmbknfnhjoaaGreat
open Lib (hid)
open Go.RowKit
open Ne (Rl bF aD bM aS bN)
open Fs (av hasB)
theorem iO {W:World} {B:Nat} {A:Option Addr} {n c:Nat} {l:List UInt8} (h:At W B A (l.map bv)) (hn:n=l.length):(convert 30 9 (.slice A n c)).run Tryz.prog W.drew=.ok (.string ⟨l.toArray⟩) W.drew:=
 gM Tryz.underlying30 Tryz.underlying5 Tryz.underlying9 hn (show At W.drew B A (l.map bv) from h)
theorem bB.at {W:World} {base:Nat} {A:Option Addr} {n c:Nat} {l:List UInt8} (h:bB W base (.slice A n c) l):At W W.heap.size A (l.map bv):=by
 obtain⟨A',n',c',e,h1,-,-⟩:=h.v
 cases e
 exact h1
set_option maxRecDepth 100000 in
theorem F5 (Ar Aa Ai:Option Addr) (nr cr na ca ni ci:Nat) (R:List Rl) (mc mt mf wt st id req cnt ay au ii:Int) (E:List aH) (li:List UInt8) (w:World) (B:Nat) (hB:B≤w.heap.size) (hR:aD w B Ar R) (hnr:nr=R.length) (hlr:nr≤1000000) (hE:aJ w B Aa E) (hna:na=E.length) (hca:na≤ca) (hla:na≤1000000) (hI:At w B Ai (li.map bv)) (hni:ni=li.length) (hci:ni≤ci) (hq:ii=req∧li≠(Op.encR (E.map aH.o)).1):Calls Tryz.prog 63 #[.agg #[.slice Ar nr cr,.int .i64 mc,.int .i64 mt,.int .i64 mf,.int .i64 wt],.agg #[.int .i64 st,.int .i64 id,.int .i64 req,.slice Aa na ca,.int .i64 cnt,.int .i64 ay,.int .i64 au],.agg #[.int .i64 2,.int .i64 ii,.slice Ai ni ci]] w (jG (bK ⟨R,mc,mt,mf,wt⟩ ⟨st,id,req,E.map aH.o,cnt,ay,au⟩ ⟨2,ii,li⟩) ⟨st,id,req,E.map aH.o,cnt,ay,au⟩ (.slice Aa na ca) w):=by
 have HB:=hid hB
 have HR:=hid hR
 have gB:=hid hnr
 have HE:=hid hE
 have dz:=hid hna
 have HI:=hid hI
 have gy:=hid hni
 obtain⟨L,hL⟩: ∃L,E.map aH.o=L:=⟨_,rfl⟩
 have HL:=hid hL
 rw[hL]
 clear hB hR hnr hE hna hL hI hni
 rw[HL.out] at hq
 obtain⟨⟨eb,ee⟩,hen⟩: ∃r,Op.encR L=r:=⟨_,rfl⟩
 have jB:=hid hen
 obtain⟨nb,hnb⟩: ∃nb,eb.length=nb:=⟨_,rfl⟩
 have jK:=hid hnb
 have je:=hid (show bK ⟨R,mc,mt,mf,wt⟩ ⟨st,id,req,L,cnt,ay,au⟩ ⟨2,ii,li⟩=if ii=req∧li=eb then some (9,⟨0,0,[]⟩,L) else none by have h:bK ⟨R,mc,mt,mf,wt⟩ ⟨st,id,req,L,cnt,ay,au⟩ ⟨2,ii,li⟩=if ii=req∧li=(Op.encR L).1 then some (9,⟨0,0,[]⟩,L) else none:=rfl;rw[h,hen])
 rw[je.out]
 rw[hen] at hq
 dsimp only at hq
 clear hen hnb je
 have HQ:=hid (show¬(ii=req∧li=eb) from fun h=>hq.2 h.2)
 rw[if_neg HQ.out]
 have h1':(ii==req)=true:=by simpa using hq.1
 have h2:(li==eb)=false:=by simpa using hq.2
 clear hq
 go_enter Tryz.func63,Tryz.ntmps63
 go_upto_region 2 with(fail)
 refine jC ?_
 rintro W2 ⟨h6,h7,h8,h12,bR,iq,hbw⟩
 have aQ:=hid hbw
 have H6:=hid h6
 have H7:=hid h7
 have H8:=hid h8
 have fC:=hid h12
 have qM:=hid bR
 have vM:=hid iq
 have hszW:=hbw.size
 have l6:=aj h6
 have l7:=aj h7
 have l8:=aj h8
 have bn:=aj h12
 have vT:=aj bR
 have vg:=aj iq
 obtain⟨p0,p1,p2,p3,p4⟩:=cells5 h6
 obtain⟨q0,q1,q2,q3,q4,q5,q6⟩:=aG h7
 obtain⟨r0,r1,r2⟩:=cells3 h8
 obtain⟨z0,z1,z2⟩:=cells3 iq
 obtain⟨s0,s1,s2⟩:=cells3 h12
 obtain⟨m0,m1,m2,m3,m4,m5,m6⟩:=aG bR
 have f0:=frees h12 0
 have f1:=frees h12 1
 have f2:=frees h12 2
 have g0:=frees bR 0
 have g1:=frees bR 1
 have g2:=frees bR 2
 have g3:=frees bR 3
 have g4:=frees bR 4
 have g5:=frees bR 5
 have g6:=frees bR 6
 have k3:=frees h7 3
 clear h6 h7 h8 h12 bR iq hbw
 go_wp2_with fail
 refine(Op.jP Aa na ca E _ B (by have:=HB.out;omega) (HE.out.keep (aQ.out.mono HB.out)) dz.out).mono ?_
 rw[HL.out]
 rintro x w5 he
 obtain⟨A5,c5,rfl,hb5,lN,CF⟩:=gK.get he jB.out jK.out
 have qU:=hid lN
 have dO:=hid (show Below W2.heap.size W2 w5 from hb5)
 have hs5:=dO.out.size
 have pX:=hid ((dO.out.block _ l7).trans H7.out)
 have pY:=hid ((dO.out.block _ l8).trans H8.out)
 have eZ:=hid ((dO.out.block _ bn).trans fC.out)
 have lH:=hid ((dO.out.block _ vT).trans qM.out)
 have tY:=hid ((dO.out.block _ vg).trans vM.out)
 clear p0 p1 p2 p3 p4 q0 q1 q2 q3 q4 q5 q6 r0 r1 r2 z0 z1 z2 s0 s1 s2 m0 m1 m2 m3 m4 m5 m6 f0 f1 f2 g0 g1 g2 g3 g4 g5 g6 k3
 clear he hb5 lN
 obtain⟨⟨CU,CV,pI,pJ,pK⟩,⟨q0,q1,q2,q3,q4,q5,q6⟩,⟨r0,r1,r2⟩,⟨z0,z1,z2⟩,⟨s0,s1,s2⟩,⟨m0,m1,m2,m3,m4,m5,m6⟩,⟨f0,f1,f2⟩,⟨g0,g1,g2,g3,g4,g5,g6⟩,k3⟩:=dN pX.out pY.out eZ.out lH.out tY.out
 go_wp2_with fail
 have o1:bB w5 w.heap.size (.slice A5 nb c5) eb:=by unfold bB;rw[jK.out];exact aK qU.out (by omega)
 have hgc:w5.grownBy (((w5.setCell ⟨w.heap.size+1+1+1,0,none⟩ (.int .i64 0)).setCell ⟨w.heap.size+1+1+1,1,none⟩ (.int .i64 0)).setCell ⟨w.heap.size+1+1+1,2,none⟩ (.slice none 0 0)) (some (w.heap.size+1+1+1)):=grn
 have o2:=o1.other hgc eZ.out (by decide)
 have Wy:((((w5.setCell ⟨w.heap.size+1+1+1,0,none⟩ (.int .i64 0)).setCell ⟨w.heap.size+1+1+1,1,none⟩ (.int .i64 0)).setCell ⟨w.heap.size+1+1+1,2,none⟩ (.slice none 0 0))).heap[w.heap.size+1+1+1+1]? =w5.heap[w.heap.size+1+1+1+1]?:=cB (by omega) _ _ _
 have hga:((((w5.setCell ⟨w.heap.size+1+1+1,0,none⟩ (.int .i64 0)).setCell ⟨w.heap.size+1+1+1,1,none⟩ (.int .i64 0)).setCell ⟨w.heap.size+1+1+1,2,none⟩ (.slice none 0 0))).grownBy ((((((((((w5.setCell ⟨w.heap.size+1+1+1,0,none⟩ (.int .i64 0)).setCell ⟨w.heap.size+1+1+1,1,none⟩ (.int .i64 0)).setCell ⟨w.heap.size+1+1+1,2,none⟩ (.slice none 0 0)).setCell ⟨w.heap.size+1+1+1+1,0,none⟩ (.int .i64 st)).setCell ⟨w.heap.size+1+1+1+1,1,none⟩ (.int .i64 id)).setCell ⟨w.heap.size+1+1+1+1,2,none⟩ (.int .i64 req)).setCell ⟨w.heap.size+1+1+1+1,3,none⟩ (.slice Aa na ca)).setCell ⟨w.heap.size+1+1+1+1,4,none⟩ (.int .i64 cnt)).setCell ⟨w.heap.size+1+1+1+1,5,none⟩ (.int .i64 ay)).setCell ⟨w.heap.size+1+1+1+1,6,none⟩ (.int .i64 au)) (some (w.heap.size+1+1+1+1)):=grn
 have o3:=o2.other hga (Wy.trans lH.out) (by decide)
 have TS:At w5 w.heap.size Ai (li.map bv):=(HI.out.keep ((aQ.out.trans (dO.out.mono hszW)).mono HB.out)).more HB.out
 have Zr:w.heap.size≤w5.heap.size:=by omega
 have TT:=TS.keep (bE hgc (by omega)|>.mono (show w.heap.size≤w.heap.size+1+1+1 by omega))
 have Wx:=TT.keep (bE hga (by simp;omega)|>.mono (show w.heap.size≤w.heap.size+1+1+1+1 by omega))
 have k1:=iO (c:=ci) TS gy.out
 have k2:=iO (c:=ci) TT gy.out
 have ZE:=iO (c:=ci) Wx gy.out
 have k4:=iO (c:=c5) o1.at jK.out.symm
 have k5:=iO (c:=c5) o2.at jK.out.symm
 have k6:=iO (c:=c5) o3.at jK.out.symm
 clear o1 o2 o3 TS TT Wx hgc hga Wy Zr
 go_region
 all_goals
  clear h2 h1' k1 k2 ZE k4 k5 k6
  clear q0 q1 q2 q3 q4 q5 q6 r0 r1 r2 z0 z1 z2 s0 s1 s2 m0 m1 m2 m3 m4 m5 m6 f0 f1 f2 g0 g1 g2 g3 g4 g5 g6 k3
  obtain⟨Wc,hWc⟩: ∃Wc:World,Wc=(((w5.setCell ⟨w.heap.size+1+1+1,0,none⟩ (.int .i64 0)).setCell ⟨w.heap.size+1+1+1,1,none⟩ (.int .i64 0)).setCell ⟨w.heap.size+1+1+1,2,none⟩ (.slice none 0 0)):=⟨_,rfl⟩
  obtain⟨Wf,hWf⟩: ∃Wf:World,Wf=((((((((Wc.setCell ⟨w.heap.size+1+1+1+1,0,none⟩ (.int .i64 st)).setCell ⟨w.heap.size+1+1+1+1,1,none⟩ (.int .i64 id)).setCell ⟨w.heap.size+1+1+1+1,2,none⟩ (.int .i64 req)).setCell ⟨w.heap.size+1+1+1+1,3,none⟩ (.slice Aa na ca)).setCell ⟨w.heap.size+1+1+1+1,4,none⟩ (.int .i64 cnt)).setCell ⟨w.heap.size+1+1+1+1,5,none⟩ (.int .i64 ay)).setCell ⟨w.heap.size+1+1+1+1,6,none⟩ (.int .i64 au))).drew:=⟨_,rfl⟩
  have bO:Wf=(((((((((((w5.setCell ⟨w.heap.size+1+1+1,0,none⟩ (.int .i64 0)).setCell ⟨w.heap.size+1+1+1,1,none⟩ (.int .i64 0)).setCell ⟨w.heap.size+1+1+1,2,none⟩ (.slice none 0 0)).setCell ⟨w.heap.size+1+1+1+1,0,none⟩ (.int .i64 st)).setCell ⟨w.heap.size+1+1+1+1,1,none⟩ (.int .i64 id)).setCell ⟨w.heap.size+1+1+1+1,2,none⟩ (.int .i64 req)).setCell ⟨w.heap.size+1+1+1+1,3,none⟩ (.slice Aa na ca)).setCell ⟨w.heap.size+1+1+1+1,4,none⟩ (.int .i64 cnt)).setCell ⟨w.heap.size+1+1+1+1,5,none⟩ (.int .i64 ay)).setCell ⟨w.heap.size+1+1+1+1,6,none⟩ (.int .i64 au))).drew:=by rw[hWf,hWc]
  go_wp2_with fail
  rw[←bO]
  have mU:=hid (eZ.out)
  have mV:=hid ((show Wc.heap[w.heap.size+1+1+1+1]? =(w5).heap[w.heap.size+1+1+1+1]? by rw[hWc];exact cB (by omega) _ _ _).trans (lH.out))
  have hg1:(w5).grownBy Wc (some (w.heap.size+1+1+1)):=by rw[hWc];exact grn
  have iG:Wc.heap[w.heap.size+1+1+1]? =some (.cells #[.int .i64 0,.int .i64 0,(.slice none 0 0)] 32 (0,0)):=by rw[hWc];exact iB mU.out rfl _ _ _
  have hrc:Wf.heap[w.heap.size+1+1+1]? =some (.cells #[.int .i64 0,.int .i64 0,(.slice none 0 0)] 32 (0,0)):=by rw[hWf,dR,dD (by omega)];exact iG
  have hra:Wf.heap[w.heap.size+1+1+1+1]? =some (.cells #[.int .i64 st,.int .i64 id,.int .i64 req,(.slice Aa na ca),.int .i64 cnt,.int .i64 ay,.int .i64 au] 29 (0,0)):=by rw[hWf,dR];exact gF mV.out rfl _ _ _ _ _ _ _
  have hg2:Wc.grownBy Wf (some (w.heap.size+1+1+1+1)):=by rw[hWf];exact grn
  clear bO hWf hWc
  have hbf:Below w.heap.size w Wf:=Below.grown (Below.grown (aQ.out.trans (dO.out.mono hszW)) hg1 (aaF hszW hs5) (fun k hk=>by cases hk;omega)) hg2 (aaF (aaF hszW hs5) hg1.size) (fun k hk=>by cases hk;omega)
  obtain⟨u0,u1,u2⟩:=cells3 hrc
  obtain⟨e0,e1,e2,e3,e4,e5,e6⟩:=aG hra
  refine bodyPost_ret (v:=.tuple #[.int .i64 9,.agg #[.int .i64 0,.int .i64 0,.slice none 0 0],.agg #[.int .i64 st,.int .i64 id,.int .i64 req,.slice Aa na ca,.int .i64 cnt,.int .i64 ay,.int .i64 au],.bool false]) (by simp[results,Tryz.results63,go_sem,u0,u1,u2,e0,e1,e2,e3,e4,e5,e6]) rfl ?_
  exact⟨_,_,_,_,_,_,_,_,_,rfl,hbf⟩
set_option maxRecDepth 100000 in
theorem F7 (Ar Aa Ai:Option Addr) (nr cr na ca ni ci:Nat) (R:List Rl) (mc mt mf wt st id req cnt ay au ii:Int) (E:List aH) (li:List UInt8) (w:World) (B:Nat) (hB:B≤w.heap.size) (hR:aD w B Ar R) (hnr:nr=R.length) (hlr:nr≤1000000) (hE:aJ w B Aa E) (hna:na=E.length) (hca:na≤ca) (hla:na≤1000000) (hI:At w B Ai (li.map bv)) (hni:ni=li.length) (hci:ni≤ci) (hq:ii≠req∧(Op.encR (E.map aH.o)).1=(Op.encR (E.map aH.o)).1):Calls Tryz.prog 63 #[.agg #[.slice Ar nr cr,.int .i64 mc,.int .i64 mt,.int .i64 mf,.int .i64 wt],.agg #[.int .i64 st,.int .i64 id,.int .i64 req,.slice Aa na ca,.int .i64 cnt,.int .i64 ay,.int .i64 au],.agg #[.int .i64 2,.int .i64 ii,.slice Ai ni ci]] w (jG (bK ⟨R,mc,mt,mf,wt⟩ ⟨st,id,req,E.map aH.o,cnt,ay,au⟩ ⟨2,ii,li⟩) ⟨st,id,req,E.map aH.o,cnt,ay,au⟩ (.slice Aa na ca) w):=by
 have HB:=hid hB
 have HR:=hid hR
 have gB:=hid hnr
 have HE:=hid hE
 have dz:=hid hna
 have HI:=hid hI
 have gy:=hid hni
 obtain⟨L,hL⟩: ∃L,E.map aH.o=L:=⟨_,rfl⟩
 have HL:=hid hL
 rw[hL]
 clear hB hR hnr hE hna hL hI hni
 rw[HL.out] at hq
 obtain⟨⟨eb,ee⟩,hen⟩: ∃r,Op.encR L=r:=⟨_,rfl⟩
 have jB:=hid hen
 obtain⟨nb,hnb⟩: ∃nb,eb.length=nb:=⟨_,rfl⟩
 have jK:=hid hnb
 have je:=hid (show bK ⟨R,mc,mt,mf,wt⟩ ⟨st,id,req,L,cnt,ay,au⟩ ⟨2,ii,li⟩=if ii=req∧li=eb then some (9,⟨0,0,[]⟩,L) else none by have h:bK ⟨R,mc,mt,mf,wt⟩ ⟨st,id,req,L,cnt,ay,au⟩ ⟨2,ii,li⟩=if ii=req∧li=(Op.encR L).1 then some (9,⟨0,0,[]⟩,L) else none:=rfl;rw[h,hen])
 rw[je.out]
 rw[hen] at hq
 dsimp only at hq
 clear hen hnb je
 have HQ:=hid (show¬(ii=req∧li=eb) from fun h=>hq.1 h.1)
 rw[if_neg HQ.out]
 have h1':(ii==req)=false:=by simpa using hq.1
 clear hq
 go_enter Tryz.func63,Tryz.ntmps63
 go_upto_region 2 with(fail)
 refine jC ?_
 rintro W2 ⟨h6,h7,h8,h12,bR,iq,hbw⟩
 have aQ:=hid hbw
 have H6:=hid h6
 have H7:=hid h7
 have H8:=hid h8
 have fC:=hid h12
 have qM:=hid bR
 have vM:=hid iq
 have hszW:=hbw.size
 have l6:=aj h6
 have l7:=aj h7
 have l8:=aj h8
 have bn:=aj h12
 have vT:=aj bR
 have vg:=aj iq
 obtain⟨p0,p1,p2,p3,p4⟩:=cells5 h6
 obtain⟨q0,q1,q2,q3,q4,q5,q6⟩:=aG h7
 obtain⟨r0,r1,r2⟩:=cells3 h8
 obtain⟨z0,z1,z2⟩:=cells3 iq
 obtain⟨s0,s1,s2⟩:=cells3 h12
 obtain⟨m0,m1,m2,m3,m4,m5,m6⟩:=aG bR
 have f0:=frees h12 0
 have f1:=frees h12 1
 have f2:=frees h12 2
 have g0:=frees bR 0
 have g1:=frees bR 1
 have g2:=frees bR 2
 have g3:=frees bR 3
 have g4:=frees bR 4
 have g5:=frees bR 5
 have g6:=frees bR 6
 have k3:=frees h7 3
 clear h6 h7 h8 h12 bR iq hbw
 go_wp2_with fail
 refine(Op.jP Aa na ca E _ B (by have:=HB.out;omega) (HE.out.keep (aQ.out.mono HB.out)) dz.out).mono ?_
 rw[HL.out]
 rintro x w5 he
 obtain⟨A5,c5,rfl,hb5,lN,CF⟩:=gK.get he jB.out jK.out
 have qU:=hid lN
 have dO:=hid (show Below W2.heap.size W2 w5 from hb5)
 have hs5:=dO.out.size
 have pX:=hid ((dO.out.block _ l7).trans H7.out)
 have pY:=hid ((dO.out.block _ l8).trans H8.out)
 have eZ:=hid ((dO.out.block _ bn).trans fC.out)
 have lH:=hid ((dO.out.block _ vT).trans qM.out)
 have tY:=hid ((dO.out.block _ vg).trans vM.out)
 clear p0 p1 p2 p3 p4 q0 q1 q2 q3 q4 q5 q6 r0 r1 r2 z0 z1 z2 s0 s1 s2 m0 m1 m2 m3 m4 m5 m6 f0 f1 f2 g0 g1 g2 g3 g4 g5 g6 k3
 clear he hb5 lN
 obtain⟨⟨CU,CV,pI,pJ,pK⟩,⟨q0,q1,q2,q3,q4,q5,q6⟩,⟨r0,r1,r2⟩,⟨z0,z1,z2⟩,⟨s0,s1,s2⟩,⟨m0,m1,m2,m3,m4,m5,m6⟩,⟨f0,f1,f2⟩,⟨g0,g1,g2,g3,g4,g5,g6⟩,k3⟩:=dN pX.out pY.out eZ.out lH.out tY.out
 go_wp2_with fail
 go_region
 all_goals
  skip
  clear q0 q1 q2 q3 q4 q5 q6 r0 r1 r2 z0 z1 z2 s0 s1 s2 m0 m1 m2 m3 m4 m5 m6 f0 f1 f2 g0 g1 g2 g3 g4 g5 g6 k3
  obtain⟨Wc,hWc⟩: ∃Wc:World,Wc=(((w5.setCell ⟨w.heap.size+1+1+1,0,none⟩ (.int .i64 0)).setCell ⟨w.heap.size+1+1+1,1,none⟩ (.int .i64 0)).setCell ⟨w.heap.size+1+1+1,2,none⟩ (.slice none 0 0)):=⟨_,rfl⟩
  obtain⟨Wf,hWf⟩: ∃Wf:World,Wf=((((((((Wc.setCell ⟨w.heap.size+1+1+1+1,0,none⟩ (.int .i64 st)).setCell ⟨w.heap.size+1+1+1+1,1,none⟩ (.int .i64 id)).setCell ⟨w.heap.size+1+1+1+1,2,none⟩ (.int .i64 req)).setCell ⟨w.heap.size+1+1+1+1,3,none⟩ (.slice Aa na ca)).setCell ⟨w.heap.size+1+1+1+1,4,none⟩ (.int .i64 cnt)).setCell ⟨w.heap.size+1+1+1+1,5,none⟩ (.int .i64 ay)).setCell ⟨w.heap.size+1+1+1+1,6,none⟩ (.int .i64 au))).drew:=⟨_,rfl⟩
  have bO:Wf=(((((((((((w5.setCell ⟨w.heap.size+1+1+1,0,none⟩ (.int .i64 0)).setCell ⟨w.heap.size+1+1+1,1,none⟩ (.int .i64 0)).setCell ⟨w.heap.size+1+1+1,2,none⟩ (.slice none 0 0)).setCell ⟨w.heap.size+1+1+1+1,0,none⟩ (.int .i64 st)).setCell ⟨w.heap.size+1+1+1+1,1,none⟩ (.int .i64 id)).setCell ⟨w.heap.size+1+1+1+1,2,none⟩ (.int .i64 req)).setCell ⟨w.heap.size+1+1+1+1,3,none⟩ (.slice Aa na ca)).setCell ⟨w.heap.size+1+1+1+1,4,none⟩ (.int .i64 cnt)).setCell ⟨w.heap.size+1+1+1+1,5,none⟩ (.int .i64 ay)).setCell ⟨w.heap.size+1+1+1+1,6,none⟩ (.int .i64 au))).drew:=by rw[hWf,hWc]
  go_wp2_with fail
  rw[←bO]
  have mU:=hid (eZ.out)
  have mV:=hid ((show Wc.heap[w.heap.size+1+1+1+1]? =(w5).heap[w.heap.size+1+1+1+1]? by rw[hWc];exact cB (by omega) _ _ _).trans (lH.out))
  have hg1:(w5).grownBy Wc (some (w.heap.size+1+1+1)):=by rw[hWc];exact grn
  have iG:Wc.heap[w.heap.size+1+1+1]? =some (.cells #[.int .i64 0,.int .i64 0,(.slice none 0 0)] 32 (0,0)):=by rw[hWc];exact iB mU.out rfl _ _ _
  have hrc:Wf.heap[w.heap.size+1+1+1]? =some (.cells #[.int .i64 0,.int .i64 0,(.slice none 0 0)] 32 (0,0)):=by rw[hWf,dR,dD (by omega)];exact iG
  have hra:Wf.heap[w.heap.size+1+1+1+1]? =some (.cells #[.int .i64 st,.int .i64 id,.int .i64 req,(.slice Aa na ca),.int .i64 cnt,.int .i64 ay,.int .i64 au] 29 (0,0)):=by rw[hWf,dR];exact gF mV.out rfl _ _ _ _ _ _ _
  have hg2:Wc.grownBy Wf (some (w.heap.size+1+1+1+1)):=by rw[hWf];exact grn
  clear bO hWf hWc
  have hbf:Below w.heap.size w Wf:=Below.grown (Below.grown (aQ.out.trans (dO.out.mono hszW)) hg1 (aaF hszW hs5) (fun k hk=>by cases hk;omega)) hg2 (aaF (aaF hszW hs5) hg1.size) (fun k hk=>by cases hk;omega)
  obtain⟨u0,u1,u2⟩:=cells3 hrc
  obtain⟨e0,e1,e2,e3,e4,e5,e6⟩:=aG hra
  refine bodyPost_ret (v:=.tuple #[.int .i64 9,.agg #[.int .i64 0,.int .i64 0,.slice none 0 0],.agg #[.int .i64 st,.int .i64 id,.int .i64 req,.slice Aa na ca,.int .i64 cnt,.int .i64 ay,.int .i64 au],.bool false]) (by simp[results,Tryz.results63,go_sem,u0,u1,u2,e0,e1,e2,e3,e4,e5,e6]) rfl ?_
  exact⟨_,_,_,_,_,_,_,_,_,rfl,hbf⟩
set_option maxRecDepth 100000 in
theorem F6 (Ar Aa Ai:Option Addr) (nr cr na ca ni ci:Nat) (R:List Rl) (mc mt mf wt st id req cnt ay au ii:Int) (E:List aH) (li:List UInt8) (w:World) (B:Nat) (hB:B≤w.heap.size) (hR:aD w B Ar R) (hnr:nr=R.length) (hlr:nr≤1000000) (hE:aJ w B Aa E) (hna:na=E.length) (hca:na≤ca) (hla:na≤1000000) (hI:At w B Ai (li.map bv)) (hni:ni=li.length) (hci:ni≤ci) (hq:ii=req∧li=(Op.encR (E.map aH.o)).1):Calls Tryz.prog 63 #[.agg #[.slice Ar nr cr,.int .i64 mc,.int .i64 mt,.int .i64 mf,.int .i64 wt],.agg #[.int .i64 st,.int .i64 id,.int .i64 req,.slice Aa na ca,.int .i64 cnt,.int .i64 ay,.int .i64 au],.agg #[.int .i64 2,.int .i64 ii,.slice Ai ni ci]] w (jG (bK ⟨R,mc,mt,mf,wt⟩ ⟨st,id,req,E.map aH.o,cnt,ay,au⟩ ⟨2,ii,li⟩) ⟨st,id,req,E.map aH.o,cnt,ay,au⟩ (.slice Aa na ca) w):=by
 have HB:=hid hB
 have HR:=hid hR
 have gB:=hid hnr
 have HE:=hid hE
 have dz:=hid hna
 have HI:=hid hI
 have gy:=hid hni
 obtain⟨L,hL⟩: ∃L,E.map aH.o=L:=⟨_,rfl⟩
 have HL:=hid hL
 rw[hL]
 clear hB hR hnr hE hna hL hI hni
 rw[HL.out] at hq
 obtain⟨⟨eb,ee⟩,hen⟩: ∃r,Op.encR L=r:=⟨_,rfl⟩
 have jB:=hid hen
 obtain⟨nb,hnb⟩: ∃nb,eb.length=nb:=⟨_,rfl⟩
 have jK:=hid hnb
 have je:=hid (show bK ⟨R,mc,mt,mf,wt⟩ ⟨st,id,req,L,cnt,ay,au⟩ ⟨2,ii,li⟩=if ii=req∧li=eb then some (9,⟨0,0,[]⟩,L) else none by have h:bK ⟨R,mc,mt,mf,wt⟩ ⟨st,id,req,L,cnt,ay,au⟩ ⟨2,ii,li⟩=if ii=req∧li=(Op.encR L).1 then some (9,⟨0,0,[]⟩,L) else none:=rfl;rw[h,hen])
 rw[je.out]
 rw[hen] at hq
 dsimp only at hq
 clear hen hnb je
 rw[if_pos hq]
 have h1':(ii==req)=true:=by simpa using hq.1
 have h2:(li==eb)=true:=by simpa using hq.2
 clear hq
 go_enter Tryz.func63,Tryz.ntmps63
 go_upto_region 2 with(fail)
 refine jC ?_
 rintro W2 ⟨h6,h7,h8,h12,bR,iq,hbw⟩
 have aQ:=hid hbw
 have H6:=hid h6
 have H7:=hid h7
 have H8:=hid h8
 have fC:=hid h12
 have qM:=hid bR
 have vM:=hid iq
 have hszW:=hbw.size
 have l6:=aj h6
 have l7:=aj h7
 have l8:=aj h8
 have bn:=aj h12
 have vT:=aj bR
 have vg:=aj iq
 obtain⟨p0,p1,p2,p3,p4⟩:=cells5 h6
 obtain⟨q0,q1,q2,q3,q4,q5,q6⟩:=aG h7
 obtain⟨r0,r1,r2⟩:=cells3 h8
 obtain⟨z0,z1,z2⟩:=cells3 iq
 obtain⟨s0,s1,s2⟩:=cells3 h12
 obtain⟨m0,m1,m2,m3,m4,m5,m6⟩:=aG bR
 have f0:=frees h12 0
 have f1:=frees h12 1
 have f2:=frees h12 2
 have g0:=frees bR 0
 have g1:=frees bR 1
 have g2:=frees bR 2
 have g3:=frees bR 3
 have g4:=frees bR 4
 have g5:=frees bR 5
 have g6:=frees bR 6
 have k3:=frees h7 3
 clear h6 h7 h8 h12 bR iq hbw
 go_wp2_with fail
 refine(Op.jP Aa na ca E _ B (by have:=HB.out;omega) (HE.out.keep (aQ.out.mono HB.out)) dz.out).mono ?_
 rw[HL.out]
 rintro x w5 he
 obtain⟨A5,c5,rfl,hb5,lN,CF⟩:=gK.get he jB.out jK.out
 have qU:=hid lN
 have dO:=hid (show Below W2.heap.size W2 w5 from hb5)
 have hs5:=dO.out.size
 have pX:=hid ((dO.out.block _ l7).trans H7.out)
 have pY:=hid ((dO.out.block _ l8).trans H8.out)
 have eZ:=hid ((dO.out.block _ bn).trans fC.out)
 have lH:=hid ((dO.out.block _ vT).trans qM.out)
 have tY:=hid ((dO.out.block _ vg).trans vM.out)
 clear p0 p1 p2 p3 p4 q0 q1 q2 q3 q4 q5 q6 r0 r1 r2 z0 z1 z2 s0 s1 s2 m0 m1 m2 m3 m4 m5 m6 f0 f1 f2 g0 g1 g2 g3 g4 g5 g6 k3
 clear he hb5 lN
 obtain⟨⟨CU,CV,pI,pJ,pK⟩,⟨q0,q1,q2,q3,q4,q5,q6⟩,⟨r0,r1,r2⟩,⟨z0,z1,z2⟩,⟨s0,s1,s2⟩,⟨m0,m1,m2,m3,m4,m5,m6⟩,⟨f0,f1,f2⟩,⟨g0,g1,g2,g3,g4,g5,g6⟩,k3⟩:=dN pX.out pY.out eZ.out lH.out tY.out
 go_wp2_with fail
 have o1:bB w5 w.heap.size (.slice A5 nb c5) eb:=by unfold bB;rw[jK.out];exact aK qU.out (by omega)
 have hgc:w5.grownBy (((w5.setCell ⟨w.heap.size+1+1+1,0,none⟩ (.int .i64 0)).setCell ⟨w.heap.size+1+1+1,1,none⟩ (.int .i64 0)).setCell ⟨w.heap.size+1+1+1,2,none⟩ (.slice none 0 0)) (some (w.heap.size+1+1+1)):=grn
 have o2:=o1.other hgc eZ.out (by decide)
 have Wy:((((w5.setCell ⟨w.heap.size+1+1+1,0,none⟩ (.int .i64 0)).setCell ⟨w.heap.size+1+1+1,1,none⟩ (.int .i64 0)).setCell ⟨w.heap.size+1+1+1,2,none⟩ (.slice none 0 0))).heap[w.heap.size+1+1+1+1]? =w5.heap[w.heap.size+1+1+1+1]?:=cB (by omega) _ _ _
 have hga:((((w5.setCell ⟨w.heap.size+1+1+1,0,none⟩ (.int .i64 0)).setCell ⟨w.heap.size+1+1+1,1,none⟩ (.int .i64 0)).setCell ⟨w.heap.size+1+1+1,2,none⟩ (.slice none 0 0))).grownBy ((((((((((w5.setCell ⟨w.heap.size+1+1+1,0,none⟩ (.int .i64 0)).setCell ⟨w.heap.size+1+1+1,1,none⟩ (.int .i64 0)).setCell ⟨w.heap.size+1+1+1,2,none⟩ (.slice none 0 0)).setCell ⟨w.heap.size+1+1+1+1,0,none⟩ (.int .i64 st)).setCell ⟨w.heap.size+1+1+1+1,1,none⟩ (.int .i64 id)).setCell ⟨w.heap.size+1+1+1+1,2,none⟩ (.int .i64 req)).setCell ⟨w.heap.size+1+1+1+1,3,none⟩ (.slice Aa na ca)).setCell ⟨w.heap.size+1+1+1+1,4,none⟩ (.int .i64 cnt)).setCell ⟨w.heap.size+1+1+1+1,5,none⟩ (.int .i64 ay)).setCell ⟨w.heap.size+1+1+1+1,6,none⟩ (.int .i64 au)) (some (w.heap.size+1+1+1+1)):=grn
 have o3:=o2.other hga (Wy.trans lH.out) (by decide)
 have TS:At w5 w.heap.size Ai (li.map bv):=(HI.out.keep ((aQ.out.trans (dO.out.mono hszW)).mono HB.out)).more HB.out
 have Zr:w.heap.size≤w5.heap.size:=by omega
 have TT:=TS.keep (bE hgc (by omega)|>.mono (show w.heap.size≤w.heap.size+1+1+1 by omega))
 have Wx:=TT.keep (bE hga (by simp;omega)|>.mono (show w.heap.size≤w.heap.size+1+1+1+1 by omega))
 have k1:=iO (c:=ci) TS gy.out
 have k2:=iO (c:=ci) TT gy.out
 have ZE:=iO (c:=ci) Wx gy.out
 have k4:=iO (c:=c5) o1.at jK.out.symm
 have k5:=iO (c:=c5) o2.at jK.out.symm
 have k6:=iO (c:=c5) o3.at jK.out.symm
 clear o1 o2 o3 TS TT Wx hgc hga Wy Zr
 go_region
 all_goals
  clear h2 h1' k1 k2 ZE k4 k5 k6
  clear q0 q1 q2 q3 q4 q5 q6 r0 r1 r2 z0 z1 z2 s0 s1 s2 m0 m1 m2 m3 m4 m5 m6 f0 f1 f2 g0 g1 g2 g3 g4 g5 g6 k3
  obtain⟨Wc,hWc⟩: ∃Wc:World,Wc=(((w5.setCell ⟨w.heap.size+1+1+1,0,none⟩ (.int .i64 0)).setCell ⟨w.heap.size+1+1+1,1,none⟩ (.int .i64 0)).setCell ⟨w.heap.size+1+1+1,2,none⟩ (.slice none 0 0)):=⟨_,rfl⟩
  obtain⟨Wf,hWf⟩: ∃Wf:World,Wf=((((((((Wc.setCell ⟨w.heap.size+1+1+1+1,0,none⟩ (.int .i64 st)).setCell ⟨w.heap.size+1+1+1+1,1,none⟩ (.int .i64 id)).setCell ⟨w.heap.size+1+1+1+1,2,none⟩ (.int .i64 req)).setCell ⟨w.heap.size+1+1+1+1,3,none⟩ (.slice Aa na ca)).setCell ⟨w.heap.size+1+1+1+1,4,none⟩ (.int .i64 cnt)).setCell ⟨w.heap.size+1+1+1+1,5,none⟩ (.int .i64 ay)).setCell ⟨w.heap.size+1+1+1+1,6,none⟩ (.int .i64 au))).drew:=⟨_,rfl⟩
  have bO:Wf=(((((((((((w5.setCell ⟨w.heap.size+1+1+1,0,none⟩ (.int .i64 0)).setCell ⟨w.heap.size+1+1+1,1,none⟩ (.int .i64 0)).setCell ⟨w.heap.size+1+1+1,2,none⟩ (.slice none 0 0)).setCell ⟨w.heap.size+1+1+1+1,0,none⟩ (.int .i64 st)).setCell ⟨w.heap.size+1+1+1+1,1,none⟩ (.int .i64 id)).setCell ⟨w.heap.size+1+1+1+1,2,none⟩ (.int .i64 req)).setCell ⟨w.heap.size+1+1+1+1,3,none⟩ (.slice Aa na ca)).setCell ⟨w.heap.size+1+1+1+1,4,none⟩ (.int .i64 cnt)).setCell ⟨w.heap.size+1+1+1+1,5,none⟩ (.int .i64 ay)).setCell ⟨w.heap.size+1+1+1+1,6,none⟩ (.int .i64 au))).drew:=by rw[hWf,hWc]
  go_wp2_with fail
  rw[←bO]
  have mU:=hid (eZ.out)
  have mV:=hid ((show Wc.heap[w.heap.size+1+1+1+1]? =(w5).heap[w.heap.size+1+1+1+1]? by rw[hWc];exact cB (by omega) _ _ _).trans (lH.out))
  have hg1:(w5).grownBy Wc (some (w.heap.size+1+1+1)):=by rw[hWc];exact grn
  have iG:Wc.heap[w.heap.size+1+1+1]? =some (.cells #[.int .i64 0,.int .i64 0,(.slice none 0 0)] 32 (0,0)):=by rw[hWc];exact iB mU.out rfl _ _ _
  have hrc:Wf.heap[w.heap.size+1+1+1]? =some (.cells #[.int .i64 0,.int .i64 0,(.slice none 0 0)] 32 (0,0)):=by rw[hWf,dR,dD (by omega)];exact iG
  have hra:Wf.heap[w.heap.size+1+1+1+1]? =some (.cells #[.int .i64 st,.int .i64 id,.int .i64 req,(.slice Aa na ca),.int .i64 cnt,.int .i64 ay,.int .i64 au] 29 (0,0)):=by rw[hWf,dR];exact gF mV.out rfl _ _ _ _ _ _ _
  have hg2:Wc.grownBy Wf (some (w.heap.size+1+1+1+1)):=by rw[hWf];exact grn
  clear bO hWf hWc
  have hbf:Below w.heap.size w Wf:=Below.grown (Below.grown (aQ.out.trans (dO.out.mono hszW)) hg1 (aaF hszW hs5) (fun k hk=>by cases hk;omega)) hg2 (aaF (aaF hszW hs5) hg1.size) (fun k hk=>by cases hk;omega)
  obtain⟨u0,u1,u2⟩:=cells3 hrc
  obtain⟨e0,e1,e2,e3,e4,e5,e6⟩:=aG hra
  refine bodyPost_ret (v:=.tuple #[.int .i64 9,.agg #[.int .i64 0,.int .i64 0,.slice none 0 0],.agg #[.int .i64 st,.int .i64 id,.int .i64 req,.slice Aa na ca,.int .i64 cnt,.int .i64 ay,.int .i64 au],.bool true]) (by simp[results,Tryz.results63,go_sem,u0,u1,u2,e0,e1,e2,e3,e4,e5,e6]) rfl ?_
  exact⟨none,0,0,Aa,na,ca,rfl,hbf,bB.nil _ _,(fun h=>by cases h),fun _=>rfl⟩
theorem JB (Ar Aa Ai:Option Addr) (nr cr na ca ni ci:Nat) (R:List Rl) (mc mt mf wt st id req cnt ay au ii:Int) (E:List aH) (li:List UInt8) (w:World) (B:Nat) (hB:B≤w.heap.size) (hR:aD w B Ar R) (hnr:nr=R.length) (hlr:nr≤1000000) (hE:aJ w B Aa E) (hna:na=E.length) (hca:na≤ca) (hla:na≤1000000) (hI:At w B Ai (li.map bv)) (hni:ni=li.length) (hci:ni≤ci):Calls Tryz.prog 63 #[.agg #[.slice Ar nr cr,.int .i64 mc,.int .i64 mt,.int .i64 mf,.int .i64 wt],.agg #[.int .i64 st,.int .i64 id,.int .i64 req,.slice Aa na ca,.int .i64 cnt,.int .i64 ay,.int .i64 au],.agg #[.int .i64 2,.int .i64 ii,.slice Ai ni ci]] w (jG (bK ⟨R,mc,mt,mf,wt⟩ ⟨st,id,req,E.map aH.o,cnt,ay,au⟩ ⟨2,ii,li⟩) ⟨st,id,req,E.map aH.o,cnt,ay,au⟩ (.slice Aa na ca) w):=by
 by_cases h1:ii=req
 ·by_cases h2:li=(Op.encR (E.map aH.o)).1
  ·exact F6 Ar Aa Ai nr cr na ca ni ci R mc mt mf wt st id req cnt ay au ii E li w B hB hR hnr hlr hE hna hca hla hI hni hci ⟨h1,h2⟩
  ·exact F5 Ar Aa Ai nr cr na ca ni ci R mc mt mf wt st id req cnt ay au ii E li w B hB hR hnr hlr hE hna hca hla hI hni hci ⟨h1,h2⟩
 ·exact F7 Ar Aa Ai nr cr na ca ni ci R mc mt mf wt st id req cnt ay au ii E li w B hB hR hnr hlr hE hna hca hla hI hni hci ⟨h1,rfl⟩
end Go.Proofs.YtfkgmbknfnhjoaaGreat
