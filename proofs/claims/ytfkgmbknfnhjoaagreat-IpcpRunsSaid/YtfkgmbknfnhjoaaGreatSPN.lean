/- PN -/
import Derived.Test.YtfkgmbknfnhjoaaGreatSPM
set_option linter.all false
set_option linter.ambiguousOpen false
set_option maxHeartbeats 8000000
namespace Go.Proofs.YtfkgmbknfnhjoaaGreat
open Lib (hid)
open Go.RowKit
open Ne (Rl bF aD bM aS bN)
open Fs (av hasB)
set_option maxRecDepth 100000 in
theorem JA (Ar Aa Ai:Option Addr) (nr cr na ca ni ci:Nat) (R:List Rl) (mc mt mf wt st id req cnt ay au ii:Int) (E:List aH) (li:List UInt8) (w:World) (B:Nat) (hB:B≤w.heap.size) (hR:aD w B Ar R) (hnr:nr=R.length) (hlr:nr≤1000000) (hE:aJ w B Aa E) (hna:na=E.length) (hca:na≤ca) (hla:na≤1000000) (hI:At w B Ai (li.map bv)) (hni:ni=li.length) (hci:ni≤ci):Calls Tryz.prog 63 #[.agg #[.slice Ar nr cr,.int .i64 mc,.int .i64 mt,.int .i64 mf,.int .i64 wt],.agg #[.int .i64 st,.int .i64 id,.int .i64 req,.slice Aa na ca,.int .i64 cnt,.int .i64 ay,.int .i64 au],.agg #[.int .i64 1,.int .i64 ii,.slice Ai ni ci]] w (jG (bK ⟨R,mc,mt,mf,wt⟩ ⟨st,id,req,E.map aH.o,cnt,ay,au⟩ ⟨1,ii,li⟩) ⟨st,id,req,E.map aH.o,cnt,ay,au⟩ (.slice Aa na ca) w):=by
 have HB:=hid hB
 have HR:=hid hR
 have gB:=hid hnr
 have HE:=hid hE
 have dz:=hid hna
 have HI:=hid hI
 have gy:=hid hni
 obtain⟨L,hL⟩: ∃L,E.map aH.o=L:=⟨_,rfl⟩
 have HL:=hid hL
 rw[hL]
 clear hB hR hnr hE hna hL hI hni
 have je:=hid (show bK ⟨R,mc,mt,mf,wt⟩ ⟨st,id,req,L,cnt,ay,au⟩ ⟨1,ii,li⟩=fV ⟨R,mc,mt,mf,wt⟩ ⟨st,id,req,L,cnt,ay,au⟩ ⟨1,ii,li⟩ from if_pos rfl)
 rw[je.out]
 clear je
 obtain⟨⟨Y,ye⟩,hd⟩: ∃r,Op.iJ li=r:=⟨_,rfl⟩
 have HDR:=hid hd
 by_cases h0:ye=0
 focus
  subst h0
  obtain⟨⟨co,back⟩,han⟩: ∃r,aS R Y au mf=r:=⟨_,rfl⟩
  have Yk:=hid han
  obtain⟨⟨eb,ee⟩,hen⟩: ∃r,Op.encR back=r:=⟨_,rfl⟩
  have jB:=hid hen
  obtain⟨nb,hnb⟩: ∃nb,eb.length=nb:=⟨_,rfl⟩
  have jK:=hid hnb
  have HO:=hid (show fV ⟨R,mc,mt,mf,wt⟩ ⟨st,id,req,L,cnt,ay,au⟩ ⟨1,ii,li⟩=if ee≠0 then none else some (if co=2 then 7 else 8,⟨co,ii,eb⟩,L) by unfold fV;dsimp only;rw[hd];dsimp only;rw[han];dsimp only;rw[hen];simp)
  rw[HO.out]
  clear hd han hen hnb HO
  by_cases h5:ee=0
 focus
  rw[if_neg (by simpa using h5)]
  by_cases h2:co=2
 focus
  have h2':(co==2)=true:=by simpa using h2
  have h5':(ee==0)=true:=by simpa using h5
  rw[if_pos h2]
 rotate_left
 focus
  have h2':(co==2)=false:=by simpa using h2
  have h5':(ee==0)=true:=by simpa using h5
  rw[if_neg h2]
 rotate_left
 focus
  by_cases h2:co=2
 focus
  have h2':(co==2)=true:=by simpa using h2
  have h5':(ee==0)=false:=by simpa using h5
  rw[if_pos h5]
 rotate_left
 focus
  have h2':(co==2)=false:=by simpa using h2
  have h5':(ee==0)=false:=by simpa using h5
  rw[if_pos h5]
 rotate_left
 ·have h0':(ye !=0)=true:=by simpa using h0
  have HO:=hid (show fV ⟨R,mc,mt,mf,wt⟩ ⟨st,id,req,L,cnt,ay,au⟩ ⟨1,ii,li⟩=none by unfold fV;dsimp only;rw[hd];simp[h0])
  rw[HO.out]
  clear hd h0
  go_enter Tryz.func63,Tryz.ntmps63
  go_upto_region 2 with(fail)
  refine jC ?_
  rintro W2 ⟨h6,h7,h8,h12,bR,iq,hbw⟩
  have aQ:=hid hbw
  have H6:=hid h6
  have H7:=hid h7
  have H8:=hid h8
  have fC:=hid h12
  have qM:=hid bR
  have vM:=hid iq
  have hszW:=hbw.size
  have l6:=aj h6
  have l7:=aj h7
  have l8:=aj h8
  have bn:=aj h12
  have vT:=aj bR
  have vg:=aj iq
  obtain⟨p0,p1,p2,p3,p4⟩:=cells5 h6
  obtain⟨q0,q1,q2,q3,q4,q5,q6⟩:=aG h7
  obtain⟨r0,r1,r2⟩:=cells3 h8
  obtain⟨z0,z1,z2⟩:=cells3 iq
  obtain⟨s0,s1,s2⟩:=cells3 h12
  obtain⟨m0,m1,m2,m3,m4,m5,m6⟩:=aG bR
  have f0:=frees h12 0
  have f1:=frees h12 1
  have f2:=frees h12 2
  have g0:=frees bR 0
  have g1:=frees bR 1
  have g2:=frees bR 2
  have g3:=frees bR 3
  have g4:=frees bR 4
  have g5:=frees bR 5
  have g6:=frees bR 6
  have k3:=frees h7 3
  clear h6 h7 h8 h12 bR iq hbw
  go_wp2_with fail
  refine(Op.nT Ai ni ci li _ B (by have:=HB.out;omega) (HI.out.keep (aQ.out.mono HB.out)) gy.out hci).mono ?_
  rintro x w3 hd
  obtain⟨E3,A3,n3,c3,rfl,hb3,ho3,mX,ji,hc3,hl3,iK⟩:=mo.get hd HDR.out
  have gZ:=hid ho3
  have qj:=hid mX
  have wK:=hid ji
  have BH:=hid iK
  have HB3:=hid (show Below W2.heap.size W2 w3 from hb3)
  have hs3:=HB3.out.size
  have mQ:=hid ((HB3.out.block _ l7).trans H7.out)
  have m_:=hid ((HB3.out.block _ l8).trans H8.out)
  have eU:=hid ((HB3.out.block _ bn).trans fC.out)
  have sP:=hid ((HB3.out.block _ vT).trans qM.out)
  have xP:=hid ((HB3.out.block _ vg).trans vM.out)
  clear p0 p1 p2 p3 p4 q0 q1 q2 q3 q4 q5 q6 r0 r1 r2 z0 z1 z2 s0 s1 s2 m0 m1 m2 m3 m4 m5 m6 f0 f1 f2 g0 g1 g2 g3 g4 g5 g6 k3
  have Vl:=(cells5 ((HB3.out.block _ l6).trans H6.out)).1
  have Vm:=(cells5 ((HB3.out.block _ l6).trans H6.out)).2.2.2.1
  have Vt:w.heap.size<w3.heap.size:=by omega
  obtain⟨⟨CU,CV,pI,pJ,pK⟩,⟨q0,q1,q2,q3,q4,q5,q6⟩,⟨r0,r1,r2⟩,⟨z0,z1,z2⟩,⟨s0,s1,s2⟩,⟨m0,m1,m2,m3,m4,m5,m6⟩,⟨f0,f1,f2⟩,⟨g0,g1,g2,g3,g4,g5,g6⟩,k3⟩:=dN mQ.out m_.out eU.out sP.out xP.out
  clear hd hb3 ho3 mX ji iK
  go_wp2_with fail
  go_region_held3 (fun w'=>w'.cell? ⟨w.heap.size+1+1+1+1+1,0,none⟩=some (.int .i64 0)∧w'.cell? ⟨w.heap.size+1+1+1+1+1,1,none⟩=some (.int .i64 0)∧w'.cell? ⟨w.heap.size+1+1+1+1+1,2,none⟩=some (.slice none 0 0)∧w'.cell? ⟨w.heap.size+1,0,none⟩=some (.int .i64 st)∧w'.cell? ⟨w.heap.size+1,1,none⟩=some (.int .i64 id)∧w'.cell? ⟨w.heap.size+1,2,none⟩=some (.int .i64 req)∧w'.cell? ⟨w.heap.size+1,3,none⟩=some (.slice Aa na ca)∧w'.cell? ⟨w.heap.size+1,4,none⟩=some (.int .i64 cnt)∧w'.cell? ⟨w.heap.size+1,5,none⟩=some (.int .i64 ay)∧w'.cell? ⟨w.heap.size+1,6,none⟩=some (.int .i64 au)) (first|(go_keep;done)|(go_simp;done)|(simp[go_sem];done)) (fail)
  all_goals
   clear q0 q1 q2 q3 q4 q5 q6 r0 r1 r2 z0 z1 z2 s0 s1 s2 m0 m1 m2 m3 m4 m5 m6 f0 f1 f2 g0 g1 g2 g3 g4 g5 g6 k3
   obtain⟨Wc,hWc⟩: ∃Wc:World,Wc=(((w3.setCell ⟨w.heap.size+1+1+1,0,none⟩ (.int .i64 0)).setCell ⟨w.heap.size+1+1+1,1,none⟩ (.int .i64 0)).setCell ⟨w.heap.size+1+1+1,2,none⟩ (.slice none 0 0)):=⟨_,rfl⟩
   obtain⟨Wf,hWf⟩: ∃Wf:World,Wf=((((((((Wc.setCell ⟨w.heap.size+1+1+1+1,0,none⟩ (.int .i64 st)).setCell ⟨w.heap.size+1+1+1+1,1,none⟩ (.int .i64 id)).setCell ⟨w.heap.size+1+1+1+1,2,none⟩ (.int .i64 req)).setCell ⟨w.heap.size+1+1+1+1,3,none⟩ (.slice Aa na ca)).setCell ⟨w.heap.size+1+1+1+1,4,none⟩ (.int .i64 cnt)).setCell ⟨w.heap.size+1+1+1+1,5,none⟩ (.int .i64 ay)).setCell ⟨w.heap.size+1+1+1+1,6,none⟩ (.int .i64 au))).drew:=⟨_,rfl⟩
   have bO:Wf=(((((((((((w3.setCell ⟨w.heap.size+1+1+1,0,none⟩ (.int .i64 0)).setCell ⟨w.heap.size+1+1+1,1,none⟩ (.int .i64 0)).setCell ⟨w.heap.size+1+1+1,2,none⟩ (.slice none 0 0)).setCell ⟨w.heap.size+1+1+1+1,0,none⟩ (.int .i64 st)).setCell ⟨w.heap.size+1+1+1+1,1,none⟩ (.int .i64 id)).setCell ⟨w.heap.size+1+1+1+1,2,none⟩ (.int .i64 req)).setCell ⟨w.heap.size+1+1+1+1,3,none⟩ (.slice Aa na ca)).setCell ⟨w.heap.size+1+1+1+1,4,none⟩ (.int .i64 cnt)).setCell ⟨w.heap.size+1+1+1+1,5,none⟩ (.int .i64 ay)).setCell ⟨w.heap.size+1+1+1+1,6,none⟩ (.int .i64 au))).drew:=by rw[hWf,hWc]
   go_wp2_with fail
   rw[←bO]
   have mU:=hid (eU.out)
   have mV:=hid ((show Wc.heap[w.heap.size+1+1+1+1]? =(w3).heap[w.heap.size+1+1+1+1]? by rw[hWc];exact cB (by omega) _ _ _).trans (sP.out))
   have hg1:(w3).grownBy Wc (some (w.heap.size+1+1+1)):=by rw[hWc];exact grn
   have iG:Wc.heap[w.heap.size+1+1+1]? =some (.cells #[.int .i64 0,.int .i64 0,(.slice none 0 0)] 32 (0,0)):=by rw[hWc];exact iB mU.out rfl _ _ _
   have hrc:Wf.heap[w.heap.size+1+1+1]? =some (.cells #[.int .i64 0,.int .i64 0,(.slice none 0 0)] 32 (0,0)):=by rw[hWf,dR,dD (by omega)];exact iG
   have hra:Wf.heap[w.heap.size+1+1+1+1]? =some (.cells #[.int .i64 st,.int .i64 id,.int .i64 req,(.slice Aa na ca),.int .i64 cnt,.int .i64 ay,.int .i64 au] 29 (0,0)):=by rw[hWf,dR];exact gF mV.out rfl _ _ _ _ _ _ _
   have hg2:Wc.grownBy Wf (some (w.heap.size+1+1+1+1)):=by rw[hWf];exact grn
   clear bO hWf hWc
   have hbf:Below w.heap.size w Wf:=Below.grown (Below.grown (aQ.out.trans (HB3.out.mono hszW)) hg1 (aaF hszW hs3) (fun k hk=>by cases hk;omega)) hg2 (aaF (aaF hszW hs3) hg1.size) (fun k hk=>by cases hk;omega)
   obtain⟨u0,u1,u2⟩:=cells3 hrc
   obtain⟨e0,e1,e2,e3,e4,e5,e6⟩:=aG hra
   refine bodyPost_ret (v:=.tuple #[.int .i64 0,.agg #[.int .i64 0,.int .i64 0,.slice none 0 0],.agg #[.int .i64 st,.int .i64 id,.int .i64 req,.slice Aa na ca,.int .i64 cnt,.int .i64 ay,.int .i64 au],.bool false]) (by simp[results,Tryz.results63,go_sem,u0,u1,u2,e0,e1,e2,e3,e4,e5,e6]) rfl ?_
   exact⟨_,_,_,_,_,_,_,_,_,rfl,hbf⟩
 all_goals
  clear h2 h5
  go_enter Tryz.func63,Tryz.ntmps63
  go_upto_region 2 with(fail)
  refine jC ?_
  rintro W2 ⟨h6,h7,h8,h12,bR,iq,hbw⟩
  have aQ:=hid hbw
  have H6:=hid h6
  have H7:=hid h7
  have H8:=hid h8
  have fC:=hid h12
  have qM:=hid bR
  have vM:=hid iq
  have hszW:=hbw.size
  have l6:=aj h6
  have l7:=aj h7
  have l8:=aj h8
  have bn:=aj h12
  have vT:=aj bR
  have vg:=aj iq
  obtain⟨p0,p1,p2,p3,p4⟩:=cells5 h6
  obtain⟨q0,q1,q2,q3,q4,q5,q6⟩:=aG h7
  obtain⟨r0,r1,r2⟩:=cells3 h8
  obtain⟨z0,z1,z2⟩:=cells3 iq
  obtain⟨s0,s1,s2⟩:=cells3 h12
  obtain⟨m0,m1,m2,m3,m4,m5,m6⟩:=aG bR
  have f0:=frees h12 0
  have f1:=frees h12 1
  have f2:=frees h12 2
  have g0:=frees bR 0
  have g1:=frees bR 1
  have g2:=frees bR 2
  have g3:=frees bR 3
  have g4:=frees bR 4
  have g5:=frees bR 5
  have g6:=frees bR 6
  have k3:=frees h7 3
  clear h6 h7 h8 h12 bR iq hbw
  go_wp2_with fail
  refine(Op.nT Ai ni ci li _ B (by have:=HB.out;omega) (HI.out.keep (aQ.out.mono HB.out)) gy.out hci).mono ?_
  rintro x w3 hd
  obtain⟨E3,A3,n3,c3,rfl,hb3,ho3,mX,ji,hc3,hl3,iK⟩:=mo.get hd HDR.out
  have gZ:=hid ho3
  have qj:=hid mX
  have wK:=hid ji
  have BH:=hid iK
  have HB3:=hid (show Below W2.heap.size W2 w3 from hb3)
  have hs3:=HB3.out.size
  have mQ:=hid ((HB3.out.block _ l7).trans H7.out)
  have m_:=hid ((HB3.out.block _ l8).trans H8.out)
  have eU:=hid ((HB3.out.block _ bn).trans fC.out)
  have sP:=hid ((HB3.out.block _ vT).trans qM.out)
  have xP:=hid ((HB3.out.block _ vg).trans vM.out)
  clear p0 p1 p2 p3 p4 q0 q1 q2 q3 q4 q5 q6 r0 r1 r2 z0 z1 z2 s0 s1 s2 m0 m1 m2 m3 m4 m5 m6 f0 f1 f2 g0 g1 g2 g3 g4 g5 g6 k3
  have Vl:=(cells5 ((HB3.out.block _ l6).trans H6.out)).1
  have Vm:=(cells5 ((HB3.out.block _ l6).trans H6.out)).2.2.2.1
  have Vt:w.heap.size<w3.heap.size:=by omega
  obtain⟨⟨CU,CV,pI,pJ,pK⟩,⟨q0,q1,q2,q3,q4,q5,q6⟩,⟨r0,r1,r2⟩,⟨z0,z1,z2⟩,⟨s0,s1,s2⟩,⟨m0,m1,m2,m3,m4,m5,m6⟩,⟨f0,f1,f2⟩,⟨g0,g1,g2,g3,g4,g5,g6⟩,k3⟩:=dN mQ.out m_.out eU.out sP.out xP.out
  clear hd hb3 ho3 mX ji iK
  go_wp2_with fail
  refine(Ne.AX Ar A3 nr cr n3 c3 au mf R E3 Y qj.out _ w3.heap.size (aaE _) ((HR.out.keep ((aQ.out.trans (HB3.out.mono hszW)).mono HB.out)).more (by have:=HB.out;omega)) gB.out hlr gZ.out.at wK.out hc3 (by omega) (fun e he=>by have:=BH.out e he;omega)).mono ?_
  rw[Yk.out]
  rintro x w4 ⟨E4,A4,n4,c4,rfl,uS,xg,hc4,hb4,Ir⟩
  have Kt:=hid Ir
  have rX:=hid uS
  have wL:=hid (show n4=E4.length by rw[xg,←uS,List.length_map])
  clear Vl Vm Vt CU CV pI pJ pK
  clear q0 q1 q2 q3 q4 q5 q6 r0 r1 r2 z0 z1 z2 s0 s1 s2 m0 m1 m2 m3 m4 m5 m6 f0 f1 f2 g0 g1 g2 g3 g4 g5 g6 k3
  have fu:=hid (HB3.out.trans (hb4.mono hs3))
  have hs4:=fu.out.size
  clear hb4 Ir uS xg
  go_wp2_with fail
  refine(Op.jP A4 n4 c4 E4 _ _ (aaE _) Kt.out wL.out).mono ?_
  rw[rX.out]
  rintro x w5 he
  obtain⟨A5,c5,rfl,hb5,lN,CF⟩:=gK.get he jB.out jK.out
  have qU:=hid lN
  have dO:=hid (show Below W2.heap.size W2 w5 from fu.out.trans (hb5.mono hs4))
  have hs5:=dO.out.size
  have pX:=hid ((dO.out.block _ l7).trans H7.out)
  have pY:=hid ((dO.out.block _ l8).trans H8.out)
  have eZ:=hid ((dO.out.block _ bn).trans fC.out)
  have lH:=hid ((dO.out.block _ vT).trans qM.out)
  have tY:=hid ((dO.out.block _ vg).trans vM.out)
  have Zv:=hb5.size
  clear he hb5 lN
  obtain⟨⟨CU,CV,pI,pJ,pK⟩,⟨q0,q1,q2,q3,q4,q5,q6⟩,⟨r0,r1,r2⟩,⟨z0,z1,z2⟩,⟨s0,s1,s2⟩,⟨m0,m1,m2,m3,m4,m5,m6⟩,⟨f0,f1,f2⟩,⟨g0,g1,g2,g3,g4,g5,g6⟩,k3⟩:=dN pX.out pY.out eZ.out lH.out tY.out
  go_wp2_with fail
  go_region_held3 (fun w'=>w'.cell? ⟨w.heap.size+1+1,1,none⟩=some (.int .i64 ii)∧w'.cell? ⟨w.heap.size+1,0,none⟩=some (.int .i64 st)∧w'.cell? ⟨w.heap.size+1,1,none⟩=some (.int .i64 id)∧w'.cell? ⟨w.heap.size+1,2,none⟩=some (.int .i64 req)∧w'.cell? ⟨w.heap.size+1,3,none⟩=some (.slice Aa na ca)∧w'.cell? ⟨w.heap.size+1,4,none⟩=some (.int .i64 cnt)∧w'.cell? ⟨w.heap.size+1,5,none⟩=some (.int .i64 ay)∧w'.cell? ⟨w.heap.size+1,6,none⟩=some (.int .i64 au)) (first|(go_keep;done)|(go_simp;done)|(simp[go_sem];done)) (fail)
 ·all_goals
   clear q0 q1 q2 q3 q4 q5 q6 r0 r1 r2 z0 z1 z2 s0 s1 s2 m0 m1 m2 m3 m4 m5 m6 f0 f1 f2 g0 g1 g2 g3 g4 g5 g6 k3
   obtain⟨Wc,hWc⟩: ∃Wc:World,Wc=(((w5.setCell ⟨w.heap.size+1+1+1,0,none⟩ (.int .i64 co)).setCell ⟨w.heap.size+1+1+1,1,none⟩ (.int .i64 ii)).setCell ⟨w.heap.size+1+1+1,2,none⟩ (.slice A5 nb c5)):=⟨_,rfl⟩
   obtain⟨Wf,hWf⟩: ∃Wf:World,Wf=((((((((Wc.setCell ⟨w.heap.size+1+1+1+1,0,none⟩ (.int .i64 st)).setCell ⟨w.heap.size+1+1+1+1,1,none⟩ (.int .i64 id)).setCell ⟨w.heap.size+1+1+1+1,2,none⟩ (.int .i64 req)).setCell ⟨w.heap.size+1+1+1+1,3,none⟩ (.slice Aa na ca)).setCell ⟨w.heap.size+1+1+1+1,4,none⟩ (.int .i64 cnt)).setCell ⟨w.heap.size+1+1+1+1,5,none⟩ (.int .i64 ay)).setCell ⟨w.heap.size+1+1+1+1,6,none⟩ (.int .i64 au))).drew:=⟨_,rfl⟩
   have bO:Wf=(((((((((((w5.setCell ⟨w.heap.size+1+1+1,0,none⟩ (.int .i64 co)).setCell ⟨w.heap.size+1+1+1,1,none⟩ (.int .i64 ii)).setCell ⟨w.heap.size+1+1+1,2,none⟩ (.slice A5 nb c5)).setCell ⟨w.heap.size+1+1+1+1,0,none⟩ (.int .i64 st)).setCell ⟨w.heap.size+1+1+1+1,1,none⟩ (.int .i64 id)).setCell ⟨w.heap.size+1+1+1+1,2,none⟩ (.int .i64 req)).setCell ⟨w.heap.size+1+1+1+1,3,none⟩ (.slice Aa na ca)).setCell ⟨w.heap.size+1+1+1+1,4,none⟩ (.int .i64 cnt)).setCell ⟨w.heap.size+1+1+1+1,5,none⟩ (.int .i64 ay)).setCell ⟨w.heap.size+1+1+1+1,6,none⟩ (.int .i64 au))).drew:=by rw[hWf,hWc]
   go_wp2_with fail
   rw[←bO]
   have mU:=hid (eZ.out)
   have mV:=hid ((show Wc.heap[w.heap.size+1+1+1+1]? =(w5).heap[w.heap.size+1+1+1+1]? by rw[hWc];exact cB (by omega) _ _ _).trans (lH.out))
   have hg1:(w5).grownBy Wc (some (w.heap.size+1+1+1)):=by rw[hWc];exact grn
   have iG:Wc.heap[w.heap.size+1+1+1]? =some (.cells #[.int .i64 co,.int .i64 ii,(.slice A5 nb c5)] 32 (0,0)):=by rw[hWc];exact iB mU.out rfl _ _ _
   have hrc:Wf.heap[w.heap.size+1+1+1]? =some (.cells #[.int .i64 co,.int .i64 ii,(.slice A5 nb c5)] 32 (0,0)):=by rw[hWf,dR,dD (by omega)];exact iG
   have hra:Wf.heap[w.heap.size+1+1+1+1]? =some (.cells #[.int .i64 st,.int .i64 id,.int .i64 req,(.slice Aa na ca),.int .i64 cnt,.int .i64 ay,.int .i64 au] 29 (0,0)):=by rw[hWf,dR];exact gF mV.out rfl _ _ _ _ _ _ _
   have hg2:Wc.grownBy Wf (some (w.heap.size+1+1+1+1)):=by rw[hWf];exact grn
   clear bO hWf hWc
   have hby:bB Wf w.heap.size (.slice A5 nb c5) eb:=by
    have h:=(bB.other (bB.other (l:=eb) (by unfold bB;rw[jK.out];exact qU.out) hg1 mU.out (by decide)) hg2 mV.out (by decide))
    exact h.base (by omega)
   have hbf:Below w.heap.size w Wf:=Below.grown (Below.grown (aQ.out.trans (dO.out.mono hszW)) hg1 (aaF hszW hs5) (fun k hk=>by cases hk;omega)) hg2 (aaF (aaF hszW hs5) hg1.size) (fun k hk=>by cases hk;omega)
   obtain⟨u0,u1,u2⟩:=cells3 hrc
   obtain⟨e0,e1,e2,e3,e4,e5,e6⟩:=aG hra
   refine bodyPost_ret (v:=.tuple #[.int .i64 7,.agg #[.int .i64 co,.int .i64 ii,.slice A5 nb c5],.agg #[.int .i64 st,.int .i64 id,.int .i64 req,.slice Aa na ca,.int .i64 cnt,.int .i64 ay,.int .i64 au],.bool true]) (by simp[results,Tryz.results63,go_sem,u0,u1,u2,e0,e1,e2,e3,e4,e5,e6]) rfl ?_
   exact⟨A5,nb,c5,Aa,na,ca,rfl,hbf,hby,(fun h=>by cases h),fun _=>rfl⟩
 ·all_goals
   clear q0 q1 q2 q3 q4 q5 q6 r0 r1 r2 z0 z1 z2 s0 s1 s2 m0 m1 m2 m3 m4 m5 m6 f0 f1 f2 g0 g1 g2 g3 g4 g5 g6 k3
   obtain⟨Wc,hWc⟩: ∃Wc:World,Wc=(((w5.setCell ⟨w.heap.size+1+1+1,0,none⟩ (.int .i64 co)).setCell ⟨w.heap.size+1+1+1,1,none⟩ (.int .i64 ii)).setCell ⟨w.heap.size+1+1+1,2,none⟩ (.slice A5 nb c5)):=⟨_,rfl⟩
   obtain⟨Wf,hWf⟩: ∃Wf:World,Wf=((((((((Wc.setCell ⟨w.heap.size+1+1+1+1,0,none⟩ (.int .i64 st)).setCell ⟨w.heap.size+1+1+1+1,1,none⟩ (.int .i64 id)).setCell ⟨w.heap.size+1+1+1+1,2,none⟩ (.int .i64 req)).setCell ⟨w.heap.size+1+1+1+1,3,none⟩ (.slice Aa na ca)).setCell ⟨w.heap.size+1+1+1+1,4,none⟩ (.int .i64 cnt)).setCell ⟨w.heap.size+1+1+1+1,5,none⟩ (.int .i64 ay)).setCell ⟨w.heap.size+1+1+1+1,6,none⟩ (.int .i64 au))).drew:=⟨_,rfl⟩
   have bO:Wf=(((((((((((w5.setCell ⟨w.heap.size+1+1+1,0,none⟩ (.int .i64 co)).setCell ⟨w.heap.size+1+1+1,1,none⟩ (.int .i64 ii)).setCell ⟨w.heap.size+1+1+1,2,none⟩ (.slice A5 nb c5)).setCell ⟨w.heap.size+1+1+1+1,0,none⟩ (.int .i64 st)).setCell ⟨w.heap.size+1+1+1+1,1,none⟩ (.int .i64 id)).setCell ⟨w.heap.size+1+1+1+1,2,none⟩ (.int .i64 req)).setCell ⟨w.heap.size+1+1+1+1,3,none⟩ (.slice Aa na ca)).setCell ⟨w.heap.size+1+1+1+1,4,none⟩ (.int .i64 cnt)).setCell ⟨w.heap.size+1+1+1+1,5,none⟩ (.int .i64 ay)).setCell ⟨w.heap.size+1+1+1+1,6,none⟩ (.int .i64 au))).drew:=by rw[hWf,hWc]
   go_wp2_with fail
   rw[←bO]
   have mU:=hid (eZ.out)
   have mV:=hid ((show Wc.heap[w.heap.size+1+1+1+1]? =(w5).heap[w.heap.size+1+1+1+1]? by rw[hWc];exact cB (by omega) _ _ _).trans (lH.out))
   have hg1:(w5).grownBy Wc (some (w.heap.size+1+1+1)):=by rw[hWc];exact grn
   have iG:Wc.heap[w.heap.size+1+1+1]? =some (.cells #[.int .i64 co,.int .i64 ii,(.slice A5 nb c5)] 32 (0,0)):=by rw[hWc];exact iB mU.out rfl _ _ _
   have hrc:Wf.heap[w.heap.size+1+1+1]? =some (.cells #[.int .i64 co,.int .i64 ii,(.slice A5 nb c5)] 32 (0,0)):=by rw[hWf,dR,dD (by omega)];exact iG
   have hra:Wf.heap[w.heap.size+1+1+1+1]? =some (.cells #[.int .i64 st,.int .i64 id,.int .i64 req,(.slice Aa na ca),.int .i64 cnt,.int .i64 ay,.int .i64 au] 29 (0,0)):=by rw[hWf,dR];exact gF mV.out rfl _ _ _ _ _ _ _
   have hg2:Wc.grownBy Wf (some (w.heap.size+1+1+1+1)):=by rw[hWf];exact grn
   clear bO hWf hWc
   have hby:bB Wf w.heap.size (.slice A5 nb c5) eb:=by
    have h:=(bB.other (bB.other (l:=eb) (by unfold bB;rw[jK.out];exact qU.out) hg1 mU.out (by decide)) hg2 mV.out (by decide))
    exact h.base (by omega)
   have hbf:Below w.heap.size w Wf:=Below.grown (Below.grown (aQ.out.trans (dO.out.mono hszW)) hg1 (aaF hszW hs5) (fun k hk=>by cases hk;omega)) hg2 (aaF (aaF hszW hs5) hg1.size) (fun k hk=>by cases hk;omega)
   obtain⟨u0,u1,u2⟩:=cells3 hrc
   obtain⟨e0,e1,e2,e3,e4,e5,e6⟩:=aG hra
   refine bodyPost_ret (v:=.tuple #[.int .i64 8,.agg #[.int .i64 co,.int .i64 ii,.slice A5 nb c5],.agg #[.int .i64 st,.int .i64 id,.int .i64 req,.slice Aa na ca,.int .i64 cnt,.int .i64 ay,.int .i64 au],.bool true]) (by simp[results,Tryz.results63,go_sem,u0,u1,u2,e0,e1,e2,e3,e4,e5,e6]) rfl ?_
   exact⟨A5,nb,c5,Aa,na,ca,rfl,hbf,hby,(fun h=>by cases h),fun _=>rfl⟩
 ·all_goals
   clear q0 q1 q2 q3 q4 q5 q6 r0 r1 r2 z0 z1 z2 s0 s1 s2 m0 m1 m2 m3 m4 m5 m6 f0 f1 f2 g0 g1 g2 g3 g4 g5 g6 k3
   obtain⟨Wc,hWc⟩: ∃Wc:World,Wc=(((w5.setCell ⟨w.heap.size+1+1+1,0,none⟩ (.int .i64 co)).setCell ⟨w.heap.size+1+1+1,1,none⟩ (.int .i64 ii)).setCell ⟨w.heap.size+1+1+1,2,none⟩ (.slice A5 nb c5)):=⟨_,rfl⟩
   obtain⟨Wf,hWf⟩: ∃Wf:World,Wf=((((((((Wc.setCell ⟨w.heap.size+1+1+1+1,0,none⟩ (.int .i64 st)).setCell ⟨w.heap.size+1+1+1+1,1,none⟩ (.int .i64 id)).setCell ⟨w.heap.size+1+1+1+1,2,none⟩ (.int .i64 req)).setCell ⟨w.heap.size+1+1+1+1,3,none⟩ (.slice Aa na ca)).setCell ⟨w.heap.size+1+1+1+1,4,none⟩ (.int .i64 cnt)).setCell ⟨w.heap.size+1+1+1+1,5,none⟩ (.int .i64 ay)).setCell ⟨w.heap.size+1+1+1+1,6,none⟩ (.int .i64 au))).drew:=⟨_,rfl⟩
   have bO:Wf=(((((((((((w5.setCell ⟨w.heap.size+1+1+1,0,none⟩ (.int .i64 co)).setCell ⟨w.heap.size+1+1+1,1,none⟩ (.int .i64 ii)).setCell ⟨w.heap.size+1+1+1,2,none⟩ (.slice A5 nb c5)).setCell ⟨w.heap.size+1+1+1+1,0,none⟩ (.int .i64 st)).setCell ⟨w.heap.size+1+1+1+1,1,none⟩ (.int .i64 id)).setCell ⟨w.heap.size+1+1+1+1,2,none⟩ (.int .i64 req)).setCell ⟨w.heap.size+1+1+1+1,3,none⟩ (.slice Aa na ca)).setCell ⟨w.heap.size+1+1+1+1,4,none⟩ (.int .i64 cnt)).setCell ⟨w.heap.size+1+1+1+1,5,none⟩ (.int .i64 ay)).setCell ⟨w.heap.size+1+1+1+1,6,none⟩ (.int .i64 au))).drew:=by rw[hWf,hWc]
   go_wp2_with fail
   rw[←bO]
   have mU:=hid (eZ.out)
   have mV:=hid ((show Wc.heap[w.heap.size+1+1+1+1]? =(w5).heap[w.heap.size+1+1+1+1]? by rw[hWc];exact cB (by omega) _ _ _).trans (lH.out))
   have hg1:(w5).grownBy Wc (some (w.heap.size+1+1+1)):=by rw[hWc];exact grn
   have iG:Wc.heap[w.heap.size+1+1+1]? =some (.cells #[.int .i64 co,.int .i64 ii,(.slice A5 nb c5)] 32 (0,0)):=by rw[hWc];exact iB mU.out rfl _ _ _
   have hrc:Wf.heap[w.heap.size+1+1+1]? =some (.cells #[.int .i64 co,.int .i64 ii,(.slice A5 nb c5)] 32 (0,0)):=by rw[hWf,dR,dD (by omega)];exact iG
   have hra:Wf.heap[w.heap.size+1+1+1+1]? =some (.cells #[.int .i64 st,.int .i64 id,.int .i64 req,(.slice Aa na ca),.int .i64 cnt,.int .i64 ay,.int .i64 au] 29 (0,0)):=by rw[hWf,dR];exact gF mV.out rfl _ _ _ _ _ _ _
   have hg2:Wc.grownBy Wf (some (w.heap.size+1+1+1+1)):=by rw[hWf];exact grn
   clear bO hWf hWc
   have hby:bB Wf w.heap.size (.slice A5 nb c5) eb:=by
    have h:=(bB.other (bB.other (l:=eb) (by unfold bB;rw[jK.out];exact qU.out) hg1 mU.out (by decide)) hg2 mV.out (by decide))
    exact h.base (by omega)
   have hbf:Below w.heap.size w Wf:=Below.grown (Below.grown (aQ.out.trans (dO.out.mono hszW)) hg1 (aaF hszW hs5) (fun k hk=>by cases hk;omega)) hg2 (aaF (aaF hszW hs5) hg1.size) (fun k hk=>by cases hk;omega)
   obtain⟨u0,u1,u2⟩:=cells3 hrc
   obtain⟨e0,e1,e2,e3,e4,e5,e6⟩:=aG hra
   refine bodyPost_ret (v:=.tuple #[.int .i64 7,.agg #[.int .i64 co,.int .i64 ii,.slice A5 nb c5],.agg #[.int .i64 st,.int .i64 id,.int .i64 req,.slice Aa na ca,.int .i64 cnt,.int .i64 ay,.int .i64 au],.bool false]) (by simp[results,Tryz.results63,go_sem,u0,u1,u2,e0,e1,e2,e3,e4,e5,e6]) rfl ?_
   exact⟨_,_,_,_,_,_,_,_,_,rfl,hbf⟩
 ·all_goals
   clear q0 q1 q2 q3 q4 q5 q6 r0 r1 r2 z0 z1 z2 s0 s1 s2 m0 m1 m2 m3 m4 m5 m6 f0 f1 f2 g0 g1 g2 g3 g4 g5 g6 k3
   obtain⟨Wc,hWc⟩: ∃Wc:World,Wc=(((w5.setCell ⟨w.heap.size+1+1+1,0,none⟩ (.int .i64 co)).setCell ⟨w.heap.size+1+1+1,1,none⟩ (.int .i64 ii)).setCell ⟨w.heap.size+1+1+1,2,none⟩ (.slice A5 nb c5)):=⟨_,rfl⟩
   obtain⟨Wf,hWf⟩: ∃Wf:World,Wf=((((((((Wc.setCell ⟨w.heap.size+1+1+1+1,0,none⟩ (.int .i64 st)).setCell ⟨w.heap.size+1+1+1+1,1,none⟩ (.int .i64 id)).setCell ⟨w.heap.size+1+1+1+1,2,none⟩ (.int .i64 req)).setCell ⟨w.heap.size+1+1+1+1,3,none⟩ (.slice Aa na ca)).setCell ⟨w.heap.size+1+1+1+1,4,none⟩ (.int .i64 cnt)).setCell ⟨w.heap.size+1+1+1+1,5,none⟩ (.int .i64 ay)).setCell ⟨w.heap.size+1+1+1+1,6,none⟩ (.int .i64 au))).drew:=⟨_,rfl⟩
   have bO:Wf=(((((((((((w5.setCell ⟨w.heap.size+1+1+1,0,none⟩ (.int .i64 co)).setCell ⟨w.heap.size+1+1+1,1,none⟩ (.int .i64 ii)).setCell ⟨w.heap.size+1+1+1,2,none⟩ (.slice A5 nb c5)).setCell ⟨w.heap.size+1+1+1+1,0,none⟩ (.int .i64 st)).setCell ⟨w.heap.size+1+1+1+1,1,none⟩ (.int .i64 id)).setCell ⟨w.heap.size+1+1+1+1,2,none⟩ (.int .i64 req)).setCell ⟨w.heap.size+1+1+1+1,3,none⟩ (.slice Aa na ca)).setCell ⟨w.heap.size+1+1+1+1,4,none⟩ (.int .i64 cnt)).setCell ⟨w.heap.size+1+1+1+1,5,none⟩ (.int .i64 ay)).setCell ⟨w.heap.size+1+1+1+1,6,none⟩ (.int .i64 au))).drew:=by rw[hWf,hWc]
   go_wp2_with fail
   rw[←bO]
   have mU:=hid (eZ.out)
   have mV:=hid ((show Wc.heap[w.heap.size+1+1+1+1]? =(w5).heap[w.heap.size+1+1+1+1]? by rw[hWc];exact cB (by omega) _ _ _).trans (lH.out))
   have hg1:(w5).grownBy Wc (some (w.heap.size+1+1+1)):=by rw[hWc];exact grn
   have iG:Wc.heap[w.heap.size+1+1+1]? =some (.cells #[.int .i64 co,.int .i64 ii,(.slice A5 nb c5)] 32 (0,0)):=by rw[hWc];exact iB mU.out rfl _ _ _
   have hrc:Wf.heap[w.heap.size+1+1+1]? =some (.cells #[.int .i64 co,.int .i64 ii,(.slice A5 nb c5)] 32 (0,0)):=by rw[hWf,dR,dD (by omega)];exact iG
   have hra:Wf.heap[w.heap.size+1+1+1+1]? =some (.cells #[.int .i64 st,.int .i64 id,.int .i64 req,(.slice Aa na ca),.int .i64 cnt,.int .i64 ay,.int .i64 au] 29 (0,0)):=by rw[hWf,dR];exact gF mV.out rfl _ _ _ _ _ _ _
   have hg2:Wc.grownBy Wf (some (w.heap.size+1+1+1+1)):=by rw[hWf];exact grn
   clear bO hWf hWc
   have hby:bB Wf w.heap.size (.slice A5 nb c5) eb:=by
    have h:=(bB.other (bB.other (l:=eb) (by unfold bB;rw[jK.out];exact qU.out) hg1 mU.out (by decide)) hg2 mV.out (by decide))
    exact h.base (by omega)
   have hbf:Below w.heap.size w Wf:=Below.grown (Below.grown (aQ.out.trans (dO.out.mono hszW)) hg1 (aaF hszW hs5) (fun k hk=>by cases hk;omega)) hg2 (aaF (aaF hszW hs5) hg1.size) (fun k hk=>by cases hk;omega)
   obtain⟨u0,u1,u2⟩:=cells3 hrc
   obtain⟨e0,e1,e2,e3,e4,e5,e6⟩:=aG hra
   refine bodyPost_ret (v:=.tuple #[.int .i64 8,.agg #[.int .i64 co,.int .i64 ii,.slice A5 nb c5],.agg #[.int .i64 st,.int .i64 id,.int .i64 req,.slice Aa na ca,.int .i64 cnt,.int .i64 ay,.int .i64 au],.bool false]) (by simp[results,Tryz.results63,go_sem,u0,u1,u2,e0,e1,e2,e3,e4,e5,e6]) rfl ?_
   exact⟨_,_,_,_,_,_,_,_,_,rfl,hbf⟩
end Go.Proofs.YtfkgmbknfnhjoaaGreat
