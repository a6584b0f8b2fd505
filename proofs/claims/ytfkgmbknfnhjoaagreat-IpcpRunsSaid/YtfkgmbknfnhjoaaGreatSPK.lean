/- PK -/
import Derived.Test.YtfkgmbknfnhjoaaGreatSPJ
set_option linter.all false
set_option linter.ambiguousOpen false
set_option maxHeartbeats 8000000
namespace Go.Proofs.YtfkgmbknfnhjoaaGreat
open Lib (hid)
open Go.RowKit
open Ne (Rl bF aD bM aS bN)
open Fs (av hasB)
set_option maxRecDepth 100000 in
theorem OE (Ar Aa Ai:Option Addr) (nr cr na ca ni ci:Nat) (R:List Rl) (mc mt mf wt st id req cnt ay au ii:Int) (E:List aH) (li:List UInt8) (w:World) (B:Nat) (hB:B≤w.heap.size) (hR:aD w B Ar R) (hnr:nr=R.length) (hlr:nr≤1000000) (hE:aJ w B Aa E) (hna:na=E.length) (hla:na≤1000000) (hda: ∀e∈E,e.d.length≤1000000) (hI:At w B Ai (li.map bv)) (hni:ni=li.length) (hci:ni≤ci):Calls Tryz.prog 61 #[.agg #[.slice Ar nr cr,.int .i64 mc,.int .i64 mt,.int .i64 mf,.int .i64 wt],.agg #[.int .i64 st,.int .i64 id,.int .i64 req,.slice Aa na ca,.int .i64 cnt,.int .i64 ay,.int .i64 au],.agg #[.int .i64 3,.int .i64 ii,.slice Ai ni ci]] w (mq (bK ⟨R,mc,mt,mf,wt⟩ ⟨st,id,req,E.map aH.o,cnt,ay,au⟩ ⟨3,ii,li⟩) w):=by
 have HB:=hid hB
 have HR:=hid hR
 have gB:=hid hnr
 have HE:=hid hE
 have dz:=hid hna
 have jr:=hid hda
 have HI:=hid hI
 have gy:=hid hni
 obtain⟨L,hL⟩: ∃L,E.map aH.o=L:=⟨_,rfl⟩
 have HL:=hid hL
 rw[hL]
 clear hB hR hnr hE hna hda hL hI hni
 have je:=hid (show bK ⟨R,mc,mt,mf,wt⟩ ⟨st,id,req,L,cnt,ay,au⟩ ⟨3,ii,li⟩=cZ ⟨st,id,req,L,cnt,ay,au⟩ ⟨3,ii,li⟩ from rfl)
 rw[je.out]
 clear je
 obtain⟨⟨Y,ye⟩,hd⟩: ∃r,Op.iJ li=r:=⟨_,rfl⟩
 have HDR:=hid hd
 by_cases h1:ii=req
 focus
  have h1':(ii !=req)=false:=by simp[h1]
  by_cases h0:ye=0
 focus
  subst h0
  obtain⟨⟨nx,ok⟩,hln⟩: ∃r,bN L 3 Y=r:=⟨_,rfl⟩
  have zn:=hid hln
  obtain⟨⟨eb,ee⟩,hen⟩: ∃r,Op.encR nx=r:=⟨_,rfl⟩
  have jB:=hid hen
  obtain⟨nb,hnb⟩: ∃nb,eb.length=nb:=⟨_,rfl⟩
  have jK:=hid hnb
  have je:=hid (show cZ ⟨st,id,req,L,cnt,ay,au⟩ ⟨3,ii,li⟩=if ok=true∧ee=0 then some (10,⟨0,0,[]⟩,nx) else none by unfold cZ;dsimp only;rw[hd];dsimp only;rw[if_neg (by simp[h1]),hln];dsimp only;rw[hen])
  rw[je.out]
  clear hd hln hen hnb h1 je
  cases ok
 focus
  rw[if_neg (by simp)]
 rotate_left
 focus
  by_cases h5:ee=0
 focus
  subst h5
  rw[if_pos ⟨rfl,rfl⟩]
 rotate_left
 focus
  have h5':(ee==0)=false:=by simpa using h5
  rw[if_neg (fun h=>h5 h.2)]
  clear h5
 rotate_left
 ·have h0':(ye !=0)=true:=by simpa using h0
  have je:=hid (show cZ ⟨st,id,req,L,cnt,ay,au⟩ ⟨3,ii,li⟩=none by unfold cZ;dsimp only;rw[hd];dsimp only;rw[if_pos (.inr h0)])
  rw[je.out]
  clear hd h1 h0 je
  go_enter Tryz.func61,Tryz.ntmps61
  go_upto_region 1 with(fail)
  refine fE ?_
  rintro W2 ⟨h6,h7,h8,h12,hbw⟩
  have aQ:=hid hbw
  have fC:=hid h12
  have hszW:=hbw.size
  have l6:=aj h6
  have l7:=aj h7
  have l8:=aj h8
  have bn:=aj h12
  obtain⟨p0,p1,p2,p3,p4⟩:=cells5 h6
  obtain⟨q0,q1,q2,q3,q4,q5,q6⟩:=aG h7
  obtain⟨r0,r1,r2⟩:=cells3 h8
  obtain⟨z0,z1,z2⟩:=cells3 h12
  have f0:=frees h12 0
  have f1:=frees h12 1
  have f2:=frees h12 2
  clear h6 h7 h8 h12 hbw
  go_wp2_with fail
  refine(Op.kS Ai ni ci li _ B (by have:=HB.out;omega) (HI.out.keep (aQ.out.mono HB.out)) gy.out hci).mono ?_
  rintro x w3 hd
  obtain⟨E3,A3,n3,c3,rfl,hb3,ho3,mX,ji,hc3,hl3,iK⟩:=mo.get hd HDR.out
  have gZ:=hid ho3
  have qj:=hid mX
  have wK:=hid ji
  have BH:=hid iK
  have HB3:=hid (show Below W2.heap.size W2 w3 from hb3)
  have hs3:=HB3.out.size
  have eU:=hid ((HB3.out.block _ bn).trans fC.out)
  obtain⟨⟨WZ,W_,II⟩,⟨t23,t33⟩,⟨UW,v13,v23⟩,⟨JX,JY,z23⟩,⟨Ig,f13,f23⟩⟩:=jX HB3.out l7 l8 bn q2 q3 r0 r1 r2 fC.out
  clear hd hb3 ho3 mX ji iK p0 p1 p2 p3 p4 q0 q1 q4 q5 q6 z0 z1 z2 f0 f1 f2
  go_wp2_with fail
  obtain⟨Wf,hWf⟩: ∃Wf:World,Wf=(((w3.setCell ⟨w.heap.size+1+1+1,0,none⟩ (.int .i64 0)).setCell ⟨w.heap.size+1+1+1,1,none⟩ (.int .i64 0)).setCell ⟨w.heap.size+1+1+1,2,none⟩ (.slice none 0 0)):=⟨_,rfl⟩
  rw[←hWf]
  have hrow:Wf.heap[w.heap.size+1+1+1]? =some (.cells #[.int .i64 0,.int .i64 0,.slice none 0 0] 32 (0,0)):=by rw[hWf];exact iB eU.out rfl _ _ _
  have hgr:(w3).grownBy Wf (some (w.heap.size+1+1+1)):=by rw[hWf];exact grn
  have hbf:Below w.heap.size w Wf:=Below.grown (aQ.out.trans (HB3.out.mono hszW)) hgr (aaF hszW hs3) (fun k hk=>by cases hk;omega)
  clear hWf JX JY z23 Ig f13 f23
  obtain⟨u0,u1,u2⟩:=cells3 hrow
  refine bodyPost_ret (v:=.tuple #[.int .i64 0,.agg #[.int .i64 0,.int .i64 0,.slice none 0 0],.slice none 0 0]) (by simp[results,Tryz.results61,go_sem,u0,u1,u2]) rfl ?_
  exact⟨_,_,_,rfl,hbf⟩
 ·have h1':(ii !=req)=true:=by simpa using h1
  have je:=hid (show cZ ⟨st,id,req,L,cnt,ay,au⟩ ⟨3,ii,li⟩=none by unfold cZ;rw[if_pos (.inl h1)])
  rw[je.out]
  clear hd h1 je
  go_enter Tryz.func61,Tryz.ntmps61
  go_upto_region 1 with(fail)
  refine fE ?_
  rintro W2 ⟨h6,h7,h8,h12,hbw⟩
  have aQ:=hid hbw
  have fC:=hid h12
  have hszW:=hbw.size
  have l6:=aj h6
  have l7:=aj h7
  have l8:=aj h8
  have bn:=aj h12
  obtain⟨p0,p1,p2,p3,p4⟩:=cells5 h6
  obtain⟨q0,q1,q2,q3,q4,q5,q6⟩:=aG h7
  obtain⟨r0,r1,r2⟩:=cells3 h8
  obtain⟨z0,z1,z2⟩:=cells3 h12
  have f0:=frees h12 0
  have f1:=frees h12 1
  have f2:=frees h12 2
  clear h6 h7 h8 h12 hbw
  go_wp2_with fail
  refine(Op.kS Ai ni ci li _ B (by have:=HB.out;omega) (HI.out.keep (aQ.out.mono HB.out)) gy.out hci).mono ?_
  rintro x w3 hd
  obtain⟨E3,A3,n3,c3,rfl,hb3,ho3,mX,ji,hc3,hl3,iK⟩:=mo.get hd HDR.out
  have gZ:=hid ho3
  have qj:=hid mX
  have wK:=hid ji
  have BH:=hid iK
  have HB3:=hid (show Below W2.heap.size W2 w3 from hb3)
  have hs3:=HB3.out.size
  have eU:=hid ((HB3.out.block _ bn).trans fC.out)
  obtain⟨⟨WZ,W_,II⟩,⟨t23,t33⟩,⟨UW,v13,v23⟩,⟨JX,JY,z23⟩,⟨Ig,f13,f23⟩⟩:=jX HB3.out l7 l8 bn q2 q3 r0 r1 r2 fC.out
  clear hd hb3 ho3 mX ji iK p0 p1 p2 p3 p4 q0 q1 q4 q5 q6 z0 z1 z2 f0 f1 f2
  go_wp2_with fail
  obtain⟨Wf,hWf⟩: ∃Wf:World,Wf=(((w3.setCell ⟨w.heap.size+1+1+1,0,none⟩ (.int .i64 0)).setCell ⟨w.heap.size+1+1+1,1,none⟩ (.int .i64 0)).setCell ⟨w.heap.size+1+1+1,2,none⟩ (.slice none 0 0)):=⟨_,rfl⟩
  rw[←hWf]
  have hrow:Wf.heap[w.heap.size+1+1+1]? =some (.cells #[.int .i64 0,.int .i64 0,.slice none 0 0] 32 (0,0)):=by rw[hWf];exact iB eU.out rfl _ _ _
  have hgr:(w3).grownBy Wf (some (w.heap.size+1+1+1)):=by rw[hWf];exact grn
  have hbf:Below w.heap.size w Wf:=Below.grown (aQ.out.trans (HB3.out.mono hszW)) hgr (aaF hszW hs3) (fun k hk=>by cases hk;omega)
  clear hWf JX JY z23 Ig f13 f23
  obtain⟨u0,u1,u2⟩:=cells3 hrow
  refine bodyPost_ret (v:=.tuple #[.int .i64 0,.agg #[.int .i64 0,.int .i64 0,.slice none 0 0],.slice none 0 0]) (by simp[results,Tryz.results61,go_sem,u0,u1,u2]) rfl ?_
  exact⟨_,_,_,rfl,hbf⟩
 all_goals
  go_enter Tryz.func61,Tryz.ntmps61
  go_upto_region 1 with(fail)
  refine fE ?_
  rintro W2 ⟨h6,h7,h8,h12,hbw⟩
  have aQ:=hid hbw
  have fC:=hid h12
  have hszW:=hbw.size
  have l6:=aj h6
  have l7:=aj h7
  have l8:=aj h8
  have bn:=aj h12
  obtain⟨p0,p1,p2,p3,p4⟩:=cells5 h6
  obtain⟨q0,q1,q2,q3,q4,q5,q6⟩:=aG h7
  obtain⟨r0,r1,r2⟩:=cells3 h8
  obtain⟨z0,z1,z2⟩:=cells3 h12
  have f0:=frees h12 0
  have f1:=frees h12 1
  have f2:=frees h12 2
  clear h6 h7 h8 h12 hbw
  go_wp2_with fail
  refine(Op.kS Ai ni ci li _ B (by have:=HB.out;omega) (HI.out.keep (aQ.out.mono HB.out)) gy.out hci).mono ?_
  rintro x w3 hd
  obtain⟨E3,A3,n3,c3,rfl,hb3,ho3,mX,ji,hc3,hl3,iK⟩:=mo.get hd HDR.out
  have gZ:=hid ho3
  have qj:=hid mX
  have wK:=hid ji
  have BH:=hid iK
  have HB3:=hid (show Below W2.heap.size W2 w3 from hb3)
  have hs3:=HB3.out.size
  have eU:=hid ((HB3.out.block _ bn).trans fC.out)
  obtain⟨⟨WZ,W_,II⟩,⟨t23,t33⟩,⟨UW,v13,v23⟩,⟨JX,JY,z23⟩,⟨Ig,f13,f23⟩⟩:=jX HB3.out l7 l8 bn q2 q3 r0 r1 r2 fC.out
  clear hd hb3 ho3 mX ji iK p0 p1 p2 p3 p4 q0 q1 q4 q5 q6 z0 z1 z2 f0 f1 f2
  go_wp2_with fail
  refine(Ne.xA Aa A3 na n3 ca c3 3 E E3 _ w3.heap.size (aaE _) ((HE.out.keep ((aQ.out.trans (HB3.out.mono hszW)).mono HB.out)).more (by have:=HB.out;omega)) gZ.out.at dz.out wK.out hc3 hla (by omega) jr.out (fun e he=>by have:=BH.out e he;omega)).mono ?_
  rw[HL.out,qj.out,zn.out]
  rintro x w4 hl
  obtain⟨E4,A4,n4,c4,rfl,uS,xg,hc4,hb4,vR⟩:=Ne.wQ.get hl
  have qR:=hid vR
  have rX:=hid uS
  have wL:=hid xg
  have Tg:=hid hb4
  have fu:=hid (show Below W2.heap.size W2 w4 from HB3.out.trans (hb4.mono hs3))
  have hs4:=fu.out.size
  have jV:=hid ((fu.out.block _ bn).trans fC.out)
  obtain⟨⟨l74,l84,ZH⟩,⟨t24,t34⟩,⟨Z_,v14,v24⟩,⟨z04,z14,z24⟩,⟨Y6,f14,f24⟩⟩:=jX fu.out l7 l8 bn q2 q3 r0 r1 r2 fC.out
  clear hl hb4 vR uS xg JX JY z23 Ig f13 f23 t23 t33 UW v13 v23
  go_wp2_with fail
  refine(Op.dZ A4 n4 c4 E4 _ _ (aaE _) qR.out.at wL.out).mono ?_
  rw[rX.out]
  rintro x w5 he
  obtain⟨A5,c5,rfl,hb5,lN,CF⟩:=gK.get he jB.out jK.out
  have GA:=hid hb5
  have dO:=hid (show Below W2.heap.size W2 w5 from fu.out.trans (hb5.mono hs4))
  have hs5:=dO.out.size
  have eZ:=hid ((dO.out.block _ bn).trans fC.out)
  obtain⟨⟨ZI,ZJ,Ud⟩,⟨t25,t35⟩,⟨v05,v15,v25⟩,⟨U4,U5,z25⟩,⟨TP,f15,f25⟩⟩:=jX dO.out l7 l8 bn q2 q3 r0 r1 r2 fC.out
  clear he hb5 lN z04 z14 z24 Y6 f14 f24 t24 t34 Z_ v14 v24
  go_wp2_with fail
  obtain⟨Wf,hWf⟩: ∃Wf:World,Wf=(((w5.setCell ⟨w.heap.size+1+1+1,0,none⟩ (.int .i64 0)).setCell ⟨w.heap.size+1+1+1,1,none⟩ (.int .i64 0)).setCell ⟨w.heap.size+1+1+1,2,none⟩ (.slice none 0 0)):=⟨_,rfl⟩
  rw[←hWf]
  have hrow:Wf.heap[w.heap.size+1+1+1]? =some (.cells #[.int .i64 0,.int .i64 0,.slice none 0 0] 32 (0,0)):=by rw[hWf];exact iB eZ.out rfl _ _ _
  have hgr:(w5).grownBy Wf (some (w.heap.size+1+1+1)):=by rw[hWf];exact grn
  have hbf:Below w.heap.size w Wf:=Below.grown (aQ.out.trans (dO.out.mono hszW)) hgr (aaF hszW hs5) (fun k hk=>by cases hk;omega)
  clear hWf U4 U5 z25 TP f15 f25
  obtain⟨u0,u1,u2⟩:=cells3 hrow
 rotate_left
 ·refine bodyPost_ret (v:=.tuple #[.int .i64 10,.agg #[.int .i64 0,.int .i64 0,.slice none 0 0],.slice A4 n4 c4]) (by simp[results,Tryz.results61,go_sem,u0,u1,u2]) rfl ?_
  exact⟨none,0,0,A4,n4,c4,rfl,hbf,bB.nil _ _,fun _=>((aI.jZ (⟨E4,qR.out.below GA.out,rX.out⟩:bA _ _ _ nx) hgr eZ.out (by decide) (by decide))).base (aaF hszW hs3)⟩
 rotate_left
 all_goals
  refine bodyPost_ret (v:=.tuple #[.int .i64 0,.agg #[.int .i64 0,.int .i64 0,.slice none 0 0],.slice none 0 0]) (by simp[results,Tryz.results61,go_sem,u0,u1,u2]) rfl ?_
  exact⟨_,_,_,rfl,hbf⟩
set_option maxRecDepth 100000 in
theorem OG (Ar Aa Ai:Option Addr) (nr cr na ca ni ci:Nat) (R:List Rl) (mc mt mf wt st id req cnt ay au ii:Int) (E:List aH) (li:List UInt8) (w:World) (B:Nat) (hB:B≤w.heap.size) (hR:aD w B Ar R) (hnr:nr=R.length) (hlr:nr≤1000000) (hE:aJ w B Aa E) (hna:na=E.length) (hla:na≤1000000) (hda: ∀e∈E,e.d.length≤1000000) (hI:At w B Ai (li.map bv)) (hni:ni=li.length) (hci:ni≤ci):Calls Tryz.prog 61 #[.agg #[.slice Ar nr cr,.int .i64 mc,.int .i64 mt,.int .i64 mf,.int .i64 wt],.agg #[.int .i64 st,.int .i64 id,.int .i64 req,.slice Aa na ca,.int .i64 cnt,.int .i64 ay,.int .i64 au],.agg #[.int .i64 4,.int .i64 ii,.slice Ai ni ci]] w (mq (bK ⟨R,mc,mt,mf,wt⟩ ⟨st,id,req,E.map aH.o,cnt,ay,au⟩ ⟨4,ii,li⟩) w):=by
 have HB:=hid hB
 have HR:=hid hR
 have gB:=hid hnr
 have HE:=hid hE
 have dz:=hid hna
 have jr:=hid hda
 have HI:=hid hI
 have gy:=hid hni
 obtain⟨L,hL⟩: ∃L,E.map aH.o=L:=⟨_,rfl⟩
 have HL:=hid hL
 rw[hL]
 clear hB hR hnr hE hna hda hL hI hni
 have je:=hid (show bK ⟨R,mc,mt,mf,wt⟩ ⟨st,id,req,L,cnt,ay,au⟩ ⟨4,ii,li⟩=cZ ⟨st,id,req,L,cnt,ay,au⟩ ⟨4,ii,li⟩ from rfl)
 rw[je.out]
 clear je
 obtain⟨⟨Y,ye⟩,hd⟩: ∃r,Op.iJ li=r:=⟨_,rfl⟩
 have HDR:=hid hd
 by_cases h1:ii=req
 focus
  have h1':(ii !=req)=false:=by simp[h1]
  by_cases h0:ye=0
 focus
  subst h0
  obtain⟨⟨nx,ok⟩,hln⟩: ∃r,bN L 4 Y=r:=⟨_,rfl⟩
  have zn:=hid hln
  obtain⟨⟨eb,ee⟩,hen⟩: ∃r,Op.encR nx=r:=⟨_,rfl⟩
  have jB:=hid hen
  obtain⟨nb,hnb⟩: ∃nb,eb.length=nb:=⟨_,rfl⟩
  have jK:=hid hnb
  have je:=hid (show cZ ⟨st,id,req,L,cnt,ay,au⟩ ⟨4,ii,li⟩=if ok=true∧ee=0 then some (10,⟨0,0,[]⟩,nx) else none by unfold cZ;dsimp only;rw[hd];dsimp only;rw[if_neg (by simp[h1]),hln];dsimp only;rw[hen])
  rw[je.out]
  clear hd hln hen hnb h1 je
  cases ok
 focus
  rw[if_neg (by simp)]
 rotate_left
 focus
  by_cases h5:ee=0
 focus
  subst h5
  rw[if_pos ⟨rfl,rfl⟩]
 rotate_left
 focus
  have h5':(ee==0)=false:=by simpa using h5
  rw[if_neg (fun h=>h5 h.2)]
  clear h5
 rotate_left
 ·have h0':(ye !=0)=true:=by simpa using h0
  have je:=hid (show cZ ⟨st,id,req,L,cnt,ay,au⟩ ⟨4,ii,li⟩=none by unfold cZ;dsimp only;rw[hd];dsimp only;rw[if_pos (.inr h0)])
  rw[je.out]
  clear hd h1 h0 je
  go_enter Tryz.func61,Tryz.ntmps61
  go_upto_region 1 with(fail)
  refine fE ?_
  rintro W2 ⟨h6,h7,h8,h12,hbw⟩
  have aQ:=hid hbw
  have fC:=hid h12
  have hszW:=hbw.size
  have l6:=aj h6
  have l7:=aj h7
  have l8:=aj h8
  have bn:=aj h12
  obtain⟨p0,p1,p2,p3,p4⟩:=cells5 h6
  obtain⟨q0,q1,q2,q3,q4,q5,q6⟩:=aG h7
  obtain⟨r0,r1,r2⟩:=cells3 h8
  obtain⟨z0,z1,z2⟩:=cells3 h12
  have f0:=frees h12 0
  have f1:=frees h12 1
  have f2:=frees h12 2
  clear h6 h7 h8 h12 hbw
  go_wp2_with fail
  refine(Op.kS Ai ni ci li _ B (by have:=HB.out;omega) (HI.out.keep (aQ.out.mono HB.out)) gy.out hci).mono ?_
  rintro x w3 hd
  obtain⟨E3,A3,n3,c3,rfl,hb3,ho3,mX,ji,hc3,hl3,iK⟩:=mo.get hd HDR.out
  have gZ:=hid ho3
  have qj:=hid mX
  have wK:=hid ji
  have BH:=hid iK
  have HB3:=hid (show Below W2.heap.size W2 w3 from hb3)
  have hs3:=HB3.out.size
  have eU:=hid ((HB3.out.block _ bn).trans fC.out)
  obtain⟨⟨WZ,W_,II⟩,⟨t23,t33⟩,⟨UW,v13,v23⟩,⟨JX,JY,z23⟩,⟨Ig,f13,f23⟩⟩:=jX HB3.out l7 l8 bn q2 q3 r0 r1 r2 fC.out
  clear hd hb3 ho3 mX ji iK p0 p1 p2 p3 p4 q0 q1 q4 q5 q6 z0 z1 z2 f0 f1 f2
  go_wp2_with fail
  obtain⟨Wf,hWf⟩: ∃Wf:World,Wf=(((w3.setCell ⟨w.heap.size+1+1+1,0,none⟩ (.int .i64 0)).setCell ⟨w.heap.size+1+1+1,1,none⟩ (.int .i64 0)).setCell ⟨w.heap.size+1+1+1,2,none⟩ (.slice none 0 0)):=⟨_,rfl⟩
  rw[←hWf]
  have hrow:Wf.heap[w.heap.size+1+1+1]? =some (.cells #[.int .i64 0,.int .i64 0,.slice none 0 0] 32 (0,0)):=by rw[hWf];exact iB eU.out rfl _ _ _
  have hgr:(w3).grownBy Wf (some (w.heap.size+1+1+1)):=by rw[hWf];exact grn
  have hbf:Below w.heap.size w Wf:=Below.grown (aQ.out.trans (HB3.out.mono hszW)) hgr (aaF hszW hs3) (fun k hk=>by cases hk;omega)
  clear hWf JX JY z23 Ig f13 f23
  obtain⟨u0,u1,u2⟩:=cells3 hrow
  refine bodyPost_ret (v:=.tuple #[.int .i64 0,.agg #[.int .i64 0,.int .i64 0,.slice none 0 0],.slice none 0 0]) (by simp[results,Tryz.results61,go_sem,u0,u1,u2]) rfl ?_
  exact⟨_,_,_,rfl,hbf⟩
 ·have h1':(ii !=req)=true:=by simpa using h1
  have je:=hid (show cZ ⟨st,id,req,L,cnt,ay,au⟩ ⟨4,ii,li⟩=none by unfold cZ;rw[if_pos (.inl h1)])
  rw[je.out]
  clear hd h1 je
  go_enter Tryz.func61,Tryz.ntmps61
  go_upto_region 1 with(fail)
  refine fE ?_
  rintro W2 ⟨h6,h7,h8,h12,hbw⟩
  have aQ:=hid hbw
  have fC:=hid h12
  have hszW:=hbw.size
  have l6:=aj h6
  have l7:=aj h7
  have l8:=aj h8
  have bn:=aj h12
  obtain⟨p0,p1,p2,p3,p4⟩:=cells5 h6
  obtain⟨q0,q1,q2,q3,q4,q5,q6⟩:=aG h7
  obtain⟨r0,r1,r2⟩:=cells3 h8
  obtain⟨z0,z1,z2⟩:=cells3 h12
  have f0:=frees h12 0
  have f1:=frees h12 1
  have f2:=frees h12 2
  clear h6 h7 h8 h12 hbw
  go_wp2_with fail
  refine(Op.kS Ai ni ci li _ B (by have:=HB.out;omega) (HI.out.keep (aQ.out.mono HB.out)) gy.out hci).mono ?_
  rintro x w3 hd
  obtain⟨E3,A3,n3,c3,rfl,hb3,ho3,mX,ji,hc3,hl3,iK⟩:=mo.get hd HDR.out
  have gZ:=hid ho3
  have qj:=hid mX
  have wK:=hid ji
  have BH:=hid iK
  have HB3:=hid (show Below W2.heap.size W2 w3 from hb3)
  have hs3:=HB3.out.size
  have eU:=hid ((HB3.out.block _ bn).trans fC.out)
  obtain⟨⟨WZ,W_,II⟩,⟨t23,t33⟩,⟨UW,v13,v23⟩,⟨JX,JY,z23⟩,⟨Ig,f13,f23⟩⟩:=jX HB3.out l7 l8 bn q2 q3 r0 r1 r2 fC.out
  clear hd hb3 ho3 mX ji iK p0 p1 p2 p3 p4 q0 q1 q4 q5 q6 z0 z1 z2 f0 f1 f2
  go_wp2_with fail
  obtain⟨Wf,hWf⟩: ∃Wf:World,Wf=(((w3.setCell ⟨w.heap.size+1+1+1,0,none⟩ (.int .i64 0)).setCell ⟨w.heap.size+1+1+1,1,none⟩ (.int .i64 0)).setCell ⟨w.heap.size+1+1+1,2,none⟩ (.slice none 0 0)):=⟨_,rfl⟩
  rw[←hWf]
  have hrow:Wf.heap[w.heap.size+1+1+1]? =some (.cells #[.int .i64 0,.int .i64 0,.slice none 0 0] 32 (0,0)):=by rw[hWf];exact iB eU.out rfl _ _ _
  have hgr:(w3).grownBy Wf (some (w.heap.size+1+1+1)):=by rw[hWf];exact grn
  have hbf:Below w.heap.size w Wf:=Below.grown (aQ.out.trans (HB3.out.mono hszW)) hgr (aaF hszW hs3) (fun k hk=>by cases hk;omega)
  clear hWf JX JY z23 Ig f13 f23
  obtain⟨u0,u1,u2⟩:=cells3 hrow
  refine bodyPost_ret (v:=.tuple #[.int .i64 0,.agg #[.int .i64 0,.int .i64 0,.slice none 0 0],.slice none 0 0]) (by simp[results,Tryz.results61,go_sem,u0,u1,u2]) rfl ?_
  exact⟨_,_,_,rfl,hbf⟩
 all_goals
  go_enter Tryz.func61,Tryz.ntmps61
  go_upto_region 1 with(fail)
  refine fE ?_
  rintro W2 ⟨h6,h7,h8,h12,hbw⟩
  have aQ:=hid hbw
  have fC:=hid h12
  have hszW:=hbw.size
  have l6:=aj h6
  have l7:=aj h7
  have l8:=aj h8
  have bn:=aj h12
  obtain⟨p0,p1,p2,p3,p4⟩:=cells5 h6
  obtain⟨q0,q1,q2,q3,q4,q5,q6⟩:=aG h7
  obtain⟨r0,r1,r2⟩:=cells3 h8
  obtain⟨z0,z1,z2⟩:=cells3 h12
  have f0:=frees h12 0
  have f1:=frees h12 1
  have f2:=frees h12 2
  clear h6 h7 h8 h12 hbw
  go_wp2_with fail
  refine(Op.kS Ai ni ci li _ B (by have:=HB.out;omega) (HI.out.keep (aQ.out.mono HB.out)) gy.out hci).mono ?_
  rintro x w3 hd
  obtain⟨E3,A3,n3,c3,rfl,hb3,ho3,mX,ji,hc3,hl3,iK⟩:=mo.get hd HDR.out
  have gZ:=hid ho3
  have qj:=hid mX
  have wK:=hid ji
  have BH:=hid iK
  have HB3:=hid (show Below W2.heap.size W2 w3 from hb3)
  have hs3:=HB3.out.size
  have eU:=hid ((HB3.out.block _ bn).trans fC.out)
  obtain⟨⟨WZ,W_,II⟩,⟨t23,t33⟩,⟨UW,v13,v23⟩,⟨JX,JY,z23⟩,⟨Ig,f13,f23⟩⟩:=jX HB3.out l7 l8 bn q2 q3 r0 r1 r2 fC.out
  clear hd hb3 ho3 mX ji iK p0 p1 p2 p3 p4 q0 q1 q4 q5 q6 z0 z1 z2 f0 f1 f2
  go_wp2_with fail
  refine(Ne.xA Aa A3 na n3 ca c3 4 E E3 _ w3.heap.size (aaE _) ((HE.out.keep ((aQ.out.trans (HB3.out.mono hszW)).mono HB.out)).more (by have:=HB.out;omega)) gZ.out.at dz.out wK.out hc3 hla (by omega) jr.out (fun e he=>by have:=BH.out e he;omega)).mono ?_
  rw[HL.out,qj.out,zn.out]
  rintro x w4 hl
  obtain⟨E4,A4,n4,c4,rfl,uS,xg,hc4,hb4,vR⟩:=Ne.wQ.get hl
  have qR:=hid vR
  have rX:=hid uS
  have wL:=hid xg
  have Tg:=hid hb4
  have fu:=hid (show Below W2.heap.size W2 w4 from HB3.out.trans (hb4.mono hs3))
  have hs4:=fu.out.size
  have jV:=hid ((fu.out.block _ bn).trans fC.out)
  obtain⟨⟨l74,l84,ZH⟩,⟨t24,t34⟩,⟨Z_,v14,v24⟩,⟨z04,z14,z24⟩,⟨Y6,f14,f24⟩⟩:=jX fu.out l7 l8 bn q2 q3 r0 r1 r2 fC.out
  clear hl hb4 vR uS xg JX JY z23 Ig f13 f23 t23 t33 UW v13 v23
  go_wp2_with fail
  refine(Op.dZ A4 n4 c4 E4 _ _ (aaE _) qR.out.at wL.out).mono ?_
  rw[rX.out]
  rintro x w5 he
  obtain⟨A5,c5,rfl,hb5,lN,CF⟩:=gK.get he jB.out jK.out
  have GA:=hid hb5
  have dO:=hid (show Below W2.heap.size W2 w5 from fu.out.trans (hb5.mono hs4))
  have hs5:=dO.out.size
  have eZ:=hid ((dO.out.block _ bn).trans fC.out)
  obtain⟨⟨ZI,ZJ,Ud⟩,⟨t25,t35⟩,⟨v05,v15,v25⟩,⟨U4,U5,z25⟩,⟨TP,f15,f25⟩⟩:=jX dO.out l7 l8 bn q2 q3 r0 r1 r2 fC.out
  clear he hb5 lN z04 z14 z24 Y6 f14 f24 t24 t34 Z_ v14 v24
  go_wp2_with fail
  obtain⟨Wf,hWf⟩: ∃Wf:World,Wf=(((w5.setCell ⟨w.heap.size+1+1+1,0,none⟩ (.int .i64 0)).setCell ⟨w.heap.size+1+1+1,1,none⟩ (.int .i64 0)).setCell ⟨w.heap.size+1+1+1,2,none⟩ (.slice none 0 0)):=⟨_,rfl⟩
  rw[←hWf]
  have hrow:Wf.heap[w.heap.size+1+1+1]? =some (.cells #[.int .i64 0,.int .i64 0,.slice none 0 0] 32 (0,0)):=by rw[hWf];exact iB eZ.out rfl _ _ _
  have hgr:(w5).grownBy Wf (some (w.heap.size+1+1+1)):=by rw[hWf];exact grn
  have hbf:Below w.heap.size w Wf:=Below.grown (aQ.out.trans (dO.out.mono hszW)) hgr (aaF hszW hs5) (fun k hk=>by cases hk;omega)
  clear hWf U4 U5 z25 TP f15 f25
  obtain⟨u0,u1,u2⟩:=cells3 hrow
 rotate_left
 ·refine bodyPost_ret (v:=.tuple #[.int .i64 10,.agg #[.int .i64 0,.int .i64 0,.slice none 0 0],.slice A4 n4 c4]) (by simp[results,Tryz.results61,go_sem,u0,u1,u2]) rfl ?_
  exact⟨none,0,0,A4,n4,c4,rfl,hbf,bB.nil _ _,fun _=>((aI.jZ (⟨E4,qR.out.below GA.out,rX.out⟩:bA _ _ _ nx) hgr eZ.out (by decide) (by decide))).base (aaF hszW hs3)⟩
 rotate_left
 all_goals
  refine bodyPost_ret (v:=.tuple #[.int .i64 0,.agg #[.int .i64 0,.int .i64 0,.slice none 0 0],.slice none 0 0]) (by simp[results,Tryz.results61,go_sem,u0,u1,u2]) rfl ?_
  exact⟨_,_,_,rfl,hbf⟩
set_option maxRecDepth 100000 in
theorem OJ (Ar Aa Ai:Option Addr) (nr cr na ca ni ci:Nat) (R:List Rl) (mc mt mf wt st id req cnt ay au ii:Int) (E:List aH) (li:List UInt8) (w:World) (B:Nat) (hB:B≤w.heap.size) (hR:aD w B Ar R) (hnr:nr=R.length) (hlr:nr≤1000000) (hE:aJ w B Aa E) (hna:na=E.length) (hla:na≤1000000) (hda: ∀e∈E,e.d.length≤1000000) (hI:At w B Ai (li.map bv)) (hni:ni=li.length) (hci:ni≤ci):Calls Tryz.prog 61 #[.agg #[.slice Ar nr cr,.int .i64 mc,.int .i64 mt,.int .i64 mf,.int .i64 wt],.agg #[.int .i64 st,.int .i64 id,.int .i64 req,.slice Aa na ca,.int .i64 cnt,.int .i64 ay,.int .i64 au],.agg #[.int .i64 7,.int .i64 ii,.slice Ai ni ci]] w (mq (bK ⟨R,mc,mt,mf,wt⟩ ⟨st,id,req,E.map aH.o,cnt,ay,au⟩ ⟨7,ii,li⟩) w):=by
 have HB:=hid hB
 have HR:=hid hR
 have gB:=hid hnr
 have HE:=hid hE
 have dz:=hid hna
 have jr:=hid hda
 have HI:=hid hI
 have gy:=hid hni
 obtain⟨L,hL⟩: ∃L,E.map aH.o=L:=⟨_,rfl⟩
 have HL:=hid hL
 rw[hL]
 clear hB hR hnr hE hna hda hL hI hni
 by_cases hl:li=[]
 focus
  have e0:((ni:Int)==0)=true:=by have:=gy.out;rw[hl] at this;simp at this;simp[this]
  have HO:=hid (show bK ⟨R,mc,mt,mf,wt⟩ ⟨st,id,req,L,cnt,ay,au⟩ ⟨7,ii,li⟩=none by rw[hl];rfl)
  rw[HO.out]
  clear hl
 rotate_left
 focus
  obtain⟨x,r,hl2⟩:=List.exists_cons_of_ne_nil hl
  obtain⟨b,o,EY,tL,hcc⟩:=HI.out.get (by rw[hl2];simp)
  have HX:=hid (hcc 0 (bv x) (by rw[hl2];rfl))
  clear hcc
  obtain⟨xn,hxn⟩: ∃xn:Nat,x.toNat=xn:=⟨_,rfl⟩
  have hx256:xn<256:=by have:=x.toNat_lt;omega
  have hbv:bv x=.int .u8 (xn:Int):=by rw[←hxn];rfl
  rw[hbv] at HX
  have CS:(0:Int)<(ni:Int):=by have:=gy.out;rw[hl2] at this;simp at this;omega
  have e0:((ni:Int)==0)=false:=by simp;omega
  have e1:IntKind.i64.wrap (xn:Int)=(xn:Int):=IntWalk.i64_in _ (by omega)
  have je:=hid (show bK ⟨R,mc,mt,mf,wt⟩ ⟨st,id,req,L,cnt,ay,au⟩ ⟨7,ii,li⟩=if 1≤xn∧xn≤7 then some (15,⟨0,0,[]⟩,L) else some (14,⟨0,0,[]⟩,L) by rw[hl2,←hxn];rfl)
  rw[je.out]
  have VD:=hid EY
  clear je hbv hxn hl hl2 EY
  by_cases DX:1≤xn∧xn≤7
 focus
  rw[if_pos DX]
  have DL:=hid (show bC (xn:Int) 1 7=true by simp[bC];omega)
  clear DX
 rotate_left
 focus
  rw[if_neg DX]
  have DL:=hid (show bC (xn:Int) 1 7=false by simp[bC];omega)
  clear DX
 rotate_left
 all_goals
  go_enter Tryz.func61,Tryz.ntmps61
  go_upto_region 1 with(fail)
  refine fE ?_
  rintro W2 ⟨h6,h7,h8,h12,hbw⟩
  have aQ:=hid hbw
  have fC:=hid h12
  have hszW:=hbw.size
  have l6:=aj h6
  have l7:=aj h7
  have l8:=aj h8
  have bn:=aj h12
  obtain⟨p0,p1,p2,p3,p4⟩:=cells5 h6
  obtain⟨q0,q1,q2,q3,q4,q5,q6⟩:=aG h7
  obtain⟨r0,r1,r2⟩:=cells3 h8
  obtain⟨z0,z1,z2⟩:=cells3 h12
  have f0:=frees h12 0
  have f1:=frees h12 1
  have f2:=frees h12 2
  clear h6 h7 h8 h12 hbw
 focus
  go_wp2_with fail
 rotate_left
 focus
  have EY:=VD.out
  subst EY
  have hbz:b<W2.heap.size:=by have:=HB.out;omega
  have cx:W2.cell? ⟨b,o+0,none⟩=some (.int .u8 (xn:Int)):=(aQ.out.cell (p:=⟨b,o+0,none⟩) (by have:=HB.out;show b<_;omega)).trans HX.out
  simp only[Nat.add_zero] at cx
  go_wp2_with (go_at_call 59;refine(eB _ _ _ _ DL.out).mono ?_;rintro e w1 ⟨rfl,rfl⟩)
 rotate_left
 focus
  have EY:=VD.out
  subst EY
  have hbz:b<W2.heap.size:=by have:=HB.out;omega
  have cx:W2.cell? ⟨b,o+0,none⟩=some (.int .u8 (xn:Int)):=(aQ.out.cell (p:=⟨b,o+0,none⟩) (by have:=HB.out;show b<_;omega)).trans HX.out
  simp only[Nat.add_zero] at cx
  go_wp2_with (go_at_call 59;refine(gP _ _ _ _ DL.out).mono ?_;rintro e w1 ⟨rfl,rfl⟩)
 rotate_left
 all_goals
  obtain⟨Wf,hWf⟩: ∃Wf:World,Wf=(((W2.setCell ⟨w.heap.size+1+1+1,0,none⟩ (.int .i64 0)).setCell ⟨w.heap.size+1+1+1,1,none⟩ (.int .i64 0)).setCell ⟨w.heap.size+1+1+1,2,none⟩ (.slice none 0 0)):=⟨_,rfl⟩
  rw[←hWf]
  have hrow:Wf.heap[w.heap.size+1+1+1]? =some (.cells #[.int .i64 0,.int .i64 0,.slice none 0 0] 32 (0,0)):=by rw[hWf];exact iB fC.out rfl _ _ _
  have hgr:(W2).grownBy Wf (some (w.heap.size+1+1+1)):=by rw[hWf];first|with_reducible exact bJ grn (by simp)|exact grn
  have hbf:Below w.heap.size w Wf:=Below.grown (by have:=aQ.out;exact aA) hgr (by first|exact hszW|(simp[size_ext,grow];omega)) (fun k hk=>by cases hk;omega)
  clear hWf f0 f1 f2 z0 z1 z2
  obtain⟨u0,u1,u2⟩:=cells3 hrow
 ·refine bodyPost_ret (v:=.tuple #[.int .i64 0,.agg #[.int .i64 0,.int .i64 0,.slice none 0 0],.slice none 0 0]) (by simp[results,Tryz.results61,go_sem,u0,u1,u2]) rfl ?_
  exact⟨_,_,_,rfl,hbf⟩
 ·refine bodyPost_ret (v:=.tuple #[.int .i64 15,.agg #[.int .i64 0,.int .i64 0,.slice none 0 0],.slice none 0 0]) (by simp[results,Tryz.results61,go_sem,u0,u1,u2]) rfl ?_
  exact⟨none,0,0,none,0,0,rfl,hbf,bB.nil _ _,fun h=>by cases h⟩
 ·refine bodyPost_ret (v:=.tuple #[.int .i64 14,.agg #[.int .i64 0,.int .i64 0,.slice none 0 0],.slice none 0 0]) (by simp[results,Tryz.results61,go_sem,u0,u1,u2]) rfl ?_
  exact⟨none,0,0,none,0,0,rfl,hbf,bB.nil _ _,fun h=>by cases h⟩
theorem oH (ic:Int) (h1:1≤ic) (h7:ic≤7) (Ar Aa Ai:Option Addr) (nr cr na ca ni ci:Nat) (R:List Rl) (mc mt mf wt st id req cnt ay au ii:Int) (E:List aH) (li:List UInt8) (w:World) (B:Nat) (hB:B≤w.heap.size) (hR:aD w B Ar R) (hnr:nr=R.length) (hlr:nr≤1000000) (hE:aJ w B Aa E) (hna:na=E.length) (hla:na≤1000000) (hda: ∀e∈E,e.d.length≤1000000) (hI:At w B Ai (li.map bv)) (hni:ni=li.length) (hci:ni≤ci):Calls Tryz.prog 61 #[.agg #[.slice Ar nr cr,.int .i64 mc,.int .i64 mt,.int .i64 mf,.int .i64 wt],.agg #[.int .i64 st,.int .i64 id,.int .i64 req,.slice Aa na ca,.int .i64 cnt,.int .i64 ay,.int .i64 au],.agg #[.int .i64 ic,.int .i64 ii,.slice Ai ni ci]] w (mq (bK ⟨R,mc,mt,mf,wt⟩ ⟨st,id,req,E.map aH.o,cnt,ay,au⟩ ⟨ic,ii,li⟩) w):=by
 have h:ic=1∨ic=2∨ic=3∨ic=4∨ic=5∨ic=6∨ic=7:=by omega
 rcases h with rfl|rfl|rfl|rfl|rfl|rfl|rfl
 ·exact OC Ar Aa Ai nr cr na ca ni ci R mc mt mf wt st id req cnt ay au ii E li w B hB hR hnr hlr hE hna hla hda hI hni hci
 ·exact OD Ar Aa Ai nr cr na ca ni ci R mc mt mf wt st id req cnt ay au ii E li w B hB hR hnr hlr hE hna hla hda hI hni hci
 ·exact OE Ar Aa Ai nr cr na ca ni ci R mc mt mf wt st id req cnt ay au ii E li w B hB hR hnr hlr hE hna hla hda hI hni hci
 ·exact OG Ar Aa Ai nr cr na ca ni ci R mc mt mf wt st id req cnt ay au ii E li w B hB hR hnr hlr hE hna hla hda hI hni hci
 ·exact OH Ar Aa Ai nr cr na ca ni ci R mc mt mf wt st id req cnt ay au ii E li w B hB hR hnr hlr hE hna hla hda hI hni hci
 ·exact OI Ar Aa Ai nr cr na ca ni ci R mc mt mf wt st id req cnt ay au ii E li w B hB hR hnr hlr hE hna hla hda hI hni hci
 ·exact OJ Ar Aa Ai nr cr na ca ni ci R mc mt mf wt st id req cnt ay au ii E li w B hB hR hnr hlr hE hna hla hda hI hni hci
def eP (c:Cf) (a:Au) (inn:Pk) (tick:Int):(Au×List Pk×List Int)×Bool:=
 if bC inn.code 1 7=false then((a,[],[]),false)
 else if Cp.aV inn.code inn.id inn.data.length≠0∨dn c a tick=false then((a,[],[]),true)
 else match bK c a inn with
  |none=>((a,[],[]),true)
  |some (e,ans,next)=>if Fs.bP a.st e≠0 then((a,[],[]),true) else(jo c {a with ask:=next} e inn ans tick,true)
def DU (r:(Au×List Pk×List Int)×Bool) (w:World) (x:Ending) (w':World):Prop:=
 ∃va vo vd,x=.returned (.tuple #[vV r.1.1 va,vo,vd,.bool r.2])∧Below w.heap.size w w'∧bA w' w.heap.size va r.1.1.ask∧dP w' w.heap.size vo r.1.2.1∧aU w' w.heap.size vd r.1.2.2
theorem Ic {L:List bF} (h:(Op.encR L).2=0):L.length≤64∧ ∀o∈L,o.2.length≤253:=by
 unfold Op.encR at h
 split at h
 ·cases h
 ·split at h
  ·rename_i h3 h4
   refine⟨by omega,fun o ho=>?_⟩
   have:=List.all_eq_true.1 h4 o ho
   simp only[Op.okO,Bool.and_eq_true,decide_eq_true_eq] at this
   exact this.2
  ·cases h
theorem mO {c:Cf} {a:Au} {inn:Pk} {e:Int} {ans:Pk} {next:List bF} (h:bK c a inn=some (e,ans,next)):
  e≠0∧ans.data.length≤1488∧(e≠10→next=a.ask)∧(e=10→next.length≤64∧ ∀o∈next,o.2.length≤253):=by
 unfold bK at h
 split at h
 ·unfold fV at h
  split at h
  ·cases h
  ·split at h
   ·cases h
   ·cases h
    refine⟨by split<;>decide,qy _,fun _=>rfl,fun h=>?_⟩
    split at h<;>cases h
 ·split at h
  ·split at h
   ·cases h;exact⟨by decide,by simp,fun _=>rfl,fun h=>by cases h⟩
   ·cases h
  ·split at h
   ·unfold cZ at h
    split at h
    ·cases h
    ·split at h
     ·rename_i h5
      cases h
      exact⟨by decide,by simp,fun h=>absurd rfl h,fun _=>Ic h5.2⟩
     ·cases h
   ·split at h
    ·cases h;exact⟨by decide,by simp,fun _=>rfl,fun h=>by cases h⟩
    ·split at h
     ·cases h;exact⟨by decide,by simp,fun _=>rfl,fun h=>by cases h⟩
     ·split at h
      ·cases h
      ·split at h
       ·cases h;exact⟨by decide,by simp,fun _=>rfl,fun h=>by cases h⟩
       ·cases h;exact⟨by decide,by simp,fun _=>rfl,fun h=>by cases h⟩
set_option maxRecDepth 100000 in
theorem Oc (Ar Aa Ai:Option Addr) (nr cr na ca ni ci:Nat) (R:List Rl) (mc mt mf wt st id req cnt ay au ic ii tick:Int) (E:List aH) (li:List UInt8) (w:World) (B:Nat) (hB:B≤w.heap.size) (hR:aD w B Ar R) (hnr:nr=R.length) (hlr:nr≤1000000) (hE:aJ w B Aa E) (hna:na=E.length) (hla:na≤1000000) (hda: ∀e∈E,e.d.length≤1000000) (hI:At w B Ai (li.map bv)) (hni:ni=li.length) (hci:ni≤ci) (iF:ni≤400000000) (hno:bC ic 1 7=false∨(Cp.aV ic ii li.length≠0∨dn ⟨R,mc,mt,mf,wt⟩ ⟨st,id,req,E.map aH.o,cnt,ay,au⟩ tick=false)):Calls Tryz.prog 19 #[.agg #[.slice Ar nr cr,.int .i64 mc,.int .i64 mt,.int .i64 mf,.int .i64 wt],.agg #[.int .i64 st,.int .i64 id,.int .i64 req,.slice Aa na ca,.int .i64 cnt,.int .i64 ay,.int .i64 au],.agg #[.int .i64 ic,.int .i64 ii,.slice Ai ni ci],.int .i64 tick] w (DU (eP ⟨R,mc,mt,mf,wt⟩ ⟨st,id,req,E.map aH.o,cnt,ay,au⟩ ⟨ic,ii,li⟩ tick) w):=by
 obtain⟨ib,hib⟩: ∃ib,bC ic 1 7=ib:=⟨_,rfl⟩
 rw[hib] at hno
 have DL:=hid hib
 have HB:=hid hB
 have HR:=hid hR
 have gB:=hid hnr
 have HE:=hid hE
 have dz:=hid hna
 have jr:=hid hda
 have HI:=hid hI
 have gy:=hid hni
 obtain⟨L,hL⟩: ∃L,E.map aH.o=L:=⟨_,rfl⟩
 have HL:=hid hL
 rw[hL]
 clear hB hR hnr hE hna hda hL hI hni
 rw[HL.out] at hno
 cases ib
 focus
  have HO:=hid (show eP ⟨R,mc,mt,mf,wt⟩ ⟨st,id,req,L,cnt,ay,au⟩ ⟨ic,ii,li⟩ tick=((⟨st,id,req,L,cnt,ay,au⟩,[],[]),false) from if_pos hib)
  rw[HO.out]
  clear hib hno HO
 rotate_left
 focus
  have h2:Cp.aV ic ii li.length≠0∨dn ⟨R,mc,mt,mf,wt⟩ ⟨st,id,req,L,cnt,ay,au⟩ tick=false:=by rcases hno with h|h;cases h;exact h
  have HO:=hid (show eP ⟨R,mc,mt,mf,wt⟩ ⟨st,id,req,L,cnt,ay,au⟩ ⟨ic,ii,li⟩ tick=((⟨st,id,req,L,cnt,ay,au⟩,[],[]),true) by unfold eP;dsimp only;rw[hib,if_neg (by decide),if_pos h2])
  rw[HO.out]
  obtain⟨er,her⟩: ∃er,Cp.aV ic ii li.length=er:=⟨_,rfl⟩
  have jB:=hid her
  rw[her] at h2
  clear hib hno HO her
  by_cases h0:er=0
 focus
  have HF:=hid (show dn ⟨R,mc,mt,mf,wt⟩ ⟨st,id,req,L,cnt,ay,au⟩ tick=false from h2.resolve_left (fun h=>h h0))
  have h0':(er !=0)=false:=by simp[h0]
  clear h0 h2
 rotate_left
 focus
  have h0':(er !=0)=true:=by simpa using h0
  clear h0 h2
 rotate_left
 all_goals
  go_enter Tryz.func19,Tryz.ntmps19
  go_upto_region 1 with(fail)
  refine fE ?_
  rintro w2 ⟨h6,h7,h8,h12,hbw⟩
  have HB2:=hid hbw
  have qN:=hid h6
  have pW:=hid h7
  have qO:=hid h8
  have jq:=hid h12
  clear h6 h7 h8 h12 hbw
  have hs2:=HB2.out.size
  obtain⟨⟨l6,l7,l8,bn⟩,⟨p0,p1,p2,p3,p4⟩,⟨q0,q1,q2,q3,q4,q5,q6⟩,⟨r0,r1,r2⟩,⟨z0,z1,z2,z3,z4,z5,z6⟩,⟨f0,f1,f2,f3,f4,f5,f6⟩,k3⟩:=bG qN.out pW.out qO.out jq.out
 focus
  go_wp2_with (go_at_call 59;refine(gP _ _ _ _ DL.out).mono ?_;rintro e w1 ⟨rfl,rfl⟩)
  refine(mD st id req cnt ay au Aa na ca E _ B (by have:=HB.out;omega) (HE.out.keep (HB2.out.mono HB.out)) dz.out hla (fun e he=>by have:=jr.out e he;omega)).mono ?_
 rotate_left
 focus
  go_wp2_with (go_at_call 59;refine(eB _ _ _ _ DL.out).mono ?_;rintro e w1 ⟨rfl,rfl⟩)
  refine(Cp.dZ ic ii Ai ni ci li _ B (by have:=HB.out;omega) (HI.out.keep (HB2.out.mono HB.out)) gy.out (by omega)).mono ?_
  unfold Cp.gK
  rw[jB.out]
  rintro x w3 ⟨v3,rfl,hb3,-⟩
  have jv:=hid (show Below w2.heap.size w2 w3 from hb3)
  have HB3:=hid (HB2.out.trans (jv.out.mono hs2))
  have rW:=hid ((jv.out.block _ l6).trans qN.out)
  have mQ:=hid ((jv.out.block _ l7).trans pW.out)
  have m_:=hid ((jv.out.block _ l8).trans qO.out)
  have eU:=hid ((jv.out.block _ bn).trans jq.out)
  clear p0 p1 p2 p3 p4 q0 q1 q2 q3 q4 q5 q6 r0 r1 r2 z0 z1 z2 z3 z4 z5 z6 f0 f1 f2 f3 f4 f5 f6 k3 l6 l7 l8 bn
  have hs3:=HB3.out.size
  obtain⟨⟨l6,l7,l8,bn⟩,⟨p0,p1,p2,p3,p4⟩,⟨q0,q1,q2,q3,q4,q5,q6⟩,⟨r0,r1,r2⟩,⟨z0,z1,z2,z3,z4,z5,z6⟩,⟨f0,f1,f2,f3,f4,f5,f6⟩,k3⟩:=bG rW.out mQ.out m_.out eU.out
  clear hb3
  go_wp2_with fail
  refine(jk Ar nr cr R mc mt mf wt st id req cnt ay au Aa na ca E L HL.out tick _ B (by have:=HB.out;omega) (HR.out.keep (HB3.out.mono HB.out)) gB.out hlr (HE.out.keep (HB3.out.mono HB.out)) dz.out).mono ?_
  rw[HF.out]
  rintro x w4 ⟨rfl,hb4⟩
  have kE:=hid (show Below w3.heap.size w3 w4 from hb4)
  have fu:=hid (HB3.out.trans (kE.out.mono hs3))
  have vN:=hid ((kE.out.block _ l6).trans rW.out)
  have vO:=hid ((kE.out.block _ l7).trans mQ.out)
  have vP:=hid ((kE.out.block _ l8).trans m_.out)
  have jV:=hid ((kE.out.block _ bn).trans eU.out)
  clear p0 p1 p2 p3 p4 q0 q1 q2 q3 q4 q5 q6 r0 r1 r2 z0 z1 z2 z3 z4 z5 z6 f0 f1 f2 f3 f4 f5 f6 k3 l6 l7 l8 bn
  have hs4:=fu.out.size
  obtain⟨⟨l6,l7,l8,bn⟩,⟨p0,p1,p2,p3,p4⟩,⟨q0,q1,q2,q3,q4,q5,q6⟩,⟨r0,r1,r2⟩,⟨z0,z1,z2,z3,z4,z5,z6⟩,⟨f0,f1,f2,f3,f4,f5,f6⟩,k3⟩:=bG vN.out vO.out vP.out jV.out
  clear hb4
  go_wp2_with fail
  refine(mD st id req cnt ay au Aa na ca E _ B (by have:=HB.out;omega) (HE.out.keep (fu.out.mono HB.out)) dz.out hla (fun e he=>by have:=jr.out e he;omega)).mono ?_
 rotate_left
 focus
  go_wp2_with (go_at_call 59;refine(eB _ _ _ _ DL.out).mono ?_;rintro e w1 ⟨rfl,rfl⟩)
  refine(Cp.dZ ic ii Ai ni ci li _ B (by have:=HB.out;omega) (HI.out.keep (HB2.out.mono HB.out)) gy.out (by omega)).mono ?_
  unfold Cp.gK
  rw[jB.out]
  rintro x w3 ⟨v3,rfl,hb3,-⟩
  have jv:=hid (show Below w2.heap.size w2 w3 from hb3)
  have HB3:=hid (HB2.out.trans (jv.out.mono hs2))
  have rW:=hid ((jv.out.block _ l6).trans qN.out)
  have mQ:=hid ((jv.out.block _ l7).trans pW.out)
  have m_:=hid ((jv.out.block _ l8).trans qO.out)
  have eU:=hid ((jv.out.block _ bn).trans jq.out)
  clear p0 p1 p2 p3 p4 q0 q1 q2 q3 q4 q5 q6 r0 r1 r2 z0 z1 z2 z3 z4 z5 z6 f0 f1 f2 f3 f4 f5 f6 k3 l6 l7 l8 bn
  have hs3:=HB3.out.size
  obtain⟨⟨l6,l7,l8,bn⟩,⟨p0,p1,p2,p3,p4⟩,⟨q0,q1,q2,q3,q4,q5,q6⟩,⟨r0,r1,r2⟩,⟨z0,z1,z2,z3,z4,z5,z6⟩,⟨f0,f1,f2,f3,f4,f5,f6⟩,k3⟩:=bG rW.out mQ.out m_.out eU.out
  clear hb3
  go_wp2_with fail
  refine(mD st id req cnt ay au Aa na ca E _ B (by have:=HB.out;omega) (HE.out.keep (HB3.out.mono HB.out)) dz.out hla (fun e he=>by have:=jr.out e he;omega)).mono ?_
 rotate_left
 all_goals
  rintro x w9 ⟨v,rfl,E9,A9,n9,c9,rfl,J7,Iw,T9,jf,kM⟩
  have GH:=hid (show E9.map aH.o=L from J7.trans HL.out)
  have qm:=hid kM
 focus
  have qp:=hid (show Below w2.heap.size w2 w9 from jf)
  have oP:=hid (HB2.out.trans (qp.out.mono hs2))
  have Tc:=hid ((qp.out.block _ l6).trans qN.out)
  have Te:=hid ((qp.out.block _ l7).trans pW.out)
  have Tf:=hid ((qp.out.block _ l8).trans qO.out)
  have oZ:=hid ((qp.out.block _ bn).trans jq.out)
 rotate_left
 focus
  have qp:=hid (show Below w4.heap.size w4 w9 from jf)
  have oP:=hid (fu.out.trans (qp.out.mono hs4))
  have Tc:=hid ((qp.out.block _ l6).trans vN.out)
  have Te:=hid ((qp.out.block _ l7).trans vO.out)
  have Tf:=hid ((qp.out.block _ l8).trans vP.out)
  have oZ:=hid ((qp.out.block _ bn).trans jV.out)
 rotate_left
 focus
  have qp:=hid (show Below w3.heap.size w3 w9 from jf)
  have oP:=hid (HB3.out.trans (qp.out.mono hs3))
  have Tc:=hid ((qp.out.block _ l6).trans rW.out)
  have Te:=hid ((qp.out.block _ l7).trans mQ.out)
  have Tf:=hid ((qp.out.block _ l8).trans m_.out)
  have oZ:=hid ((qp.out.block _ bn).trans eU.out)
 rotate_left
 all_goals
  clear p0 p1 p2 p3 p4 q0 q1 q2 q3 q4 q5 q6 r0 r1 r2 z0 z1 z2 z3 z4 z5 z6 f0 f1 f2 f3 f4 f5 f6 k3 l6 l7 l8 bn
  have Ua:=oP.out.size
  obtain⟨⟨l6,l7,l8,bn⟩,⟨p0,p1,p2,p3,p4⟩,⟨q0,q1,q2,q3,q4,q5,q6⟩,⟨r0,r1,r2⟩,⟨z0,z1,z2,z3,z4,z5,z6⟩,⟨f0,f1,f2,f3,f4,f5,f6⟩,k3⟩:=bG Tc.out Te.out Tf.out oZ.out
  clear J7 Iw T9 jf kM
  dsimp only
  go_wp2_with fail
  obtain⟨Wf,hWf⟩: ∃Wf:World,Wf=(((((((w9.setCell ⟨w.heap.size+1+1+1,0,none⟩ (.int .i64 st)).setCell ⟨w.heap.size+1+1+1,1,none⟩ (.int .i64 id)).setCell ⟨w.heap.size+1+1+1,2,none⟩ (.int .i64 req)).setCell ⟨w.heap.size+1+1+1,3,none⟩ (.slice A9 n9 c9)).setCell ⟨w.heap.size+1+1+1,4,none⟩ (.int .i64 cnt)).setCell ⟨w.heap.size+1+1+1,5,none⟩ (.int .i64 ay)).setCell ⟨w.heap.size+1+1+1,6,none⟩ (.int .i64 au)):=⟨_,rfl⟩
  rw[←hWf]
  have hrow:Wf.heap[w.heap.size+1+1+1]? =some (.cells #[.int .i64 st,.int .i64 id,.int .i64 req,.slice A9 n9 c9,.int .i64 cnt,.int .i64 ay,.int .i64 au] 29 (0,0)):=by rw[hWf];exact gF oZ.out rfl _ _ _ _ _ _ _
  have hgr:w9.grownBy Wf (some (w.heap.size+1+1+1)):=by rw[hWf];exact grn
  clear hWf
  clear p0 p1 p2 p3 p4 q0 q1 q2 q3 q4 q5 q6 r0 r1 r2 z0 z1 z2 z3 z4 z5 z6 f0 f1 f2 f3 f4 f5 f6 k3 l6 l7 l8 bn
  obtain⟨u0,u1,u2,u3,u4,u5,u6⟩:=aG hrow
 ·refine bodyPost_ret (v:=.tuple #[.agg #[.int .i64 st,.int .i64 id,.int .i64 req,.slice A9 n9 c9,.int .i64 cnt,.int .i64 ay,.int .i64 au],.slice none 0 0,.slice none 0 0,.bool false]) (by simp[results,Tryz.results19,go_sem,u0,u1,u2,u3,u4,u5,u6]) rfl ?_
  exact⟨.slice A9 n9 c9,.slice none 0 0,.slice none 0 0,rfl,Below.grown oP.out hgr Ua (fun k hk=>by cases hk;omega),bA.base (aI.jZ (⟨E9,qm.out,GH.out⟩:bA _ _ _ L) hgr oZ.out (by decide) (by decide)) hs2,⟨[],dM.nil _ _,rfl⟩,aU.nil _ _⟩
 rotate_left
 rotate_left
 all_goals
  refine bodyPost_ret (v:=.tuple #[.agg #[.int .i64 st,.int .i64 id,.int .i64 req,.slice A9 n9 c9,.int .i64 cnt,.int .i64 ay,.int .i64 au],.slice none 0 0,.slice none 0 0,.bool true]) (by simp[results,Tryz.results19,go_sem,u0,u1,u2,u3,u4,u5,u6]) rfl ?_
 ·exact⟨.slice A9 n9 c9,.slice none 0 0,.slice none 0 0,rfl,Below.grown oP.out hgr Ua (fun k hk=>by cases hk;omega),bA.base (aI.jZ (⟨E9,qm.out,GH.out⟩:bA _ _ _ L) hgr oZ.out (by decide) (by decide)) hs4,⟨[],dM.nil _ _,rfl⟩,aU.nil _ _⟩
 ·exact⟨.slice A9 n9 c9,.slice none 0 0,.slice none 0 0,rfl,Below.grown oP.out hgr Ua (fun k hk=>by cases hk;omega),bA.base (aI.jZ (⟨E9,qm.out,GH.out⟩:bA _ _ _ L) hgr oZ.out (by decide) (by decide)) hs3,⟨[],dM.nil _ _,rfl⟩,aU.nil _ _⟩
end Go.Proofs.YtfkgmbknfnhjoaaGreat
