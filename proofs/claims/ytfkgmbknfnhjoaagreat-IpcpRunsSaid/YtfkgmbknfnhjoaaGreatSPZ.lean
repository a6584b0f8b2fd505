/- PZ -/
import Derived.Test.YtfkgmbknfnhjoaaGreatSPI
set_option linter.all false
set_option linter.ambiguousOpen false
set_option maxHeartbeats 4000000
namespace Go.Proofs.YtfkgmbknfnhjoaaGreat
open Lib (hid)
open Go.RowKit
open Ne (Rl bF aD bM)
open Fs (av hasB)
set_option maxRecDepth 100000 in
theorem yS (Ar Aa:Option Addr) (nr cr na ca:Nat) (R:List Rl) (mc mt mf wt st id req cnt ay au tick:Int) (E:List aH) (w:World) (B:Nat) (hB:B≤w.heap.size) (hR:aD w B Ar R) (hnr:nr=R.length) (hlr:nr≤1000000) (hE:aJ w B Aa E) (hna:na=E.length):
  Calls Tryz.prog 17 #[.agg #[.slice Ar nr cr,.int .i64 mc,.int .i64 mt,.int .i64 mf,.int .i64 wt],.agg #[.int .i64 st,.int .i64 id,.int .i64 req,.slice Aa na ca,.int .i64 cnt,.int .i64 ay,.int .i64 au],.int .i64 tick] w (zT (mh ⟨R,mc,mt,mf,wt⟩ ⟨st,id,req,E.map aH.o,cnt,ay,au⟩ tick) (.slice Aa na ca) w):=by
 have HB:=hid hB
 have HR:=hid hR
 have gB:=hid hnr
 have HE:=hid hE
 have dz:=hid hna
 obtain⟨L,hL⟩: ∃L,E.map aH.o=L:=⟨_,rfl⟩
 have HL:=hid hL
 rw[hL]
 clear hB hR hnr hE hna hL
 by_cases h0:ay=0∨tick<ay
 ·have HT:=hid (show mh ⟨R,mc,mt,mf,wt⟩ ⟨st,id,req,L,cnt,ay,au⟩ tick=(⟨st,id,req,L,cnt,ay,au⟩,[],[]) from if_pos h0)
  rw[HT.out]
  by_cases h1:ay=0
  all_goals
   first|have h2:(ay==0)=true:=by simpa using h1
        |have h2:(ay==0)=false:=by simpa using h1
   first|have h3:tick<ay:=by omega
        |have h3:True:=trivial
   have HT0:=hid h1
   clear h0 h1
   go_enter Tryz.func17,Tryz.ntmps17
   go_upto_region 1 with(fail)
   refine bY (fun W=>W.heap[w.heap.size]? =some (.cells #[.slice Ar nr cr,.int .i64 mc,.int .i64 mt,.int .i64 mf,.int .i64 wt] 24 (0,0))∧W.heap[w.heap.size+1]? =some (.cells #[.int .i64 st,.int .i64 id,.int .i64 req,.slice Aa na ca,.int .i64 cnt,.int .i64 ay,.int .i64 au] 29 (0,0))∧W.heap[w.heap.size+1+1]? =some (.cells #[.int .i64 0,.int .i64 0,.int .i64 0,.slice none 0 0,.int .i64 0,.int .i64 0,.int .i64 0] 29 (0,0))∧Below w.heap.size w W) ⟨by exact hpa,by exact hpa,by exact hpa,by exact aA⟩ ?_
   rintro W2 ⟨h6,h7,h12,hbw⟩
   have aQ:=hid hbw
   have fC:=hid h12
   have hszW:=hbw.size
   have l6:=aj h6
   have l7:=aj h7
   have bn:=aj h12
   obtain⟨p0,p1,p2,p3,p4⟩:=cells5 h6
   obtain⟨q0,q1,q2,q3,q4,q5,q6⟩:=aG h7
   obtain⟨z0,z1,z2,z3,z4,z5,z6⟩:=aG h12
   have f0:=frees h12 0
   have f1:=frees h12 1
   have f2:=frees h12 2
   have f3:=frees h12 3
   have f4:=frees h12 4
   have f5:=frees h12 5
   have f6:=frees h12 6
   clear h6 h7 h12 hbw
   go_wp2_with fail
   obtain⟨Wf,hWf⟩: ∃Wf,Wf=(((((((W2.setCell ⟨w.heap.size+1+1,0,none⟩ (.int .i64 st)).setCell ⟨w.heap.size+1+1,1,none⟩ (.int .i64 id)).setCell ⟨w.heap.size+1+1,2,none⟩ (.int .i64 req)).setCell ⟨w.heap.size+1+1,3,none⟩ (.slice Aa na ca)).setCell ⟨w.heap.size+1+1,4,none⟩ (.int .i64 cnt)).setCell ⟨w.heap.size+1+1,5,none⟩ (.int .i64 ay)).setCell ⟨w.heap.size+1+1,6,none⟩ (.int .i64 au)):=⟨_,rfl⟩
   rw[←hWf]
   have hrow:Wf.heap[w.heap.size+1+1]? =some (.cells #[.int .i64 st,.int .i64 id,.int .i64 req,.slice Aa na ca,.int .i64 cnt,.int .i64 ay,.int .i64 au] 29 (0,0)):=by rw[hWf];exact gF fC.out rfl _ _ _ _ _ _ _
   have hgr:(W2).grownBy Wf (some (w.heap.size+1+1)):=by rw[hWf];first|with_reducible exact bJ grn (by simp)|exact grn
   clear hWf f0 f1 f2 f3 f4 f5 f6 z0 z1 z2 z3 z4 z5 z6
   obtain⟨u0,u1,u2,u3,u4,u5,u6⟩:=aG hrow
   refine bodyPost_ret (v:=.tuple #[.agg #[.int .i64 st,.int .i64 id,.int .i64 req,.slice Aa na ca,.int .i64 cnt,.int .i64 ay,.int .i64 au],.slice none 0 0,.slice none 0 0]) (by simp[results,Tryz.results17,go_sem,u0,u1,u2,u3,u4,u5,u6]) rfl ?_
   exact⟨.slice none 0 0,.slice none 0 0,rfl,Below.grown aQ.out hgr hszW (fun k hk=>by cases hk;omega),fG.nil _ _,aU.nil _ _⟩
 ·have HT:=hid (show mh ⟨R,mc,mt,mf,wt⟩ ⟨st,id,req,L,cnt,ay,au⟩ tick=jo ⟨R,mc,mt,mf,wt⟩ ⟨st,id,req,L,cnt,ay,au⟩ (if 0<cnt then 5 else 6) ⟨0,0,[]⟩ ⟨0,0,[]⟩ tick from if_neg h0)
  have h2:(ay==0)=false:=by simp;omega
  have h3: ¬tick<ay:=by omega
  obtain⟨ev,hev⟩: ∃ev:Int,(if 0<cnt then 5 else 6)=ev:=⟨_,rfl⟩
  rw[hev] at HT
  obtain⟨⟨⟨s1,i1,r1,L1,c1,t1,k1⟩,o1,d1⟩,hr⟩: ∃r,jo ⟨R,mc,mt,mf,wt⟩ ⟨st,id,req,L,cnt,ay,au⟩ ev ⟨0,0,[]⟩ ⟨0,0,[]⟩ tick=r:=⟨_,rfl⟩
  have HR2:=hid hr
  rw[hr] at HT
  rw[HT.out]
  clear h0 hr
  have HF:=hid hev
  clear hev
  by_cases hc:0<cnt
  all_goals
   first|have HV:=hid (show ev=5 from HF.out.symm.trans (if_pos hc))
        |have HV:=hid (show ev=6 from HF.out.symm.trans (if_neg hc))
  all_goals
   go_enter Tryz.func17,Tryz.ntmps17
   go_upto_region 1 with(fail)
   refine bY (fun W=>W.heap[w.heap.size]? =some (.cells #[.slice Ar nr cr,.int .i64 mc,.int .i64 mt,.int .i64 mf,.int .i64 wt] 24 (0,0))∧W.heap[w.heap.size+1]? =some (.cells #[.int .i64 st,.int .i64 id,.int .i64 req,.slice Aa na ca,.int .i64 cnt,.int .i64 ay,.int .i64 au] 29 (0,0))∧W.heap[w.heap.size+1+1]? =some (.cells #[.int .i64 0,.int .i64 0,.int .i64 0,.slice none 0 0,.int .i64 0,.int .i64 0,.int .i64 0] 29 (0,0))∧Below w.heap.size w W) ⟨by exact hpa,by exact hpa,by exact hpa,by exact aA⟩ ?_
   rintro W2 ⟨h6,h7,h12,hbw⟩
   have aQ:=hid hbw
   have fC:=hid h12
   have hszW:=hbw.size
   have l6:=aj h6
   have l7:=aj h7
   have bn:=aj h12
   obtain⟨p0,p1,p2,p3,p4⟩:=cells5 h6
   obtain⟨q0,q1,q2,q3,q4,q5,q6⟩:=aG h7
   obtain⟨z0,z1,z2,z3,z4,z5,z6⟩:=aG h12
   have f0:=frees h12 0
   have f1:=frees h12 1
   have f2:=frees h12 2
   have f3:=frees h12 3
   have f4:=frees h12 4
   have f5:=frees h12 5
   have f6:=frees h12 6
   clear h6 h7 h12 hbw
   go_wp2_with fail
   have hev:=HV.out
   subst hev
   refine(qF Ar Aa none none nr cr na ca 0 0 0 0 R mc mt mf wt st id req cnt ay au _ 0 0 0 0 tick E [] [] W2 B (by have:=HB.out;omega) (HR.out.keep (aQ.out.mono HB.out)) gB.out hlr (HE.out.keep (aQ.out.mono HB.out)) dz.out (At.nil _ _ _) rfl (aaE _) (by simp) (At.nil _ _ _) rfl (aaE _) (by simp)).mono ?_
   rw[HL.out,HR2.out]
   rintro x w4 ⟨vo,vd,rfl,hb4,yH,WE⟩
   have fu:=hid hb4
   have zQ:=hid yH
   have Kt:=hid WE
   have HZ:=hid ((hb4.block _ bn).trans fC.out)
   have jJ:=hid (aQ.out.trans (hb4.mono hszW))
   have Iy:=hb4.size
   have lz:w.heap.size+1+1<w4.heap.size:=by omega
   clear f0 f1 f2 f3 f4 f5 f6 p0 p1 p2 p3 p4 q0 q1 q2 q3 q4 q5 q6 z0 z1 z2 z3 z4 z5 z6 hb4 yH WE
   obtain⟨z0,z1,z2,z3,z4,z5,z6⟩:=aG HZ.out
   have f0:=frees HZ.out 0
   have f1:=frees HZ.out 1
   have f2:=frees HZ.out 2
   have f3:=frees HZ.out 3
   have f4:=frees HZ.out 4
   have f5:=frees HZ.out 5
   have f6:=frees HZ.out 6
   unfold vV
   go_wp2_with fail
   obtain⟨Wf,hWf⟩: ∃Wf,Wf=(((((((w4.setCell ⟨w.heap.size+1+1,0,none⟩ (.int .i64 s1)).setCell ⟨w.heap.size+1+1,1,none⟩ (.int .i64 i1)).setCell ⟨w.heap.size+1+1,2,none⟩ (.int .i64 r1)).setCell ⟨w.heap.size+1+1,3,none⟩ (.slice Aa na ca)).setCell ⟨w.heap.size+1+1,4,none⟩ (.int .i64 c1)).setCell ⟨w.heap.size+1+1,5,none⟩ (.int .i64 t1)).setCell ⟨w.heap.size+1+1,6,none⟩ (.int .i64 k1)):=⟨_,rfl⟩
   rw[←hWf]
   have hrow:Wf.heap[w.heap.size+1+1]? =some (.cells #[.int .i64 s1,.int .i64 i1,.int .i64 r1,.slice Aa na ca,.int .i64 c1,.int .i64 t1,.int .i64 k1] 29 (0,0)):=by rw[hWf];exact gF HZ.out rfl _ _ _ _ _ _ _
   have hgr:(w4).grownBy Wf (some (w.heap.size+1+1)):=by rw[hWf];first|with_reducible exact bJ grn (by simp)|exact grn
   clear hWf f0 f1 f2 f3 f4 f5 f6 z0 z1 z2 z3 z4 z5 z6
   obtain⟨u0,u1,u2,u3,u4,u5,u6⟩:=aG hrow
   refine bodyPost_ret (v:=.tuple #[.agg #[.int .i64 s1,.int .i64 i1,.int .i64 r1,.slice Aa na ca,.int .i64 c1,.int .i64 t1,.int .i64 k1],vo,vd]) (by simp[results,Tryz.results17,go_sem,u0,u1,u2,u3,u4,u5,u6]) rfl ?_
   exact⟨vo,vd,rfl,Below.grown jJ.out hgr (by omega) (fun k hk=>by cases hk;omega),fG.base (zQ.out.other hgr HZ.out (f_ _ _ _ _ _ _ _ _ _) (by decide)) hszW,aU.base (Kt.out.other hgr HZ.out (by decide)) hszW⟩
end Go.Proofs.YtfkgmbknfnhjoaaGreat
