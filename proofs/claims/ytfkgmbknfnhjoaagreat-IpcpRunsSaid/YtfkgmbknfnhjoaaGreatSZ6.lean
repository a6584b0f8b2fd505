/- Z6 -/
import Derived.Test.YtfkgmbknfnhjoaaGreatSZ5
import Derived.Test.YtfkgmbknfnhjoaaGreatSPL
import Derived.Test.YtfkgmbknfnhjoaaGreatSZ9
set_option linter.all false
set_option linter.ambiguousOpen false
set_option maxHeartbeats 8000000
namespace Go.Proofs.YtfkgmbknfnhjoaaGreat
open Lib (hid)
open Go.RowKit
open Ne (Rl bF aD bM dJ)
open Fs (av hasB)
theorem yR {c:Cf} {a:Au} {i:Pk} {tick:Int} (h:a.ask.length≤1000000∧ ∀o∈a.ask,o.2.length≤400000000):(eP c a i tick).1.1.ask.length≤1000000∧ ∀o∈(eP c a i tick).1.1.ask,o.2.length≤400000000:=by
 have key:(eP c a i tick).1.1.ask=a.ask∨(Op.encR (eP c a i tick).1.1.ask).2=0:=by
  unfold eP
  split
  ·exact .inl rfl
  ·split
   ·exact .inl rfl
   ·rename_i h2
    split
    ·exact .inl rfl
    ·split
     ·exact .inl rfl
     ·rename_i hw _
      refine .inr ?_
      rw[fU]
      refine xM ?_ hw
      have h3:dn c a tick=true:=by
       cases h4:dn c a tick
       ·exact absurd (.inr h4) h2
       ·rfl
      unfold dn at h3
      simp only[Bool.and_eq_true] at h3
      have h5:=h3.2.1
      unfold fA at h5
      simp only[Bool.and_eq_true,beq_iff_eq] at h5
      exact h5.2.1
 rcases key with h1|h1
 ·rw[h1];exact h
 ·obtain⟨h2,h3⟩:=Ic h1
  exact⟨by omega,fun o ho=>by have:=h3 o ho;omega⟩
set_option maxRecDepth 100000 in
theorem rJ (mr mc mt mf wt ec lo:Int) (st id req cnt ay au own peer:Int) (Aa:Option Addr) (na ca:Nat) (tick:Int) (Ai:Option Addr) (ni ci:Nat) (ic ii:Int) (li:List UInt8) (E:List aH) (L:List bF) (hL:E.map aH.o=L) (w:World) (B:Nat) (hB:B≤w.heap.size) (hE:aJ w B Aa E) (hna:na=E.length) (hla:na≤1000000) (hda: ∀e∈E,e.d.length≤1000000) (hp:dJ peer) (hI:At w B Ai (li.map bv)) (hni:ni=li.length) (hci:ni≤ci) (iF:ni≤400000000):
  Calls Tryz.prog 30 #[.agg #[.int .i64 mr,.int .i64 mc,.int .i64 mt,.int .i64 mf,.int .i64 wt,.int .i64 ec,.int .i64 lo],.agg #[.int .i64 st,.int .i64 id,.int .i64 req,.slice Aa na ca,.int .i64 cnt,.int .i64 ay,.int .i64 au,.int .i64 own,.int .i64 peer],.agg #[.int .i64 ic,.int .i64 ii,.slice Ai ni ci],.int .i64 tick] w (lg (b_ mc mt mf wt ⟨st,id,req,L,cnt,ay,au⟩ own peer ⟨ic,ii,li⟩ tick) own peer w):=by
 have HDB:=hid hda
 replace hda: ∀e∈E,e.d.length≤400000000:=fun e he=>by have:=HDB.out e he;omega
 have HB:=hid hB
 have HE:=hid hE
 have dz:=hid hna
 have jr:=hid hda
 have HP:=hid hp
 have HL:=hid hL
 have HI:=hid hI
 have gy:=hid hni
 clear hB hE hna hda hp hL hI hni
 have qc:=hid (show L.length≤1000000∧ ∀o∈L,o.2.length≤400000000 by rw[←HL.out,List.length_map];exact⟨by rw[←dz.out];exact hla,fun o ho=>by obtain⟨e,he,rfl⟩:=List.mem_map.1 ho;exact jr.out e he⟩)
 obtain⟨en,hen⟩: ∃n,Cp.aV ic ii li.length=n:=⟨_,rfl⟩
 have jB:=hid hen
 cases h1:iD mc mt mf wt ⟨st,id,req,L,cnt,ay,au⟩ own peer tick
 focus
  have HF:=hid h1
  have HV:=hid (show b_ mc mt mf wt ⟨st,id,req,L,cnt,ay,au⟩ own peer ⟨ic,ii,li⟩ tick=(⟨st,id,req,L,cnt,ay,au⟩,[],[]) by unfold b_;rw[if_neg (by simp[h1])])
  clear h1 hen
 rotate_left
 focus
  have HF:=hid h1
  by_cases h2:en=0
 focus
  subst h2
  have Kw:=hid (And.intro h1 hen)
  clear h1 hen
  by_cases h3:ic=3
 ·subst h3
  by_cases h4:ii=req
  focus
   subst h4
   obtain⟨r,hr⟩: ∃r,jo (vY mc mt mf wt peer) ⟨st,id,ii,L,cnt,ay,au⟩ 10 ⟨3,ii,li⟩ ⟨0,0,[]⟩ tick=r:=⟨_,rfl⟩
   have HV:=hid (show b_ mc mt mf wt ⟨st,id,ii,L,cnt,ay,au⟩ own peer ⟨3,ii,li⟩ tick=r by unfold b_;rw[if_pos Kw.out];rw[if_pos rfl,if_pos rfl];exact hr)
   have HAS:=hid (show r.1.ask.length≤1000000∧ ∀o∈r.1.ask,o.2.length≤400000000 by rw[←hr,fU];exact qc.out)
   have HRR:=hid hr
   clear hr
   go_enter Tryz.func30,Tryz.ntmps30
   go_upto_region 1 with(fail)
   refine bY (fun W=>W.heap[w.heap.size]? =some (.cells #[.int .i64 mr,.int .i64 mc,.int .i64 mt,.int .i64 mf,.int .i64 wt,.int .i64 ec,.int .i64 lo] 64 (0,0))∧W.heap[w.heap.size+1]? =some (.cells #[.int .i64 st,.int .i64 id,.int .i64 ii,.slice Aa na ca,.int .i64 cnt,.int .i64 ay,.int .i64 au,.int .i64 own,.int .i64 peer] 60 (0,0))∧W.heap[w.heap.size+1+1]? =some (.cells #[.int .i64 3,.int .i64 ii,.slice Ai ni ci] 32 (0,0))∧W.heap[w.heap.size+1+1+1]? =some (.cells #[.int .i64 0,.int .i64 0,.int .i64 0,.slice none 0 0,.int .i64 0,.int .i64 0,.int .i64 0,.int .i64 0,.int .i64 0] 60 (0,0))∧Below w.heap.size w W) ⟨by exact hpa,by exact hpa,by exact hpa,by exact hpa,by exact aA⟩ ?_
  rotate_left
  focus
   have h5:(ii==req)=false:=by simpa using h4
   have HV:=hid (show b_ mc mt mf wt ⟨st,id,req,L,cnt,ay,au⟩ own peer ⟨3,ii,li⟩ tick=(⟨st,id,req,L,cnt,ay,au⟩,[],[]) by unfold b_;rw[if_pos Kw.out,if_pos rfl,if_neg h4])
   go_enter Tryz.func30,Tryz.ntmps30
   go_upto_region 1 with(fail)
   refine bY (fun W=>W.heap[w.heap.size]? =some (.cells #[.int .i64 mr,.int .i64 mc,.int .i64 mt,.int .i64 mf,.int .i64 wt,.int .i64 ec,.int .i64 lo] 64 (0,0))∧W.heap[w.heap.size+1]? =some (.cells #[.int .i64 st,.int .i64 id,.int .i64 req,.slice Aa na ca,.int .i64 cnt,.int .i64 ay,.int .i64 au,.int .i64 own,.int .i64 peer] 60 (0,0))∧W.heap[w.heap.size+1+1]? =some (.cells #[.int .i64 3,.int .i64 ii,.slice Ai ni ci] 32 (0,0))∧W.heap[w.heap.size+1+1+1]? =some (.cells #[.int .i64 0,.int .i64 0,.int .i64 0,.slice none 0 0,.int .i64 0,.int .i64 0,.int .i64 0,.int .i64 0,.int .i64 0] 60 (0,0))∧Below w.heap.size w W) ⟨by exact hpa,by exact hpa,by exact hpa,by exact hpa,by exact aA⟩ ?_
  rotate_left
  all_goals
   rintro W1 ⟨hc,hn,hk,hz,hb⟩
   have zi:=hid hc
   have ZL:=aj hc
   have lD:=hid hn
   have ZO:=aj hn
   have qP:=hid hk
   have ZM:=aj hk
   have HZ1:=hid hz
   have lz1:=aj hz
   have jJ:=hid hb
   have hs1:=hb.size
   obtain⟨c0,c1,c2,c3,c4,c5,c6⟩:=aG hc
   obtain⟨n0,n1,n2,n3,n4,n5,n6,n7,n8⟩:=aL hn
   clear hc hn hk hz hb
   go_wp2_with fail
  focus
   refine(kJ mr mc mt mf wt ec lo st id ii cnt ay au own peer Aa na ca tick E L HL.out _ W1.heap.size (aaE _) ((HE.out.keep (jJ.out.mono HB.out)).more (by have:=HB.out;omega)) dz.out HP.out).mono ?_
  rotate_left
  focus
   refine(kJ mr mc mt mf wt ec lo st id req cnt ay au own peer Aa na ca tick E L HL.out _ W1.heap.size (aaE _) ((HE.out.keep (jJ.out.mono HB.out)).more (by have:=HB.out;omega)) dz.out HP.out).mono ?_
  rotate_left
  all_goals
   unfold tX
   rw[HF.out]
   rintro x W2 ⟨b,A8,rfl,hb,hbl,hrow,hR⟩
   clear c0 c1 c2 c3 c4 c5 c6 n0 n1 n2 n3 n4 n5 n6 n7 n8
   have nC:=hid hrow
   have HR2:=hid hR
   have Gn:=aj hrow
   clear hrow hR
   have TV:b≠w.heap.size+1+1+1:=by omega
   have hbs:w.heap.size≤b:=by omega
   have kD:=hid (jJ.out.trans (hb.mono jJ.out.size))
   have hs2:=kD.out.size
   have HZ2:=hid ((hb.block _ lz1).trans HZ1.out)
   have lz2:=aj HZ2.out
   have hk:=(hb.block _ ZM).trans qP.out
   have tF:=hid hk
   obtain⟨k0,k1,k2⟩:=cells3 hk
   have Xb:=aj hk
   clear hk
   have HE2:=hid ((HE.out.keep (kD.out.mono HB.out)).more (show B≤W2.heap.size by have:=HB.out;omega))
   clear hb
   go_wp2_with fail
   refine(Cp.dZ 3 ii Ai ni ci li _ B (by have:=HB.out;omega) (HI.out.keep (kD.out.mono HB.out)) gy.out (by omega)).mono ?_
   unfold Cp.gK
   rw[jB.out]
   rintro x W3 ⟨v3,rfl,hb,-⟩
   have nD:=hid ((hb.block _ Gn).trans nC.out)
   have Ue:=aj nD.out
   have HR3:=hid (HR2.out.keep (hb.mono (Nat.le_of_lt Gn)))
   clear k0 k1 k2
   have nu:=hid (kD.out.trans (hb.mono kD.out.size))
   have hs3:=nu.out.size
   have HZ3:=hid ((hb.block _ lz2).trans HZ2.out)
   have lz3:=aj HZ3.out
   have hk:=(hb.block _ Xb).trans tF.out
   have HK3:=hid hk
   obtain⟨k0,k1,k2⟩:=cells3 hk
   have ZN:=aj hk
   clear hk
   have qj:=hid ((HE.out.keep (nu.out.mono HB.out)).more (show B≤W3.heap.size by have:=HB.out;omega))
   clear hb
   clear Gn lz2 Xb
   go_wp2_with fail
   obtain⟨⟨-,-,x2,-,-,-,-⟩,-⟩:=iL nD.out
   dsimp only at x2
   go_quiet (fail)
   clear x2
   generalize hW4:World.drewN _ _=W4
   have hb:Below W3.heap.size W3 W4:=by rw[←hW4];exact below_drewN (Below.refl _ _) _
   clear hW4
   have GU:=hid ((hb.block _ Ue).trans nD.out)
   have lb4:=aj GU.out
   have HR4:=hid (HR3.out.keep (hb.mono (Nat.le_of_lt Ue)))
   clear k0 k1 k2
   have Er:=hid (nu.out.trans (hb.mono nu.out.size))
   have hs4:=Er.out.size
   have xV:=hid ((hb.block _ lz3).trans HZ3.out)
   have lz4:=aj xV.out
   have hk:=(hb.block _ ZN).trans HK3.out
   have YA:=hid hk
   obtain⟨k0,k1,k2⟩:=cells3 hk
   have lk4:=aj hk
   clear hk
   have rX:=hid ((HE.out.keep (Er.out.mono HB.out)).more (show B≤W4.heap.size by have:=HB.out;omega))
   clear hb
   clear Ue lz3 ZN
   go_wp2_with fail
  focus
   refine(rE b ⟨st,id,ii,L,cnt,ay,au⟩ Aa A8 Ai na ca ni ci mc mt mf wt ⟨st,id,ii,L,cnt,ay,au⟩ (.slice Aa na ca) own peer tick 10 3 ii (.slice none 0 0) (.slice none 0 0) E li _ GU.out HR4.out W4.heap.size (aaE _) rX.out dz.out hla jr.out HL.out (HI.out.keep (Er.out.mono HB.out)|>.more (by have:=HB.out;omega)) gy.out hci iF ⟨_,_,_,rfl⟩ ⟨_,_,_,rfl⟩).mono ?_
   rw[HRR.out]
   rintro x W5 ⟨rfl,Yd,Gs,Gq,sW,hg5,Pn,BK,Gm⟩
   have tZ:=hid (Below.grown Er.out hg5 Er.out.size (fun k hk=>by cases hk;omega))
   have uj:=hid ((hg5.block _ lz4 (fun e=>TV (by cases e;rfl))).trans xV.out)
   have lz5:=aj uj.out
   have hs5:=tZ.out.size
   obtain⟨E5,Cx,uR⟩:=Pn
   obtain⟨A5,c5,hv5,CF,-⟩:=ownsRow_form Cx.1
   obtain⟨n5,Aq⟩: ∃n,E5.length=n:=⟨_,rfl⟩
   rw[Aq] at hv5
   subst hv5
   have zl:=hid Cx.at
   have zN:=hid Aq.symm
   have o7:=hid uR
   have nE:=hid sW
   have DR:=hid (BK.yg (b':=w.heap.size) (by omega))
   have zD:=hid (aK Gm (show w.heap.size≤W4.heap.size by omega))
   have GV:=hid (qx HAS.out o7.out)
   have yG:n5≤1000000:=by have:=GV.out.1;have:=zN.out;omega
   clear sW hg5 Cx uR BK Gm Aq
   obtain⟨a9,UD,G7⟩:=r
   dsimp only at zl o7 nE DR zD
   go_wp2_with fail
   refine(gu b a9 A5 n5 c5 (.slice A8 1 1) mc mt mf wt ⟨st,id,ii,L,cnt,ay,au⟩ (.slice Aa na ca) own peer tick Gs Gq E5 _ W5.heap.size (aaE _) nE.out zl.out zN.out yG GV.out.2 o7.out).mono ?_
   rintro x W9 ⟨SV,rfl,jf,kM⟩
   obtain⟨A9,n9,c9,rfl⟩:=kM.form'
   unfold iH
   dsimp only
   have kI:=(jf.block _ lz5).trans uj.out
  rotate_left
  focus
   refine(gu b ⟨st,id,req,L,cnt,ay,au⟩ Aa na ca (.slice A8 1 1) mc mt mf wt ⟨st,id,req,L,cnt,ay,au⟩ (.slice Aa na ca) own peer tick (.slice none 0 0) (.slice none 0 0) E _ W4.heap.size (aaE _) GU.out rX.out dz.out hla jr.out HL.out).mono ?_
   rintro x W9 ⟨SV,rfl,jf,kM⟩
   obtain⟨A9,n9,c9,rfl⟩:=kM.form'
   unfold iH
   dsimp only
   have kI:=(jf.block _ lz4).trans xV.out
  rotate_left
  all_goals
   have Uw:=aj kI
   obtain⟨z0,z1,z2,z3,z4,z5,z6,z7,z8⟩:=aL kI
   have fz:=frees kI
   have EA:=hid kI
   have oP:=hid jf
   have qm:=hid kM
   clear kI jf kM
   go_wp2_with fail
   generalize hWf:World.setCell _ _ _=Wf
   have hgr:W9.grownBy Wf (some (w.heap.size+1+1+1)):=by rw[←hWf];exact grn
   have hrow:=(show Wf.heap[w.heap.size+1+1+1]? =some (.cells #[_,_,_,_,_,_,_,_,_] 60 (0,0)) by rw[←hWf];exact rR EA.out rfl _ _ _ _ _ _ _ _ _)
   clear hWf z0 z1 z2 z3 z4 z5 z6 z7 z8 fz
   obtain⟨u0,u1,u2,u3,u4,u5,u6,u7,u8⟩:=aL hrow
  ·refine bodyPost_ret (v:=.tuple #[iH (a9) (.slice A9 n9 c9) own peer,Gs,Gq]) (by unfold iH;simp[results,Tryz.results30,go_sem,u0,u1,u2,u3,u4,u5,u6,u7,u8]) rfl ?_
   rw[HV.out]
   exact lg.fin tZ.out uj.out (by omega) oP.out qm.out DR.out zD.out hgr
  ·refine bodyPost_ret (v:=.tuple #[iH (⟨st,id,req,L,cnt,ay,au⟩) (.slice A9 n9 c9) own peer,(.slice none 0 0),(.slice none 0 0)]) (by unfold iH;simp[results,Tryz.results30,go_sem,u0,u1,u2,u3,u4,u5,u6,u7,u8]) rfl ?_
   rw[HV.out]
   exact lg.fin Er.out xV.out (by omega) oP.out qm.out (dP.nl _ _) (aU.nil _ _) hgr
 focus
  have h6:(ic==3)=false:=by simpa using h3
  cases h7:bC ic 1 7
 focus
  skip
  obtain⟨r,hr⟩: ∃r,jo (vY mc mt mf wt peer) ⟨st,id,req,L,cnt,ay,au⟩ 13 ⟨ic,ii,li⟩ ⟨0,0,[]⟩ tick=r:=⟨_,rfl⟩
  have HV:=hid (show b_ mc mt mf wt ⟨st,id,req,L,cnt,ay,au⟩ own peer ⟨ic,ii,li⟩ tick=r by unfold b_;rw[if_pos Kw.out];rw[if_neg h3,if_neg (by simp[h7])];exact hr)
  have HAS:=hid (show r.1.ask.length≤1000000∧ ∀o∈r.1.ask,o.2.length≤400000000 by rw[←hr,fU];exact qc.out)
  have HRR:=hid hr
  clear hr
 rotate_left
 focus
  skip
  obtain⟨q,hq⟩: ∃q,eP (vY mc mt mf wt peer) ⟨st,id,req,L,cnt,ay,au⟩ ⟨ic,ii,li⟩ tick=q:=⟨_,rfl⟩
  obtain⟨r,ok⟩:=q
  have HV:=hid (show b_ mc mt mf wt ⟨st,id,req,L,cnt,ay,au⟩ own peer ⟨ic,ii,li⟩ tick=r by unfold b_;rw[if_pos Kw.out,if_neg h3,if_pos h7,hq])
  have HAS:=hid (show r.1.ask.length≤1000000∧ ∀o∈r.1.ask,o.2.length≤400000000 by have h:=yR (c:=vY mc mt mf wt peer) (a:=⟨st,id,req,L,cnt,ay,au⟩) (i:=⟨ic,ii,li⟩) (tick:=tick) qc.out;rw[hq] at h;exact h)
  have HRR:=hid hq
  clear hq
 rotate_left
 focus
  have h3:(en !=0)=true:=by simpa using h2
  have HV:=hid (show b_ mc mt mf wt ⟨st,id,req,L,cnt,ay,au⟩ own peer ⟨ic,ii,li⟩ tick=(⟨st,id,req,L,cnt,ay,au⟩,[],[]) by unfold b_;rw[if_neg (fun h=>h2 (hen.symm.trans h.2))])
  clear h1 hen
 rotate_left
 all_goals
  go_enter Tryz.func30,Tryz.ntmps30
  go_upto_region 1 with(fail)
  refine bY (fun W=>W.heap[w.heap.size]? =some (.cells #[.int .i64 mr,.int .i64 mc,.int .i64 mt,.int .i64 mf,.int .i64 wt,.int .i64 ec,.int .i64 lo] 64 (0,0))∧W.heap[w.heap.size+1]? =some (.cells #[.int .i64 st,.int .i64 id,.int .i64 req,.slice Aa na ca,.int .i64 cnt,.int .i64 ay,.int .i64 au,.int .i64 own,.int .i64 peer] 60 (0,0))∧W.heap[w.heap.size+1+1]? =some (.cells #[.int .i64 ic,.int .i64 ii,.slice Ai ni ci] 32 (0,0))∧W.heap[w.heap.size+1+1+1]? =some (.cells #[.int .i64 0,.int .i64 0,.int .i64 0,.slice none 0 0,.int .i64 0,.int .i64 0,.int .i64 0,.int .i64 0,.int .i64 0] 60 (0,0))∧Below w.heap.size w W) ⟨by exact hpa,by exact hpa,by exact hpa,by exact hpa,by exact aA⟩ ?_
  rintro W1 ⟨hc,hn,hk,hz,hb⟩
  have zi:=hid hc
  have ZL:=aj hc
  have lD:=hid hn
  have ZO:=aj hn
  have qP:=hid hk
  have ZM:=aj hk
  have HZ1:=hid hz
  have lz1:=aj hz
  have jJ:=hid hb
  have hs1:=hb.size
  obtain⟨c0,c1,c2,c3,c4,c5,c6⟩:=aG hc
  obtain⟨n0,n1,n2,n3,n4,n5,n6,n7,n8⟩:=aL hn
  clear hc hn hk hz hb
  go_wp2_with fail
  refine(kJ mr mc mt mf wt ec lo st id req cnt ay au own peer Aa na ca tick E L HL.out _ W1.heap.size (aaE _) ((HE.out.keep (jJ.out.mono HB.out)).more (by have:=HB.out;omega)) dz.out HP.out).mono ?_
  unfold tX
  rw[HF.out]
  rintro x W2 ⟨b,A8,rfl,hb,hbl,hrow,hR⟩
  clear c0 c1 c2 c3 c4 c5 c6 n0 n1 n2 n3 n4 n5 n6 n7 n8
  have nC:=hid hrow
  have HR2:=hid hR
  have Gn:=aj hrow
  clear hrow hR
  have TV:b≠w.heap.size+1+1+1:=by omega
  have hbs:w.heap.size≤b:=by omega
  have kD:=hid (jJ.out.trans (hb.mono jJ.out.size))
  have hs2:=kD.out.size
  have HZ2:=hid ((hb.block _ lz1).trans HZ1.out)
  have lz2:=aj HZ2.out
  have hk:=(hb.block _ ZM).trans qP.out
  have tF:=hid hk
  obtain⟨k0,k1,k2⟩:=cells3 hk
  have Xb:=aj hk
  clear hk
  have HE2:=hid ((HE.out.keep (kD.out.mono HB.out)).more (show B≤W2.heap.size by have:=HB.out;omega))
  clear hb
  go_wp2_with fail
  refine(Cp.dZ ic ii Ai ni ci li _ B (by have:=HB.out;omega) (HI.out.keep (kD.out.mono HB.out)) gy.out (by omega)).mono ?_
  unfold Cp.gK
  rw[jB.out]
  rintro x W3 ⟨v3,rfl,hb,-⟩
  have nD:=hid ((hb.block _ Gn).trans nC.out)
  have Ue:=aj nD.out
  have HR3:=hid (HR2.out.keep (hb.mono (Nat.le_of_lt Gn)))
  clear k0 k1 k2
  have nu:=hid (kD.out.trans (hb.mono kD.out.size))
  have hs3:=nu.out.size
  have HZ3:=hid ((hb.block _ lz2).trans HZ2.out)
  have lz3:=aj HZ3.out
  have hk:=(hb.block _ Xb).trans tF.out
  have HK3:=hid hk
  obtain⟨k0,k1,k2⟩:=cells3 hk
  have ZN:=aj hk
  clear hk
  have qj:=hid ((HE.out.keep (nu.out.mono HB.out)).more (show B≤W3.heap.size by have:=HB.out;omega))
  clear hb
  clear Gn lz2 Xb
 ·go_wp2_with fail
  refine(gu b ⟨st,id,req,L,cnt,ay,au⟩ Aa na ca (.slice A8 1 1) mc mt mf wt ⟨st,id,req,L,cnt,ay,au⟩ (.slice Aa na ca) own peer tick (.slice none 0 0) (.slice none 0 0) E _ W3.heap.size (aaE _) nD.out qj.out dz.out hla jr.out HL.out).mono ?_
  rintro x W9 ⟨SV,rfl,jf,kM⟩
  obtain⟨A9,n9,c9,rfl⟩:=kM.form'
  unfold iH
  dsimp only
  have kI:=(jf.block _ lz3).trans HZ3.out
  have Uw:=aj kI
  obtain⟨z0,z1,z2,z3,z4,z5,z6,z7,z8⟩:=aL kI
  have fz:=frees kI
  have EA:=hid kI
  have oP:=hid jf
  have qm:=hid kM
  clear kI jf kM
  go_wp2_with fail
  generalize hWf:World.setCell _ _ _=Wf
  have hgr:W9.grownBy Wf (some (w.heap.size+1+1+1)):=by rw[←hWf];exact grn
  have hrow:=(show Wf.heap[w.heap.size+1+1+1]? =some (.cells #[_,_,_,_,_,_,_,_,_] 60 (0,0)) by rw[←hWf];exact rR EA.out rfl _ _ _ _ _ _ _ _ _)
  clear hWf z0 z1 z2 z3 z4 z5 z6 z7 z8 fz
  obtain⟨u0,u1,u2,u3,u4,u5,u6,u7,u8⟩:=aL hrow
  refine bodyPost_ret (v:=.tuple #[iH (⟨st,id,req,L,cnt,ay,au⟩) (.slice A9 n9 c9) own peer,(.slice none 0 0),(.slice none 0 0)]) (by unfold iH;simp[results,Tryz.results30,go_sem,u0,u1,u2,u3,u4,u5,u6,u7,u8]) rfl ?_
  rw[HV.out]
  exact lg.fin nu.out HZ3.out (by omega) oP.out qm.out (dP.nl _ _) (aU.nil _ _) hgr
 rotate_left
 focus
  have HRW:=hid (HR3.out.more (Nat.le_of_lt Ue))
  have HI3:=hid (HI.out.keep (nu.out.mono HB.out)|>.more (show B≤W3.heap.size by have:=HB.out;omega))
 rotate_left
 ·go_wp2_with fail
  refine(gu b ⟨st,id,req,L,cnt,ay,au⟩ Aa na ca (.slice A8 1 1) mc mt mf wt ⟨st,id,req,L,cnt,ay,au⟩ (.slice Aa na ca) own peer tick (.slice none 0 0) (.slice none 0 0) E _ W3.heap.size (aaE _) nD.out qj.out dz.out hla jr.out HL.out).mono ?_
  rintro x W9 ⟨SV,rfl,jf,kM⟩
  obtain⟨A9,n9,c9,rfl⟩:=kM.form'
  unfold iH
  dsimp only
  have kI:=(jf.block _ lz3).trans HZ3.out
  have Uw:=aj kI
  obtain⟨z0,z1,z2,z3,z4,z5,z6,z7,z8⟩:=aL kI
  have fz:=frees kI
  have EA:=hid kI
  have oP:=hid jf
  have qm:=hid kM
  clear kI jf kM
  go_wp2_with fail
  generalize hWf:World.setCell _ _ _=Wf
  have hgr:W9.grownBy Wf (some (w.heap.size+1+1+1)):=by rw[←hWf];exact grn
  have hrow:=(show Wf.heap[w.heap.size+1+1+1]? =some (.cells #[_,_,_,_,_,_,_,_,_] 60 (0,0)) by rw[←hWf];exact rR EA.out rfl _ _ _ _ _ _ _ _ _)
  clear hWf z0 z1 z2 z3 z4 z5 z6 z7 z8 fz
  obtain⟨u0,u1,u2,u3,u4,u5,u6,u7,u8⟩:=aL hrow
  refine bodyPost_ret (v:=.tuple #[iH (⟨st,id,req,L,cnt,ay,au⟩) (.slice A9 n9 c9) own peer,(.slice none 0 0),(.slice none 0 0)]) (by unfold iH;simp[results,Tryz.results30,go_sem,u0,u1,u2,u3,u4,u5,u6,u7,u8]) rfl ?_
  rw[HV.out]
  exact lg.fin nu.out HZ3.out (by omega) oP.out qm.out (dP.nl _ _) (aU.nil _ _) hgr
 all_goals
  go_wp2_with ((first|(go_at_call 72;refine(iY _ _ _ _ (by assumption)).mono ?_)|(go_at_call 72;refine(iX _ _ _ _ (by assumption)).mono ?_));rintro e w9 ⟨rfl,rfl⟩)
 focus
  refine(rE b ⟨st,id,req,L,cnt,ay,au⟩ Aa A8 Ai na ca ni ci mc mt mf wt ⟨st,id,req,L,cnt,ay,au⟩ (.slice Aa na ca) own peer tick 13 ic ii (.slice none 0 0) (.slice none 0 0) E li _ nD.out HR3.out W3.heap.size (aaE _) qj.out dz.out hla jr.out HL.out (HI.out.keep (nu.out.mono HB.out)|>.more (by have:=HB.out;omega)) gy.out hci iF ⟨_,_,_,rfl⟩ ⟨_,_,_,rfl⟩).mono ?_
  rw[HRR.out]
  rintro x W5 ⟨rfl,Yd,Gs,Gq,sW,hg5,Pn,BK,Gm⟩
 rotate_left
 focus
  obtain⟨⟨x0,x1,x2,x3,x4,x5,x6⟩,⟨x7,x8,x9,x10,Xp⟩,-⟩:=iL nD.out
  dsimp only at x0 x1 x2 x4 x5 x6
  refine kY 13 (fun w'=>w'.cell? ⟨b,0,none⟩=some (.int .i64 st)∧w'.cell? ⟨b,1,none⟩=some (.int .i64 id)∧w'.cell? ⟨b,2,none⟩=some (.int .i64 req)∧w'.cell? ⟨b,3,none⟩=some (.slice Aa na ca)∧w'.cell? ⟨b,4,none⟩=some (.int .i64 cnt)∧w'.cell? ⟨b,5,none⟩=some (.int .i64 ay)∧w'.cell? ⟨b,6,none⟩=some (.int .i64 au)∧w'.cell? ⟨b,7,none⟩=some (.slice A8 1 1)∧w'.cell? ⟨b,8,none⟩=some (.int .i64 mc)∧w'.cell? ⟨b,9,none⟩=some (.int .i64 mt)∧w'.cell? ⟨b,10,none⟩=some (.int .i64 mf)∧w'.cell? ⟨b,11,none⟩=some (.int .i64 wt)∧w'.cell? ⟨w.heap.size+1+1,0,none⟩=some (.int .i64 ic)∧w'.cell? ⟨w.heap.size+1+1,1,none⟩=some (.int .i64 ii)∧w'.cell? ⟨w.heap.size+1+1,2,none⟩=some (.slice Ai ni ci)) (by kernel_rfl) (by(try dsimp only);(first|(go_keep;done)|(go_simp;done)|(simp[go_sem];done))) (fun hHeld=>?_)
  refine gU 0 (v:=?_) (dK hHeld) ?_ ?_
  rotate_left
  ·(intro w;go_simp;try with_reducible rfl)
  try simp only[Act.put,aaB,aaC,aaD]
  refine gU 1 (v:=?_) (dK hHeld) ?_ ?_
  rotate_left
  ·(intro w;go_simp;try with_reducible rfl)
  try simp only[Act.put,aaB,aaC,aaD]
  refine gU 2 (v:=?_) (dK hHeld) ?_ ?_
  rotate_left
  ·(intro w;go_simp;try with_reducible rfl)
  try simp only[Act.put,aaB,aaC,aaD]
  refine gU 3 (v:=?_) (dK hHeld) ?_ ?_
  rotate_left
  ·(intro w;go_simp;try with_reducible rfl)
  try simp only[Act.put,aaB,aaC,aaD]
  refine gU 4 (v:=?_) (dK hHeld) ?_ ?_
  rotate_left
  ·(intro w;go_simp;try with_reducible rfl)
  try simp only[Act.put,aaB,aaC,aaD]
  refine gU 5 (v:=?_) (dK hHeld) ?_ ?_
  rotate_left
  ·(intro w;go_simp;try with_reducible rfl)
  try simp only[Act.put,aaB,aaC,aaD]
  refine Ko 6 (v:=?_) hHeld ?_ ?_
  rotate_left
  ·(intro w h;(try dsimp only at h);go_simp;try with_reducible rfl)
  try simp only[Act.put,aaB,aaC,aaD]
  refine gU 7 (v:=?_) (dK hHeld) ?_ ?_
  rotate_left
  ·(intro w;go_simp;try with_reducible rfl)
  try simp only[Act.put,aaB,aaC,aaD]
  refine gU 8 (v:=?_) (dK hHeld) ?_ ?_
  rotate_left
  ·(intro w;go_simp;try with_reducible rfl)
  try simp only[Act.put,aaB,aaC,aaD]
  refine gU 9 (v:=?_) (dK hHeld) ?_ ?_
  rotate_left
  ·(intro w;go_simp;try with_reducible rfl)
  try simp only[Act.put,aaB,aaC,aaD]
  refine Ko 10 (v:=?_) hHeld ?_ ?_
  rotate_left
  ·(intro w h;(try dsimp only at h);go_simp;try with_reducible rfl)
  try simp only[Act.put,aaB,aaC,aaD]
  refine Ko 11 (v:=?_) hHeld ?_ ?_
  rotate_left
  ·(intro w h;(try dsimp only at h);go_simp;try with_reducible rfl)
  try simp only[Act.put,aaB,aaC,aaD]
  refine gU 12 (v:=?_) (dK hHeld) ?_ ?_
  rotate_left
  ·(intro w;go_simp;try with_reducible rfl)
  try simp only[Act.put,aaB,aaC,aaD]
  refine lZ (i:=13) (o:=_) rfl (by kernel_rfl) (by kernel_rfl) (fun K hK=>?_)
  (go_simp;go_at_call 19;go_must (refine(I7 A8 Aa Ai 1 1 na ca ni ci [dX peer] mc mt mf wt st id req cnt ay au ic ii tick E li _ W3.heap.size (by first|exact aaE _|(simp;done)) (by exact HRW.out.keep (by exact aA)) rfl (by omega) (by exact qj.out.keep (by exact aA)) dz.out hla HDB.out (by exact HI3.out.keep (by exact aA)) gy.out hci iF).mono ?_);rw[HL.out,show eP ⟨[dX peer],mc,mt,mf,wt⟩ ⟨st,id,req,L,cnt,ay,au⟩ ⟨ic,ii,li⟩ tick=(r,ok) from HRR.out];unfold DU vV;(try dsimp only);rintro x wv ⟨va3,vo3,vd3,rfl,hb3,hO,hP,hA⟩;obtain⟨A2,n2,c2,rfl⟩:=hO.form';obtain⟨A3,n3,c3,rfl⟩:=hP.form';obtain⟨A4,n4,c4,rfl⟩:=hA.form';have hr3:=(hb3.block _ Ue).trans nD.out;have HB3:=hid hb3;have gZ:=hid hO;have fD:=hid hP;have BO:=hid hA;have lbv:=aj hr3;clear hb3 hO hP hA;obtain⟨⟨y0,y1,y2,y3,y4,y5,y6⟩,-,-,-,-,y22,y23⟩:=iL hr3;have fr:=frees hr3;clear hr3)
  refine hK.out _ _ ?_
  clear hK K
  try simp only[Act.put,aaB,aaC,aaD]
  refine gU 14 (v:=?_) (bU (by kernel_rfl)) ?_ ?_
  rotate_left
  ·(intro w;go_simp;try with_reducible rfl)
  try simp only[Act.put,aaB,aaC,aaD]
  refine gU 15 (v:=?_) (bU (by kernel_rfl)) ?_ ?_
  rotate_left
  ·(intro w;go_simp;try with_reducible rfl)
  try simp only[Act.put,aaB,aaC,aaD]
  refine gU 16 (v:=?_) (bU (by kernel_rfl)) ?_ ?_
  rotate_left
  ·(intro w;go_simp;try with_reducible rfl)
  try simp only[Act.put,aaB,aaC,aaD]
  refine gU 17 (v:=?_) (bU (by kernel_rfl)) ?_ ?_
  rotate_left
  ·(intro w;go_simp;try with_reducible rfl)
  try simp only[Act.put,aaB,aaC,aaD]
  refine gU 18 (v:=?_) (bU (by kernel_rfl)) ?_ ?_
  rotate_left
  ·(intro w;go_simp;try with_reducible rfl)
  try simp only[Act.put,aaB,aaC,aaD]
  refine gU 19 (v:=?_) (bU (by kernel_rfl)) ?_ ?_
  rotate_left
  ·(intro w;go_simp;try with_reducible rfl)
  try simp only[Act.put,aaB,aaC,aaD]
  refine gU 20 (v:=?_) (bU (by kernel_rfl)) ?_ ?_
  rotate_left
  ·(intro w;go_simp;try with_reducible rfl)
  try simp only[Act.put,aaB,aaC,aaD]
  refine lZ (i:=21) (o:=_) rfl (by kernel_rfl) (by kernel_rfl) (fun K hK=>?_)
  go_simp
  refine hK.out _ _ ?_
  clear hK K
  try simp only[Act.put,aaB,aaC,aaD]
  refine gU 22 (v:=?_) (bU (by kernel_rfl)) ?_ ?_
  rotate_left
  ·(intro w;go_simp;try with_reducible rfl)
  try simp only[Act.put,aaB,aaC,aaD]
  refine gU 23 (v:=?_) (bU (by kernel_rfl)) ?_ ?_
  rotate_left
  ·(intro w;go_simp;try with_reducible rfl)
  try simp only[Act.put,aaB,aaC,aaD]
  refine lZ (i:=24) (o:=_) rfl (by kernel_rfl) (by kernel_rfl) (fun K hK=>?_)
  go_simp
  refine hK.out _ _ ?_
  clear hK K
  try simp only[Act.put,aaB,aaC,aaD]
  refine gU 25 (v:=?_) (bU (by kernel_rfl)) ?_ ?_
  rotate_left
  ·(intro w;go_simp;try with_reducible rfl)
  try simp only[Act.put,aaB,aaC,aaD]
  refine gU 26 (v:=?_) (bU (by kernel_rfl)) ?_ ?_
  rotate_left
  ·(intro w;go_simp;try with_reducible rfl)
  try simp only[Act.put,aaB,aaC,aaD]
  refine lZ (i:=27) (o:=_) rfl (by kernel_rfl) (by kernel_rfl) (fun K hK=>?_)
  go_simp
  refine hK.out _ _ ?_
  clear hK K
  try simp only[Act.put,aaB,aaC,aaD]
  try simp only[Act.put,List.getElem_toArray,List.getElem_cons_zero,List.getElem_cons_succ,aaB,aaC,aaD]
  refine DW (by kernel_rfl) ?_ _
  generalize hWf:World.setCell _ _ _=W5
  have hev:ng b r (.slice A8 1 1) mc mt mf wt ⟨st,id,req,L,cnt,ay,au⟩ (.slice Aa na ca) own peer tick W3 W5:=by rw[←hWf];exact ng.of (W2:=W3.drew) (Below.refl _ _).drew nD.out HB3.out gZ.out fD.out BO.out
  obtain⟨Yd,Gs,Gq,sW,hg5,Pn,BK,Gm⟩:=hev
  clear hWf x0 x1 x2 x3 x4 x5 x6 x7 x8 x9 x10 Xp y0 y1 y2 y3 y4 y5 y6 y22 y23 fr
 rotate_left
 all_goals
  have tZ:=hid (Below.grown nu.out hg5 nu.out.size (fun k hk=>by cases hk;omega))
  have uj:=hid ((hg5.block _ lz3 (fun e=>TV (by cases e;rfl))).trans HZ3.out)
  have lz5:=aj uj.out
  have hs5:=tZ.out.size
  obtain⟨E5,Cx,uR⟩:=Pn
  obtain⟨A5,c5,hv5,CF,-⟩:=ownsRow_form Cx.1
  obtain⟨n5,Aq⟩: ∃n,E5.length=n:=⟨_,rfl⟩
  rw[Aq] at hv5
  subst hv5
  have zl:=hid Cx.at
  have zN:=hid Aq.symm
  have o7:=hid uR
  have nE:=hid sW
  have DR:=hid (BK.yg (b':=w.heap.size) (by omega))
  have zD:=hid (aK Gm (show w.heap.size≤W3.heap.size by omega))
  have GV:=hid (qx HAS.out o7.out)
  have yG:n5≤1000000:=by have:=GV.out.1;have:=zN.out;omega
  clear sW hg5 Cx uR BK Gm Aq
  obtain⟨a9,UD,G7⟩:=r
  dsimp only at zl o7 nE DR zD
  go_wp2_with fail
  refine(gu b a9 A5 n5 c5 (.slice A8 1 1) mc mt mf wt ⟨st,id,req,L,cnt,ay,au⟩ (.slice Aa na ca) own peer tick Gs Gq E5 _ W5.heap.size (aaE _) nE.out zl.out zN.out yG GV.out.2 o7.out).mono ?_
  rintro x W9 ⟨SV,rfl,jf,kM⟩
  obtain⟨A9,n9,c9,rfl⟩:=kM.form'
  unfold iH
  dsimp only
  have kI:=(jf.block _ lz5).trans uj.out
  have Uw:=aj kI
  obtain⟨z0,z1,z2,z3,z4,z5,z6,z7,z8⟩:=aL kI
  have fz:=frees kI
  have EA:=hid kI
  have oP:=hid jf
  have qm:=hid kM
  clear kI jf kM
  go_wp2_with fail
  generalize hWf:World.setCell _ _ _=Wf
  have hgr:W9.grownBy Wf (some (w.heap.size+1+1+1)):=by rw[←hWf];exact grn
  have hrow:=(show Wf.heap[w.heap.size+1+1+1]? =some (.cells #[_,_,_,_,_,_,_,_,_] 60 (0,0)) by rw[←hWf];exact rR EA.out rfl _ _ _ _ _ _ _ _ _)
  clear hWf z0 z1 z2 z3 z4 z5 z6 z7 z8 fz
  obtain⟨u0,u1,u2,u3,u4,u5,u6,u7,u8⟩:=aL hrow
  refine bodyPost_ret (v:=.tuple #[iH (a9) (.slice A9 n9 c9) own peer,Gs,Gq]) (by unfold iH;simp[results,Tryz.results30,go_sem,u0,u1,u2,u3,u4,u5,u6,u7,u8]) rfl ?_
  rw[HV.out]
  exact lg.fin tZ.out uj.out (by omega) oP.out qm.out DR.out zD.out hgr
end Go.Proofs.YtfkgmbknfnhjoaaGreat
