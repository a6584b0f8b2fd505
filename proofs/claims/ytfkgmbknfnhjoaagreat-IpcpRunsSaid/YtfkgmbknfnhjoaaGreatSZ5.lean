/- Z5 -/
import Derived.Test.YtfkgmbknfnhjoaaGreatSZ7
import Derived.Test.YtfkgmbknfnhjoaaGreatSPK
set_option linter.all false
set_option linter.ambiguousOpen false
set_option maxHeartbeats 8000000
namespace Go.Proofs.YtfkgmbknfnhjoaaGreat
open Lib (hid)
open Go.RowKit
open Ne (Rl bF aD bM dJ)
open Fs (av hasB)
def iQ (mc mt mf wt:Int) (a:Au) (own peer e tick:Int):Au×List Pk×List Int:=if iD mc mt mf wt a own peer tick=true∧bC e 1 4=true then jo (vY mc mt mf wt peer) a e ⟨0,0,[]⟩ ⟨0,0,[]⟩ tick else(a,[],[])
def fM (mc mt mf wt:Int) (a:Au) (own peer tick:Int):Au×List Pk×List Int:=if iD mc mt mf wt a own peer tick=true then mh (vY mc mt mf wt peer) a tick else(a,[],[])
def b_ (mc mt mf wt:Int) (a:Au) (own peer:Int) (i:Pk) (tick:Int):Au×List Pk×List Int:=
 if iD mc mt mf wt a own peer tick=true∧Cp.aV i.code i.id i.data.length=0 then
  (if i.code=3 then(if i.id=a.req then jo (vY mc mt mf wt peer) a 10 i ⟨0,0,[]⟩ tick else(a,[],[]))
   else if bC i.code 1 7=true then(eP (vY mc mt mf wt peer) a i tick).1 else jo (vY mc mt mf wt peer) a 13 i ⟨0,0,[]⟩ tick)
 else(a,[],[])
def lg (r:Au×List Pk×List Int) (own peer:Int) (w:World) (x:Ending) (w':World):Prop:=
 ∃va vo vd,x=.returned (.tuple #[iH r.1 va own peer,vo,vd])∧Below w.heap.size w w'∧bA w' w.heap.size va r.1.ask∧dP w' w.heap.size vo r.2.1∧aU w' w.heap.size vd r.2.2
theorem dP.nl (w:World) (b:Nat):dP w b (.slice none 0 0) []:=⟨[],dM.nil _ _,rfl⟩
theorem lg.fin {w W W9 Wf:World} {Z:Nat} {a:Au} {va vo vd:Value} {own peer:Int} {out:List Pk} {acts:List Int} {cur:Array Value} (hw:Below w.heap.size w W) (hz:W.heap[Z]? =some (.cells cur 60 (0,0))) (hZ:w.heap.size≤Z) (hb:Below W.heap.size W W9) (hO:bA W9 W.heap.size va a.ask) (hP:dP W w.heap.size vo out) (hA:aU W w.heap.size vd acts) (hg:W9.grownBy Wf (some Z)):
  lg (a,out,acts) own peer w (.returned (.tuple #[iH a va own peer,vo,vd])) Wf:=by
 have kI:=(hb.block _ (aj hz)).trans hz
 refine⟨va,vo,vd,rfl,Below.grown (hw.trans (hb.mono hw.size)) hg (aaF hw.size hb.size) (fun k hk=>by cases hk;exact hZ),?_,?_,?_⟩
 ·exact(hO.zx hg kI (by decide) (by decide)).yg hw.size
 ·exact(hP.vW hb).zx hg kI (by decide) (by decide)
 ·exact aU.zx (own_below hA hb) hg kI (by decide)
theorem qx {E:List aH} {L:List bF} (hL:L.length≤1000000∧ ∀o∈L,o.2.length≤400000000) (h:E.map aH.o=L):E.length≤1000000∧ ∀e∈E,e.d.length≤400000000:=by
 subst h
 rw[List.length_map] at hL
 exact⟨hL.1,fun e he=>hL.2 _ (List.mem_map_of_mem he)⟩
theorem OB (c:Cf) (a:Au) (tick:Int):(mh c a tick).1.ask=a.ask:=by
 unfold mh
 split
 ·rfl
 ·exact fU ..
set_option maxRecDepth 100000 in
theorem yJ (mr mc mt mf wt ec lo:Int) (st id req cnt ay au own peer:Int) (Aa:Option Addr) (na ca:Nat) (e tick:Int) (E:List aH) (L:List bF) (hL:E.map aH.o=L) (w:World) (B:Nat) (hB:B≤w.heap.size) (hE:aJ w B Aa E) (hna:na=E.length) (hla:na≤1000000) (hda: ∀e∈E,e.d.length≤400000000) (hp:dJ peer):
  Calls Tryz.prog 68 #[.agg #[.int .i64 mr,.int .i64 mc,.int .i64 mt,.int .i64 mf,.int .i64 wt,.int .i64 ec,.int .i64 lo],.agg #[.int .i64 st,.int .i64 id,.int .i64 req,.slice Aa na ca,.int .i64 cnt,.int .i64 ay,.int .i64 au,.int .i64 own,.int .i64 peer],.int .i64 e,.int .i64 tick] w (lg (iQ mc mt mf wt ⟨st,id,req,L,cnt,ay,au⟩ own peer e tick) own peer w):=by
 have HB:=hid hB
 have HE:=hid hE
 have dz:=hid hna
 have jr:=hid hda
 have HP:=hid hp
 have HL:=hid hL
 clear hB hE hna hda hp hL
 have qc:=hid (show L.length≤1000000∧ ∀o∈L,o.2.length≤400000000 by rw[←HL.out,List.length_map];exact⟨by rw[←dz.out];exact hla,fun o ho=>by obtain⟨e,he,rfl⟩:=List.mem_map.1 ho;exact jr.out e he⟩)
 cases h1:iD mc mt mf wt ⟨st,id,req,L,cnt,ay,au⟩ own peer tick
 focus
  have HF:=hid h1
  have HV:=hid (show iQ mc mt mf wt ⟨st,id,req,L,cnt,ay,au⟩ own peer e tick=(⟨st,id,req,L,cnt,ay,au⟩,[],[]) by unfold iQ;rw[if_neg (by simp[h1])])
  clear h1
 rotate_left
 focus
  have HF:=hid h1
  cases h2:bC e 1 4
 focus
  have HV:=hid (show iQ mc mt mf wt ⟨st,id,req,L,cnt,ay,au⟩ own peer e tick=(⟨st,id,req,L,cnt,ay,au⟩,[],[]) by unfold iQ;rw[if_neg (by simp[h2])])
  clear h1
 rotate_left
 focus
  obtain⟨r,hr⟩: ∃r,jo (vY mc mt mf wt peer) ⟨st,id,req,L,cnt,ay,au⟩ e ⟨0,0,[]⟩ ⟨0,0,[]⟩ tick=r:=⟨_,rfl⟩
  have HV:=hid (show iQ mc mt mf wt ⟨st,id,req,L,cnt,ay,au⟩ own peer e tick=r by unfold iQ;rw[if_pos ⟨h1,h2⟩];exact hr)
  have HAS:=hid (show r.1.ask.length≤1000000∧ ∀o∈r.1.ask,o.2.length≤400000000 by rw[←hr,fU];exact qc.out)
  have HRR:=hid hr
  clear h1 hr
 rotate_left
 all_goals
  go_enter Tryz.func68,Tryz.ntmps68
  go_upto_region 1 with(fail)
  refine bY (fun W=>W.heap[w.heap.size]? =some (.cells #[.int .i64 mr,.int .i64 mc,.int .i64 mt,.int .i64 mf,.int .i64 wt,.int .i64 ec,.int .i64 lo] 64 (0,0))∧W.heap[w.heap.size+1]? =some (.cells #[.int .i64 st,.int .i64 id,.int .i64 req,.slice Aa na ca,.int .i64 cnt,.int .i64 ay,.int .i64 au,.int .i64 own,.int .i64 peer] 60 (0,0))∧W.heap[w.heap.size+1+1]? =some (.cells #[.int .i64 0,.int .i64 0,.int .i64 0,.slice none 0 0,.int .i64 0,.int .i64 0,.int .i64 0,.int .i64 0,.int .i64 0] 60 (0,0))∧Below w.heap.size w W) ⟨by exact hpa,by exact hpa,by exact hpa,by exact aA⟩ ?_
  rintro W1 ⟨hc,hn,hz,hb⟩
  have zi:=hid hc
  have ZL:=aj hc
  have lD:=hid hn
  have ZO:=aj hn
  have HZ1:=hid hz
  have lz1:=aj hz
  have jJ:=hid hb
  have hs1:=hb.size
  obtain⟨c0,c1,c2,c3,c4,c5,c6⟩:=aG hc
  obtain⟨n0,n1,n2,n3,n4,n5,n6,n7,n8⟩:=aL hn
  clear hc hn hz hb
  go_wp2_with fail
  refine(kJ mr mc mt mf wt ec lo st id req cnt ay au own peer Aa na ca tick E L HL.out _ W1.heap.size (aaE _) ((HE.out.keep (jJ.out.mono HB.out)).more (by have:=HB.out;omega)) dz.out HP.out).mono ?_
  unfold tX
  rw[HF.out]
  rintro x W2 ⟨b,A8,rfl,hb,hbl,hrow,hR⟩
  clear c0 c1 c2 c3 c4 c5 c6 n0 n1 n2 n3 n4 n5 n6 n7 n8
  have nC:=hid hrow
  have HR2:=hid hR
  have Gn:=aj hrow
  clear hrow hR
  have TV:b≠w.heap.size+1+1:=by omega
  have hbs:w.heap.size≤b:=by omega
  have kD:=hid (jJ.out.trans (hb.mono jJ.out.size))
  have hs2:=kD.out.size
  have HZ2:=hid ((hb.block _ lz1).trans HZ1.out)
  have lz2:=aj HZ2.out
  have HE2:=hid ((HE.out.keep (kD.out.mono HB.out)).more (show B≤W2.heap.size by have:=HB.out;omega))
  clear hb
 focus
  go_wp2_with fail
 rotate_left
 focus
  go_wp2_with ((first|(go_at_call 72;refine(iY _ _ _ _ (by assumption)).mono ?_)|(go_at_call 72;refine(iX _ _ _ _ (by assumption)).mono ?_));rintro e w9 ⟨rfl,rfl⟩)
 rotate_left
 ·go_wp2_with ((first|(go_at_call 72;refine(iY _ _ _ _ (by assumption)).mono ?_)|(go_at_call 72;refine(iX _ _ _ _ (by assumption)).mono ?_));rintro e w9 ⟨rfl,rfl⟩)
  refine(rE b ⟨st,id,req,L,cnt,ay,au⟩ Aa A8 none na ca 0 0 mc mt mf wt ⟨st,id,req,L,cnt,ay,au⟩ (.slice Aa na ca) own peer tick e 0 0 (.slice none 0 0) (.slice none 0 0) E [] _ nC.out HR2.out W2.heap.size (aaE _) HE2.out dz.out hla jr.out HL.out (At.nil _ _ _) rfl (aaE _) (by omega) ⟨_,_,_,rfl⟩ ⟨_,_,_,rfl⟩).mono ?_
  rw[HRR.out]
  rintro x W5 ⟨rfl,Yd,Gs,Gq,sW,hg5,Pn,BK,Gm⟩
  have tZ:=hid (Below.grown kD.out hg5 kD.out.size (fun k hk=>by cases hk;omega))
  have uj:=hid ((hg5.block _ lz2 (fun e=>TV (by cases e;rfl))).trans HZ2.out)
  have lz5:=aj uj.out
  have hs5:=tZ.out.size
  obtain⟨E5,Cx,uR⟩:=Pn
  obtain⟨A5,c5,hv5,CF,-⟩:=ownsRow_form Cx.1
  obtain⟨n5,Aq⟩: ∃n,E5.length=n:=⟨_,rfl⟩
  rw[Aq] at hv5
  subst hv5
  have zl:=hid Cx.at
  have zN:=hid Aq.symm
  have o7:=hid uR
  have nE:=hid sW
  have DR:=hid (BK.yg (b':=w.heap.size) (by omega))
  have zD:=hid (aK Gm (show w.heap.size≤W2.heap.size by omega))
  have GV:=hid (qx HAS.out o7.out)
  have yG:n5≤1000000:=by have:=GV.out.1;have:=zN.out;omega
  clear sW hg5 Cx uR BK Gm Aq
  obtain⟨a9,UD,G7⟩:=r
  dsimp only at zl o7 nE DR zD
  go_wp2_with fail
  refine(gu b a9 A5 n5 c5 (.slice A8 1 1) mc mt mf wt ⟨st,id,req,L,cnt,ay,au⟩ (.slice Aa na ca) own peer tick Gs Gq E5 _ W5.heap.size (aaE _) nE.out zl.out zN.out yG GV.out.2 o7.out).mono ?_
  rintro x W9 ⟨SV,rfl,jf,kM⟩
  obtain⟨A9,n9,c9,rfl⟩:=kM.form'
  unfold iH
  dsimp only
  have kI:=(jf.block _ lz5).trans uj.out
  have Uw:=aj kI
  obtain⟨z0,z1,z2,z3,z4,z5,z6,z7,z8⟩:=aL kI
  have fz:=frees kI
  have EA:=hid kI
  have oP:=hid jf
  have qm:=hid kM
  clear kI jf kM
  go_wp2_with fail
  generalize hWf:World.setCell _ _ _=Wf
  have hgr:W9.grownBy Wf (some (w.heap.size+1+1)):=by rw[←hWf];exact grn
  have hrow:=(show Wf.heap[w.heap.size+1+1]? =some (.cells #[_,_,_,_,_,_,_,_,_] 60 (0,0)) by rw[←hWf];exact rR EA.out rfl _ _ _ _ _ _ _ _ _)
  clear hWf z0 z1 z2 z3 z4 z5 z6 z7 z8 fz
  obtain⟨u0,u1,u2,u3,u4,u5,u6,u7,u8⟩:=aL hrow
  refine bodyPost_ret (v:=.tuple #[iH (a9) (.slice A9 n9 c9) own peer,Gs,Gq]) (by unfold iH;simp[results,Tryz.results68,go_sem,u0,u1,u2,u3,u4,u5,u6,u7,u8]) rfl ?_
  rw[HV.out]
  exact lg.fin tZ.out uj.out (by omega) oP.out qm.out DR.out zD.out hgr
 all_goals
  refine(gu b ⟨st,id,req,L,cnt,ay,au⟩ Aa na ca (.slice A8 1 1) mc mt mf wt ⟨st,id,req,L,cnt,ay,au⟩ (.slice Aa na ca) own peer tick (.slice none 0 0) (.slice none 0 0) E _ W2.heap.size (aaE _) nC.out HE2.out dz.out hla jr.out HL.out).mono ?_
  rintro x W9 ⟨SV,rfl,jf,kM⟩
  obtain⟨A9,n9,c9,rfl⟩:=kM.form'
  unfold iH
  dsimp only
  have kI:=(jf.block _ lz2).trans HZ2.out
  have Uw:=aj kI
  obtain⟨z0,z1,z2,z3,z4,z5,z6,z7,z8⟩:=aL kI
  have fz:=frees kI
  have EA:=hid kI
  have oP:=hid jf
  have qm:=hid kM
  clear kI jf kM
  go_wp2_with fail
  generalize hWf:World.setCell _ _ _=Wf
  have hgr:W9.grownBy Wf (some (w.heap.size+1+1)):=by rw[←hWf];exact grn
  have hrow:=(show Wf.heap[w.heap.size+1+1]? =some (.cells #[_,_,_,_,_,_,_,_,_] 60 (0,0)) by rw[←hWf];exact rR EA.out rfl _ _ _ _ _ _ _ _ _)
  clear hWf z0 z1 z2 z3 z4 z5 z6 z7 z8 fz
  obtain⟨u0,u1,u2,u3,u4,u5,u6,u7,u8⟩:=aL hrow
  refine bodyPost_ret (v:=.tuple #[iH (⟨st,id,req,L,cnt,ay,au⟩) (.slice A9 n9 c9) own peer,(.slice none 0 0),(.slice none 0 0)]) (by unfold iH;simp[results,Tryz.results68,go_sem,u0,u1,u2,u3,u4,u5,u6,u7,u8]) rfl ?_
  rw[HV.out]
  exact lg.fin kD.out HZ2.out (by omega) oP.out qm.out (dP.nl _ _) (aU.nil _ _) hgr
set_option maxRecDepth 100000 in
theorem Fh (mr mc mt mf wt ec lo:Int) (st id req cnt ay au own peer:Int) (Aa:Option Addr) (na ca:Nat) (tick:Int) (E:List aH) (L:List bF) (hL:E.map aH.o=L) (w:World) (B:Nat) (hB:B≤w.heap.size) (hE:aJ w B Aa E) (hna:na=E.length) (hla:na≤1000000) (hda: ∀e∈E,e.d.length≤400000000) (hp:dJ peer):
  Calls Tryz.prog 74 #[.agg #[.int .i64 mr,.int .i64 mc,.int .i64 mt,.int .i64 mf,.int .i64 wt,.int .i64 ec,.int .i64 lo],.agg #[.int .i64 st,.int .i64 id,.int .i64 req,.slice Aa na ca,.int .i64 cnt,.int .i64 ay,.int .i64 au,.int .i64 own,.int .i64 peer],.int .i64 tick] w (lg (fM mc mt mf wt ⟨st,id,req,L,cnt,ay,au⟩ own peer tick) own peer w):=by
 have HB:=hid hB
 have HE:=hid hE
 have dz:=hid hna
 have jr:=hid hda
 have HP:=hid hp
 have HL:=hid hL
 clear hB hE hna hda hp hL
 have qc:=hid (show L.length≤1000000∧ ∀o∈L,o.2.length≤400000000 by rw[←HL.out,List.length_map];exact⟨by rw[←dz.out];exact hla,fun o ho=>by obtain⟨e,he,rfl⟩:=List.mem_map.1 ho;exact jr.out e he⟩)
 cases h1:iD mc mt mf wt ⟨st,id,req,L,cnt,ay,au⟩ own peer tick
 focus
  have HF:=hid h1
  have HV:=hid (show fM mc mt mf wt ⟨st,id,req,L,cnt,ay,au⟩ own peer tick=(⟨st,id,req,L,cnt,ay,au⟩,[],[]) by unfold fM;rw[if_neg (by simp[h1])])
  clear h1
 rotate_left
 focus
  have HF:=hid h1
  obtain⟨r,hr⟩: ∃r,mh (vY mc mt mf wt peer) ⟨st,id,req,L,cnt,ay,au⟩ tick=r:=⟨_,rfl⟩
  have HV:=hid (show fM mc mt mf wt ⟨st,id,req,L,cnt,ay,au⟩ own peer tick=r by unfold fM;rw[if_pos h1];exact hr)
  have HAS:=hid (show r.1.ask.length≤1000000∧ ∀o∈r.1.ask,o.2.length≤400000000 by rw[←hr,OB];exact qc.out)
  have HRR:=hid hr
  clear h1 hr
 rotate_left
 all_goals
  go_enter Tryz.func74,Tryz.ntmps74
  go_upto_region 1 with(fail)
  refine bY (fun W=>W.heap[w.heap.size]? =some (.cells #[.int .i64 mr,.int .i64 mc,.int .i64 mt,.int .i64 mf,.int .i64 wt,.int .i64 ec,.int .i64 lo] 64 (0,0))∧W.heap[w.heap.size+1]? =some (.cells #[.int .i64 st,.int .i64 id,.int .i64 req,.slice Aa na ca,.int .i64 cnt,.int .i64 ay,.int .i64 au,.int .i64 own,.int .i64 peer] 60 (0,0))∧W.heap[w.heap.size+1+1]? =some (.cells #[.int .i64 0,.int .i64 0,.int .i64 0,.slice none 0 0,.int .i64 0,.int .i64 0,.int .i64 0,.int .i64 0,.int .i64 0] 60 (0,0))∧Below w.heap.size w W) ⟨by exact hpa,by exact hpa,by exact hpa,by exact aA⟩ ?_
  rintro W1 ⟨hc,hn,hz,hb⟩
  have zi:=hid hc
  have ZL:=aj hc
  have lD:=hid hn
  have ZO:=aj hn
  have HZ1:=hid hz
  have lz1:=aj hz
  have jJ:=hid hb
  have hs1:=hb.size
  obtain⟨c0,c1,c2,c3,c4,c5,c6⟩:=aG hc
  obtain⟨n0,n1,n2,n3,n4,n5,n6,n7,n8⟩:=aL hn
  clear hc hn hz hb
  go_wp2_with fail
  refine(kJ mr mc mt mf wt ec lo st id req cnt ay au own peer Aa na ca tick E L HL.out _ W1.heap.size (aaE _) ((HE.out.keep (jJ.out.mono HB.out)).more (by have:=HB.out;omega)) dz.out HP.out).mono ?_
  unfold tX
  rw[HF.out]
  rintro x W2 ⟨b,A8,rfl,hb,hbl,hrow,hR⟩
  clear c0 c1 c2 c3 c4 c5 c6 n0 n1 n2 n3 n4 n5 n6 n7 n8
  have nC:=hid hrow
  have HR2:=hid hR
  have Gn:=aj hrow
  clear hrow hR
  have TV:b≠w.heap.size+1+1:=by omega
  have hbs:w.heap.size≤b:=by omega
  have kD:=hid (jJ.out.trans (hb.mono jJ.out.size))
  have hs2:=kD.out.size
  have HZ2:=hid ((hb.block _ lz1).trans HZ1.out)
  have lz2:=aj HZ2.out
  have HE2:=hid ((HE.out.keep (kD.out.mono HB.out)).more (show B≤W2.heap.size by have:=HB.out;omega))
  clear hb
 focus
  go_wp2_with fail
  refine(gu b ⟨st,id,req,L,cnt,ay,au⟩ Aa na ca (.slice A8 1 1) mc mt mf wt ⟨st,id,req,L,cnt,ay,au⟩ (.slice Aa na ca) own peer tick (.slice none 0 0) (.slice none 0 0) E _ W2.heap.size (aaE _) nC.out HE2.out dz.out hla jr.out HL.out).mono ?_
  rintro x W9 ⟨SV,rfl,jf,kM⟩
  obtain⟨A9,n9,c9,rfl⟩:=kM.form'
  unfold iH
  dsimp only
  have kI:=(jf.block _ lz2).trans HZ2.out
 rotate_left
 focus
  have HRW:=hid (HR2.out.more (Nat.le_of_lt Gn))
  go_wp2_with fail
  obtain⟨⟨x0,x1,x2,x3,x4,x5,x6⟩,⟨x7,x8,x9,x10,Xp⟩,-⟩:=iL nC.out
  dsimp only at x0 x1 x2 x4 x5 x6
  refine kY 12 (fun w'=>w'.cell? ⟨b,0,none⟩=some (.int .i64 st)∧w'.cell? ⟨b,1,none⟩=some (.int .i64 id)∧w'.cell? ⟨b,2,none⟩=some (.int .i64 req)∧w'.cell? ⟨b,3,none⟩=some (.slice Aa na ca)∧w'.cell? ⟨b,4,none⟩=some (.int .i64 cnt)∧w'.cell? ⟨b,5,none⟩=some (.int .i64 ay)∧w'.cell? ⟨b,6,none⟩=some (.int .i64 au)∧w'.cell? ⟨b,7,none⟩=some (.slice A8 1 1)∧w'.cell? ⟨b,8,none⟩=some (.int .i64 mc)∧w'.cell? ⟨b,9,none⟩=some (.int .i64 mt)∧w'.cell? ⟨b,10,none⟩=some (.int .i64 mf)∧w'.cell? ⟨b,11,none⟩=some (.int .i64 wt)) (by kernel_rfl) (by(try dsimp only);(first|(go_keep;done)|(go_simp;done)|(simp[go_sem];done))) (fun hHeld=>?_)
  refine gU 0 (v:=?_) (dK hHeld) ?_ ?_
  rotate_left
  ·(intro w;go_simp;try with_reducible rfl)
  try simp only[Act.put,aaB,aaC,aaD]
  refine gU 1 (v:=?_) (dK hHeld) ?_ ?_
  rotate_left
  ·(intro w;go_simp;try with_reducible rfl)
  try simp only[Act.put,aaB,aaC,aaD]
  refine gU 2 (v:=?_) (dK hHeld) ?_ ?_
  rotate_left
  ·(intro w;go_simp;try with_reducible rfl)
  try simp only[Act.put,aaB,aaC,aaD]
  refine gU 3 (v:=?_) (dK hHeld) ?_ ?_
  rotate_left
  ·(intro w;go_simp;try with_reducible rfl)
  try simp only[Act.put,aaB,aaC,aaD]
  refine gU 4 (v:=?_) (dK hHeld) ?_ ?_
  rotate_left
  ·(intro w;go_simp;try with_reducible rfl)
  try simp only[Act.put,aaB,aaC,aaD]
  refine gU 5 (v:=?_) (dK hHeld) ?_ ?_
  rotate_left
  ·(intro w;go_simp;try with_reducible rfl)
  try simp only[Act.put,aaB,aaC,aaD]
  refine Ko 6 (v:=?_) hHeld ?_ ?_
  rotate_left
  ·(intro w h;(try dsimp only at h);go_simp;try with_reducible rfl)
  try simp only[Act.put,aaB,aaC,aaD]
  refine gU 7 (v:=?_) (dK hHeld) ?_ ?_
  rotate_left
  ·(intro w;go_simp;try with_reducible rfl)
  try simp only[Act.put,aaB,aaC,aaD]
  refine gU 8 (v:=?_) (dK hHeld) ?_ ?_
  rotate_left
  ·(intro w;go_simp;try with_reducible rfl)
  try simp only[Act.put,aaB,aaC,aaD]
  refine gU 9 (v:=?_) (dK hHeld) ?_ ?_
  rotate_left
  ·(intro w;go_simp;try with_reducible rfl)
  try simp only[Act.put,aaB,aaC,aaD]
  refine Ko 10 (v:=?_) hHeld ?_ ?_
  rotate_left
  ·(intro w h;(try dsimp only at h);go_simp;try with_reducible rfl)
  try simp only[Act.put,aaB,aaC,aaD]
  refine gU 11 (v:=?_) (dK hHeld) ?_ ?_
  rotate_left
  ·(intro w;go_simp;try with_reducible rfl)
  try simp only[Act.put,aaB,aaC,aaD]
  refine lZ (i:=12) (o:=_) rfl (by kernel_rfl) (by kernel_rfl) (fun K hK=>?_)
  (go_simp;go_at_call 16;go_must (refine(Bv A8 Aa 1 1 na ca [dX peer] mc mt mf wt st id req cnt ay au tick E _ W2.heap.size (by first|exact aaE _|(simp;done)) (by exact HRW.out.keep (by exact aA)) rfl (by omega) (by exact HE2.out.keep (by exact aA)) dz.out hla jr.out).mono ?_);rw[HL.out,show mh ⟨[dX peer],mc,mt,mf,wt⟩ ⟨st,id,req,L,cnt,ay,au⟩ tick=r from HRR.out];unfold U8 vV;(try dsimp only);rintro x w3 ⟨va3,vo3,vd3,rfl,hb3,hO,hP,hA⟩;obtain⟨A2,n2,c2,rfl⟩:=hO.form';obtain⟨A3,n3,c3,rfl⟩:=hP.form';obtain⟨A4,n4,c4,rfl⟩:=hA.form';have hr3:=(hb3.block _ Gn).trans nC.out;have HB3:=hid hb3;have gZ:=hid hO;have fD:=hid hP;have BO:=hid hA;have Ue:=aj hr3;clear hb3 hO hP hA;obtain⟨⟨y0,y1,y2,y3,y4,y5,y6⟩,-,-,-,-,y22,y23⟩:=iL hr3;have fr:=frees hr3;clear hr3)
  refine hK.out _ _ ?_
  clear hK K
  try simp only[Act.put,aaB,aaC,aaD]
  refine gU 13 (v:=?_) (bU (by kernel_rfl)) ?_ ?_
  rotate_left
  ·(intro w;go_simp;try with_reducible rfl)
  try simp only[Act.put,aaB,aaC,aaD]
  refine gU 14 (v:=?_) (bU (by kernel_rfl)) ?_ ?_
  rotate_left
  ·(intro w;go_simp;try with_reducible rfl)
  try simp only[Act.put,aaB,aaC,aaD]
  refine gU 15 (v:=?_) (bU (by kernel_rfl)) ?_ ?_
  rotate_left
  ·(intro w;go_simp;try with_reducible rfl)
  try simp only[Act.put,aaB,aaC,aaD]
  refine gU 16 (v:=?_) (bU (by kernel_rfl)) ?_ ?_
  rotate_left
  ·(intro w;go_simp;try with_reducible rfl)
  try simp only[Act.put,aaB,aaC,aaD]
  refine gU 17 (v:=?_) (bU (by kernel_rfl)) ?_ ?_
  rotate_left
  ·(intro w;go_simp;try with_reducible rfl)
  try simp only[Act.put,aaB,aaC,aaD]
  refine gU 18 (v:=?_) (bU (by kernel_rfl)) ?_ ?_
  rotate_left
  ·(intro w;go_simp;try with_reducible rfl)
  try simp only[Act.put,aaB,aaC,aaD]
  refine lZ (i:=19) (o:=_) rfl (by kernel_rfl) (by kernel_rfl) (fun K hK=>?_)
  go_simp
  refine hK.out _ _ ?_
  clear hK K
  try simp only[Act.put,aaB,aaC,aaD]
  refine gU 20 (v:=?_) (bU (by kernel_rfl)) ?_ ?_
  rotate_left
  ·(intro w;go_simp;try with_reducible rfl)
  try simp only[Act.put,aaB,aaC,aaD]
  refine gU 21 (v:=?_) (bU (by kernel_rfl)) ?_ ?_
  rotate_left
  ·(intro w;go_simp;try with_reducible rfl)
  try simp only[Act.put,aaB,aaC,aaD]
  refine lZ (i:=22) (o:=_) rfl (by kernel_rfl) (by kernel_rfl) (fun K hK=>?_)
  go_simp
  refine hK.out _ _ ?_
  clear hK K
  try simp only[Act.put,aaB,aaC,aaD]
  refine gU 23 (v:=?_) (bU (by kernel_rfl)) ?_ ?_
  rotate_left
  ·(intro w;go_simp;try with_reducible rfl)
  try simp only[Act.put,aaB,aaC,aaD]
  refine gU 24 (v:=?_) (bU (by kernel_rfl)) ?_ ?_
  rotate_left
  ·(intro w;go_simp;try with_reducible rfl)
  try simp only[Act.put,aaB,aaC,aaD]
  refine lZ (i:=25) (o:=_) rfl (by kernel_rfl) (by kernel_rfl) (fun K hK=>?_)
  go_simp
  refine hK.out _ _ ?_
  clear hK K
  try simp only[Act.put,aaB,aaC,aaD]
  try simp only[Act.put,List.getElem_toArray,List.getElem_cons_zero,List.getElem_cons_succ,aaB,aaC,aaD]
  refine DW (by kernel_rfl) ?_ _
  generalize hWf:World.setCell _ _ _=W5
  have hev:ng b r (.slice A8 1 1) mc mt mf wt ⟨st,id,req,L,cnt,ay,au⟩ (.slice Aa na ca) own peer tick W2 W5:=by rw[←hWf];exact ng.of (W2:=W2.drew) (Below.refl _ _).drew nC.out HB3.out gZ.out fD.out BO.out
  obtain⟨Yd,Gs,Gq,sW,hg5,Pn,BK,Gm⟩:=hev
  clear hWf x0 x1 x2 x3 x4 x5 x6 x7 x8 x9 x10 Xp y0 y1 y2 y3 y4 y5 y6 y22 y23 fr
  have tZ:=hid (Below.grown kD.out hg5 kD.out.size (fun k hk=>by cases hk;omega))
  have uj:=hid ((hg5.block _ lz2 (fun e=>TV (by cases e;rfl))).trans HZ2.out)
  have lz5:=aj uj.out
  have hs5:=tZ.out.size
  obtain⟨E5,Cx,uR⟩:=Pn
  obtain⟨A5,c5,hv5,CF,-⟩:=ownsRow_form Cx.1
  obtain⟨n5,Aq⟩: ∃n,E5.length=n:=⟨_,rfl⟩
  rw[Aq] at hv5
  subst hv5
  have zl:=hid Cx.at
  have zN:=hid Aq.symm
  have o7:=hid uR
  have nE:=hid sW
  have DR:=hid (BK.yg (b':=w.heap.size) (by omega))
  have zD:=hid (aK Gm (show w.heap.size≤W2.heap.size by omega))
  have GV:=hid (qx HAS.out o7.out)
  have yG:n5≤1000000:=by have:=GV.out.1;have:=zN.out;omega
  clear sW hg5 Cx uR BK Gm Aq
  obtain⟨a9,UD,G7⟩:=r
  dsimp only at zl o7 nE DR zD
  go_wp2_with fail
  refine(gu b a9 A5 n5 c5 (.slice A8 1 1) mc mt mf wt ⟨st,id,req,L,cnt,ay,au⟩ (.slice Aa na ca) own peer tick Gs Gq E5 _ W5.heap.size (aaE _) nE.out zl.out zN.out yG GV.out.2 o7.out).mono ?_
  rintro x W9 ⟨SV,rfl,jf,kM⟩
  obtain⟨A9,n9,c9,rfl⟩:=kM.form'
  unfold iH
  dsimp only
  have kI:=(jf.block _ lz5).trans uj.out
 rotate_left
 all_goals
  have Uw:=aj kI
  obtain⟨z0,z1,z2,z3,z4,z5,z6,z7,z8⟩:=aL kI
  have fz:=frees kI
  have EA:=hid kI
  have oP:=hid jf
  have qm:=hid kM
  clear kI jf kM
  go_wp2_with fail
  generalize hWf:World.setCell _ _ _=Wf
  have hgr:W9.grownBy Wf (some (w.heap.size+1+1)):=by rw[←hWf];exact grn
  have hrow:=(show Wf.heap[w.heap.size+1+1]? =some (.cells #[_,_,_,_,_,_,_,_,_] 60 (0,0)) by rw[←hWf];exact rR EA.out rfl _ _ _ _ _ _ _ _ _)
  clear hWf z0 z1 z2 z3 z4 z5 z6 z7 z8 fz
  obtain⟨u0,u1,u2,u3,u4,u5,u6,u7,u8⟩:=aL hrow
 ·refine bodyPost_ret (v:=.tuple #[iH (⟨st,id,req,L,cnt,ay,au⟩) (.slice A9 n9 c9) own peer,(.slice none 0 0),(.slice none 0 0)]) (by unfold iH;simp[results,Tryz.results74,go_sem,u0,u1,u2,u3,u4,u5,u6,u7,u8]) rfl ?_
  rw[HV.out]
  exact lg.fin kD.out HZ2.out (by omega) oP.out qm.out (dP.nl _ _) (aU.nil _ _) hgr
 ·refine bodyPost_ret (v:=.tuple #[iH (a9) (.slice A9 n9 c9) own peer,Gs,Gq]) (by unfold iH;simp[results,Tryz.results74,go_sem,u0,u1,u2,u3,u4,u5,u6,u7,u8]) rfl ?_
  rw[HV.out]
  exact lg.fin tZ.out uj.out (by omega) oP.out qm.out DR.out zD.out hgr
end Go.Proofs.YtfkgmbknfnhjoaaGreat
