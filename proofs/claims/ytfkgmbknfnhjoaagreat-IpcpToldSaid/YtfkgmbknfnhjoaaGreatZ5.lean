/- What an event, or the clock, makes of a control. -/
import Derived.Test.YtfkgmbknfnhjoaaGreatZ4
import Derived.Test.YtfkgmbknfnhjoaaGreatPK
set_option maxHeartbeats 8000000
namespace Go.Proofs.YtfkgmbknfnhjoaaGreat
open Lib (hid)
open Go.RowKit
set_option linter.unusedSimpArgs false
set_option linter.unusedVariables false
set_option linter.ambiguousOpen false
open Ne (Rl Opt RulesAt areB wf64)
open Fs (av hasB)
def iDoO (mc mt mf wt:Int) (a:Au) (own peer e tick:Int):Au×List Pk×List Int:=if fineI mc mt mf wt a own peer tick=true∧inB e 1 4=true then doO (cfI mc mt mf wt peer) a e ⟨0,0,[]⟩ ⟨0,0,[]⟩ tick else(a,[],[])
def iTickO (mc mt mf wt:Int) (a:Au) (own peer tick:Int):Au×List Pk×List Int:=if fineI mc mt mf wt a own peer tick=true then timO (cfI mc mt mf wt peer) a tick else(a,[],[])
def iPackO (mc mt mf wt:Int) (a:Au) (own peer:Int) (i:Pk) (tick:Int):Au×List Pk×List Int:=
 if fineI mc mt mf wt a own peer tick=true∧Cp.encErr i.code i.id i.data.length=0 then
  (if i.code=3 then(if i.id=a.req then doO (cfI mc mt mf wt peer) a 10 i ⟨0,0,[]⟩ tick else(a,[],[]))
   else if inB i.code 1 7=true then(packO (cfI mc mt mf wt peer) a i tick).1 else doO (cfI mc mt mf wt peer) a 13 i ⟨0,0,[]⟩ tick)
 else(a,[],[])
def IDoP (r:Au×List Pk×List Int) (own peer:Int) (w:World) (x:Ending) (w':World):Prop:=
 ∃va vo vd,x=.returned (.tuple #[npV r.1 va own peer,vo,vd])∧Below w.heap.size w w'∧OptsO w' w.heap.size va r.1.ask∧PksO w' w.heap.size vo r.2.1∧ActsO w' w.heap.size vd r.2.2
theorem PksO.nl (w:World) (b:Nat):PksO w b (.slice none 0 0) []:=⟨[],OwnPks.nil _ _,rfl⟩
theorem IDoP.fin {w W W9 Wf:World} {Z:Nat} {a:Au} {va vo vd:Value} {own peer:Int} {out:List Pk} {acts:List Int} {cur:Array Value} (hw:Below w.heap.size w W) (hz:W.heap[Z]? =some (.cells cur 60 (0,0))) (hZ:w.heap.size≤Z) (hb:Below W.heap.size W W9) (hO:OptsO W9 W.heap.size va a.ask) (hP:PksO W w.heap.size vo out) (hA:ActsO W w.heap.size vd acts) (hg:W9.grownBy Wf (some Z)):
  IDoP (a,out,acts) own peer w (.returned (.tuple #[npV a va own peer,vo,vd])) Wf:=by
 have hz9:=(hb.block _ (lt_blk hz)).trans hz
 refine⟨va,vo,vd,rfl,Below.grown (hw.trans (hb.mono hw.size)) hg (Nat.le_trans hw.size hb.size) (fun k hk=>by cases hk;exact hZ),?_,?_,?_⟩
 ·exact(hO.oth hg hz9 (by decide) (by decide)).bas hw.size
 ·exact(hP.blw hb).oth hg hz9 (by decide) (by decide)
 ·exact ActsO.oth (own_below hA hb) hg hz9 (by decide)
theorem ask_ents {E:List Ent} {L:List Opt} (hL:L.length≤1000000∧ ∀o∈L,o.2.length≤400000000) (h:E.map Ent.o=L):E.length≤1000000∧ ∀e∈E,e.d.length≤400000000:=by
 subst h
 rw[List.length_map] at hL
 exact⟨hL.1,fun e he=>hL.2 _ (List.mem_map_of_mem he)⟩
theorem tim_ask (c:Cf) (a:Au) (tick:Int):(timO c a tick).1.ask=a.ask:=by
 unfold timO
 split
 ·rfl
 ·exact doO_ask ..
set_option maxRecDepth 100000 in
theorem ido_any (mr mc mt mf wt ec lo:Int) (st id req cnt tim nak own peer:Int) (Aa:Option Addr) (na ca:Nat) (e tick:Int) (E:List Ent) (L:List Opt) (hL:E.map Ent.o=L) (w:World) (B:Nat) (hB:B≤w.heap.size) (hE:OptsAt w B Aa E) (hna:na=E.length) (hla:na≤1000000) (hda: ∀e∈E,e.d.length≤400000000) (hp:wf64 peer):
  Calls Tryz.prog 68 #[.agg #[.int .i64 mr,.int .i64 mc,.int .i64 mt,.int .i64 mf,.int .i64 wt,.int .i64 ec,.int .i64 lo],.agg #[.int .i64 st,.int .i64 id,.int .i64 req,.slice Aa na ca,.int .i64 cnt,.int .i64 tim,.int .i64 nak,.int .i64 own,.int .i64 peer],.int .i64 e,.int .i64 tick] w (IDoP (iDoO mc mt mf wt ⟨st,id,req,L,cnt,tim,nak⟩ own peer e tick) own peer w):=by
 have HB:=hid hB
 have HE:=hid hE
 have HNA:=hid hna
 have HDA:=hid hda
 have HP:=hid hp
 have HL:=hid hL
 clear hB hE hna hda hp hL
 have HAL:=hid (show L.length≤1000000∧ ∀o∈L,o.2.length≤400000000 by rw[←HL.out,List.length_map];exact⟨by rw[←HNA.out];exact hla,fun o ho=>by obtain⟨e,he,rfl⟩:=List.mem_map.1 ho;exact HDA.out e he⟩)
 cases h1:fineI mc mt mf wt ⟨st,id,req,L,cnt,tim,nak⟩ own peer tick
 ·have HF:=hid h1
  have HV:=hid (show iDoO mc mt mf wt ⟨st,id,req,L,cnt,tim,nak⟩ own peer e tick=(⟨st,id,req,L,cnt,tim,nak⟩,[],[]) by unfold iDoO;rw[if_neg (by simp[h1])])
  clear h1
  go_enter Tryz.func68,Tryz.ntmps68
  go_upto_region 1 with(fail)
  refine wp_w (fun W=>W.heap[w.heap.size]? =some (.cells #[.int .i64 mr,.int .i64 mc,.int .i64 mt,.int .i64 mf,.int .i64 wt,.int .i64 ec,.int .i64 lo] 64 (0,0))∧W.heap[w.heap.size+1]? =some (.cells #[.int .i64 st,.int .i64 id,.int .i64 req,.slice Aa na ca,.int .i64 cnt,.int .i64 tim,.int .i64 nak,.int .i64 own,.int .i64 peer] 60 (0,0))∧W.heap[w.heap.size+1+1]? =some (.cells #[.int .i64 0,.int .i64 0,.int .i64 0,.slice none 0 0,.int .i64 0,.int .i64 0,.int .i64 0,.int .i64 0,.int .i64 0] 60 (0,0))∧Below w.heap.size w W) ⟨by exact hpa,by exact hpa,by exact hpa,by exact bel⟩ ?_
  rintro W1 ⟨hc,hn,hz,hb⟩
  have HC1:=hid hc
  have lc1:=lt_blk hc
  have HN1:=hid hn
  have ln1:=lt_blk hn
  have HZ1:=hid hz
  have lz1:=lt_blk hz
  have HBW1:=hid hb
  have hs1:=hb.size
  obtain⟨c0,c1,c2,c3,c4,c5,c6⟩:=cells7 hc
  obtain⟨n0,n1,n2,n3,n4,n5,n6,n7,n8⟩:=cells9 hn
  clear hc hn hz hb
  go_wp2_with fail
  refine(ibegin_any mr mc mt mf wt ec lo st id req cnt tim nak own peer Aa na ca tick E L HL.out _ W1.heap.size (Nat.le_refl _) ((HE.out.keep (HBW1.out.mono HB.out)).more (by have:=HB.out;omega)) HNA.out HP.out).mono ?_
  unfold BeginP
  rw[HF.out]
  rintro x W2 ⟨b,A8,rfl,hb,hbl,hrow,hR⟩
  clear c0 c1 c2 c3 c4 c5 c6 n0 n1 n2 n3 n4 n5 n6 n7 n8
  have HROW2:=hid hrow
  have HR2:=hid hR
  have lb2:=lt_blk hrow
  clear hrow hR
  have hZb:b≠w.heap.size+1+1:=by omega
  have hbs:w.heap.size≤b:=by omega
  have HBW2:=hid (HBW1.out.trans (hb.mono HBW1.out.size))
  have hs2:=HBW2.out.size
  have HZ2:=hid ((hb.block _ lz1).trans HZ1.out)
  have lz2:=lt_blk HZ2.out
  have HE2:=hid ((HE.out.keep (HBW2.out.mono HB.out)).more (show B≤W2.heap.size by have:=HB.out;omega))
  clear hb
  go_wp2_with fail
  refine(told_any b ⟨st,id,req,L,cnt,tim,nak⟩ Aa na ca (.slice A8 1 1) mc mt mf wt ⟨st,id,req,L,cnt,tim,nak⟩ (.slice Aa na ca) own peer tick (.slice none 0 0) (.slice none 0 0) E _ W2.heap.size (Nat.le_refl _) HROW2.out HE2.out HNA.out hla HDA.out HL.out).mono ?_
  rintro x W9 ⟨va9,rfl,hb9,ho9⟩
  obtain⟨A9,n9,c9,rfl⟩:=ho9.form'
  unfold npV
  dsimp only
  have hz9:=(hb9.block _ lz2).trans HZ2.out
  have lz9:=lt_blk hz9
  obtain⟨z0,z1,z2,z3,z4,z5,z6,z7,z8⟩:=cells9 hz9
  have fz:=frees hz9
  have HZ9:=hid hz9
  have HB9:=hid hb9
  have HO9:=hid ho9
  clear hz9 hb9 ho9
  go_wp2_with fail
  generalize hWf:World.setCell _ _ _=Wf
  have hgr:W9.grownBy Wf (some (w.heap.size+1+1)):=by rw[←hWf];exact grn
  have hrow:=(show Wf.heap[w.heap.size+1+1]? =some (.cells #[_,_,_,_,_,_,_,_,_] 60 (0,0)) by rw[←hWf];exact row9 HZ9.out rfl _ _ _ _ _ _ _ _ _)
  clear hWf z0 z1 z2 z3 z4 z5 z6 z7 z8 fz
  obtain⟨u0,u1,u2,u3,u4,u5,u6,u7,u8⟩:=cells9 hrow
  refine bodyPost_ret (v:=.tuple #[npV (⟨st,id,req,L,cnt,tim,nak⟩) (.slice A9 n9 c9) own peer,(.slice none 0 0),(.slice none 0 0)]) (by unfold npV;simp[results,Tryz.results68,go_sem,u0,u1,u2,u3,u4,u5,u6,u7,u8]) rfl ?_
  rw[HV.out]
  exact IDoP.fin HBW2.out HZ2.out (by omega) HB9.out HO9.out (PksO.nl _ _) (ActsO.nil _ _) hgr
 ·have HF:=hid h1
  cases h2:inB e 1 4
  ·have HV:=hid (show iDoO mc mt mf wt ⟨st,id,req,L,cnt,tim,nak⟩ own peer e tick=(⟨st,id,req,L,cnt,tim,nak⟩,[],[]) by unfold iDoO;rw[if_neg (by simp[h2])])
   clear h1
   go_enter Tryz.func68,Tryz.ntmps68
   go_upto_region 1 with(fail)
   refine wp_w (fun W=>W.heap[w.heap.size]? =some (.cells #[.int .i64 mr,.int .i64 mc,.int .i64 mt,.int .i64 mf,.int .i64 wt,.int .i64 ec,.int .i64 lo] 64 (0,0))∧W.heap[w.heap.size+1]? =some (.cells #[.int .i64 st,.int .i64 id,.int .i64 req,.slice Aa na ca,.int .i64 cnt,.int .i64 tim,.int .i64 nak,.int .i64 own,.int .i64 peer] 60 (0,0))∧W.heap[w.heap.size+1+1]? =some (.cells #[.int .i64 0,.int .i64 0,.int .i64 0,.slice none 0 0,.int .i64 0,.int .i64 0,.int .i64 0,.int .i64 0,.int .i64 0] 60 (0,0))∧Below w.heap.size w W) ⟨by exact hpa,by exact hpa,by exact hpa,by exact bel⟩ ?_
   rintro W1 ⟨hc,hn,hz,hb⟩
   have HC1:=hid hc
   have lc1:=lt_blk hc
   have HN1:=hid hn
   have ln1:=lt_blk hn
   have HZ1:=hid hz
   have lz1:=lt_blk hz
   have HBW1:=hid hb
   have hs1:=hb.size
   obtain⟨c0,c1,c2,c3,c4,c5,c6⟩:=cells7 hc
   obtain⟨n0,n1,n2,n3,n4,n5,n6,n7,n8⟩:=cells9 hn
   clear hc hn hz hb
   go_wp2_with fail
   refine(ibegin_any mr mc mt mf wt ec lo st id req cnt tim nak own peer Aa na ca tick E L HL.out _ W1.heap.size (Nat.le_refl _) ((HE.out.keep (HBW1.out.mono HB.out)).more (by have:=HB.out;omega)) HNA.out HP.out).mono ?_
   unfold BeginP
   rw[HF.out]
   rintro x W2 ⟨b,A8,rfl,hb,hbl,hrow,hR⟩
   clear c0 c1 c2 c3 c4 c5 c6 n0 n1 n2 n3 n4 n5 n6 n7 n8
   have HROW2:=hid hrow
   have HR2:=hid hR
   have lb2:=lt_blk hrow
   clear hrow hR
   have hZb:b≠w.heap.size+1+1:=by omega
   have hbs:w.heap.size≤b:=by omega
   have HBW2:=hid (HBW1.out.trans (hb.mono HBW1.out.size))
   have hs2:=HBW2.out.size
   have HZ2:=hid ((hb.block _ lz1).trans HZ1.out)
   have lz2:=lt_blk HZ2.out
   have HE2:=hid ((HE.out.keep (HBW2.out.mono HB.out)).more (show B≤W2.heap.size by have:=HB.out;omega))
   clear hb
   go_wp2_with (first|(go_at_call 72;refine(within_it _ _ _ _ (by assumption)).mono ?_;rintro e w9 ⟨rfl,rfl⟩)|(go_at_call 72;refine(within_if _ _ _ _ (by assumption)).mono ?_;rintro e w9 ⟨rfl,rfl⟩))
   refine(told_any b ⟨st,id,req,L,cnt,tim,nak⟩ Aa na ca (.slice A8 1 1) mc mt mf wt ⟨st,id,req,L,cnt,tim,nak⟩ (.slice Aa na ca) own peer tick (.slice none 0 0) (.slice none 0 0) E _ W2.heap.size (Nat.le_refl _) HROW2.out HE2.out HNA.out hla HDA.out HL.out).mono ?_
   rintro x W9 ⟨va9,rfl,hb9,ho9⟩
   obtain⟨A9,n9,c9,rfl⟩:=ho9.form'
   unfold npV
   dsimp only
   have hz9:=(hb9.block _ lz2).trans HZ2.out
   have lz9:=lt_blk hz9
   obtain⟨z0,z1,z2,z3,z4,z5,z6,z7,z8⟩:=cells9 hz9
   have fz:=frees hz9
   have HZ9:=hid hz9
   have HB9:=hid hb9
   have HO9:=hid ho9
   clear hz9 hb9 ho9
   go_wp2_with fail
   generalize hWf:World.setCell _ _ _=Wf
   have hgr:W9.grownBy Wf (some (w.heap.size+1+1)):=by rw[←hWf];exact grn
   have hrow:=(show Wf.heap[w.heap.size+1+1]? =some (.cells #[_,_,_,_,_,_,_,_,_] 60 (0,0)) by rw[←hWf];exact row9 HZ9.out rfl _ _ _ _ _ _ _ _ _)
   clear hWf z0 z1 z2 z3 z4 z5 z6 z7 z8 fz
   obtain⟨u0,u1,u2,u3,u4,u5,u6,u7,u8⟩:=cells9 hrow
   refine bodyPost_ret (v:=.tuple #[npV (⟨st,id,req,L,cnt,tim,nak⟩) (.slice A9 n9 c9) own peer,(.slice none 0 0),(.slice none 0 0)]) (by unfold npV;simp[results,Tryz.results68,go_sem,u0,u1,u2,u3,u4,u5,u6,u7,u8]) rfl ?_
   rw[HV.out]
   exact IDoP.fin HBW2.out HZ2.out (by omega) HB9.out HO9.out (PksO.nl _ _) (ActsO.nil _ _) hgr
  ·obtain⟨r,hr⟩: ∃r,doO (cfI mc mt mf wt peer) ⟨st,id,req,L,cnt,tim,nak⟩ e ⟨0,0,[]⟩ ⟨0,0,[]⟩ tick=r:=⟨_,rfl⟩
   have HV:=hid (show iDoO mc mt mf wt ⟨st,id,req,L,cnt,tim,nak⟩ own peer e tick=r by unfold iDoO;rw[if_pos ⟨h1,h2⟩];exact hr)
   have HAS:=hid (show r.1.ask.length≤1000000∧ ∀o∈r.1.ask,o.2.length≤400000000 by rw[←hr,doO_ask];exact HAL.out)
   have HRR:=hid hr
   clear h1 hr
   go_enter Tryz.func68,Tryz.ntmps68
   go_upto_region 1 with(fail)
   refine wp_w (fun W=>W.heap[w.heap.size]? =some (.cells #[.int .i64 mr,.int .i64 mc,.int .i64 mt,.int .i64 mf,.int .i64 wt,.int .i64 ec,.int .i64 lo] 64 (0,0))∧W.heap[w.heap.size+1]? =some (.cells #[.int .i64 st,.int .i64 id,.int .i64 req,.slice Aa na ca,.int .i64 cnt,.int .i64 tim,.int .i64 nak,.int .i64 own,.int .i64 peer] 60 (0,0))∧W.heap[w.heap.size+1+1]? =some (.cells #[.int .i64 0,.int .i64 0,.int .i64 0,.slice none 0 0,.int .i64 0,.int .i64 0,.int .i64 0,.int .i64 0,.int .i64 0] 60 (0,0))∧Below w.heap.size w W) ⟨by exact hpa,by exact hpa,by exact hpa,by exact bel⟩ ?_
   rintro W1 ⟨hc,hn,hz,hb⟩
   have HC1:=hid hc
   have lc1:=lt_blk hc
   have HN1:=hid hn
   have ln1:=lt_blk hn
   have HZ1:=hid hz
   have lz1:=lt_blk hz
   have HBW1:=hid hb
   have hs1:=hb.size
   obtain⟨c0,c1,c2,c3,c4,c5,c6⟩:=cells7 hc
   obtain⟨n0,n1,n2,n3,n4,n5,n6,n7,n8⟩:=cells9 hn
   clear hc hn hz hb
   go_wp2_with fail
   refine(ibegin_any mr mc mt mf wt ec lo st id req cnt tim nak own peer Aa na ca tick E L HL.out _ W1.heap.size (Nat.le_refl _) ((HE.out.keep (HBW1.out.mono HB.out)).more (by have:=HB.out;omega)) HNA.out HP.out).mono ?_
   unfold BeginP
   rw[HF.out]
   rintro x W2 ⟨b,A8,rfl,hb,hbl,hrow,hR⟩
   clear c0 c1 c2 c3 c4 c5 c6 n0 n1 n2 n3 n4 n5 n6 n7 n8
   have HROW2:=hid hrow
   have HR2:=hid hR
   have lb2:=lt_blk hrow
   clear hrow hR
   have hZb:b≠w.heap.size+1+1:=by omega
   have hbs:w.heap.size≤b:=by omega
   have HBW2:=hid (HBW1.out.trans (hb.mono HBW1.out.size))
   have hs2:=HBW2.out.size
   have HZ2:=hid ((hb.block _ lz1).trans HZ1.out)
   have lz2:=lt_blk HZ2.out
   have HE2:=hid ((HE.out.keep (HBW2.out.mono HB.out)).more (show B≤W2.heap.size by have:=HB.out;omega))
   clear hb
   go_wp2_with (first|(go_at_call 72;refine(within_it _ _ _ _ (by assumption)).mono ?_;rintro e w9 ⟨rfl,rfl⟩)|(go_at_call 72;refine(within_if _ _ _ _ (by assumption)).mono ?_;rintro e w9 ⟨rfl,rfl⟩))
   refine(event_any b ⟨st,id,req,L,cnt,tim,nak⟩ Aa A8 none na ca 0 0 mc mt mf wt ⟨st,id,req,L,cnt,tim,nak⟩ (.slice Aa na ca) own peer tick e 0 0 (.slice none 0 0) (.slice none 0 0) E [] _ HROW2.out HR2.out W2.heap.size (Nat.le_refl _) HE2.out HNA.out hla HDA.out HL.out (At.nil _ _ _) rfl (Nat.le_refl _) (by omega) ⟨_,_,_,rfl⟩ ⟨_,_,_,rfl⟩).mono ?_
   rw[HRR.out]
   rintro x W5 ⟨rfl,va5,vo5,vd5,hr5,hg5,hO5,hP5,hA5⟩
   have HBW5:=hid (Below.grown HBW2.out hg5 HBW2.out.size (fun k hk=>by cases hk;omega))
   have HZ5:=hid ((hg5.block _ lz2 (fun e=>hZb (by cases e;rfl))).trans HZ2.out)
   have lz5:=lt_blk HZ5.out
   have hs5:=HBW5.out.size
   obtain⟨E5,hE5,hEL5⟩:=hO5
   obtain⟨A5,c5,hv5,hc5,-⟩:=ownsRow_form hE5.1
   obtain⟨n5,hn5⟩: ∃n,E5.length=n:=⟨_,rfl⟩
   rw[hn5] at hv5
   subst hv5
   have HE5:=hid hE5.at
   have HN5:=hid hn5.symm
   have HEL5:=hid hEL5
   have HROW5:=hid hr5
   have HP5:=hid (hP5.bas (b':=w.heap.size) (by omega))
   have HA5:=hid (own_base hA5 (show w.heap.size≤W2.heap.size by omega))
   have HS5:=hid (ask_ents HAS.out HEL5.out)
   have hn64:n5≤1000000:=by have:=HS5.out.1;have:=HN5.out;omega
   clear hr5 hg5 hE5 hEL5 hP5 hA5 hn5
   obtain⟨a9,out9,acts9⟩:=r
   dsimp only at HE5 HEL5 HROW5 HP5 HA5
   go_wp2_with fail
   refine(told_any b a9 A5 n5 c5 (.slice A8 1 1) mc mt mf wt ⟨st,id,req,L,cnt,tim,nak⟩ (.slice Aa na ca) own peer tick vo5 vd5 E5 _ W5.heap.size (Nat.le_refl _) HROW5.out HE5.out HN5.out hn64 HS5.out.2 HEL5.out).mono ?_
   rintro x W9 ⟨va9,rfl,hb9,ho9⟩
   obtain⟨A9,n9,c9,rfl⟩:=ho9.form'
   unfold npV
   dsimp only
   have hz9:=(hb9.block _ lz5).trans HZ5.out
   have lz9:=lt_blk hz9
   obtain⟨z0,z1,z2,z3,z4,z5,z6,z7,z8⟩:=cells9 hz9
   have fz:=frees hz9
   have HZ9:=hid hz9
   have HB9:=hid hb9
   have HO9:=hid ho9
   clear hz9 hb9 ho9
   go_wp2_with fail
   generalize hWf:World.setCell _ _ _=Wf
   have hgr:W9.grownBy Wf (some (w.heap.size+1+1)):=by rw[←hWf];exact grn
   have hrow:=(show Wf.heap[w.heap.size+1+1]? =some (.cells #[_,_,_,_,_,_,_,_,_] 60 (0,0)) by rw[←hWf];exact row9 HZ9.out rfl _ _ _ _ _ _ _ _ _)
   clear hWf z0 z1 z2 z3 z4 z5 z6 z7 z8 fz
   obtain⟨u0,u1,u2,u3,u4,u5,u6,u7,u8⟩:=cells9 hrow
   refine bodyPost_ret (v:=.tuple #[npV (a9) (.slice A9 n9 c9) own peer,vo5,vd5]) (by unfold npV;simp[results,Tryz.results68,go_sem,u0,u1,u2,u3,u4,u5,u6,u7,u8]) rfl ?_
   rw[HV.out]
   exact IDoP.fin HBW5.out HZ5.out (by omega) HB9.out HO9.out HP5.out HA5.out hgr
set_option maxRecDepth 100000 in
theorem itick_any (mr mc mt mf wt ec lo:Int) (st id req cnt tim nak own peer:Int) (Aa:Option Addr) (na ca:Nat) (tick:Int) (E:List Ent) (L:List Opt) (hL:E.map Ent.o=L) (w:World) (B:Nat) (hB:B≤w.heap.size) (hE:OptsAt w B Aa E) (hna:na=E.length) (hla:na≤1000000) (hda: ∀e∈E,e.d.length≤400000000) (hp:wf64 peer):
  Calls Tryz.prog 74 #[.agg #[.int .i64 mr,.int .i64 mc,.int .i64 mt,.int .i64 mf,.int .i64 wt,.int .i64 ec,.int .i64 lo],.agg #[.int .i64 st,.int .i64 id,.int .i64 req,.slice Aa na ca,.int .i64 cnt,.int .i64 tim,.int .i64 nak,.int .i64 own,.int .i64 peer],.int .i64 tick] w (IDoP (iTickO mc mt mf wt ⟨st,id,req,L,cnt,tim,nak⟩ own peer tick) own peer w):=by
 have HB:=hid hB
 have HE:=hid hE
 have HNA:=hid hna
 have HDA:=hid hda
 have HP:=hid hp
 have HL:=hid hL
 clear hB hE hna hda hp hL
 have HAL:=hid (show L.length≤1000000∧ ∀o∈L,o.2.length≤400000000 by rw[←HL.out,List.length_map];exact⟨by rw[←HNA.out];exact hla,fun o ho=>by obtain⟨e,he,rfl⟩:=List.mem_map.1 ho;exact HDA.out e he⟩)
 cases h1:fineI mc mt mf wt ⟨st,id,req,L,cnt,tim,nak⟩ own peer tick
 ·have HF:=hid h1
  have HV:=hid (show iTickO mc mt mf wt ⟨st,id,req,L,cnt,tim,nak⟩ own peer tick=(⟨st,id,req,L,cnt,tim,nak⟩,[],[]) by unfold iTickO;rw[if_neg (by simp[h1])])
  clear h1
  go_enter Tryz.func74,Tryz.ntmps74
  go_upto_region 1 with(fail)
  refine wp_w (fun W=>W.heap[w.heap.size]? =some (.cells #[.int .i64 mr,.int .i64 mc,.int .i64 mt,.int .i64 mf,.int .i64 wt,.int .i64 ec,.int .i64 lo] 64 (0,0))∧W.heap[w.heap.size+1]? =some (.cells #[.int .i64 st,.int .i64 id,.int .i64 req,.slice Aa na ca,.int .i64 cnt,.int .i64 tim,.int .i64 nak,.int .i64 own,.int .i64 peer] 60 (0,0))∧W.heap[w.heap.size+1+1]? =some (.cells #[.int .i64 0,.int .i64 0,.int .i64 0,.slice none 0 0,.int .i64 0,.int .i64 0,.int .i64 0,.int .i64 0,.int .i64 0] 60 (0,0))∧Below w.heap.size w W) ⟨by exact hpa,by exact hpa,by exact hpa,by exact bel⟩ ?_
  rintro W1 ⟨hc,hn,hz,hb⟩
  have HC1:=hid hc
  have lc1:=lt_blk hc
  have HN1:=hid hn
  have ln1:=lt_blk hn
  have HZ1:=hid hz
  have lz1:=lt_blk hz
  have HBW1:=hid hb
  have hs1:=hb.size
  obtain⟨c0,c1,c2,c3,c4,c5,c6⟩:=cells7 hc
  obtain⟨n0,n1,n2,n3,n4,n5,n6,n7,n8⟩:=cells9 hn
  clear hc hn hz hb
  go_wp2_with fail
  refine(ibegin_any mr mc mt mf wt ec lo st id req cnt tim nak own peer Aa na ca tick E L HL.out _ W1.heap.size (Nat.le_refl _) ((HE.out.keep (HBW1.out.mono HB.out)).more (by have:=HB.out;omega)) HNA.out HP.out).mono ?_
  unfold BeginP
  rw[HF.out]
  rintro x W2 ⟨b,A8,rfl,hb,hbl,hrow,hR⟩
  clear c0 c1 c2 c3 c4 c5 c6 n0 n1 n2 n3 n4 n5 n6 n7 n8
  have HROW2:=hid hrow
  have HR2:=hid hR
  have lb2:=lt_blk hrow
  clear hrow hR
  have hZb:b≠w.heap.size+1+1:=by omega
  have hbs:w.heap.size≤b:=by omega
  have HBW2:=hid (HBW1.out.trans (hb.mono HBW1.out.size))
  have hs2:=HBW2.out.size
  have HZ2:=hid ((hb.block _ lz1).trans HZ1.out)
  have lz2:=lt_blk HZ2.out
  have HE2:=hid ((HE.out.keep (HBW2.out.mono HB.out)).more (show B≤W2.heap.size by have:=HB.out;omega))
  clear hb
  go_wp2_with fail
  refine(told_any b ⟨st,id,req,L,cnt,tim,nak⟩ Aa na ca (.slice A8 1 1) mc mt mf wt ⟨st,id,req,L,cnt,tim,nak⟩ (.slice Aa na ca) own peer tick (.slice none 0 0) (.slice none 0 0) E _ W2.heap.size (Nat.le_refl _) HROW2.out HE2.out HNA.out hla HDA.out HL.out).mono ?_
  rintro x W9 ⟨va9,rfl,hb9,ho9⟩
  obtain⟨A9,n9,c9,rfl⟩:=ho9.form'
  unfold npV
  dsimp only
  have hz9:=(hb9.block _ lz2).trans HZ2.out
  have lz9:=lt_blk hz9
  obtain⟨z0,z1,z2,z3,z4,z5,z6,z7,z8⟩:=cells9 hz9
  have fz:=frees hz9
  have HZ9:=hid hz9
  have HB9:=hid hb9
  have HO9:=hid ho9
  clear hz9 hb9 ho9
  go_wp2_with fail
  generalize hWf:World.setCell _ _ _=Wf
  have hgr:W9.grownBy Wf (some (w.heap.size+1+1)):=by rw[←hWf];exact grn
  have hrow:=(show Wf.heap[w.heap.size+1+1]? =some (.cells #[_,_,_,_,_,_,_,_,_] 60 (0,0)) by rw[←hWf];exact row9 HZ9.out rfl _ _ _ _ _ _ _ _ _)
  clear hWf z0 z1 z2 z3 z4 z5 z6 z7 z8 fz
  obtain⟨u0,u1,u2,u3,u4,u5,u6,u7,u8⟩:=cells9 hrow
  refine bodyPost_ret (v:=.tuple #[npV (⟨st,id,req,L,cnt,tim,nak⟩) (.slice A9 n9 c9) own peer,(.slice none 0 0),(.slice none 0 0)]) (by unfold npV;simp[results,Tryz.results74,go_sem,u0,u1,u2,u3,u4,u5,u6,u7,u8]) rfl ?_
  rw[HV.out]
  exact IDoP.fin HBW2.out HZ2.out (by omega) HB9.out HO9.out (PksO.nl _ _) (ActsO.nil _ _) hgr
 ·have HF:=hid h1
  obtain⟨r,hr⟩: ∃r,timO (cfI mc mt mf wt peer) ⟨st,id,req,L,cnt,tim,nak⟩ tick=r:=⟨_,rfl⟩
  have HV:=hid (show iTickO mc mt mf wt ⟨st,id,req,L,cnt,tim,nak⟩ own peer tick=r by unfold iTickO;rw[if_pos h1];exact hr)
  have HAS:=hid (show r.1.ask.length≤1000000∧ ∀o∈r.1.ask,o.2.length≤400000000 by rw[←hr,tim_ask];exact HAL.out)
  have HRR:=hid hr
  clear h1 hr
  go_enter Tryz.func74,Tryz.ntmps74
  go_upto_region 1 with(fail)
  refine wp_w (fun W=>W.heap[w.heap.size]? =some (.cells #[.int .i64 mr,.int .i64 mc,.int .i64 mt,.int .i64 mf,.int .i64 wt,.int .i64 ec,.int .i64 lo] 64 (0,0))∧W.heap[w.heap.size+1]? =some (.cells #[.int .i64 st,.int .i64 id,.int .i64 req,.slice Aa na ca,.int .i64 cnt,.int .i64 tim,.int .i64 nak,.int .i64 own,.int .i64 peer] 60 (0,0))∧W.heap[w.heap.size+1+1]? =some (.cells #[.int .i64 0,.int .i64 0,.int .i64 0,.slice none 0 0,.int .i64 0,.int .i64 0,.int .i64 0,.int .i64 0,.int .i64 0] 60 (0,0))∧Below w.heap.size w W) ⟨by exact hpa,by exact hpa,by exact hpa,by exact bel⟩ ?_
  rintro W1 ⟨hc,hn,hz,hb⟩
  have HC1:=hid hc
  have lc1:=lt_blk hc
  have HN1:=hid hn
  have ln1:=lt_blk hn
  have HZ1:=hid hz
  have lz1:=lt_blk hz
  have HBW1:=hid hb
  have hs1:=hb.size
  obtain⟨c0,c1,c2,c3,c4,c5,c6⟩:=cells7 hc
  obtain⟨n0,n1,n2,n3,n4,n5,n6,n7,n8⟩:=cells9 hn
  clear hc hn hz hb
  go_wp2_with fail
  refine(ibegin_any mr mc mt mf wt ec lo st id req cnt tim nak own peer Aa na ca tick E L HL.out _ W1.heap.size (Nat.le_refl _) ((HE.out.keep (HBW1.out.mono HB.out)).more (by have:=HB.out;omega)) HNA.out HP.out).mono ?_
  unfold BeginP
  rw[HF.out]
  rintro x W2 ⟨b,A8,rfl,hb,hbl,hrow,hR⟩
  clear c0 c1 c2 c3 c4 c5 c6 n0 n1 n2 n3 n4 n5 n6 n7 n8
  have HROW2:=hid hrow
  have HR2:=hid hR
  have lb2:=lt_blk hrow
  clear hrow hR
  have hZb:b≠w.heap.size+1+1:=by omega
  have hbs:w.heap.size≤b:=by omega
  have HBW2:=hid (HBW1.out.trans (hb.mono HBW1.out.size))
  have hs2:=HBW2.out.size
  have HZ2:=hid ((hb.block _ lz1).trans HZ1.out)
  have lz2:=lt_blk HZ2.out
  have HE2:=hid ((HE.out.keep (HBW2.out.mono HB.out)).more (show B≤W2.heap.size by have:=HB.out;omega))
  clear hb
  have HRW:=hid (HR2.out.more (Nat.le_of_lt lb2))
  go_wp2_with fail
  obtain⟨⟨x0,x1,x2,x3,x4,x5,x6⟩,⟨x7,x8,x9,x10,x11⟩,-⟩:=runC_get HROW2.out
  dsimp only at x0 x1 x2 x4 x5 x6
  refine wp_region_c 12 (fun w'=>w'.cell? ⟨b,0,none⟩=some (.int .i64 st)∧w'.cell? ⟨b,1,none⟩=some (.int .i64 id)∧w'.cell? ⟨b,2,none⟩=some (.int .i64 req)∧w'.cell? ⟨b,3,none⟩=some (.slice Aa na ca)∧w'.cell? ⟨b,4,none⟩=some (.int .i64 cnt)∧w'.cell? ⟨b,5,none⟩=some (.int .i64 tim)∧w'.cell? ⟨b,6,none⟩=some (.int .i64 nak)∧w'.cell? ⟨b,7,none⟩=some (.slice A8 1 1)∧w'.cell? ⟨b,8,none⟩=some (.int .i64 mc)∧w'.cell? ⟨b,9,none⟩=some (.int .i64 mt)∧w'.cell? ⟨b,10,none⟩=some (.int .i64 mf)∧w'.cell? ⟨b,11,none⟩=some (.int .i64 wt)) (by kernel_rfl) (by(try dsimp only);(first|(go_keep;done)|(go_simp;done)|(simp[go_sem];done))) (fun hHeld=>?_)
  refine tkW 0 (v:=?_) (sc_of hHeld) ?_ ?_
  rotate_left
  ·(intro w;go_simp;try with_reducible rfl)
  try simp only[Act.put,List.setIfInBounds_toArray,List.set_cons_zero,List.set_cons_succ]
  refine tkW 1 (v:=?_) (sc_of hHeld) ?_ ?_
  rotate_left
  ·(intro w;go_simp;try with_reducible rfl)
  try simp only[Act.put,List.setIfInBounds_toArray,List.set_cons_zero,List.set_cons_succ]
  refine tkW 2 (v:=?_) (sc_of hHeld) ?_ ?_
  rotate_left
  ·(intro w;go_simp;try with_reducible rfl)
  try simp only[Act.put,List.setIfInBounds_toArray,List.set_cons_zero,List.set_cons_succ]
  refine tkW 3 (v:=?_) (sc_of hHeld) ?_ ?_
  rotate_left
  ·(intro w;go_simp;try with_reducible rfl)
  try simp only[Act.put,List.setIfInBounds_toArray,List.set_cons_zero,List.set_cons_succ]
  refine tkW 4 (v:=?_) (sc_of hHeld) ?_ ?_
  rotate_left
  ·(intro w;go_simp;try with_reducible rfl)
  try simp only[Act.put,List.setIfInBounds_toArray,List.set_cons_zero,List.set_cons_succ]
  refine tkW 5 (v:=?_) (sc_of hHeld) ?_ ?_
  rotate_left
  ·(intro w;go_simp;try with_reducible rfl)
  try simp only[Act.put,List.setIfInBounds_toArray,List.set_cons_zero,List.set_cons_succ]
  refine tkL 6 (v:=?_) hHeld ?_ ?_
  rotate_left
  ·(intro w h;(try dsimp only at h);go_simp;try with_reducible rfl)
  try simp only[Act.put,List.setIfInBounds_toArray,List.set_cons_zero,List.set_cons_succ]
  refine tkW 7 (v:=?_) (sc_of hHeld) ?_ ?_
  rotate_left
  ·(intro w;go_simp;try with_reducible rfl)
  try simp only[Act.put,List.setIfInBounds_toArray,List.set_cons_zero,List.set_cons_succ]
  refine tkW 8 (v:=?_) (sc_of hHeld) ?_ ?_
  rotate_left
  ·(intro w;go_simp;try with_reducible rfl)
  try simp only[Act.put,List.setIfInBounds_toArray,List.set_cons_zero,List.set_cons_succ]
  refine tkW 9 (v:=?_) (sc_of hHeld) ?_ ?_
  rotate_left
  ·(intro w;go_simp;try with_reducible rfl)
  try simp only[Act.put,List.setIfInBounds_toArray,List.set_cons_zero,List.set_cons_succ]
  refine tkL 10 (v:=?_) hHeld ?_ ?_
  rotate_left
  ·(intro w h;(try dsimp only at h);go_simp;try with_reducible rfl)
  try simp only[Act.put,List.setIfInBounds_toArray,List.set_cons_zero,List.set_cons_succ]
  refine tkW 11 (v:=?_) (sc_of hHeld) ?_ ?_
  rotate_left
  ·(intro w;go_simp;try with_reducible rfl)
  try simp only[Act.put,List.setIfInBounds_toArray,List.set_cons_zero,List.set_cons_succ]
  refine stepP (i:=12) (o:=_) rfl (by kernel_rfl) (by kernel_rfl) (fun K hK=>?_)
  (go_simp;go_at_call 16;go_must (refine(timeout_any A8 Aa 1 1 na ca [ruleI peer] mc mt mf wt st id req cnt tim nak tick E _ W2.heap.size (by first|exact Nat.le_refl _|(simp;done)) (by exact HRW.out.keep (by exact bel)) rfl (by omega) (by exact HE2.out.keep (by exact bel)) HNA.out hla HDA.out).mono ?_);rw[HL.out,show timO ⟨[ruleI peer],mc,mt,mf,wt⟩ ⟨st,id,req,L,cnt,tim,nak⟩ tick=r from HRR.out];unfold DoP auV;(try dsimp only);rintro x w3 ⟨va3,vo3,vd3,rfl,hb3,hO,hP,hA⟩;obtain⟨A2,n2,c2,rfl⟩:=hO.form';obtain⟨A3,n3,c3,rfl⟩:=hP.form';obtain⟨A4,n4,c4,rfl⟩:=hA.form';have hr3:=(hb3.block _ lb2).trans HROW2.out;have HB3:=hid hb3;have HO3:=hid hO;have HP3:=hid hP;have HA3:=hid hA;have lb3:=lt_blk hr3;clear hb3 hO hP hA;obtain⟨⟨y0,y1,y2,y3,y4,y5,y6⟩,-,-,-,-,y22,y23⟩:=runC_get hr3;have fr:=frees hr3;clear hr3)
  refine hK.out _ _ ?_
  clear hK K
  try simp only[Act.put,List.setIfInBounds_toArray,List.set_cons_zero,List.set_cons_succ]
  refine tkW 13 (v:=?_) (sc_past (by kernel_rfl)) ?_ ?_
  rotate_left
  ·(intro w;go_simp;try with_reducible rfl)
  try simp only[Act.put,List.setIfInBounds_toArray,List.set_cons_zero,List.set_cons_succ]
  refine tkW 14 (v:=?_) (sc_past (by kernel_rfl)) ?_ ?_
  rotate_left
  ·(intro w;go_simp;try with_reducible rfl)
  try simp only[Act.put,List.setIfInBounds_toArray,List.set_cons_zero,List.set_cons_succ]
  refine tkW 15 (v:=?_) (sc_past (by kernel_rfl)) ?_ ?_
  rotate_left
  ·(intro w;go_simp;try with_reducible rfl)
  try simp only[Act.put,List.setIfInBounds_toArray,List.set_cons_zero,List.set_cons_succ]
  refine tkW 16 (v:=?_) (sc_past (by kernel_rfl)) ?_ ?_
  rotate_left
  ·(intro w;go_simp;try with_reducible rfl)
  try simp only[Act.put,List.setIfInBounds_toArray,List.set_cons_zero,List.set_cons_succ]
  refine tkW 17 (v:=?_) (sc_past (by kernel_rfl)) ?_ ?_
  rotate_left
  ·(intro w;go_simp;try with_reducible rfl)
  try simp only[Act.put,List.setIfInBounds_toArray,List.set_cons_zero,List.set_cons_succ]
  refine tkW 18 (v:=?_) (sc_past (by kernel_rfl)) ?_ ?_
  rotate_left
  ·(intro w;go_simp;try with_reducible rfl)
  try simp only[Act.put,List.setIfInBounds_toArray,List.set_cons_zero,List.set_cons_succ]
  refine stepP (i:=19) (o:=_) rfl (by kernel_rfl) (by kernel_rfl) (fun K hK=>?_)
  go_simp
  refine hK.out _ _ ?_
  clear hK K
  try simp only[Act.put,List.setIfInBounds_toArray,List.set_cons_zero,List.set_cons_succ]
  refine tkW 20 (v:=?_) (sc_past (by kernel_rfl)) ?_ ?_
  rotate_left
  ·(intro w;go_simp;try with_reducible rfl)
  try simp only[Act.put,List.setIfInBounds_toArray,List.set_cons_zero,List.set_cons_succ]
  refine tkW 21 (v:=?_) (sc_past (by kernel_rfl)) ?_ ?_
  rotate_left
  ·(intro w;go_simp;try with_reducible rfl)
  try simp only[Act.put,List.setIfInBounds_toArray,List.set_cons_zero,List.set_cons_succ]
  refine stepP (i:=22) (o:=_) rfl (by kernel_rfl) (by kernel_rfl) (fun K hK=>?_)
  go_simp
  refine hK.out _ _ ?_
  clear hK K
  try simp only[Act.put,List.setIfInBounds_toArray,List.set_cons_zero,List.set_cons_succ]
  refine tkW 23 (v:=?_) (sc_past (by kernel_rfl)) ?_ ?_
  rotate_left
  ·(intro w;go_simp;try with_reducible rfl)
  try simp only[Act.put,List.setIfInBounds_toArray,List.set_cons_zero,List.set_cons_succ]
  refine tkW 24 (v:=?_) (sc_past (by kernel_rfl)) ?_ ?_
  rotate_left
  ·(intro w;go_simp;try with_reducible rfl)
  try simp only[Act.put,List.setIfInBounds_toArray,List.set_cons_zero,List.set_cons_succ]
  refine stepP (i:=25) (o:=_) rfl (by kernel_rfl) (by kernel_rfl) (fun K hK=>?_)
  go_simp
  refine hK.out _ _ ?_
  clear hK K
  try simp only[Act.put,List.setIfInBounds_toArray,List.set_cons_zero,List.set_cons_succ]
  try simp only[Act.put,List.getElem_toArray,List.getElem_cons_zero,List.getElem_cons_succ,List.setIfInBounds_toArray,List.set_cons_zero,List.set_cons_succ]
  refine doneC (by kernel_rfl) ?_ _
  generalize hWf:World.setCell _ _ _=W5
  have hev:EventP b r (.slice A8 1 1) mc mt mf wt ⟨st,id,req,L,cnt,tim,nak⟩ (.slice Aa na ca) own peer tick W2 W5:=by rw[←hWf];exact EventP.of (W2:=W2.drew) (Below.refl _ _).drew HROW2.out HB3.out HO3.out HP3.out HA3.out
  obtain⟨va5,vo5,vd5,hr5,hg5,hO5,hP5,hA5⟩:=hev
  clear hWf x0 x1 x2 x3 x4 x5 x6 x7 x8 x9 x10 x11 y0 y1 y2 y3 y4 y5 y6 y22 y23 fr
  have HBW5:=hid (Below.grown HBW2.out hg5 HBW2.out.size (fun k hk=>by cases hk;omega))
  have HZ5:=hid ((hg5.block _ lz2 (fun e=>hZb (by cases e;rfl))).trans HZ2.out)
  have lz5:=lt_blk HZ5.out
  have hs5:=HBW5.out.size
  obtain⟨E5,hE5,hEL5⟩:=hO5
  obtain⟨A5,c5,hv5,hc5,-⟩:=ownsRow_form hE5.1
  obtain⟨n5,hn5⟩: ∃n,E5.length=n:=⟨_,rfl⟩
  rw[hn5] at hv5
  subst hv5
  have HE5:=hid hE5.at
  have HN5:=hid hn5.symm
  have HEL5:=hid hEL5
  have HROW5:=hid hr5
  have HP5:=hid (hP5.bas (b':=w.heap.size) (by omega))
  have HA5:=hid (own_base hA5 (show w.heap.size≤W2.heap.size by omega))
  have HS5:=hid (ask_ents HAS.out HEL5.out)
  have hn64:n5≤1000000:=by have:=HS5.out.1;have:=HN5.out;omega
  clear hr5 hg5 hE5 hEL5 hP5 hA5 hn5
  obtain⟨a9,out9,acts9⟩:=r
  dsimp only at HE5 HEL5 HROW5 HP5 HA5
  go_wp2_with fail
  refine(told_any b a9 A5 n5 c5 (.slice A8 1 1) mc mt mf wt ⟨st,id,req,L,cnt,tim,nak⟩ (.slice Aa na ca) own peer tick vo5 vd5 E5 _ W5.heap.size (Nat.le_refl _) HROW5.out HE5.out HN5.out hn64 HS5.out.2 HEL5.out).mono ?_
  rintro x W9 ⟨va9,rfl,hb9,ho9⟩
  obtain⟨A9,n9,c9,rfl⟩:=ho9.form'
  unfold npV
  dsimp only
  have hz9:=(hb9.block _ lz5).trans HZ5.out
  have lz9:=lt_blk hz9
  obtain⟨z0,z1,z2,z3,z4,z5,z6,z7,z8⟩:=cells9 hz9
  have fz:=frees hz9
  have HZ9:=hid hz9
  have HB9:=hid hb9
  have HO9:=hid ho9
  clear hz9 hb9 ho9
  go_wp2_with fail
  generalize hWf:World.setCell _ _ _=Wf
  have hgr:W9.grownBy Wf (some (w.heap.size+1+1)):=by rw[←hWf];exact grn
  have hrow:=(show Wf.heap[w.heap.size+1+1]? =some (.cells #[_,_,_,_,_,_,_,_,_] 60 (0,0)) by rw[←hWf];exact row9 HZ9.out rfl _ _ _ _ _ _ _ _ _)
  clear hWf z0 z1 z2 z3 z4 z5 z6 z7 z8 fz
  obtain⟨u0,u1,u2,u3,u4,u5,u6,u7,u8⟩:=cells9 hrow
  refine bodyPost_ret (v:=.tuple #[npV (a9) (.slice A9 n9 c9) own peer,vo5,vd5]) (by unfold npV;simp[results,Tryz.results74,go_sem,u0,u1,u2,u3,u4,u5,u6,u7,u8]) rfl ?_
  rw[HV.out]
  exact IDoP.fin HBW5.out HZ5.out (by omega) HB9.out HO9.out HP5.out HA5.out hgr
end Go.Proofs.YtfkgmbknfnhjoaaGreat
