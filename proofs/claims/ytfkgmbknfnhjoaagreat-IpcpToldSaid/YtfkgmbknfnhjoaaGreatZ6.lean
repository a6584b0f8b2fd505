/- What a packet makes of a control. -/
import Derived.Test.YtfkgmbknfnhjoaaGreatZ5
import Derived.Test.YtfkgmbknfnhjoaaGreatPL
import Derived.Test.YtfkgmbknfnhjoaaGreatPV
set_option maxHeartbeats 8000000
namespace Go.Proofs.YtfkgmbknfnhjoaaGreat
open Lib (hid)
open Go.RowKit
set_option linter.unusedSimpArgs false
set_option linter.unusedVariables false
set_option linter.ambiguousOpen false
open Ne (Rl Opt RulesAt areB wf64)
open Fs (av hasB)
theorem packO_ask_ok {c:Cf} {a:Au} {i:Pk} {tick:Int} (h:a.ask.length≤1000000∧ ∀o∈a.ask,o.2.length≤400000000):(packO c a i tick).1.1.ask.length≤1000000∧ ∀o∈(packO c a i tick).1.1.ask,o.2.length≤400000000:=by
 have key:(packO c a i tick).1.1.ask=a.ask∨(Op.encR (packO c a i tick).1.1.ask).2=0:=by
  unfold packO
  split
  ·exact .inl rfl
  ·split
   ·exact .inl rfl
   ·rename_i h2
    split
    ·exact .inl rfl
    ·split
     ·exact .inl rfl
     ·rename_i hw _
      refine .inr ?_
      rw[doO_ask]
      refine which_enc ?_ hw
      have h3:fineB c a tick=true:=by
       cases h4:fineB c a tick
       ·exact absurd (.inr h4) h2
       ·rfl
      unfold fineB at h3
      simp only[Bool.and_eq_true] at h3
      have h5:=h3.2.1
      unfold isB at h5
      simp only[Bool.and_eq_true,beq_iff_eq] at h5
      exact h5.2.1
 rcases key with h1|h1
 ·rw[h1];exact h
 ·obtain⟨h2,h3⟩:=enc_ok h1
  exact⟨by omega,fun o ho=>by have:=h3 o ho;omega⟩
set_option maxRecDepth 100000 in
theorem ipack_any (mr mc mt mf wt ec lo:Int) (st id req cnt tim nak own peer:Int) (Aa:Option Addr) (na ca:Nat) (tick:Int) (Ai:Option Addr) (ni ci:Nat) (ic ii:Int) (li:List UInt8) (E:List Ent) (L:List Opt) (hL:E.map Ent.o=L) (w:World) (B:Nat) (hB:B≤w.heap.size) (hE:OptsAt w B Aa E) (hna:na=E.length) (hla:na≤1000000) (hda: ∀e∈E,e.d.length≤1000000) (hp:wf64 peer) (hI:At w B Ai (li.map bv)) (hni:ni=li.length) (hci:ni≤ci) (hli:ni≤400000000):
  Calls Tryz.prog 30 #[.agg #[.int .i64 mr,.int .i64 mc,.int .i64 mt,.int .i64 mf,.int .i64 wt,.int .i64 ec,.int .i64 lo],.agg #[.int .i64 st,.int .i64 id,.int .i64 req,.slice Aa na ca,.int .i64 cnt,.int .i64 tim,.int .i64 nak,.int .i64 own,.int .i64 peer],.agg #[.int .i64 ic,.int .i64 ii,.slice Ai ni ci],.int .i64 tick] w (IDoP (iPackO mc mt mf wt ⟨st,id,req,L,cnt,tim,nak⟩ own peer ⟨ic,ii,li⟩ tick) own peer w):=by
 have HDB:=hid hda
 replace hda: ∀e∈E,e.d.length≤400000000:=fun e he=>by have:=HDB.out e he;omega
 have HB:=hid hB
 have HE:=hid hE
 have HNA:=hid hna
 have HDA:=hid hda
 have HP:=hid hp
 have HL:=hid hL
 have HI:=hid hI
 have HNI:=hid hni
 clear hB hE hna hda hp hL hI hni
 have HAL:=hid (show L.length≤1000000∧ ∀o∈L,o.2.length≤400000000 by rw[←HL.out,List.length_map];exact⟨by rw[←HNA.out];exact hla,fun o ho=>by obtain⟨e,he,rfl⟩:=List.mem_map.1 ho;exact HDA.out e he⟩)
 obtain⟨en,hen⟩: ∃n,Cp.encErr ic ii li.length=n:=⟨_,rfl⟩
 have HEN:=hid hen
 cases h1:fineI mc mt mf wt ⟨st,id,req,L,cnt,tim,nak⟩ own peer tick
 ·have HF:=hid h1
  have HV:=hid (show iPackO mc mt mf wt ⟨st,id,req,L,cnt,tim,nak⟩ own peer ⟨ic,ii,li⟩ tick=(⟨st,id,req,L,cnt,tim,nak⟩,[],[]) by unfold iPackO;rw[if_neg (by simp[h1])])
  clear h1 hen
  go_enter Tryz.func30,Tryz.ntmps30
  go_upto_region 1 with(fail)
  refine wp_w (fun W=>W.heap[w.heap.size]? =some (.cells #[.int .i64 mr,.int .i64 mc,.int .i64 mt,.int .i64 mf,.int .i64 wt,.int .i64 ec,.int .i64 lo] 64 (0,0))∧W.heap[w.heap.size+1]? =some (.cells #[.int .i64 st,.int .i64 id,.int .i64 req,.slice Aa na ca,.int .i64 cnt,.int .i64 tim,.int .i64 nak,.int .i64 own,.int .i64 peer] 60 (0,0))∧W.heap[w.heap.size+1+1]? =some (.cells #[.int .i64 ic,.int .i64 ii,.slice Ai ni ci] 32 (0,0))∧W.heap[w.heap.size+1+1+1]? =some (.cells #[.int .i64 0,.int .i64 0,.int .i64 0,.slice none 0 0,.int .i64 0,.int .i64 0,.int .i64 0,.int .i64 0,.int .i64 0] 60 (0,0))∧Below w.heap.size w W) ⟨by exact hpa,by exact hpa,by exact hpa,by exact hpa,by exact bel⟩ ?_
  rintro W1 ⟨hc,hn,hk,hz,hb⟩
  have HC1:=hid hc
  have lc1:=lt_blk hc
  have HN1:=hid hn
  have ln1:=lt_blk hn
  have HK1:=hid hk
  have lk1:=lt_blk hk
  have HZ1:=hid hz
  have lz1:=lt_blk hz
  have HBW1:=hid hb
  have hs1:=hb.size
  obtain⟨c0,c1,c2,c3,c4,c5,c6⟩:=cells7 hc
  obtain⟨n0,n1,n2,n3,n4,n5,n6,n7,n8⟩:=cells9 hn
  clear hc hn hk hz hb
  go_wp2_with fail
  refine(ibegin_any mr mc mt mf wt ec lo st id req cnt tim nak own peer Aa na ca tick E L HL.out _ W1.heap.size (Nat.le_refl _) ((HE.out.keep (HBW1.out.mono HB.out)).more (by have:=HB.out;omega)) HNA.out HP.out).mono ?_
  unfold BeginP
  rw[HF.out]
  rintro x W2 ⟨b,A8,rfl,hb,hbl,hrow,hR⟩
  clear c0 c1 c2 c3 c4 c5 c6 n0 n1 n2 n3 n4 n5 n6 n7 n8
  have HROW2:=hid hrow
  have HR2:=hid hR
  have lb2:=lt_blk hrow
  clear hrow hR
  have hZb:b≠w.heap.size+1+1+1:=by omega
  have hbs:w.heap.size≤b:=by omega
  have HBW2:=hid (HBW1.out.trans (hb.mono HBW1.out.size))
  have hs2:=HBW2.out.size
  have HZ2:=hid ((hb.block _ lz1).trans HZ1.out)
  have lz2:=lt_blk HZ2.out
  have hk:=(hb.block _ lk1).trans HK1.out
  have HK2:=hid hk
  obtain⟨k0,k1,k2⟩:=cells3 hk
  have lk2:=lt_blk hk
  clear hk
  have HE2:=hid ((HE.out.keep (HBW2.out.mono HB.out)).more (show B≤W2.heap.size by have:=HB.out;omega))
  clear hb
  go_wp2_with fail
  refine(Cp.enc_any ic ii Ai ni ci li _ B (by have:=HB.out;omega) (HI.out.keep (HBW2.out.mono HB.out)) HNI.out (by omega)).mono ?_
  unfold Cp.EncP
  rw[HEN.out]
  rintro x W3 ⟨v3,rfl,hb,-⟩
  have HROW3:=hid ((hb.block _ lb2).trans HROW2.out)
  have lb3:=lt_blk HROW3.out
  have HR3:=hid (HR2.out.keep (hb.mono (Nat.le_of_lt lb2)))
  clear k0 k1 k2
  have HBW3:=hid (HBW2.out.trans (hb.mono HBW2.out.size))
  have hs3:=HBW3.out.size
  have HZ3:=hid ((hb.block _ lz2).trans HZ2.out)
  have lz3:=lt_blk HZ3.out
  have hk:=(hb.block _ lk2).trans HK2.out
  have HK3:=hid hk
  obtain⟨k0,k1,k2⟩:=cells3 hk
  have lk3:=lt_blk hk
  clear hk
  have HE3:=hid ((HE.out.keep (HBW3.out.mono HB.out)).more (show B≤W3.heap.size by have:=HB.out;omega))
  clear hb
  clear lb2 lz2 lk2
  go_wp2_with fail
  refine(told_any b ⟨st,id,req,L,cnt,tim,nak⟩ Aa na ca (.slice A8 1 1) mc mt mf wt ⟨st,id,req,L,cnt,tim,nak⟩ (.slice Aa na ca) own peer tick (.slice none 0 0) (.slice none 0 0) E _ W3.heap.size (Nat.le_refl _) HROW3.out HE3.out HNA.out hla HDA.out HL.out).mono ?_
  rintro x W9 ⟨va9,rfl,hb9,ho9⟩
  obtain⟨A9,n9,c9,rfl⟩:=ho9.form'
  unfold npV
  dsimp only
  have hz9:=(hb9.block _ lz3).trans HZ3.out
  have lz9:=lt_blk hz9
  obtain⟨z0,z1,z2,z3,z4,z5,z6,z7,z8⟩:=cells9 hz9
  have fz:=frees hz9
  have HZ9:=hid hz9
  have HB9:=hid hb9
  have HO9:=hid ho9
  clear hz9 hb9 ho9
  go_wp2_with fail
  generalize hWf:World.setCell _ _ _=Wf
  have hgr:W9.grownBy Wf (some (w.heap.size+1+1+1)):=by rw[←hWf];exact grn
  have hrow:=(show Wf.heap[w.heap.size+1+1+1]? =some (.cells #[_,_,_,_,_,_,_,_,_] 60 (0,0)) by rw[←hWf];exact row9 HZ9.out rfl _ _ _ _ _ _ _ _ _)
  clear hWf z0 z1 z2 z3 z4 z5 z6 z7 z8 fz
  obtain⟨u0,u1,u2,u3,u4,u5,u6,u7,u8⟩:=cells9 hrow
  refine bodyPost_ret (v:=.tuple #[npV (⟨st,id,req,L,cnt,tim,nak⟩) (.slice A9 n9 c9) own peer,(.slice none 0 0),(.slice none 0 0)]) (by unfold npV;simp[results,Tryz.results30,go_sem,u0,u1,u2,u3,u4,u5,u6,u7,u8]) rfl ?_
  rw[HV.out]
  exact IDoP.fin HBW3.out HZ3.out (by omega) HB9.out HO9.out (PksO.nl _ _) (ActsO.nil _ _) hgr
 ·have HF:=hid h1
  by_cases h2:en=0
  ·subst h2
   have HCO:=hid (And.intro h1 hen)
   clear h1 hen
   by_cases h3:ic=3
   ·subst h3
    by_cases h4:ii=req
    ·subst h4
     obtain⟨r,hr⟩: ∃r,doO (cfI mc mt mf wt peer) ⟨st,id,ii,L,cnt,tim,nak⟩ 10 ⟨3,ii,li⟩ ⟨0,0,[]⟩ tick=r:=⟨_,rfl⟩
     have HV:=hid (show iPackO mc mt mf wt ⟨st,id,ii,L,cnt,tim,nak⟩ own peer ⟨3,ii,li⟩ tick=r by unfold iPackO;rw[if_pos HCO.out];rw[if_pos rfl,if_pos rfl];exact hr)
     have HAS:=hid (show r.1.ask.length≤1000000∧ ∀o∈r.1.ask,o.2.length≤400000000 by rw[←hr,doO_ask];exact HAL.out)
     have HRR:=hid hr
     clear hr
     go_enter Tryz.func30,Tryz.ntmps30
     go_upto_region 1 with(fail)
     refine wp_w (fun W=>W.heap[w.heap.size]? =some (.cells #[.int .i64 mr,.int .i64 mc,.int .i64 mt,.int .i64 mf,.int .i64 wt,.int .i64 ec,.int .i64 lo] 64 (0,0))∧W.heap[w.heap.size+1]? =some (.cells #[.int .i64 st,.int .i64 id,.int .i64 ii,.slice Aa na ca,.int .i64 cnt,.int .i64 tim,.int .i64 nak,.int .i64 own,.int .i64 peer] 60 (0,0))∧W.heap[w.heap.size+1+1]? =some (.cells #[.int .i64 3,.int .i64 ii,.slice Ai ni ci] 32 (0,0))∧W.heap[w.heap.size+1+1+1]? =some (.cells #[.int .i64 0,.int .i64 0,.int .i64 0,.slice none 0 0,.int .i64 0,.int .i64 0,.int .i64 0,.int .i64 0,.int .i64 0] 60 (0,0))∧Below w.heap.size w W) ⟨by exact hpa,by exact hpa,by exact hpa,by exact hpa,by exact bel⟩ ?_
     rintro W1 ⟨hc,hn,hk,hz,hb⟩
     have HC1:=hid hc
     have lc1:=lt_blk hc
     have HN1:=hid hn
     have ln1:=lt_blk hn
     have HK1:=hid hk
     have lk1:=lt_blk hk
     have HZ1:=hid hz
     have lz1:=lt_blk hz
     have HBW1:=hid hb
     have hs1:=hb.size
     obtain⟨c0,c1,c2,c3,c4,c5,c6⟩:=cells7 hc
     obtain⟨n0,n1,n2,n3,n4,n5,n6,n7,n8⟩:=cells9 hn
     clear hc hn hk hz hb
     go_wp2_with fail
     refine(ibegin_any mr mc mt mf wt ec lo st id ii cnt tim nak own peer Aa na ca tick E L HL.out _ W1.heap.size (Nat.le_refl _) ((HE.out.keep (HBW1.out.mono HB.out)).more (by have:=HB.out;omega)) HNA.out HP.out).mono ?_
     unfold BeginP
     rw[HF.out]
     rintro x W2 ⟨b,A8,rfl,hb,hbl,hrow,hR⟩
     clear c0 c1 c2 c3 c4 c5 c6 n0 n1 n2 n3 n4 n5 n6 n7 n8
     have HROW2:=hid hrow
     have HR2:=hid hR
     have lb2:=lt_blk hrow
     clear hrow hR
     have hZb:b≠w.heap.size+1+1+1:=by omega
     have hbs:w.heap.size≤b:=by omega
     have HBW2:=hid (HBW1.out.trans (hb.mono HBW1.out.size))
     have hs2:=HBW2.out.size
     have HZ2:=hid ((hb.block _ lz1).trans HZ1.out)
     have lz2:=lt_blk HZ2.out
     have hk:=(hb.block _ lk1).trans HK1.out
     have HK2:=hid hk
     obtain⟨k0,k1,k2⟩:=cells3 hk
     have lk2:=lt_blk hk
     clear hk
     have HE2:=hid ((HE.out.keep (HBW2.out.mono HB.out)).more (show B≤W2.heap.size by have:=HB.out;omega))
     clear hb
     go_wp2_with fail
     refine(Cp.enc_any 3 ii Ai ni ci li _ B (by have:=HB.out;omega) (HI.out.keep (HBW2.out.mono HB.out)) HNI.out (by omega)).mono ?_
     unfold Cp.EncP
     rw[HEN.out]
     rintro x W3 ⟨v3,rfl,hb,-⟩
     have HROW3:=hid ((hb.block _ lb2).trans HROW2.out)
     have lb3:=lt_blk HROW3.out
     have HR3:=hid (HR2.out.keep (hb.mono (Nat.le_of_lt lb2)))
     clear k0 k1 k2
     have HBW3:=hid (HBW2.out.trans (hb.mono HBW2.out.size))
     have hs3:=HBW3.out.size
     have HZ3:=hid ((hb.block _ lz2).trans HZ2.out)
     have lz3:=lt_blk HZ3.out
     have hk:=(hb.block _ lk2).trans HK2.out
     have HK3:=hid hk
     obtain⟨k0,k1,k2⟩:=cells3 hk
     have lk3:=lt_blk hk
     clear hk
     have HE3:=hid ((HE.out.keep (HBW3.out.mono HB.out)).more (show B≤W3.heap.size by have:=HB.out;omega))
     clear hb
     clear lb2 lz2 lk2
     go_wp2_with fail
     obtain⟨⟨-,-,x2,-,-,-,-⟩,-⟩:=runC_get HROW3.out
     dsimp only at x2
     go_quiet (fail)
     clear x2
     generalize hW4:World.drewN _ _=W4
     have hb:Below W3.heap.size W3 W4:=by rw[←hW4];exact below_drewN (Below.refl _ _) _
     clear hW4
     have HROW4:=hid ((hb.block _ lb3).trans HROW3.out)
     have lb4:=lt_blk HROW4.out
     have HR4:=hid (HR3.out.keep (hb.mono (Nat.le_of_lt lb3)))
     clear k0 k1 k2
     have HBW4:=hid (HBW3.out.trans (hb.mono HBW3.out.size))
     have hs4:=HBW4.out.size
     have HZ4:=hid ((hb.block _ lz3).trans HZ3.out)
     have lz4:=lt_blk HZ4.out
     have hk:=(hb.block _ lk3).trans HK3.out
     have HK4:=hid hk
     obtain⟨k0,k1,k2⟩:=cells3 hk
     have lk4:=lt_blk hk
     clear hk
     have HE4:=hid ((HE.out.keep (HBW4.out.mono HB.out)).more (show B≤W4.heap.size by have:=HB.out;omega))
     clear hb
     clear lb3 lz3 lk3
     go_wp2_with fail
     refine(event_any b ⟨st,id,ii,L,cnt,tim,nak⟩ Aa A8 Ai na ca ni ci mc mt mf wt ⟨st,id,ii,L,cnt,tim,nak⟩ (.slice Aa na ca) own peer tick 10 3 ii (.slice none 0 0) (.slice none 0 0) E li _ HROW4.out HR4.out W4.heap.size (Nat.le_refl _) HE4.out HNA.out hla HDA.out HL.out (HI.out.keep (HBW4.out.mono HB.out)|>.more (by have:=HB.out;omega)) HNI.out hci hli ⟨_,_,_,rfl⟩ ⟨_,_,_,rfl⟩).mono ?_
     rw[HRR.out]
     rintro x W5 ⟨rfl,va5,vo5,vd5,hr5,hg5,hO5,hP5,hA5⟩
     have HBW5:=hid (Below.grown HBW4.out hg5 HBW4.out.size (fun k hk=>by cases hk;omega))
     have HZ5:=hid ((hg5.block _ lz4 (fun e=>hZb (by cases e;rfl))).trans HZ4.out)
     have lz5:=lt_blk HZ5.out
     have hs5:=HBW5.out.size
     obtain⟨E5,hE5,hEL5⟩:=hO5
     obtain⟨A5,c5,hv5,hc5,-⟩:=ownsRow_form hE5.1
     obtain⟨n5,hn5⟩: ∃n,E5.length=n:=⟨_,rfl⟩
     rw[hn5] at hv5
     subst hv5
     have HE5:=hid hE5.at
     have HN5:=hid hn5.symm
     have HEL5:=hid hEL5
     have HROW5:=hid hr5
     have HP5:=hid (hP5.bas (b':=w.heap.size) (by omega))
     have HA5:=hid (own_base hA5 (show w.heap.size≤W4.heap.size by omega))
     have HS5:=hid (ask_ents HAS.out HEL5.out)
     have hn64:n5≤1000000:=by have:=HS5.out.1;have:=HN5.out;omega
     clear hr5 hg5 hE5 hEL5 hP5 hA5 hn5
     obtain⟨a9,out9,acts9⟩:=r
     dsimp only at HE5 HEL5 HROW5 HP5 HA5
     go_wp2_with fail
     refine(told_any b a9 A5 n5 c5 (.slice A8 1 1) mc mt mf wt ⟨st,id,ii,L,cnt,tim,nak⟩ (.slice Aa na ca) own peer tick vo5 vd5 E5 _ W5.heap.size (Nat.le_refl _) HROW5.out HE5.out HN5.out hn64 HS5.out.2 HEL5.out).mono ?_
     rintro x W9 ⟨va9,rfl,hb9,ho9⟩
     obtain⟨A9,n9,c9,rfl⟩:=ho9.form'
     unfold npV
     dsimp only
     have hz9:=(hb9.block _ lz5).trans HZ5.out
     have lz9:=lt_blk hz9
     obtain⟨z0,z1,z2,z3,z4,z5,z6,z7,z8⟩:=cells9 hz9
     have fz:=frees hz9
     have HZ9:=hid hz9
     have HB9:=hid hb9
     have HO9:=hid ho9
     clear hz9 hb9 ho9
     go_wp2_with fail
     generalize hWf:World.setCell _ _ _=Wf
     have hgr:W9.grownBy Wf (some (w.heap.size+1+1+1)):=by rw[←hWf];exact grn
     have hrow:=(show Wf.heap[w.heap.size+1+1+1]? =some (.cells #[_,_,_,_,_,_,_,_,_] 60 (0,0)) by rw[←hWf];exact row9 HZ9.out rfl _ _ _ _ _ _ _ _ _)
     clear hWf z0 z1 z2 z3 z4 z5 z6 z7 z8 fz
     obtain⟨u0,u1,u2,u3,u4,u5,u6,u7,u8⟩:=cells9 hrow
     refine bodyPost_ret (v:=.tuple #[npV (a9) (.slice A9 n9 c9) own peer,vo5,vd5]) (by unfold npV;simp[results,Tryz.results30,go_sem,u0,u1,u2,u3,u4,u5,u6,u7,u8]) rfl ?_
     rw[HV.out]
     exact IDoP.fin HBW5.out HZ5.out (by omega) HB9.out HO9.out HP5.out HA5.out hgr
    ·have h5:(ii==req)=false:=by simpa using h4
     have HV:=hid (show iPackO mc mt mf wt ⟨st,id,req,L,cnt,tim,nak⟩ own peer ⟨3,ii,li⟩ tick=(⟨st,id,req,L,cnt,tim,nak⟩,[],[]) by unfold iPackO;rw[if_pos HCO.out,if_pos rfl,if_neg h4])
     go_enter Tryz.func30,Tryz.ntmps30
     go_upto_region 1 with(fail)
     refine wp_w (fun W=>W.heap[w.heap.size]? =some (.cells #[.int .i64 mr,.int .i64 mc,.int .i64 mt,.int .i64 mf,.int .i64 wt,.int .i64 ec,.int .i64 lo] 64 (0,0))∧W.heap[w.heap.size+1]? =some (.cells #[.int .i64 st,.int .i64 id,.int .i64 req,.slice Aa na ca,.int .i64 cnt,.int .i64 tim,.int .i64 nak,.int .i64 own,.int .i64 peer] 60 (0,0))∧W.heap[w.heap.size+1+1]? =some (.cells #[.int .i64 3,.int .i64 ii,.slice Ai ni ci] 32 (0,0))∧W.heap[w.heap.size+1+1+1]? =some (.cells #[.int .i64 0,.int .i64 0,.int .i64 0,.slice none 0 0,.int .i64 0,.int .i64 0,.int .i64 0,.int .i64 0,.int .i64 0] 60 (0,0))∧Below w.heap.size w W) ⟨by exact hpa,by exact hpa,by exact hpa,by exact hpa,by exact bel⟩ ?_
     rintro W1 ⟨hc,hn,hk,hz,hb⟩
     have HC1:=hid hc
     have lc1:=lt_blk hc
     have HN1:=hid hn
     have ln1:=lt_blk hn
     have HK1:=hid hk
     have lk1:=lt_blk hk
     have HZ1:=hid hz
     have lz1:=lt_blk hz
     have HBW1:=hid hb
     have hs1:=hb.size
     obtain⟨c0,c1,c2,c3,c4,c5,c6⟩:=cells7 hc
     obtain⟨n0,n1,n2,n3,n4,n5,n6,n7,n8⟩:=cells9 hn
     clear hc hn hk hz hb
     go_wp2_with fail
     refine(ibegin_any mr mc mt mf wt ec lo st id req cnt tim nak own peer Aa na ca tick E L HL.out _ W1.heap.size (Nat.le_refl _) ((HE.out.keep (HBW1.out.mono HB.out)).more (by have:=HB.out;omega)) HNA.out HP.out).mono ?_
     unfold BeginP
     rw[HF.out]
     rintro x W2 ⟨b,A8,rfl,hb,hbl,hrow,hR⟩
     clear c0 c1 c2 c3 c4 c5 c6 n0 n1 n2 n3 n4 n5 n6 n7 n8
     have HROW2:=hid hrow
     have HR2:=hid hR
     have lb2:=lt_blk hrow
     clear hrow hR
     have hZb:b≠w.heap.size+1+1+1:=by omega
     have hbs:w.heap.size≤b:=by omega
     have HBW2:=hid (HBW1.out.trans (hb.mono HBW1.out.size))
     have hs2:=HBW2.out.size
     have HZ2:=hid ((hb.block _ lz1).trans HZ1.out)
     have lz2:=lt_blk HZ2.out
     have hk:=(hb.block _ lk1).trans HK1.out
     have HK2:=hid hk
     obtain⟨k0,k1,k2⟩:=cells3 hk
     have lk2:=lt_blk hk
     clear hk
     have HE2:=hid ((HE.out.keep (HBW2.out.mono HB.out)).more (show B≤W2.heap.size by have:=HB.out;omega))
     clear hb
     go_wp2_with fail
     refine(Cp.enc_any 3 ii Ai ni ci li _ B (by have:=HB.out;omega) (HI.out.keep (HBW2.out.mono HB.out)) HNI.out (by omega)).mono ?_
     unfold Cp.EncP
     rw[HEN.out]
     rintro x W3 ⟨v3,rfl,hb,-⟩
     have HROW3:=hid ((hb.block _ lb2).trans HROW2.out)
     have lb3:=lt_blk HROW3.out
     have HR3:=hid (HR2.out.keep (hb.mono (Nat.le_of_lt lb2)))
     clear k0 k1 k2
     have HBW3:=hid (HBW2.out.trans (hb.mono HBW2.out.size))
     have hs3:=HBW3.out.size
     have HZ3:=hid ((hb.block _ lz2).trans HZ2.out)
     have lz3:=lt_blk HZ3.out
     have hk:=(hb.block _ lk2).trans HK2.out
     have HK3:=hid hk
     obtain⟨k0,k1,k2⟩:=cells3 hk
     have lk3:=lt_blk hk
     clear hk
     have HE3:=hid ((HE.out.keep (HBW3.out.mono HB.out)).more (show B≤W3.heap.size by have:=HB.out;omega))
     clear hb
     clear lb2 lz2 lk2
     go_wp2_with fail
     obtain⟨⟨-,-,x2,-,-,-,-⟩,-⟩:=runC_get HROW3.out
     dsimp only at x2
     go_quiet (fail)
     clear x2
     generalize hW4:World.drewN _ _=W4
     have hb:Below W3.heap.size W3 W4:=by rw[←hW4];exact below_drewN (Below.refl _ _) _
     clear hW4
     have HROW4:=hid ((hb.block _ lb3).trans HROW3.out)
     have lb4:=lt_blk HROW4.out
     have HR4:=hid (HR3.out.keep (hb.mono (Nat.le_of_lt lb3)))
     clear k0 k1 k2
     have HBW4:=hid (HBW3.out.trans (hb.mono HBW3.out.size))
     have hs4:=HBW4.out.size
     have HZ4:=hid ((hb.block _ lz3).trans HZ3.out)
     have lz4:=lt_blk HZ4.out
     have hk:=(hb.block _ lk3).trans HK3.out
     have HK4:=hid hk
     obtain⟨k0,k1,k2⟩:=cells3 hk
     have lk4:=lt_blk hk
     clear hk
     have HE4:=hid ((HE.out.keep (HBW4.out.mono HB.out)).more (show B≤W4.heap.size by have:=HB.out;omega))
     clear hb
     clear lb3 lz3 lk3
     go_wp2_with fail
     refine(told_any b ⟨st,id,req,L,cnt,tim,nak⟩ Aa na ca (.slice A8 1 1) mc mt mf wt ⟨st,id,req,L,cnt,tim,nak⟩ (.slice Aa na ca) own peer tick (.slice none 0 0) (.slice none 0 0) E _ W4.heap.size (Nat.le_refl _) HROW4.out HE4.out HNA.out hla HDA.out HL.out).mono ?_
     rintro x W9 ⟨va9,rfl,hb9,ho9⟩
     obtain⟨A9,n9,c9,rfl⟩:=ho9.form'
     unfold npV
     dsimp only
     have hz9:=(hb9.block _ lz4).trans HZ4.out
     have lz9:=lt_blk hz9
     obtain⟨z0,z1,z2,z3,z4,z5,z6,z7,z8⟩:=cells9 hz9
     have fz:=frees hz9
     have HZ9:=hid hz9
     have HB9:=hid hb9
     have HO9:=hid ho9
     clear hz9 hb9 ho9
     go_wp2_with fail
     generalize hWf:World.setCell _ _ _=Wf
     have hgr:W9.grownBy Wf (some (w.heap.size+1+1+1)):=by rw[←hWf];exact grn
     have hrow:=(show Wf.heap[w.heap.size+1+1+1]? =some (.cells #[_,_,_,_,_,_,_,_,_] 60 (0,0)) by rw[←hWf];exact row9 HZ9.out rfl _ _ _ _ _ _ _ _ _)
     clear hWf z0 z1 z2 z3 z4 z5 z6 z7 z8 fz
     obtain⟨u0,u1,u2,u3,u4,u5,u6,u7,u8⟩:=cells9 hrow
     refine bodyPost_ret (v:=.tuple #[npV (⟨st,id,req,L,cnt,tim,nak⟩) (.slice A9 n9 c9) own peer,(.slice none 0 0),(.slice none 0 0)]) (by unfold npV;simp[results,Tryz.results30,go_sem,u0,u1,u2,u3,u4,u5,u6,u7,u8]) rfl ?_
     rw[HV.out]
     exact IDoP.fin HBW4.out HZ4.out (by omega) HB9.out HO9.out (PksO.nl _ _) (ActsO.nil _ _) hgr
   ·have h6:(ic==3)=false:=by simpa using h3
    cases h7:inB ic 1 7
    ·skip
     obtain⟨r,hr⟩: ∃r,doO (cfI mc mt mf wt peer) ⟨st,id,req,L,cnt,tim,nak⟩ 13 ⟨ic,ii,li⟩ ⟨0,0,[]⟩ tick=r:=⟨_,rfl⟩
     have HV:=hid (show iPackO mc mt mf wt ⟨st,id,req,L,cnt,tim,nak⟩ own peer ⟨ic,ii,li⟩ tick=r by unfold iPackO;rw[if_pos HCO.out];rw[if_neg h3,if_neg (by simp[h7])];exact hr)
     have HAS:=hid (show r.1.ask.length≤1000000∧ ∀o∈r.1.ask,o.2.length≤400000000 by rw[←hr,doO_ask];exact HAL.out)
     have HRR:=hid hr
     clear hr
     go_enter Tryz.func30,Tryz.ntmps30
     go_upto_region 1 with(fail)
     refine wp_w (fun W=>W.heap[w.heap.size]? =some (.cells #[.int .i64 mr,.int .i64 mc,.int .i64 mt,.int .i64 mf,.int .i64 wt,.int .i64 ec,.int .i64 lo] 64 (0,0))∧W.heap[w.heap.size+1]? =some (.cells #[.int .i64 st,.int .i64 id,.int .i64 req,.slice Aa na ca,.int .i64 cnt,.int .i64 tim,.int .i64 nak,.int .i64 own,.int .i64 peer] 60 (0,0))∧W.heap[w.heap.size+1+1]? =some (.cells #[.int .i64 ic,.int .i64 ii,.slice Ai ni ci] 32 (0,0))∧W.heap[w.heap.size+1+1+1]? =some (.cells #[.int .i64 0,.int .i64 0,.int .i64 0,.slice none 0 0,.int .i64 0,.int .i64 0,.int .i64 0,.int .i64 0,.int .i64 0] 60 (0,0))∧Below w.heap.size w W) ⟨by exact hpa,by exact hpa,by exact hpa,by exact hpa,by exact bel⟩ ?_
     rintro W1 ⟨hc,hn,hk,hz,hb⟩
     have HC1:=hid hc
     have lc1:=lt_blk hc
     have HN1:=hid hn
     have ln1:=lt_blk hn
     have HK1:=hid hk
     have lk1:=lt_blk hk
     have HZ1:=hid hz
     have lz1:=lt_blk hz
     have HBW1:=hid hb
     have hs1:=hb.size
     obtain⟨c0,c1,c2,c3,c4,c5,c6⟩:=cells7 hc
     obtain⟨n0,n1,n2,n3,n4,n5,n6,n7,n8⟩:=cells9 hn
     clear hc hn hk hz hb
     go_wp2_with fail
     refine(ibegin_any mr mc mt mf wt ec lo st id req cnt tim nak own peer Aa na ca tick E L HL.out _ W1.heap.size (Nat.le_refl _) ((HE.out.keep (HBW1.out.mono HB.out)).more (by have:=HB.out;omega)) HNA.out HP.out).mono ?_
     unfold BeginP
     rw[HF.out]
     rintro x W2 ⟨b,A8,rfl,hb,hbl,hrow,hR⟩
     clear c0 c1 c2 c3 c4 c5 c6 n0 n1 n2 n3 n4 n5 n6 n7 n8
     have HROW2:=hid hrow
     have HR2:=hid hR
     have lb2:=lt_blk hrow
     clear hrow hR
     have hZb:b≠w.heap.size+1+1+1:=by omega
     have hbs:w.heap.size≤b:=by omega
     have HBW2:=hid (HBW1.out.trans (hb.mono HBW1.out.size))
     have hs2:=HBW2.out.size
     have HZ2:=hid ((hb.block _ lz1).trans HZ1.out)
     have lz2:=lt_blk HZ2.out
     have hk:=(hb.block _ lk1).trans HK1.out
     have HK2:=hid hk
     obtain⟨k0,k1,k2⟩:=cells3 hk
     have lk2:=lt_blk hk
     clear hk
     have HE2:=hid ((HE.out.keep (HBW2.out.mono HB.out)).more (show B≤W2.heap.size by have:=HB.out;omega))
     clear hb
     go_wp2_with fail
     refine(Cp.enc_any ic ii Ai ni ci li _ B (by have:=HB.out;omega) (HI.out.keep (HBW2.out.mono HB.out)) HNI.out (by omega)).mono ?_
     unfold Cp.EncP
     rw[HEN.out]
     rintro x W3 ⟨v3,rfl,hb,-⟩
     have HROW3:=hid ((hb.block _ lb2).trans HROW2.out)
     have lb3:=lt_blk HROW3.out
     have HR3:=hid (HR2.out.keep (hb.mono (Nat.le_of_lt lb2)))
     clear k0 k1 k2
     have HBW3:=hid (HBW2.out.trans (hb.mono HBW2.out.size))
     have hs3:=HBW3.out.size
     have HZ3:=hid ((hb.block _ lz2).trans HZ2.out)
     have lz3:=lt_blk HZ3.out
     have hk:=(hb.block _ lk2).trans HK2.out
     have HK3:=hid hk
     obtain⟨k0,k1,k2⟩:=cells3 hk
     have lk3:=lt_blk hk
     clear hk
     have HE3:=hid ((HE.out.keep (HBW3.out.mono HB.out)).more (show B≤W3.heap.size by have:=HB.out;omega))
     clear hb
     clear lb2 lz2 lk2
     go_wp2_with (first|(go_at_call 72;refine(within_it _ _ _ _ (by assumption)).mono ?_;rintro e w9 ⟨rfl,rfl⟩)|(go_at_call 72;refine(within_if _ _ _ _ (by assumption)).mono ?_;rintro e w9 ⟨rfl,rfl⟩))
     refine(event_any b ⟨st,id,req,L,cnt,tim,nak⟩ Aa A8 Ai na ca ni ci mc mt mf wt ⟨st,id,req,L,cnt,tim,nak⟩ (.slice Aa na ca) own peer tick 13 ic ii (.slice none 0 0) (.slice none 0 0) E li _ HROW3.out HR3.out W3.heap.size (Nat.le_refl _) HE3.out HNA.out hla HDA.out HL.out (HI.out.keep (HBW3.out.mono HB.out)|>.more (by have:=HB.out;omega)) HNI.out hci hli ⟨_,_,_,rfl⟩ ⟨_,_,_,rfl⟩).mono ?_
     rw[HRR.out]
     rintro x W5 ⟨rfl,va5,vo5,vd5,hr5,hg5,hO5,hP5,hA5⟩
     have HBW5:=hid (Below.grown HBW3.out hg5 HBW3.out.size (fun k hk=>by cases hk;omega))
     have HZ5:=hid ((hg5.block _ lz3 (fun e=>hZb (by cases e;rfl))).trans HZ3.out)
     have lz5:=lt_blk HZ5.out
     have hs5:=HBW5.out.size
     obtain⟨E5,hE5,hEL5⟩:=hO5
     obtain⟨A5,c5,hv5,hc5,-⟩:=ownsRow_form hE5.1
     obtain⟨n5,hn5⟩: ∃n,E5.length=n:=⟨_,rfl⟩
     rw[hn5] at hv5
     subst hv5
     have HE5:=hid hE5.at
     have HN5:=hid hn5.symm
     have HEL5:=hid hEL5
     have HROW5:=hid hr5
     have HP5:=hid (hP5.bas (b':=w.heap.size) (by omega))
     have HA5:=hid (own_base hA5 (show w.heap.size≤W3.heap.size by omega))
     have HS5:=hid (ask_ents HAS.out HEL5.out)
     have hn64:n5≤1000000:=by have:=HS5.out.1;have:=HN5.out;omega
     clear hr5 hg5 hE5 hEL5 hP5 hA5 hn5
     obtain⟨a9,out9,acts9⟩:=r
     dsimp only at HE5 HEL5 HROW5 HP5 HA5
     go_wp2_with fail
     refine(told_any b a9 A5 n5 c5 (.slice A8 1 1) mc mt mf wt ⟨st,id,req,L,cnt,tim,nak⟩ (.slice Aa na ca) own peer tick vo5 vd5 E5 _ W5.heap.size (Nat.le_refl _) HROW5.out HE5.out HN5.out hn64 HS5.out.2 HEL5.out).mono ?_
     rintro x W9 ⟨va9,rfl,hb9,ho9⟩
     obtain⟨A9,n9,c9,rfl⟩:=ho9.form'
     unfold npV
     dsimp only
     have hz9:=(hb9.block _ lz5).trans HZ5.out
     have lz9:=lt_blk hz9
     obtain⟨z0,z1,z2,z3,z4,z5,z6,z7,z8⟩:=cells9 hz9
     have fz:=frees hz9
     have HZ9:=hid hz9
     have HB9:=hid hb9
     have HO9:=hid ho9
     clear hz9 hb9 ho9
     go_wp2_with fail
     generalize hWf:World.setCell _ _ _=Wf
     have hgr:W9.grownBy Wf (some (w.heap.size+1+1+1)):=by rw[←hWf];exact grn
     have hrow:=(show Wf.heap[w.heap.size+1+1+1]? =some (.cells #[_,_,_,_,_,_,_,_,_] 60 (0,0)) by rw[←hWf];exact row9 HZ9.out rfl _ _ _ _ _ _ _ _ _)
     clear hWf z0 z1 z2 z3 z4 z5 z6 z7 z8 fz
     obtain⟨u0,u1,u2,u3,u4,u5,u6,u7,u8⟩:=cells9 hrow
     refine bodyPost_ret (v:=.tuple #[npV (a9) (.slice A9 n9 c9) own peer,vo5,vd5]) (by unfold npV;simp[results,Tryz.results30,go_sem,u0,u1,u2,u3,u4,u5,u6,u7,u8]) rfl ?_
     rw[HV.out]
     exact IDoP.fin HBW5.out HZ5.out (by omega) HB9.out HO9.out HP5.out HA5.out hgr
    ·skip
     obtain⟨q,hq⟩: ∃q,packO (cfI mc mt mf wt peer) ⟨st,id,req,L,cnt,tim,nak⟩ ⟨ic,ii,li⟩ tick=q:=⟨_,rfl⟩
     obtain⟨r,ok⟩:=q
     have HV:=hid (show iPackO mc mt mf wt ⟨st,id,req,L,cnt,tim,nak⟩ own peer ⟨ic,ii,li⟩ tick=r by unfold iPackO;rw[if_pos HCO.out,if_neg h3,if_pos h7,hq])
     have HAS:=hid (show r.1.ask.length≤1000000∧ ∀o∈r.1.ask,o.2.length≤400000000 by have h:=packO_ask_ok (c:=cfI mc mt mf wt peer) (a:=⟨st,id,req,L,cnt,tim,nak⟩) (i:=⟨ic,ii,li⟩) (tick:=tick) HAL.out;rw[hq] at h;exact h)
     have HRR:=hid hq
     clear hq
     go_enter Tryz.func30,Tryz.ntmps30
     go_upto_region 1 with(fail)
     refine wp_w (fun W=>W.heap[w.heap.size]? =some (.cells #[.int .i64 mr,.int .i64 mc,.int .i64 mt,.int .i64 mf,.int .i64 wt,.int .i64 ec,.int .i64 lo] 64 (0,0))∧W.heap[w.heap.size+1]? =some (.cells #[.int .i64 st,.int .i64 id,.int .i64 req,.slice Aa na ca,.int .i64 cnt,.int .i64 tim,.int .i64 nak,.int .i64 own,.int .i64 peer] 60 (0,0))∧W.heap[w.heap.size+1+1]? =some (.cells #[.int .i64 ic,.int .i64 ii,.slice Ai ni ci] 32 (0,0))∧W.heap[w.heap.size+1+1+1]? =some (.cells #[.int .i64 0,.int .i64 0,.int .i64 0,.slice none 0 0,.int .i64 0,.int .i64 0,.int .i64 0,.int .i64 0,.int .i64 0] 60 (0,0))∧Below w.heap.size w W) ⟨by exact hpa,by exact hpa,by exact hpa,by exact hpa,by exact bel⟩ ?_
     rintro W1 ⟨hc,hn,hk,hz,hb⟩
     have HC1:=hid hc
     have lc1:=lt_blk hc
     have HN1:=hid hn
     have ln1:=lt_blk hn
     have HK1:=hid hk
     have lk1:=lt_blk hk
     have HZ1:=hid hz
     have lz1:=lt_blk hz
     have HBW1:=hid hb
     have hs1:=hb.size
     obtain⟨c0,c1,c2,c3,c4,c5,c6⟩:=cells7 hc
     obtain⟨n0,n1,n2,n3,n4,n5,n6,n7,n8⟩:=cells9 hn
     clear hc hn hk hz hb
     go_wp2_with fail
     refine(ibegin_any mr mc mt mf wt ec lo st id req cnt tim nak own peer Aa na ca tick E L HL.out _ W1.heap.size (Nat.le_refl _) ((HE.out.keep (HBW1.out.mono HB.out)).more (by have:=HB.out;omega)) HNA.out HP.out).mono ?_
     unfold BeginP
     rw[HF.out]
     rintro x W2 ⟨b,A8,rfl,hb,hbl,hrow,hR⟩
     clear c0 c1 c2 c3 c4 c5 c6 n0 n1 n2 n3 n4 n5 n6 n7 n8
     have HROW2:=hid hrow
     have HR2:=hid hR
     have lb2:=lt_blk hrow
     clear hrow hR
     have hZb:b≠w.heap.size+1+1+1:=by omega
     have hbs:w.heap.size≤b:=by omega
     have HBW2:=hid (HBW1.out.trans (hb.mono HBW1.out.size))
     have hs2:=HBW2.out.size
     have HZ2:=hid ((hb.block _ lz1).trans HZ1.out)
     have lz2:=lt_blk HZ2.out
     have hk:=(hb.block _ lk1).trans HK1.out
     have HK2:=hid hk
     obtain⟨k0,k1,k2⟩:=cells3 hk
     have lk2:=lt_blk hk
     clear hk
     have HE2:=hid ((HE.out.keep (HBW2.out.mono HB.out)).more (show B≤W2.heap.size by have:=HB.out;omega))
     clear hb
     go_wp2_with fail
     refine(Cp.enc_any ic ii Ai ni ci li _ B (by have:=HB.out;omega) (HI.out.keep (HBW2.out.mono HB.out)) HNI.out (by omega)).mono ?_
     unfold Cp.EncP
     rw[HEN.out]
     rintro x W3 ⟨v3,rfl,hb,-⟩
     have HROW3:=hid ((hb.block _ lb2).trans HROW2.out)
     have lb3:=lt_blk HROW3.out
     have HR3:=hid (HR2.out.keep (hb.mono (Nat.le_of_lt lb2)))
     clear k0 k1 k2
     have HBW3:=hid (HBW2.out.trans (hb.mono HBW2.out.size))
     have hs3:=HBW3.out.size
     have HZ3:=hid ((hb.block _ lz2).trans HZ2.out)
     have lz3:=lt_blk HZ3.out
     have hk:=(hb.block _ lk2).trans HK2.out
     have HK3:=hid hk
     obtain⟨k0,k1,k2⟩:=cells3 hk
     have lk3:=lt_blk hk
     clear hk
     have HE3:=hid ((HE.out.keep (HBW3.out.mono HB.out)).more (show B≤W3.heap.size by have:=HB.out;omega))
     clear hb
     clear lb2 lz2 lk2
     have HRW:=hid (HR3.out.more (Nat.le_of_lt lb3))
     have HI3:=hid (HI.out.keep (HBW3.out.mono HB.out)|>.more (show B≤W3.heap.size by have:=HB.out;omega))
     go_wp2_with (first|(go_at_call 72;refine(within_it _ _ _ _ (by assumption)).mono ?_;rintro e w9 ⟨rfl,rfl⟩)|(go_at_call 72;refine(within_if _ _ _ _ (by assumption)).mono ?_;rintro e w9 ⟨rfl,rfl⟩))
     obtain⟨⟨x0,x1,x2,x3,x4,x5,x6⟩,⟨x7,x8,x9,x10,x11⟩,-⟩:=runC_get HROW3.out
     dsimp only at x0 x1 x2 x4 x5 x6
     refine wp_region_c 13 (fun w'=>w'.cell? ⟨b,0,none⟩=some (.int .i64 st)∧w'.cell? ⟨b,1,none⟩=some (.int .i64 id)∧w'.cell? ⟨b,2,none⟩=some (.int .i64 req)∧w'.cell? ⟨b,3,none⟩=some (.slice Aa na ca)∧w'.cell? ⟨b,4,none⟩=some (.int .i64 cnt)∧w'.cell? ⟨b,5,none⟩=some (.int .i64 tim)∧w'.cell? ⟨b,6,none⟩=some (.int .i64 nak)∧w'.cell? ⟨b,7,none⟩=some (.slice A8 1 1)∧w'.cell? ⟨b,8,none⟩=some (.int .i64 mc)∧w'.cell? ⟨b,9,none⟩=some (.int .i64 mt)∧w'.cell? ⟨b,10,none⟩=some (.int .i64 mf)∧w'.cell? ⟨b,11,none⟩=some (.int .i64 wt)∧w'.cell? ⟨w.heap.size+1+1,0,none⟩=some (.int .i64 ic)∧w'.cell? ⟨w.heap.size+1+1,1,none⟩=some (.int .i64 ii)∧w'.cell? ⟨w.heap.size+1+1,2,none⟩=some (.slice Ai ni ci)) (by kernel_rfl) (by(try dsimp only);(first|(go_keep;done)|(go_simp;done)|(simp[go_sem];done))) (fun hHeld=>?_)
     refine tkW 0 (v:=?_) (sc_of hHeld) ?_ ?_
     rotate_left
     ·(intro w;go_simp;try with_reducible rfl)
     try simp only[Act.put,List.setIfInBounds_toArray,List.set_cons_zero,List.set_cons_succ]
     refine tkW 1 (v:=?_) (sc_of hHeld) ?_ ?_
     rotate_left
     ·(intro w;go_simp;try with_reducible rfl)
     try simp only[Act.put,List.setIfInBounds_toArray,List.set_cons_zero,List.set_cons_succ]
     refine tkW 2 (v:=?_) (sc_of hHeld) ?_ ?_
     rotate_left
     ·(intro w;go_simp;try with_reducible rfl)
     try simp only[Act.put,List.setIfInBounds_toArray,List.set_cons_zero,List.set_cons_succ]
     refine tkW 3 (v:=?_) (sc_of hHeld) ?_ ?_
     rotate_left
     ·(intro w;go_simp;try with_reducible rfl)
     try simp only[Act.put,List.setIfInBounds_toArray,List.set_cons_zero,List.set_cons_succ]
     refine tkW 4 (v:=?_) (sc_of hHeld) ?_ ?_
     rotate_left
     ·(intro w;go_simp;try with_reducible rfl)
     try simp only[Act.put,List.setIfInBounds_toArray,List.set_cons_zero,List.set_cons_succ]
     refine tkW 5 (v:=?_) (sc_of hHeld) ?_ ?_
     rotate_left
     ·(intro w;go_simp;try with_reducible rfl)
     try simp only[Act.put,List.setIfInBounds_toArray,List.set_cons_zero,List.set_cons_succ]
     refine tkL 6 (v:=?_) hHeld ?_ ?_
     rotate_left
     ·(intro w h;(try dsimp only at h);go_simp;try with_reducible rfl)
     try simp only[Act.put,List.setIfInBounds_toArray,List.set_cons_zero,List.set_cons_succ]
     refine tkW 7 (v:=?_) (sc_of hHeld) ?_ ?_
     rotate_left
     ·(intro w;go_simp;try with_reducible rfl)
     try simp only[Act.put,List.setIfInBounds_toArray,List.set_cons_zero,List.set_cons_succ]
     refine tkW 8 (v:=?_) (sc_of hHeld) ?_ ?_
     rotate_left
     ·(intro w;go_simp;try with_reducible rfl)
     try simp only[Act.put,List.setIfInBounds_toArray,List.set_cons_zero,List.set_cons_succ]
     refine tkW 9 (v:=?_) (sc_of hHeld) ?_ ?_
     rotate_left
     ·(intro w;go_simp;try with_reducible rfl)
     try simp only[Act.put,List.setIfInBounds_toArray,List.set_cons_zero,List.set_cons_succ]
     refine tkL 10 (v:=?_) hHeld ?_ ?_
     rotate_left
     ·(intro w h;(try dsimp only at h);go_simp;try with_reducible rfl)
     try simp only[Act.put,List.setIfInBounds_toArray,List.set_cons_zero,List.set_cons_succ]
     refine tkL 11 (v:=?_) hHeld ?_ ?_
     rotate_left
     ·(intro w h;(try dsimp only at h);go_simp;try with_reducible rfl)
     try simp only[Act.put,List.setIfInBounds_toArray,List.set_cons_zero,List.set_cons_succ]
     refine tkW 12 (v:=?_) (sc_of hHeld) ?_ ?_
     rotate_left
     ·(intro w;go_simp;try with_reducible rfl)
     try simp only[Act.put,List.setIfInBounds_toArray,List.set_cons_zero,List.set_cons_succ]
     refine stepP (i:=13) (o:=_) rfl (by kernel_rfl) (by kernel_rfl) (fun K hK=>?_)
     (go_simp;go_at_call 19;go_must (refine(pack_any A8 Aa Ai 1 1 na ca ni ci [ruleI peer] mc mt mf wt st id req cnt tim nak ic ii tick E li _ W3.heap.size (by first|exact Nat.le_refl _|(simp;done)) (by exact HRW.out.keep (by exact bel)) rfl (by omega) (by exact HE3.out.keep (by exact bel)) HNA.out hla HDB.out (by exact HI3.out.keep (by exact bel)) HNI.out hci hli).mono ?_);rw[HL.out,show packO ⟨[ruleI peer],mc,mt,mf,wt⟩ ⟨st,id,req,L,cnt,tim,nak⟩ ⟨ic,ii,li⟩ tick=(r,ok) from HRR.out];unfold PackP auV;(try dsimp only);rintro x wv ⟨va3,vo3,vd3,rfl,hb3,hO,hP,hA⟩;obtain⟨A2,n2,c2,rfl⟩:=hO.form';obtain⟨A3,n3,c3,rfl⟩:=hP.form';obtain⟨A4,n4,c4,rfl⟩:=hA.form';have hr3:=(hb3.block _ lb3).trans HROW3.out;have HB3:=hid hb3;have HO3:=hid hO;have HP3:=hid hP;have HA3:=hid hA;have lbv:=lt_blk hr3;clear hb3 hO hP hA;obtain⟨⟨y0,y1,y2,y3,y4,y5,y6⟩,-,-,-,-,y22,y23⟩:=runC_get hr3;have fr:=frees hr3;clear hr3)
     refine hK.out _ _ ?_
     clear hK K
     try simp only[Act.put,List.setIfInBounds_toArray,List.set_cons_zero,List.set_cons_succ]
     refine tkW 14 (v:=?_) (sc_past (by kernel_rfl)) ?_ ?_
     rotate_left
     ·(intro w;go_simp;try with_reducible rfl)
     try simp only[Act.put,List.setIfInBounds_toArray,List.set_cons_zero,List.set_cons_succ]
     refine tkW 15 (v:=?_) (sc_past (by kernel_rfl)) ?_ ?_
     rotate_left
     ·(intro w;go_simp;try with_reducible rfl)
     try simp only[Act.put,List.setIfInBounds_toArray,List.set_cons_zero,List.set_cons_succ]
     refine tkW 16 (v:=?_) (sc_past (by kernel_rfl)) ?_ ?_
     rotate_left
     ·(intro w;go_simp;try with_reducible rfl)
     try simp only[Act.put,List.setIfInBounds_toArray,List.set_cons_zero,List.set_cons_succ]
     refine tkW 17 (v:=?_) (sc_past (by kernel_rfl)) ?_ ?_
     rotate_left
     ·(intro w;go_simp;try with_reducible rfl)
     try simp only[Act.put,List.setIfInBounds_toArray,List.set_cons_zero,List.set_cons_succ]
     refine tkW 18 (v:=?_) (sc_past (by kernel_rfl)) ?_ ?_
     rotate_left
     ·(intro w;go_simp;try with_reducible rfl)
     try simp only[Act.put,List.setIfInBounds_toArray,List.set_cons_zero,List.set_cons_succ]
     refine tkW 19 (v:=?_) (sc_past (by kernel_rfl)) ?_ ?_
     rotate_left
     ·(intro w;go_simp;try with_reducible rfl)
     try simp only[Act.put,List.setIfInBounds_toArray,List.set_cons_zero,List.set_cons_succ]
     refine tkW 20 (v:=?_) (sc_past (by kernel_rfl)) ?_ ?_
     rotate_left
     ·(intro w;go_simp;try with_reducible rfl)
     try simp only[Act.put,List.setIfInBounds_toArray,List.set_cons_zero,List.set_cons_succ]
     refine stepP (i:=21) (o:=_) rfl (by kernel_rfl) (by kernel_rfl) (fun K hK=>?_)
     go_simp
     refine hK.out _ _ ?_
     clear hK K
     try simp only[Act.put,List.setIfInBounds_toArray,List.set_cons_zero,List.set_cons_succ]
     refine tkW 22 (v:=?_) (sc_past (by kernel_rfl)) ?_ ?_
     rotate_left
     ·(intro w;go_simp;try with_reducible rfl)
     try simp only[Act.put,List.setIfInBounds_toArray,List.set_cons_zero,List.set_cons_succ]
     refine tkW 23 (v:=?_) (sc_past (by kernel_rfl)) ?_ ?_
     rotate_left
     ·(intro w;go_simp;try with_reducible rfl)
     try simp only[Act.put,List.setIfInBounds_toArray,List.set_cons_zero,List.set_cons_succ]
     refine stepP (i:=24) (o:=_) rfl (by kernel_rfl) (by kernel_rfl) (fun K hK=>?_)
     go_simp
     refine hK.out _ _ ?_
     clear hK K
     try simp only[Act.put,List.setIfInBounds_toArray,List.set_cons_zero,List.set_cons_succ]
     refine tkW 25 (v:=?_) (sc_past (by kernel_rfl)) ?_ ?_
     rotate_left
     ·(intro w;go_simp;try with_reducible rfl)
     try simp only[Act.put,List.setIfInBounds_toArray,List.set_cons_zero,List.set_cons_succ]
     refine tkW 26 (v:=?_) (sc_past (by kernel_rfl)) ?_ ?_
     rotate_left
     ·(intro w;go_simp;try with_reducible rfl)
     try simp only[Act.put,List.setIfInBounds_toArray,List.set_cons_zero,List.set_cons_succ]
     refine stepP (i:=27) (o:=_) rfl (by kernel_rfl) (by kernel_rfl) (fun K hK=>?_)
     go_simp
     refine hK.out _ _ ?_
     clear hK K
     try simp only[Act.put,List.setIfInBounds_toArray,List.set_cons_zero,List.set_cons_succ]
     try simp only[Act.put,List.getElem_toArray,List.getElem_cons_zero,List.getElem_cons_succ,List.setIfInBounds_toArray,List.set_cons_zero,List.set_cons_succ]
     refine doneC (by kernel_rfl) ?_ _
     generalize hWf:World.setCell _ _ _=W5
     have hev:EventP b r (.slice A8 1 1) mc mt mf wt ⟨st,id,req,L,cnt,tim,nak⟩ (.slice Aa na ca) own peer tick W3 W5:=by rw[←hWf];exact EventP.of (W2:=W3.drew) (Below.refl _ _).drew HROW3.out HB3.out HO3.out HP3.out HA3.out
     obtain⟨va5,vo5,vd5,hr5,hg5,hO5,hP5,hA5⟩:=hev
     clear hWf x0 x1 x2 x3 x4 x5 x6 x7 x8 x9 x10 x11 y0 y1 y2 y3 y4 y5 y6 y22 y23 fr
     have HBW5:=hid (Below.grown HBW3.out hg5 HBW3.out.size (fun k hk=>by cases hk;omega))
     have HZ5:=hid ((hg5.block _ lz3 (fun e=>hZb (by cases e;rfl))).trans HZ3.out)
     have lz5:=lt_blk HZ5.out
     have hs5:=HBW5.out.size
     obtain⟨E5,hE5,hEL5⟩:=hO5
     obtain⟨A5,c5,hv5,hc5,-⟩:=ownsRow_form hE5.1
     obtain⟨n5,hn5⟩: ∃n,E5.length=n:=⟨_,rfl⟩
     rw[hn5] at hv5
     subst hv5
     have HE5:=hid hE5.at
     have HN5:=hid hn5.symm
     have HEL5:=hid hEL5
     have HROW5:=hid hr5
     have HP5:=hid (hP5.bas (b':=w.heap.size) (by omega))
     have HA5:=hid (own_base hA5 (show w.heap.size≤W3.heap.size by omega))
     have HS5:=hid (ask_ents HAS.out HEL5.out)
     have hn64:n5≤1000000:=by have:=HS5.out.1;have:=HN5.out;omega
     clear hr5 hg5 hE5 hEL5 hP5 hA5 hn5
     obtain⟨a9,out9,acts9⟩:=r
     dsimp only at HE5 HEL5 HROW5 HP5 HA5
     go_wp2_with fail
     refine(told_any b a9 A5 n5 c5 (.slice A8 1 1) mc mt mf wt ⟨st,id,req,L,cnt,tim,nak⟩ (.slice Aa na ca) own peer tick vo5 vd5 E5 _ W5.heap.size (Nat.le_refl _) HROW5.out HE5.out HN5.out hn64 HS5.out.2 HEL5.out).mono ?_
     rintro x W9 ⟨va9,rfl,hb9,ho9⟩
     obtain⟨A9,n9,c9,rfl⟩:=ho9.form'
     unfold npV
     dsimp only
     have hz9:=(hb9.block _ lz5).trans HZ5.out
     have lz9:=lt_blk hz9
     obtain⟨z0,z1,z2,z3,z4,z5,z6,z7,z8⟩:=cells9 hz9
     have fz:=frees hz9
     have HZ9:=hid hz9
     have HB9:=hid hb9
     have HO9:=hid ho9
     clear hz9 hb9 ho9
     go_wp2_with fail
     generalize hWf:World.setCell _ _ _=Wf
     have hgr:W9.grownBy Wf (some (w.heap.size+1+1+1)):=by rw[←hWf];exact grn
     have hrow:=(show Wf.heap[w.heap.size+1+1+1]? =some (.cells #[_,_,_,_,_,_,_,_,_] 60 (0,0)) by rw[←hWf];exact row9 HZ9.out rfl _ _ _ _ _ _ _ _ _)
     clear hWf z0 z1 z2 z3 z4 z5 z6 z7 z8 fz
     obtain⟨u0,u1,u2,u3,u4,u5,u6,u7,u8⟩:=cells9 hrow
     refine bodyPost_ret (v:=.tuple #[npV (a9) (.slice A9 n9 c9) own peer,vo5,vd5]) (by unfold npV;simp[results,Tryz.results30,go_sem,u0,u1,u2,u3,u4,u5,u6,u7,u8]) rfl ?_
     rw[HV.out]
     exact IDoP.fin HBW5.out HZ5.out (by omega) HB9.out HO9.out HP5.out HA5.out hgr
  ·have h3:(en !=0)=true:=by simpa using h2
   have HV:=hid (show iPackO mc mt mf wt ⟨st,id,req,L,cnt,tim,nak⟩ own peer ⟨ic,ii,li⟩ tick=(⟨st,id,req,L,cnt,tim,nak⟩,[],[]) by unfold iPackO;rw[if_neg (fun h=>h2 (hen.symm.trans h.2))])
   clear h1 hen
   go_enter Tryz.func30,Tryz.ntmps30
   go_upto_region 1 with(fail)
   refine wp_w (fun W=>W.heap[w.heap.size]? =some (.cells #[.int .i64 mr,.int .i64 mc,.int .i64 mt,.int .i64 mf,.int .i64 wt,.int .i64 ec,.int .i64 lo] 64 (0,0))∧W.heap[w.heap.size+1]? =some (.cells #[.int .i64 st,.int .i64 id,.int .i64 req,.slice Aa na ca,.int .i64 cnt,.int .i64 tim,.int .i64 nak,.int .i64 own,.int .i64 peer] 60 (0,0))∧W.heap[w.heap.size+1+1]? =some (.cells #[.int .i64 ic,.int .i64 ii,.slice Ai ni ci] 32 (0,0))∧W.heap[w.heap.size+1+1+1]? =some (.cells #[.int .i64 0,.int .i64 0,.int .i64 0,.slice none 0 0,.int .i64 0,.int .i64 0,.int .i64 0,.int .i64 0,.int .i64 0] 60 (0,0))∧Below w.heap.size w W) ⟨by exact hpa,by exact hpa,by exact hpa,by exact hpa,by exact bel⟩ ?_
   rintro W1 ⟨hc,hn,hk,hz,hb⟩
   have HC1:=hid hc
   have lc1:=lt_blk hc
   have HN1:=hid hn
   have ln1:=lt_blk hn
   have HK1:=hid hk
   have lk1:=lt_blk hk
   have HZ1:=hid hz
   have lz1:=lt_blk hz
   have HBW1:=hid hb
   have hs1:=hb.size
   obtain⟨c0,c1,c2,c3,c4,c5,c6⟩:=cells7 hc
   obtain⟨n0,n1,n2,n3,n4,n5,n6,n7,n8⟩:=cells9 hn
   clear hc hn hk hz hb
   go_wp2_with fail
   refine(ibegin_any mr mc mt mf wt ec lo st id req cnt tim nak own peer Aa na ca tick E L HL.out _ W1.heap.size (Nat.le_refl _) ((HE.out.keep (HBW1.out.mono HB.out)).more (by have:=HB.out;omega)) HNA.out HP.out).mono ?_
   unfold BeginP
   rw[HF.out]
   rintro x W2 ⟨b,A8,rfl,hb,hbl,hrow,hR⟩
   clear c0 c1 c2 c3 c4 c5 c6 n0 n1 n2 n3 n4 n5 n6 n7 n8
   have HROW2:=hid hrow
   have HR2:=hid hR
   have lb2:=lt_blk hrow
   clear hrow hR
   have hZb:b≠w.heap.size+1+1+1:=by omega
   have hbs:w.heap.size≤b:=by omega
   have HBW2:=hid (HBW1.out.trans (hb.mono HBW1.out.size))
   have hs2:=HBW2.out.size
   have HZ2:=hid ((hb.block _ lz1).trans HZ1.out)
   have lz2:=lt_blk HZ2.out
   have hk:=(hb.block _ lk1).trans HK1.out
   have HK2:=hid hk
   obtain⟨k0,k1,k2⟩:=cells3 hk
   have lk2:=lt_blk hk
   clear hk
   have HE2:=hid ((HE.out.keep (HBW2.out.mono HB.out)).more (show B≤W2.heap.size by have:=HB.out;omega))
   clear hb
   go_wp2_with fail
   refine(Cp.enc_any ic ii Ai ni ci li _ B (by have:=HB.out;omega) (HI.out.keep (HBW2.out.mono HB.out)) HNI.out (by omega)).mono ?_
   unfold Cp.EncP
   rw[HEN.out]
   rintro x W3 ⟨v3,rfl,hb,-⟩
   have HROW3:=hid ((hb.block _ lb2).trans HROW2.out)
   have lb3:=lt_blk HROW3.out
   have HR3:=hid (HR2.out.keep (hb.mono (Nat.le_of_lt lb2)))
   clear k0 k1 k2
   have HBW3:=hid (HBW2.out.trans (hb.mono HBW2.out.size))
   have hs3:=HBW3.out.size
   have HZ3:=hid ((hb.block _ lz2).trans HZ2.out)
   have lz3:=lt_blk HZ3.out
   have hk:=(hb.block _ lk2).trans HK2.out
   have HK3:=hid hk
   obtain⟨k0,k1,k2⟩:=cells3 hk
   have lk3:=lt_blk hk
   clear hk
   have HE3:=hid ((HE.out.keep (HBW3.out.mono HB.out)).more (show B≤W3.heap.size by have:=HB.out;omega))
   clear hb
   clear lb2 lz2 lk2
   go_wp2_with fail
   refine(told_any b ⟨st,id,req,L,cnt,tim,nak⟩ Aa na ca (.slice A8 1 1) mc mt mf wt ⟨st,id,req,L,cnt,tim,nak⟩ (.slice Aa na ca) own peer tick (.slice none 0 0) (.slice none 0 0) E _ W3.heap.size (Nat.le_refl _) HROW3.out HE3.out HNA.out hla HDA.out HL.out).mono ?_
   rintro x W9 ⟨va9,rfl,hb9,ho9⟩
   obtain⟨A9,n9,c9,rfl⟩:=ho9.form'
   unfold npV
   dsimp only
   have hz9:=(hb9.block _ lz3).trans HZ3.out
   have lz9:=lt_blk hz9
   obtain⟨z0,z1,z2,z3,z4,z5,z6,z7,z8⟩:=cells9 hz9
   have fz:=frees hz9
   have HZ9:=hid hz9
   have HB9:=hid hb9
   have HO9:=hid ho9
   clear hz9 hb9 ho9
   go_wp2_with fail
   generalize hWf:World.setCell _ _ _=Wf
   have hgr:W9.grownBy Wf (some (w.heap.size+1+1+1)):=by rw[←hWf];exact grn
   have hrow:=(show Wf.heap[w.heap.size+1+1+1]? =some (.cells #[_,_,_,_,_,_,_,_,_] 60 (0,0)) by rw[←hWf];exact row9 HZ9.out rfl _ _ _ _ _ _ _ _ _)
   clear hWf z0 z1 z2 z3 z4 z5 z6 z7 z8 fz
   obtain⟨u0,u1,u2,u3,u4,u5,u6,u7,u8⟩:=cells9 hrow
   refine bodyPost_ret (v:=.tuple #[npV (⟨st,id,req,L,cnt,tim,nak⟩) (.slice A9 n9 c9) own peer,(.slice none 0 0),(.slice none 0 0)]) (by unfold npV;simp[results,Tryz.results30,go_sem,u0,u1,u2,u3,u4,u5,u6,u7,u8]) rfl ?_
   rw[HV.out]
   exact IDoP.fin HBW3.out HZ3.out (by omega) HB9.out HO9.out (PksO.nl _ _) (ActsO.nil _ _) hgr
end Go.Proofs.YtfkgmbknfnhjoaaGreat
