/- The reference's controls: what is one, which are the same, settings held against each other. -/
import Derived.Test.YtfkgmbknfnhjoaaGreatZ7
import Derived.Test.YtfkgmbknfnhjoaaGreatPB
import Derived.Test.YtfkgmbknfnhjoaaGreatPY
import Derived.BigQuiet
set_option maxHeartbeats 8000000
namespace Go.Proofs.YtfkgmbknfnhjoaaGreat
open Lib (hid)
open Go.RowKit
set_option linter.unusedSimpArgs false
set_option linter.unusedVariables false
set_option linter.ambiguousOpen false
open Ne (Rl Opt RulesAt areB wf64)
set_option maxRecDepth 100000 in
theorem rcheck_any (Ar Aa:Option Addr) (nr cr na ca:Nat) (R:List Rl) (mc mt mf wt st id req cnt tim nak:Int) (E:List Ent) (L:List Opt) (hL:E.map Ent.o=L) (w:World) (B:Nat) (hB:B≤w.heap.size) (hR:RulesAt w B Ar R) (hnr:nr=R.length) (hlr:nr≤1000000) (hE:OptsAt w B Aa E) (hna:na=E.length):
  Calls Tryz.prog 78 #[.agg #[.int .i64 st,.int .i64 id,.int .i64 req,.slice Aa na ca,.int .i64 cnt,.int .i64 tim,.int .i64 nak],.agg #[.slice Ar nr cr,.int .i64 mc,.int .i64 mt,.int .i64 mf,.int .i64 wt]] w fun x w'=>x=.returned (.int .i64 (checkE ⟨R,mc,mt,mf,wt⟩ ⟨st,id,req,L,cnt,tim,nak⟩))∧Below w.heap.size w w':=by
 have HB:=hid hB
 have HR:=hid hR
 have HNR:=hid hnr
 have HE:=hid hE
 have HNA:=hid hna
 have HL:=hid hL
 clear hB hR hnr hE hna hL
 cases h1:confB ⟨R,mc,mt,mf,wt⟩<;>cases h2:isB ⟨st,id,req,L,cnt,tim,nak⟩
 all_goals
  have H1:=hid h1
  have H2:=hid h2
  clear h1 h2
  go_enter Tryz.func78,Tryz.ntmps78
  go_wp2_with (first|(go_at_call 13;go_must (refine(conf_ref Ar nr cr R mc mt mf wt _ B (by have:=HB.out;first|omega|(simp[size_ext,grow];omega)) (by exact HR.out.keep (by have:=HB.out;exact bel)) HNR.out hlr).mono ?_);rw[H1.out];rintro e w3 ⟨rfl,hb3⟩;obtain⟨xs3,d3,rfl⟩:=ext_of hb3;clear hb3)|(go_at_call 24;go_must (refine(is_ref st id req cnt tim nak Aa na ca E L HL.out _ B (by have:=HB.out;first|omega|(simp[size_ext,grow];omega)) (by exact HE.out.keep (by have:=HB.out;exact bel)) HNA.out).mono ?_);rw[H2.out];rintro e w4 ⟨rfl,hb4⟩;obtain⟨xs4,d4,rfl⟩:=ext_of hb4;clear hb4))
  go_ret
  exact⟨by unfold checkE;rw[H1.out,H2.out];rfl,by have:=HB.out;exact bel⟩
set_option maxRecDepth 100000 in
theorem ris_any (mr mc mt mf wt ec lo:Int) (st id req cnt tim nak own peer:Int) (Aa:Option Addr) (na ca:Nat) (E:List Ent) (L:List Opt) (hL:E.map Ent.o=L) (w:World) (B:Nat) (hB:B≤w.heap.size) (hE:OptsAt w B Aa E) (hna:na=E.length) (hp:wf64 peer):
  Calls Tryz.prog 36 #[.agg #[.int .i64 mr,.int .i64 mc,.int .i64 mt,.int .i64 mf,.int .i64 wt,.int .i64 ec,.int .i64 lo],.agg #[.int .i64 st,.int .i64 id,.int .i64 req,.slice Aa na ca,.int .i64 cnt,.int .i64 tim,.int .i64 nak,.int .i64 own,.int .i64 peer]] w fun x w'=>x=.returned (.bool (okI mc mt mf wt ⟨st,id,req,L,cnt,tim,nak⟩ own peer))∧Below w.heap.size w w':=by
 have HB:=hid hB
 have HE:=hid hE
 have HNA:=hid hna
 have HP:=hid hp
 have HL:=hid hL
 clear hB hE hna hp hL
 by_cases a1:1≤own
 ·by_cases a2:own≤4294967295
  ·by_cases a3:1≤peer
   ·by_cases a4:peer≤4294967295
    ·have HA:=hid (show inB own 1 4294967295=true∧inB peer 1 4294967295=true by unfold inB;simp[a1,a2,a3,a4])
     by_cases h3:confB (cfI mc mt mf wt peer)=true∧isB ⟨st,id,req,L,cnt,tim,nak⟩=true
     ·have HV:=hid (show okI mc mt mf wt ⟨st,id,req,L,cnt,tim,nak⟩ own peer=true by unfold okI;rw[HA.out.1,HA.out.2,h3.1,h3.2];rfl)
      have HK:=hid (show checkE ⟨[ruleI peer],mc,mt,mf,wt⟩ ⟨st,id,req,L,cnt,tim,nak⟩=0 by unfold checkE;exact if_pos h3)
      clear h3
      go_enter Tryz.func36,Tryz.ntmps36
      go_upto_region 1 with(fail)
      refine wp_w (fun W=>W.heap[w.heap.size]? =some (.cells #[.int .i64 mr,.int .i64 mc,.int .i64 mt,.int .i64 mf,.int .i64 wt,.int .i64 ec,.int .i64 lo] 64 (0,0))∧W.heap[w.heap.size+1]? =some (.cells #[.int .i64 st,.int .i64 id,.int .i64 req,.slice Aa na ca,.int .i64 cnt,.int .i64 tim,.int .i64 nak,.int .i64 own,.int .i64 peer] 60 (0,0))∧Below w.heap.size w W) ⟨by exact hpa,by exact hpa,by exact bel⟩ ?_
      rintro W1 ⟨hc,hn,hb⟩
      have HB1:=hid hb
      have hs1:=hb.size
      have lc:=lt_blk hc
      have ln:=lt_blk hn
      obtain⟨c0,c1,c2,c3,c4,c5,c6⟩:=cells7 hc
      obtain⟨n0,n1,n2,n3,n4,n5,n6,n7,n8⟩:=cells9 hn
      clear hc hn hb
      go_region_held3 (fun w'=>w'.cell? ⟨w.heap.size,0,none⟩=some (.int .i64 mr)∧w'.cell? ⟨w.heap.size,1,none⟩=some (.int .i64 mc)∧w'.cell? ⟨w.heap.size,2,none⟩=some (.int .i64 mt)∧w'.cell? ⟨w.heap.size,3,none⟩=some (.int .i64 mf)∧w'.cell? ⟨w.heap.size,4,none⟩=some (.int .i64 wt)∧w'.cell? ⟨w.heap.size,5,none⟩=some (.int .i64 ec)∧w'.cell? ⟨w.heap.size,6,none⟩=some (.int .i64 lo)∧w'.cell? ⟨w.heap.size+1,0,none⟩=some (.int .i64 st)∧w'.cell? ⟨w.heap.size+1,1,none⟩=some (.int .i64 id)∧w'.cell? ⟨w.heap.size+1,2,none⟩=some (.int .i64 req)∧w'.cell? ⟨w.heap.size+1,3,none⟩=some (.slice Aa na ca)∧w'.cell? ⟨w.heap.size+1,4,none⟩=some (.int .i64 cnt)∧w'.cell? ⟨w.heap.size+1,5,none⟩=some (.int .i64 tim)∧w'.cell? ⟨w.heap.size+1,6,none⟩=some (.int .i64 nak)∧w'.cell? ⟨w.heap.size+1,7,none⟩=some (.int .i64 own)∧w'.cell? ⟨w.heap.size+1,8,none⟩=some (.int .i64 peer)) (first|(go_keep;done)|(go_simp;done)|(simp[go_sem];done)) (first|(go_at_call 42;go_must (refine(rauto_any mr mc mt mf wt ec lo peer HP.out _).mono ?_);rintro e w8 ⟨A8,rfl,hb8,hR8⟩;obtain⟨xs8,d8,rfl⟩:=ext_of hb8;have HR8:=hid hR8;clear hb8 hR8)|(go_at_call 78;go_must (refine(rcheck_any A8 Aa 1 1 na ca [ruleI peer] mc mt mf wt st id req cnt tim nak E L HL.out _ _ (Nat.le_refl _) (by exact(HR8.out.keep (by exact bel)).more (by simp[size_ext,grow])) rfl (by omega) (by exact(HE.out.keep (HB1.out.mono HB.out|>.trans (by have:=HB.out;exact bel))).more (by have:=HB.out;simp[size_ext,grow];omega)) HNA.out).mono ?_);rw[HK.out];rintro e w7 ⟨rfl,hb7⟩;obtain⟨xs7,d7,rfl⟩:=ext_of hb7;clear hb7))
      all_goals
       go_wp2_with fail
       go_ret
       exact⟨by rw[HV.out];rfl,by have:=HB1.out;exact bel⟩
     ·have HV:=hid (show okI mc mt mf wt ⟨st,id,req,L,cnt,tim,nak⟩ own peer=false by
       unfold okI
       rw[HA.out.1,HA.out.2]
       simpa using h3)
      have HK:=hid (show checkE ⟨[ruleI peer],mc,mt,mf,wt⟩ ⟨st,id,req,L,cnt,tim,nak⟩=160 by unfold checkE;exact if_neg h3)
      clear h3
      go_enter Tryz.func36,Tryz.ntmps36
      go_upto_region 1 with(fail)
      refine wp_w (fun W=>W.heap[w.heap.size]? =some (.cells #[.int .i64 mr,.int .i64 mc,.int .i64 mt,.int .i64 mf,.int .i64 wt,.int .i64 ec,.int .i64 lo] 64 (0,0))∧W.heap[w.heap.size+1]? =some (.cells #[.int .i64 st,.int .i64 id,.int .i64 req,.slice Aa na ca,.int .i64 cnt,.int .i64 tim,.int .i64 nak,.int .i64 own,.int .i64 peer] 60 (0,0))∧Below w.heap.size w W) ⟨by exact hpa,by exact hpa,by exact bel⟩ ?_
      rintro W1 ⟨hc,hn,hb⟩
      have HB1:=hid hb
      have hs1:=hb.size
      have lc:=lt_blk hc
      have ln:=lt_blk hn
      obtain⟨c0,c1,c2,c3,c4,c5,c6⟩:=cells7 hc
      obtain⟨n0,n1,n2,n3,n4,n5,n6,n7,n8⟩:=cells9 hn
      clear hc hn hb
      go_region_held3 (fun w'=>w'.cell? ⟨w.heap.size,0,none⟩=some (.int .i64 mr)∧w'.cell? ⟨w.heap.size,1,none⟩=some (.int .i64 mc)∧w'.cell? ⟨w.heap.size,2,none⟩=some (.int .i64 mt)∧w'.cell? ⟨w.heap.size,3,none⟩=some (.int .i64 mf)∧w'.cell? ⟨w.heap.size,4,none⟩=some (.int .i64 wt)∧w'.cell? ⟨w.heap.size,5,none⟩=some (.int .i64 ec)∧w'.cell? ⟨w.heap.size,6,none⟩=some (.int .i64 lo)∧w'.cell? ⟨w.heap.size+1,0,none⟩=some (.int .i64 st)∧w'.cell? ⟨w.heap.size+1,1,none⟩=some (.int .i64 id)∧w'.cell? ⟨w.heap.size+1,2,none⟩=some (.int .i64 req)∧w'.cell? ⟨w.heap.size+1,3,none⟩=some (.slice Aa na ca)∧w'.cell? ⟨w.heap.size+1,4,none⟩=some (.int .i64 cnt)∧w'.cell? ⟨w.heap.size+1,5,none⟩=some (.int .i64 tim)∧w'.cell? ⟨w.heap.size+1,6,none⟩=some (.int .i64 nak)∧w'.cell? ⟨w.heap.size+1,7,none⟩=some (.int .i64 own)∧w'.cell? ⟨w.heap.size+1,8,none⟩=some (.int .i64 peer)) (first|(go_keep;done)|(go_simp;done)|(simp[go_sem];done)) (first|(go_at_call 42;go_must (refine(rauto_any mr mc mt mf wt ec lo peer HP.out _).mono ?_);rintro e w8 ⟨A8,rfl,hb8,hR8⟩;obtain⟨xs8,d8,rfl⟩:=ext_of hb8;have HR8:=hid hR8;clear hb8 hR8)|(go_at_call 78;go_must (refine(rcheck_any A8 Aa 1 1 na ca [ruleI peer] mc mt mf wt st id req cnt tim nak E L HL.out _ _ (Nat.le_refl _) (by exact(HR8.out.keep (by exact bel)).more (by simp[size_ext,grow])) rfl (by omega) (by exact(HE.out.keep (HB1.out.mono HB.out|>.trans (by have:=HB.out;exact bel))).more (by have:=HB.out;simp[size_ext,grow];omega)) HNA.out).mono ?_);rw[HK.out];rintro e w7 ⟨rfl,hb7⟩;obtain⟨xs7,d7,rfl⟩:=ext_of hb7;clear hb7))
      all_goals
       go_wp2_with fail
       go_ret
       exact⟨by rw[HV.out];rfl,by have:=HB1.out;exact bel⟩
    ·have HV:=hid (show okI mc mt mf wt ⟨st,id,req,L,cnt,tim,nak⟩ own peer=false by
      unfold okI inB
      simp_all<;>(intros;omega))
     go_enter Tryz.func36,Tryz.ntmps36
     go_upto_region 1 with(fail)
     refine wp_w (fun W=>W.heap[w.heap.size]? =some (.cells #[.int .i64 mr,.int .i64 mc,.int .i64 mt,.int .i64 mf,.int .i64 wt,.int .i64 ec,.int .i64 lo] 64 (0,0))∧W.heap[w.heap.size+1]? =some (.cells #[.int .i64 st,.int .i64 id,.int .i64 req,.slice Aa na ca,.int .i64 cnt,.int .i64 tim,.int .i64 nak,.int .i64 own,.int .i64 peer] 60 (0,0))∧Below w.heap.size w W) ⟨by exact hpa,by exact hpa,by exact bel⟩ ?_
     rintro W1 ⟨hc,hn,hb⟩
     have HB1:=hid hb
     have hs1:=hb.size
     have lc:=lt_blk hc
     have ln:=lt_blk hn
     obtain⟨c0,c1,c2,c3,c4,c5,c6⟩:=cells7 hc
     obtain⟨n0,n1,n2,n3,n4,n5,n6,n7,n8⟩:=cells9 hn
     clear hc hn hb
     go_quiet (fail)
     all_goals
      go_wp2_with fail
      go_ret
      exact⟨by rw[HV.out];rfl,by have h:=HB1.out;exact bel⟩
   ·have HV:=hid (show okI mc mt mf wt ⟨st,id,req,L,cnt,tim,nak⟩ own peer=false by
     unfold okI inB
     simp_all<;>(intros;omega))
    go_enter Tryz.func36,Tryz.ntmps36
    go_upto_region 1 with(fail)
    refine wp_w (fun W=>W.heap[w.heap.size]? =some (.cells #[.int .i64 mr,.int .i64 mc,.int .i64 mt,.int .i64 mf,.int .i64 wt,.int .i64 ec,.int .i64 lo] 64 (0,0))∧W.heap[w.heap.size+1]? =some (.cells #[.int .i64 st,.int .i64 id,.int .i64 req,.slice Aa na ca,.int .i64 cnt,.int .i64 tim,.int .i64 nak,.int .i64 own,.int .i64 peer] 60 (0,0))∧Below w.heap.size w W) ⟨by exact hpa,by exact hpa,by exact bel⟩ ?_
    rintro W1 ⟨hc,hn,hb⟩
    have HB1:=hid hb
    have hs1:=hb.size
    have lc:=lt_blk hc
    have ln:=lt_blk hn
    obtain⟨c0,c1,c2,c3,c4,c5,c6⟩:=cells7 hc
    obtain⟨n0,n1,n2,n3,n4,n5,n6,n7,n8⟩:=cells9 hn
    clear hc hn hb
    go_quiet (fail)
    all_goals
     go_wp2_with fail
     go_ret
     exact⟨by rw[HV.out];rfl,by have h:=HB1.out;exact bel⟩
  ·have HV:=hid (show okI mc mt mf wt ⟨st,id,req,L,cnt,tim,nak⟩ own peer=false by
    unfold okI inB
    simp_all<;>(intros;omega))
   go_enter Tryz.func36,Tryz.ntmps36
   go_upto_region 1 with(fail)
   refine wp_w (fun W=>W.heap[w.heap.size]? =some (.cells #[.int .i64 mr,.int .i64 mc,.int .i64 mt,.int .i64 mf,.int .i64 wt,.int .i64 ec,.int .i64 lo] 64 (0,0))∧W.heap[w.heap.size+1]? =some (.cells #[.int .i64 st,.int .i64 id,.int .i64 req,.slice Aa na ca,.int .i64 cnt,.int .i64 tim,.int .i64 nak,.int .i64 own,.int .i64 peer] 60 (0,0))∧Below w.heap.size w W) ⟨by exact hpa,by exact hpa,by exact bel⟩ ?_
   rintro W1 ⟨hc,hn,hb⟩
   have HB1:=hid hb
   have hs1:=hb.size
   have lc:=lt_blk hc
   have ln:=lt_blk hn
   obtain⟨c0,c1,c2,c3,c4,c5,c6⟩:=cells7 hc
   obtain⟨n0,n1,n2,n3,n4,n5,n6,n7,n8⟩:=cells9 hn
   clear hc hn hb
   go_quiet (fail)
   all_goals
    go_wp2_with fail
    go_ret
    exact⟨by rw[HV.out];rfl,by have h:=HB1.out;exact bel⟩
 ·have HV:=hid (show okI mc mt mf wt ⟨st,id,req,L,cnt,tim,nak⟩ own peer=false by
   unfold okI inB
   simp_all<;>(intros;omega))
  go_enter Tryz.func36,Tryz.ntmps36
  go_upto_region 1 with(fail)
  refine wp_w (fun W=>W.heap[w.heap.size]? =some (.cells #[.int .i64 mr,.int .i64 mc,.int .i64 mt,.int .i64 mf,.int .i64 wt,.int .i64 ec,.int .i64 lo] 64 (0,0))∧W.heap[w.heap.size+1]? =some (.cells #[.int .i64 st,.int .i64 id,.int .i64 req,.slice Aa na ca,.int .i64 cnt,.int .i64 tim,.int .i64 nak,.int .i64 own,.int .i64 peer] 60 (0,0))∧Below w.heap.size w W) ⟨by exact hpa,by exact hpa,by exact bel⟩ ?_
  rintro W1 ⟨hc,hn,hb⟩
  have HB1:=hid hb
  have hs1:=hb.size
  have lc:=lt_blk hc
  have ln:=lt_blk hn
  obtain⟨c0,c1,c2,c3,c4,c5,c6⟩:=cells7 hc
  obtain⟨n0,n1,n2,n3,n4,n5,n6,n7,n8⟩:=cells9 hn
  clear hc hn hb
  go_quiet (fail)
  all_goals
   go_wp2_with fail
   go_ret
   exact⟨by rw[HV.out];rfl,by have h:=HB1.out;exact bel⟩
def sameI (a b:Au) (o1 q1 o2 q2:Int):Bool:=sameA a b&&(o1==o2&&q1==q2)
set_option maxRecDepth 100000 in
theorem rsameI_any (s1 i1 r1 c1 t1 k1 o1 q1 s2 i2 r2 c2 t2 k2 o2 q2:Int) (A1 A2:Option Addr) (n1 n2 m1 m2:Nat) (E1 E2:List Ent) (L1 L2:List Opt) (hL1:E1.map Ent.o=L1) (hL2:E2.map Ent.o=L2) (w:World) (B:Nat) (hB:B≤w.heap.size) (hE1:OptsAt w B A1 E1) (hE2:OptsAt w B A2 E2) (hn1:n1=E1.length) (hn2:n2=E2.length) (hl:n1≤1000000):Calls Tryz.prog 39 #[.agg #[.int .i64 s1,.int .i64 i1,.int .i64 r1,.slice A1 n1 m1,.int .i64 c1,.int .i64 t1,.int .i64 k1,.int .i64 o1,.int .i64 q1],.agg #[.int .i64 s2,.int .i64 i2,.int .i64 r2,.slice A2 n2 m2,.int .i64 c2,.int .i64 t2,.int .i64 k2,.int .i64 o2,.int .i64 q2]] w fun x w'=>x=.returned (.bool (sameI ⟨s1,i1,r1,L1,c1,t1,k1⟩ ⟨s2,i2,r2,L2,c2,t2,k2⟩ o1 q1 o2 q2))∧Below w.heap.size w w':=by
 have HB:=hid hB
 have HE1:=hid hE1
 have HE2:=hid hE2
 have HN1:=hid hn1
 have HN2:=hid hn2
 have HL1:=hid hL1
 have HL2:=hid hL2
 clear hB hE1 hE2 hn1 hn2 hL1 hL2
 cases hs:sameA ⟨s1,i1,r1,L1,c1,t1,k1⟩ ⟨s2,i2,r2,L2,c2,t2,k2⟩<;>cases ho:(o1==o2)
 all_goals
  have HS:=hid hs
  have HO:=hid ho
  clear hs
  go_enter Tryz.func39,Tryz.ntmps39
  go_upto_region 1 with(fail)
  refine wp_w (fun W=>W.heap[w.heap.size]? =some (.cells #[.int .i64 s1,.int .i64 i1,.int .i64 r1,.slice A1 n1 m1,.int .i64 c1,.int .i64 t1,.int .i64 k1,.int .i64 o1,.int .i64 q1] 60 (0,0))∧W.heap[w.heap.size+1]? =some (.cells #[.int .i64 s2,.int .i64 i2,.int .i64 r2,.slice A2 n2 m2,.int .i64 c2,.int .i64 t2,.int .i64 k2,.int .i64 o2,.int .i64 q2] 60 (0,0))∧Below w.heap.size w W) ⟨by exact hpa,by exact hpa,by exact bel⟩ ?_
  rintro W1 ⟨hx,hy,hb⟩
  have HB1:=hid hb
  have hs1:=hb.size
  have lx:=lt_blk hx
  have ly:=lt_blk hy
  obtain⟨x0,x1,x2,x3,x4,x5,x6,x7,x8⟩:=cells9 hx
  obtain⟨y0,y1,y2,y3,y4,y5,y6,y7,y8⟩:=cells9 hy
  clear hx hy hb
  go_wp2_with (go_at_call 21;go_must (refine(same_ref s1 i1 r1 c1 t1 k1 s2 i2 r2 c2 t2 k2 A1 A2 n1 n2 m1 m2 E1 E2 L1 L2 HL1.out HL2.out W1 B (by have:=HB.out;omega) (HE1.out.keep (HB1.out.mono HB.out)) (HE2.out.keep (HB1.out.mono HB.out)) HN1.out HN2.out hl).mono ?_);rw[HS.out];rintro e w3 ⟨rfl,hb3⟩;obtain⟨xs3,d3,rfl⟩:=ext_of hb3;clear hb3)
  go_ret
  exact⟨by unfold sameI;rw[HS.out,HO.out];rfl,by have:=HB1.out;exact bel⟩
set_option maxRecDepth 100000 in
theorem isameI_any (s1 i1 r1 c1 t1 k1 o1 q1 s2 i2 r2 c2 t2 k2 o2 q2:Int) (A1 A2:Option Addr) (n1 n2 m1 m2:Nat) (E1 E2:List Ent) (L1 L2:List Opt) (hL1:E1.map Ent.o=L1) (hL2:E2.map Ent.o=L2) (w:World) (B:Nat) (hB:B≤w.heap.size) (hE1:OptsAt w B A1 E1) (hE2:OptsAt w B A2 E2) (hn1:n1=E1.length) (hn2:n2=E2.length) (hl:n1≤1000000):Calls Tryz.prog 43 #[.agg #[.int .i64 s1,.int .i64 i1,.int .i64 r1,.slice A1 n1 m1,.int .i64 c1,.int .i64 t1,.int .i64 k1,.int .i64 o1,.int .i64 q1],.agg #[.int .i64 s2,.int .i64 i2,.int .i64 r2,.slice A2 n2 m2,.int .i64 c2,.int .i64 t2,.int .i64 k2,.int .i64 o2,.int .i64 q2]] w fun x w'=>x=.returned (.bool (sameI ⟨s1,i1,r1,L1,c1,t1,k1⟩ ⟨s2,i2,r2,L2,c2,t2,k2⟩ o1 q1 o2 q2))∧Below w.heap.size w w':=by
 have HB:=hid hB
 have HE1:=hid hE1
 have HE2:=hid hE2
 have HN1:=hid hn1
 have HN2:=hid hn2
 have HL1:=hid hL1
 have HL2:=hid hL2
 clear hB hE1 hE2 hn1 hn2 hL1 hL2
 cases hs:sameA ⟨s1,i1,r1,L1,c1,t1,k1⟩ ⟨s2,i2,r2,L2,c2,t2,k2⟩<;>cases ho:(o1==o2)
 all_goals
  have HS:=hid hs
  have HO:=hid ho
  clear hs
  go_enter Tryz.func43,Tryz.ntmps43
  go_upto_region 1 with(fail)
  refine wp_w (fun W=>W.heap[w.heap.size]? =some (.cells #[.int .i64 s1,.int .i64 i1,.int .i64 r1,.slice A1 n1 m1,.int .i64 c1,.int .i64 t1,.int .i64 k1,.int .i64 o1,.int .i64 q1] 60 (0,0))∧W.heap[w.heap.size+1]? =some (.cells #[.int .i64 s2,.int .i64 i2,.int .i64 r2,.slice A2 n2 m2,.int .i64 c2,.int .i64 t2,.int .i64 k2,.int .i64 o2,.int .i64 q2] 60 (0,0))∧Below w.heap.size w W) ⟨by exact hpa,by exact hpa,by exact bel⟩ ?_
  rintro W1 ⟨hx,hy,hb⟩
  have HB1:=hid hb
  have hs1:=hb.size
  have lx:=lt_blk hx
  have ly:=lt_blk hy
  obtain⟨x0,x1,x2,x3,x4,x5,x6,x7,x8⟩:=cells9 hx
  obtain⟨y0,y1,y2,y3,y4,y5,y6,y7,y8⟩:=cells9 hy
  clear hx hy hb
  go_wp2_with (go_at_call 80;go_must (refine(same16_any s1 i1 r1 c1 t1 k1 s2 i2 r2 c2 t2 k2 A1 A2 n1 n2 m1 m2 E1 E2 L1 L2 HL1.out HL2.out W1 B (by have:=HB.out;omega) (HE1.out.keep (HB1.out.mono HB.out)) (HE2.out.keep (HB1.out.mono HB.out)) HN1.out HN2.out hl).mono ?_);rw[HS.out];rintro e w3 ⟨rfl,hb3⟩;obtain⟨xs3,d3,rfl⟩:=ext_of hb3;clear hb3)
  go_ret
  exact⟨by unfold sameI;rw[HS.out,HO.out];rfl,by have:=HB1.out;exact bel⟩
theorem sameI_self (a:Au) (o q:Int):sameI a a o q o q=true:=by unfold sameI;rw[sameA_self];simp
end Go.Proofs.YtfkgmbknfnhjoaaGreat
