/- Bundle PL. -/
import Derived.Test.YtfkgmbknfnhjoaaGreatRPK
set_option maxHeartbeats 8000000
namespace Go.Proofs.YtfkgmbknfnhjoaaGreat
open Lib (hid)
open Go.RowKit
set_option linter.unusedSimpArgs false
set_option linter.unusedVariables false
set_option linter.ambiguousOpen false
open Ne (Rl Opt RulesAt areB answerO learnO)
open Fs (av hasB)
def packW (c:Cf) (a:Au) (inn:Pk) (tick:Int):Option (Int×Pk×List Opt)→(Au×List Pk×List Int)×Bool
 |none=>((a,[],[]),true)
 |some (e,ans,next)=>if Fs.stepErr a.st e≠0 then((a,[],[]),true) else(doO c {a with ask:=next} e inn ans tick,true)
theorem packO_w {c:Cf} {a:Au} {inn:Pk} {tick:Int} (hc:inB inn.code 1 7=true) (he:Cp.encErr inn.code inn.id inn.data.length=0) (hf:fineB c a tick=true):packO c a inn tick=packW c a inn tick (whichO c a inn):=by
 unfold packO
 rw[hc,if_neg (by decide),if_neg (by rw[he,hf];simp)]
 cases whichO c a inn<;>rfl
set_option maxRecDepth 100000 in
theorem pack_yes (Ar Aa Ai:Option Addr) (nr cr na ca ni ci:Nat) (R:List Rl) (mc mt mf wt st id req cnt tim nak ic ii tick:Int) (E:List Ent) (li:List UInt8) (w:World) (B:Nat) (hB:B≤w.heap.size) (hR:RulesAt w B Ar R) (hnr:nr=R.length) (hlr:nr≤1000000) (hE:OptsAt w B Aa E) (hna:na=E.length) (hla:na≤1000000) (hda: ∀e∈E,e.d.length≤1000000) (hI:At w B Ai (li.map bv)) (hni:ni=li.length) (hci:ni≤ci) (hli:ni≤400000000) (hc:inB ic 1 7=true) (he:Cp.encErr ic ii li.length=0) (hf:fineB ⟨R,mc,mt,mf,wt⟩ ⟨st,id,req,E.map Ent.o,cnt,tim,nak⟩ tick=true):Calls Tryz.prog 19 #[.agg #[.slice Ar nr cr,.int .i64 mc,.int .i64 mt,.int .i64 mf,.int .i64 wt],.agg #[.int .i64 st,.int .i64 id,.int .i64 req,.slice Aa na ca,.int .i64 cnt,.int .i64 tim,.int .i64 nak],.agg #[.int .i64 ic,.int .i64 ii,.slice Ai ni ci],.int .i64 tick] w (PackP (packO ⟨R,mc,mt,mf,wt⟩ ⟨st,id,req,E.map Ent.o,cnt,tim,nak⟩ ⟨ic,ii,li⟩ tick) w):=by
 have HIN:=hid hc
 have HEN:=hid he
 have h17:1≤ic∧ic≤7:=by simpa[inB] using hc
 obtain⟨h1,h7⟩:=h17
 have HB:=hid hB
 have HR:=hid hR
 have HNR:=hid hnr
 have HE:=hid hE
 have HNA:=hid hna
 have HDA:=hid hda
 have HI:=hid hI
 have HNI:=hid hni
 obtain⟨L,hL⟩: ∃L,E.map Ent.o=L:=⟨_,rfl⟩
 have HL:=hid hL
 rw[hL]
 clear hB hR hnr hE hna hda hL hI hni
 rw[HL.out] at hf
 have HF:=hid hf
 obtain⟨r,hr⟩: ∃r,whichO ⟨R,mc,mt,mf,wt⟩ ⟨st,id,req,L,cnt,tim,nak⟩ ⟨ic,ii,li⟩=r:=⟨_,rfl⟩
 have HW:=hid hr
 have HP0:=hid (show packO ⟨R,mc,mt,mf,wt⟩ ⟨st,id,req,L,cnt,tim,nak⟩ ⟨ic,ii,li⟩ tick=packW ⟨R,mc,mt,mf,wt⟩ ⟨st,id,req,L,cnt,tim,nak⟩ ⟨ic,ii,li⟩ tick r by rw[packO_w (c:=⟨R,mc,mt,mf,wt⟩) (a:=⟨st,id,req,L,cnt,tim,nak⟩) (inn:=⟨ic,ii,li⟩) hc he hf,hr])
 rw[HP0.out]
 clear hc he hf hr HP0
 cases r with
 |none=>
  dsimp only[packW]
  go_enter Tryz.func19,Tryz.ntmps19
  go_upto_region 1 with(fail)
  refine boxes4 ?_
  rintro w2 ⟨h6,h7,h8,h12,hbw⟩
  have HB2:=hid hbw
  have H62:=hid h6
  have H72:=hid h7
  have H82:=hid h8
  have H122:=hid h12
  clear h6 h7 h8 h12 hbw
  have hs2:=HB2.out.size
  obtain⟨⟨l6,l7,l8,l12⟩,⟨p0,p1,p2,p3,p4⟩,⟨q0,q1,q2,q3,q4,q5,q6⟩,⟨r0,r1,r2⟩,⟨z0,z1,z2,z3,z4,z5,z6⟩,⟨f0,f1,f2,f3,f4,f5,f6⟩,k3⟩:=cellsK H62.out H72.out H82.out H122.out
  go_wp2_with (go_at_call 59;refine(within_t _ _ _ _ HIN.out).mono ?_;rintro e w1 ⟨rfl,rfl⟩)
  refine(Cp.enc_any ic ii Ai ni ci li _ B (by have:=HB.out;omega) (HI.out.keep (HB2.out.mono HB.out)) HNI.out (by omega)).mono ?_
  unfold Cp.EncP
  rw[HEN.out]
  rintro x w3 ⟨v3,rfl,hb3,-⟩
  have HQ3:=hid (show Below w2.heap.size w2 w3 from hb3)
  have HB3:=hid (HB2.out.trans (HQ3.out.mono hs2))
  have H63:=hid ((HQ3.out.block _ l6).trans H62.out)
  have H73:=hid ((HQ3.out.block _ l7).trans H72.out)
  have H83:=hid ((HQ3.out.block _ l8).trans H82.out)
  have H123:=hid ((HQ3.out.block _ l12).trans H122.out)
  clear p0 p1 p2 p3 p4 q0 q1 q2 q3 q4 q5 q6 r0 r1 r2 z0 z1 z2 z3 z4 z5 z6 f0 f1 f2 f3 f4 f5 f6 k3 l6 l7 l8 l12
  have hs3:=HB3.out.size
  obtain⟨⟨l6,l7,l8,l12⟩,⟨p0,p1,p2,p3,p4⟩,⟨q0,q1,q2,q3,q4,q5,q6⟩,⟨r0,r1,r2⟩,⟨z0,z1,z2,z3,z4,z5,z6⟩,⟨f0,f1,f2,f3,f4,f5,f6⟩,k3⟩:=cellsK H63.out H73.out H83.out H123.out
  clear hb3
  go_wp2_with fail
  refine(may_any Ar nr cr R mc mt mf wt st id req cnt tim nak Aa na ca E L HL.out tick _ B (by have:=HB.out;omega) (HR.out.keep (HB3.out.mono HB.out)) HNR.out hlr (HE.out.keep (HB3.out.mono HB.out)) HNA.out).mono ?_
  rw[HF.out]
  rintro x w4 ⟨rfl,hb4⟩
  have HQ4:=hid (show Below w3.heap.size w3 w4 from hb4)
  have HB4:=hid (HB3.out.trans (HQ4.out.mono hs3))
  have H64:=hid ((HQ4.out.block _ l6).trans H63.out)
  have H74:=hid ((HQ4.out.block _ l7).trans H73.out)
  have H84:=hid ((HQ4.out.block _ l8).trans H83.out)
  have H124:=hid ((HQ4.out.block _ l12).trans H123.out)
  clear p0 p1 p2 p3 p4 q0 q1 q2 q3 q4 q5 q6 r0 r1 r2 z0 z1 z2 z3 z4 z5 z6 f0 f1 f2 f3 f4 f5 f6 k3 l6 l7 l8 l12
  have hs4:=HB4.out.size
  obtain⟨⟨l6,l7,l8,l12⟩,⟨p0,p1,p2,p3,p4⟩,⟨q0,q1,q2,q3,q4,q5,q6⟩,⟨r0,r1,r2⟩,⟨z0,z1,z2,z3,z4,z5,z6⟩,⟨f0,f1,f2,f3,f4,f5,f6⟩,k3⟩:=cellsK H64.out H74.out H84.out H124.out
  clear hb4
  go_wp2_with fail
  refine(which_any ic h1 h7 Ar Aa Ai nr cr na ca ni ci R mc mt mf wt st id req cnt tim nak ii E li _ B (by have:=HB.out;omega) (HR.out.keep (HB4.out.mono HB.out)) HNR.out hlr (HE.out.keep (HB4.out.mono HB.out)) HNA.out hla HDA.out (HI.out.keep (HB4.out.mono HB.out)) HNI.out hci).mono ?_
  rw[HL.out,HW.out]
  rintro x w5 ⟨A5,n5,c5,rfl,hb5⟩
  have HQ5:=hid (show Below w4.heap.size w4 w5 from hb5)
  have HB5:=hid (HB4.out.trans (HQ5.out.mono hs4))
  have H65:=hid ((HQ5.out.block _ l6).trans H64.out)
  have H75:=hid ((HQ5.out.block _ l7).trans H74.out)
  have H85:=hid ((HQ5.out.block _ l8).trans H84.out)
  have H125:=hid ((HQ5.out.block _ l12).trans H124.out)
  clear p0 p1 p2 p3 p4 q0 q1 q2 q3 q4 q5 q6 r0 r1 r2 z0 z1 z2 z3 z4 z5 z6 f0 f1 f2 f3 f4 f5 f6 k3 l6 l7 l8 l12
  have hs5:=HB5.out.size
  obtain⟨⟨l6,l7,l8,l12⟩,⟨p0,p1,p2,p3,p4⟩,⟨q0,q1,q2,q3,q4,q5,q6⟩,⟨r0,r1,r2⟩,⟨z0,z1,z2,z3,z4,z5,z6⟩,⟨f0,f1,f2,f3,f4,f5,f6⟩,k3⟩:=cellsK H65.out H75.out H85.out H125.out
  clear hb5
  go_upto_region 7 with(fail)
  refine wp_w (fun W=>Below w5.heap.size w5 W) (by exact bel) ?_
  rintro w6 hb6
  have HQ6:=hid (show Below w5.heap.size w5 w6 from hb6)
  have HB6:=hid (HB5.out.trans (HQ6.out.mono hs5))
  have H66:=hid ((HQ6.out.block _ l6).trans H65.out)
  have H76:=hid ((HQ6.out.block _ l7).trans H75.out)
  have H86:=hid ((HQ6.out.block _ l8).trans H85.out)
  have H126:=hid ((HQ6.out.block _ l12).trans H125.out)
  clear p0 p1 p2 p3 p4 q0 q1 q2 q3 q4 q5 q6 r0 r1 r2 z0 z1 z2 z3 z4 z5 z6 f0 f1 f2 f3 f4 f5 f6 k3 l6 l7 l8 l12
  have hs6:=HB6.out.size
  obtain⟨⟨l6,l7,l8,l12⟩,⟨p0,p1,p2,p3,p4⟩,⟨q0,q1,q2,q3,q4,q5,q6⟩,⟨r0,r1,r2⟩,⟨z0,z1,z2,z3,z4,z5,z6⟩,⟨f0,f1,f2,f3,f4,f5,f6⟩,k3⟩:=cellsK H66.out H76.out H86.out H126.out
  clear hb6
  go_wp2_with fail
  refine(as_any st id req cnt tim nak Aa na ca E _ B (by have:=HB.out;omega) (HE.out.keep (HB6.out.mono HB.out)) HNA.out hla (fun e he=>by have:=HDA.out e he;omega)).mono ?_
  rintro x w9 ⟨v,rfl,E9,A9,n9,c9,rfl,he9,hn9,hc9,hb9,ho9⟩
  have HE9:=hid (show E9.map Ent.o=L from he9.trans HL.out)
  have HO9:=hid ho9
  have HQ9:=hid (show Below w6.heap.size w6 w9 from hb9)
  have HB9:=hid (HB6.out.trans (HQ9.out.mono hs6))
  have H69:=hid ((HQ9.out.block _ l6).trans H66.out)
  have H79:=hid ((HQ9.out.block _ l7).trans H76.out)
  have H89:=hid ((HQ9.out.block _ l8).trans H86.out)
  have H129:=hid ((HQ9.out.block _ l12).trans H126.out)
  clear p0 p1 p2 p3 p4 q0 q1 q2 q3 q4 q5 q6 r0 r1 r2 z0 z1 z2 z3 z4 z5 z6 f0 f1 f2 f3 f4 f5 f6 k3 l6 l7 l8 l12
  have hs9:=HB9.out.size
  obtain⟨⟨l6,l7,l8,l12⟩,⟨p0,p1,p2,p3,p4⟩,⟨q0,q1,q2,q3,q4,q5,q6⟩,⟨r0,r1,r2⟩,⟨z0,z1,z2,z3,z4,z5,z6⟩,⟨f0,f1,f2,f3,f4,f5,f6⟩,k3⟩:=cellsK H69.out H79.out H89.out H129.out
  clear he9 hn9 hc9 hb9 ho9
  dsimp only
  go_wp2_with fail
  obtain⟨Wf,hWf⟩: ∃Wf:World,Wf=(((((((w9.setCell ⟨w.heap.size+1+1+1,0,none⟩ (.int .i64 st)).setCell ⟨w.heap.size+1+1+1,1,none⟩ (.int .i64 id)).setCell ⟨w.heap.size+1+1+1,2,none⟩ (.int .i64 req)).setCell ⟨w.heap.size+1+1+1,3,none⟩ (.slice A9 n9 c9)).setCell ⟨w.heap.size+1+1+1,4,none⟩ (.int .i64 cnt)).setCell ⟨w.heap.size+1+1+1,5,none⟩ (.int .i64 tim)).setCell ⟨w.heap.size+1+1+1,6,none⟩ (.int .i64 nak)):=⟨_,rfl⟩
  rw[←hWf]
  have hrow:Wf.heap[w.heap.size+1+1+1]? =some (.cells #[.int .i64 st,.int .i64 id,.int .i64 req,.slice A9 n9 c9,.int .i64 cnt,.int .i64 tim,.int .i64 nak] 29 (0,0)):=by rw[hWf];exact row7 H129.out rfl _ _ _ _ _ _ _
  have hgr:w9.grownBy Wf (some (w.heap.size+1+1+1)):=by rw[hWf];exact grn
  clear hWf
  clear p0 p1 p2 p3 p4 q0 q1 q2 q3 q4 q5 q6 r0 r1 r2 z0 z1 z2 z3 z4 z5 z6 f0 f1 f2 f3 f4 f5 f6 k3 l6 l7 l8 l12
  obtain⟨u0,u1,u2,u3,u4,u5,u6⟩:=cells7 hrow
  refine bodyPost_ret (v:=.tuple #[.agg #[.int .i64 st,.int .i64 id,.int .i64 req,.slice A9 n9 c9,.int .i64 cnt,.int .i64 tim,.int .i64 nak],.slice none 0 0,.slice none 0 0,.bool true]) (by simp[results,Tryz.results19,go_sem,u0,u1,u2,u3,u4,u5,u6]) rfl ?_
  exact⟨.slice A9 n9 c9,.slice none 0 0,.slice none 0 0,rfl,Below.grown HB9.out hgr hs9 (fun k hk=>by cases hk;omega),OptsO.base (OwnOpts.otherx (⟨E9,HO9.out,HE9.out⟩:OptsO _ _ _ L) hgr H129.out (by decide) (by decide)) hs6,⟨[],OwnPks.nil _ _,rfl⟩,ActsO.nil _ _⟩
 |some r=>
  obtain⟨e,⟨aco,aid,ad⟩,next⟩:=r
  dsimp only[packW]
  have HWF:=hid (whichO_facts HW.out)
  by_cases h10:e=10
  ·subst h10
   by_cases hse:Fs.stepErr st 10=0
   ·have HER:=hid hse
    rw[if_neg (by rw[hse];decide)]
    clear hse
    obtain⟨⟨⟨ys,yi,yr,yL,yc,yt,yk⟩,o1,d1⟩,hdo⟩: ∃r,doO ⟨R,mc,mt,mf,wt⟩ ⟨st,id,req,next,cnt,tim,nak⟩ 10 ⟨ic,ii,li⟩ ⟨aco,aid,ad⟩ tick=r:=⟨_,rfl⟩
    have HDO:=hid hdo
    rw[hdo]
    clear hdo
    go_enter Tryz.func19,Tryz.ntmps19
    go_upto_region 1 with(fail)
    refine boxes4 ?_
    rintro w2 ⟨h6,h7,h8,h12,hbw⟩
    have HB2:=hid hbw
    have H62:=hid h6
    have H72:=hid h7
    have H82:=hid h8
    have H122:=hid h12
    clear h6 h7 h8 h12 hbw
    have hs2:=HB2.out.size
    obtain⟨⟨l6,l7,l8,l12⟩,⟨p0,p1,p2,p3,p4⟩,⟨q0,q1,q2,q3,q4,q5,q6⟩,⟨r0,r1,r2⟩,⟨z0,z1,z2,z3,z4,z5,z6⟩,⟨f0,f1,f2,f3,f4,f5,f6⟩,k3⟩:=cellsK H62.out H72.out H82.out H122.out
    go_wp2_with (go_at_call 59;refine(within_t _ _ _ _ HIN.out).mono ?_;rintro e w1 ⟨rfl,rfl⟩)
    refine(Cp.enc_any ic ii Ai ni ci li _ B (by have:=HB.out;omega) (HI.out.keep (HB2.out.mono HB.out)) HNI.out (by omega)).mono ?_
    unfold Cp.EncP
    rw[HEN.out]
    rintro x w3 ⟨v3,rfl,hb3,-⟩
    have HQ3:=hid (show Below w2.heap.size w2 w3 from hb3)
    have HB3:=hid (HB2.out.trans (HQ3.out.mono hs2))
    have H63:=hid ((HQ3.out.block _ l6).trans H62.out)
    have H73:=hid ((HQ3.out.block _ l7).trans H72.out)
    have H83:=hid ((HQ3.out.block _ l8).trans H82.out)
    have H123:=hid ((HQ3.out.block _ l12).trans H122.out)
    clear p0 p1 p2 p3 p4 q0 q1 q2 q3 q4 q5 q6 r0 r1 r2 z0 z1 z2 z3 z4 z5 z6 f0 f1 f2 f3 f4 f5 f6 k3 l6 l7 l8 l12
    have hs3:=HB3.out.size
    obtain⟨⟨l6,l7,l8,l12⟩,⟨p0,p1,p2,p3,p4⟩,⟨q0,q1,q2,q3,q4,q5,q6⟩,⟨r0,r1,r2⟩,⟨z0,z1,z2,z3,z4,z5,z6⟩,⟨f0,f1,f2,f3,f4,f5,f6⟩,k3⟩:=cellsK H63.out H73.out H83.out H123.out
    clear hb3
    go_wp2_with fail
    refine(may_any Ar nr cr R mc mt mf wt st id req cnt tim nak Aa na ca E L HL.out tick _ B (by have:=HB.out;omega) (HR.out.keep (HB3.out.mono HB.out)) HNR.out hlr (HE.out.keep (HB3.out.mono HB.out)) HNA.out).mono ?_
    rw[HF.out]
    rintro x w4 ⟨rfl,hb4⟩
    have HQ4:=hid (show Below w3.heap.size w3 w4 from hb4)
    have HB4:=hid (HB3.out.trans (HQ4.out.mono hs3))
    have H64:=hid ((HQ4.out.block _ l6).trans H63.out)
    have H74:=hid ((HQ4.out.block _ l7).trans H73.out)
    have H84:=hid ((HQ4.out.block _ l8).trans H83.out)
    have H124:=hid ((HQ4.out.block _ l12).trans H123.out)
    clear p0 p1 p2 p3 p4 q0 q1 q2 q3 q4 q5 q6 r0 r1 r2 z0 z1 z2 z3 z4 z5 z6 f0 f1 f2 f3 f4 f5 f6 k3 l6 l7 l8 l12
    have hs4:=HB4.out.size
    obtain⟨⟨l6,l7,l8,l12⟩,⟨p0,p1,p2,p3,p4⟩,⟨q0,q1,q2,q3,q4,q5,q6⟩,⟨r0,r1,r2⟩,⟨z0,z1,z2,z3,z4,z5,z6⟩,⟨f0,f1,f2,f3,f4,f5,f6⟩,k3⟩:=cellsK H64.out H74.out H84.out H124.out
    clear hb4
    go_wp2_with fail
    refine(which_any ic h1 h7 Ar Aa Ai nr cr na ca ni ci R mc mt mf wt st id req cnt tim nak ii E li _ B (by have:=HB.out;omega) (HR.out.keep (HB4.out.mono HB.out)) HNR.out hlr (HE.out.keep (HB4.out.mono HB.out)) HNA.out hla HDA.out (HI.out.keep (HB4.out.mono HB.out)) HNI.out hci).mono ?_
    rw[HL.out,HW.out]
    rintro x w5 ⟨Ad,nd,cd,An,nn,cn,rfl,hb5,hby,hop⟩
    have HBY:=hid (hby.base (Nat.le_trans hs4 (Nat.le_refl _)))
    have HOP:=hid hop
    have HQ5:=hid (show Below w4.heap.size w4 w5 from hb5)
    have HB5:=hid (HB4.out.trans (HQ5.out.mono hs4))
    have H65:=hid ((HQ5.out.block _ l6).trans H64.out)
    have H75:=hid ((HQ5.out.block _ l7).trans H74.out)
    have H85:=hid ((HQ5.out.block _ l8).trans H84.out)
    have H125:=hid ((HQ5.out.block _ l12).trans H124.out)
    clear p0 p1 p2 p3 p4 q0 q1 q2 q3 q4 q5 q6 r0 r1 r2 z0 z1 z2 z3 z4 z5 z6 f0 f1 f2 f3 f4 f5 f6 k3 l6 l7 l8 l12
    have hs5:=HB5.out.size
    obtain⟨⟨l6,l7,l8,l12⟩,⟨p0,p1,p2,p3,p4⟩,⟨q0,q1,q2,q3,q4,q5,q6⟩,⟨r0,r1,r2⟩,⟨z0,z1,z2,z3,z4,z5,z6⟩,⟨f0,f1,f2,f3,f4,f5,f6⟩,k3⟩:=cellsK H65.out H75.out H85.out H125.out
    clear hb5 hby hop
    dsimp only
    go_upto_region 7 with(fail)
    obtain⟨T,hT⟩: ∃T,T=w5.heap.size:=⟨_,rfl⟩
    rw[←hT]
    refine wp_w (fun W=>Below w5.heap.size w5 W∧W.heap[T]? =some (.cells #[.int .i64 aco,.int .i64 aid,.slice Ad nd cd] 32 (0,0))) ⟨by exact bel,by rw[hT];exact heap_alloc_new _ _⟩ ?_
    rintro w6 ⟨hb6,ht6⟩
    have HT6:=hid ht6
    have hT5:w5.heap.size≤T:=by omega
    have hTX:w.heap.size+1+1+1<T:=by omega
    clear hT
    have HQ6:=hid (show Below w5.heap.size w5 w6 from hb6)
    have HB6:=hid (HB5.out.trans (HQ6.out.mono hs5))
    have H66:=hid ((HQ6.out.block _ l6).trans H65.out)
    have H76:=hid ((HQ6.out.block _ l7).trans H75.out)
    have H86:=hid ((HQ6.out.block _ l8).trans H85.out)
    have H126:=hid ((HQ6.out.block _ l12).trans H125.out)
    clear p0 p1 p2 p3 p4 q0 q1 q2 q3 q4 q5 q6 r0 r1 r2 z0 z1 z2 z3 z4 z5 z6 f0 f1 f2 f3 f4 f5 f6 k3 l6 l7 l8 l12
    have hs6:=HB6.out.size
    obtain⟨⟨l6,l7,l8,l12⟩,⟨p0,p1,p2,p3,p4⟩,⟨q0,q1,q2,q3,q4,q5,q6⟩,⟨r0,r1,r2⟩,⟨z0,z1,z2,z3,z4,z5,z6⟩,⟨f0,f1,f2,f3,f4,f5,f6⟩,k3⟩:=cellsK H66.out H76.out H86.out H126.out
    have HBY6:=hid (HBY.out.below hb6)
    clear hb6 ht6
    have lT:=lt_blk HT6.out
    obtain⟨t0,t1',t2⟩:=cells3 HT6.out
    go_wp2_with fail
    refine(Fs.step_any st 10 _).mono ?_
    rw[show Fs.StepP st 10=fun w x w'=> ∃v,x=.returned (.tuple #[.int .i64 (Fs.tabNext 10 st),v,.int .i64 0])∧Fs.Told w (Fs.tabActs 10 st) v w' by unfold Fs.StepP;rw[HER.out]]
    rintro x w7 ⟨v7,rfl,hb7,-⟩
    have HQ7:=hid (show Below w6.heap.size w6 w7 from hb7)
    have HB7:=hid (HB6.out.trans (HQ7.out.mono hs6))
    have H67:=hid ((HQ7.out.block _ l6).trans H66.out)
    have H77:=hid ((HQ7.out.block _ l7).trans H76.out)
    have H87:=hid ((HQ7.out.block _ l8).trans H86.out)
    have H127:=hid ((HQ7.out.block _ l12).trans H126.out)
    clear p0 p1 p2 p3 p4 q0 q1 q2 q3 q4 q5 q6 r0 r1 r2 z0 z1 z2 z3 z4 z5 z6 f0 f1 f2 f3 f4 f5 f6 k3 l6 l7 l8 l12
    have hs7:=HB7.out.size
    obtain⟨⟨l6,l7,l8,l12⟩,⟨p0,p1,p2,p3,p4⟩,⟨q0,q1,q2,q3,q4,q5,q6⟩,⟨r0,r1,r2⟩,⟨z0,z1,z2,z3,z4,z5,z6⟩,⟨f0,f1,f2,f3,f4,f5,f6⟩,k3⟩:=cellsK H67.out H77.out H87.out H127.out
    have HT7:=hid ((hb7.block _ lT).trans HT6.out)
    have HBY7:=hid (HBY6.out.below hb7)
    have HOP7:=hid (((HOP.out (by trivial)).below HQ6.out).below hb7)
    clear hb7 t0 t1' t2
    go_upto_region 14 with(fail)
    refine wp_w (fun W=>W.heap[w.heap.size+1]? =some (.cells #[.int .i64 st,.int .i64 id,.int .i64 req,.slice An nn cn,.int .i64 cnt,.int .i64 tim,.int .i64 nak] 29 (0,0))∧w7.grownBy W (some (w.heap.size+1))) ⟨heap_setCell_same _ _ 3 _ _ _ H77.out,grn⟩ ?_
    rintro w8 ⟨h78,hg8⟩
    have H78:=hid h78
    have HB8:=hid (show Below w.heap.size w w8 from Below.grown HB7.out hg8 hs7 (fun k hk=>by cases hk;omega))
    have H68:=hid ((hg8.block _ l6 (by simp)).trans H67.out)
    have H88:=hid ((hg8.block _ l8 (by simp;try omega)).trans H87.out)
    have H128:=hid ((hg8.block _ l12 (by simp;try omega)).trans H127.out)
    have HT8:=hid ((hg8.block _ (lt_blk HT7.out) (by simp;omega)).trans HT7.out)
    have HBY8:=hid (HBY7.out.other hg8 H77.out (by decide))
    have HOP8:=hid (OwnOpts.otherx HOP7.out hg8 H77.out (by decide) (by decide))
    clear h78 hg8
    clear p0 p1 p2 p3 p4 q0 q1 q2 q3 q4 q5 q6 r0 r1 r2 z0 z1 z2 z3 z4 z5 z6 f0 f1 f2 f3 f4 f5 f6 k3 l6 l7 l8 l12
    have hs8:=HB8.out.size
    obtain⟨⟨l6,l7,l8,l12⟩,⟨p0,p1,p2,p3,p4⟩,⟨q0,q1,q2,q3,q4,q5,q6⟩,⟨r0,r1,r2⟩,⟨z0,z1,z2,z3,z4,z5,z6⟩,⟨f0,f1,f2,f3,f4,f5,f6⟩,k3⟩:=cellsK H68.out H78.out H88.out H128.out
    have lT8:=lt_blk HT8.out
    obtain⟨t0,t1',t2⟩:=cells3 HT8.out
    obtain⟨Ax,nx',cx,Ex,hex,hax,hnx,hcx,hxl⟩:=HOP8.out.v
    simp only[Value.slice.injEq] at hex
    obtain⟨rfl,rfl,rfl⟩:=hex
    obtain⟨Ay,ny,cy,hey,hay,hny,hcy⟩:=HBY8.out.v
    simp only[Value.slice.injEq] at hey
    obtain⟨rfl,rfl,rfl⟩:=hey
    have HAX:=hid hax
    have HAY:=hid hay
    have HXL:=hid hxl
    have HX1:=hid hnx
    have HNY:=hid hny
    clear hax hay hxl hnx hny
    go_wp2_with fail
    refine(do_any Ar An Ai Ad nr cr nn cn ni ci nd cd R mc mt mf wt st id req cnt tim nak 10 ic ii aco aid tick Ex li ad w8 w8.heap.size (Nat.le_refl _) ((HR.out.keep (HB8.out.mono HB.out)).more (by have:=HB.out;omega)) HNR.out hlr HAX.out HX1.out (by have:=(HWF.out.2.2.2 (by trivial)).1;have h3:=congrArg List.length HXL.out;rw[List.length_map] at h3;have:=HX1.out;omega) (fun e he=>by have:=ents_short HXL.out (HWF.out.2.2.2 (by trivial)).2 e he;omega) ((HI.out.keep (HB8.out.mono HB.out)).more (by have:=HB.out;omega)) HNI.out hci hli HAY.out HNY.out hcy (by have h3:ad.length≤1488:=HWF.out.2.1;have:=HNY.out;omega)).mono ?_
    rw[HXL.out,HDO.out]
    rintro x wE ⟨va,vo,vd,rfl,hbE,⟨E4,hE4,hEL4⟩,hpE,haE⟩
    obtain⟨A4,c4,rfl,-,-⟩:=ownsRow_form hE4.1
    clear t0 t1' t2
    have HOE:=hid (⟨E4,hE4,hEL4⟩:OptsO wE _ _ yL)
    have HPE:=hid hpE
    have HAE:=hid haE
    have HQE:=hid (show Below w8.heap.size w8 wE from hbE)
    have HBE:=hid (HB8.out.trans (HQE.out.mono hs8))
    have H6E:=hid ((HQE.out.block _ l6).trans H68.out)
    have H7E:=hid ((HQE.out.block _ l7).trans H78.out)
    have H8E:=hid ((HQE.out.block _ l8).trans H88.out)
    have H12E:=hid ((HQE.out.block _ l12).trans H128.out)
    clear p0 p1 p2 p3 p4 q0 q1 q2 q3 q4 q5 q6 r0 r1 r2 z0 z1 z2 z3 z4 z5 z6 f0 f1 f2 f3 f4 f5 f6 k3 l6 l7 l8 l12
    have hsE:=HBE.out.size
    obtain⟨⟨l6,l7,l8,l12⟩,⟨p0,p1,p2,p3,p4⟩,⟨q0,q1,q2,q3,q4,q5,q6⟩,⟨r0,r1,r2⟩,⟨z0,z1,z2,z3,z4,z5,z6⟩,⟨f0,f1,f2,f3,f4,f5,f6⟩,k3⟩:=cellsK H6E.out H7E.out H8E.out H12E.out
    clear hbE hpE haE hE4 hEL4
    unfold auV
    go_upto_region 15 with(fail)
    obtain⟨T2,hT2⟩: ∃T2,T2=wE.heap.size:=⟨_,rfl⟩
    rw[←hT2]
    refine wp_w (fun W=>Below wE.heap.size wE W∧W.heap[T2]? =some (.cells #[.int .i64 ys,.int .i64 yi,.int .i64 yr,.slice A4 E4.length c4,.int .i64 yc,.int .i64 yt,.int .i64 yk] 29 (0,0))) ⟨by exact bel,by rw[hT2];exact heap_alloc_new _ _⟩ ?_
    rintro wF ⟨hbF,htF⟩
    have HTF:=hid htF
    have hT2E:wE.heap.size≤T2:=by omega
    clear hT2
    have HQF:=hid (show Below wE.heap.size wE wF from hbF)
    have HBF:=hid (HBE.out.trans (HQF.out.mono hsE))
    have H6F:=hid ((HQF.out.block _ l6).trans H6E.out)
    have H7F:=hid ((HQF.out.block _ l7).trans H7E.out)
    have H8F:=hid ((HQF.out.block _ l8).trans H8E.out)
    have H12F:=hid ((HQF.out.block _ l12).trans H12E.out)
    clear p0 p1 p2 p3 p4 q0 q1 q2 q3 q4 q5 q6 r0 r1 r2 z0 z1 z2 z3 z4 z5 z6 f0 f1 f2 f3 f4 f5 f6 k3 l6 l7 l8 l12
    have hsF:=HBF.out.size
    obtain⟨⟨l6,l7,l8,l12⟩,⟨p0,p1,p2,p3,p4⟩,⟨q0,q1,q2,q3,q4,q5,q6⟩,⟨r0,r1,r2⟩,⟨z0,z1,z2,z3,z4,z5,z6⟩,⟨f0,f1,f2,f3,f4,f5,f6⟩,k3⟩:=cellsK H6F.out H7F.out H8F.out H12F.out
    clear hbF htF
    have lT2:=lt_blk HTF.out
    obtain⟨t0,t1',t2,t3,t4,t5,t6⟩:=cells7 HTF.out
    go_wp2_with fail
    obtain⟨Wf,hWf⟩: ∃Wf:World,Wf=(((((((wF.setCell ⟨w.heap.size+1+1+1,0,none⟩ (.int .i64 ys)).setCell ⟨w.heap.size+1+1+1,1,none⟩ (.int .i64 yi)).setCell ⟨w.heap.size+1+1+1,2,none⟩ (.int .i64 yr)).setCell ⟨w.heap.size+1+1+1,3,none⟩ (.slice A4 E4.length c4)).setCell ⟨w.heap.size+1+1+1,4,none⟩ (.int .i64 yc)).setCell ⟨w.heap.size+1+1+1,5,none⟩ (.int .i64 yt)).setCell ⟨w.heap.size+1+1+1,6,none⟩ (.int .i64 yk)):=⟨_,rfl⟩
    rw[←hWf]
    have hrow:Wf.heap[w.heap.size+1+1+1]? =some (.cells #[.int .i64 ys,.int .i64 yi,.int .i64 yr,.slice A4 E4.length c4,.int .i64 yc,.int .i64 yt,.int .i64 yk] 29 (0,0)):=by rw[hWf];exact row7 H12F.out rfl _ _ _ _ _ _ _
    have hgr:wF.grownBy Wf (some (w.heap.size+1+1+1)):=by rw[hWf];exact grn
    clear hWf t0 t1' t2 t3 t4 t5 t6
    clear p0 p1 p2 p3 p4 q0 q1 q2 q3 q4 q5 q6 r0 r1 r2 z0 z1 z2 z3 z4 z5 z6 f0 f1 f2 f3 f4 f5 f6 k3 l6 l7 l8 l12
    obtain⟨u0,u1,u2,u3,u4,u5,u6⟩:=cells7 hrow
    refine bodyPost_ret (v:=.tuple #[.agg #[.int .i64 ys,.int .i64 yi,.int .i64 yr,.slice A4 E4.length c4,.int .i64 yc,.int .i64 yt,.int .i64 yk],vo,vd,.bool true]) (by simp[results,Tryz.results19,go_sem,u0,u1,u2,u3,u4,u5,u6]) rfl ?_
    exact⟨.slice A4 E4.length c4,vo,vd,rfl,Below.grown HBF.out hgr hsF (fun k hk=>by cases hk;omega),OptsO.base (OwnOpts.otherx (OptsO.below HOE.out HQF.out) hgr H12F.out (by decide) (by decide)) hs8,PksO.base (PksO.other (PksO.below HPE.out HQF.out) hgr H12F.out (by decide) (by decide)) hs8,ActsO.base (ActsO.other (ActsO.below HAE.out HQF.out) hgr H12F.out (by decide)) hs8⟩
   ·rw[if_pos hse]
    obtain⟨er,her⟩: ∃er,Fs.stepErr st 10=er:=⟨_,rfl⟩
    have HER:=hid her
    rw[her] at hse
    have hse':(er !=0)=true:=by simpa using hse
    clear hse her
    go_enter Tryz.func19,Tryz.ntmps19
    go_upto_region 1 with(fail)
    refine boxes4 ?_
    rintro w2 ⟨h6,h7,h8,h12,hbw⟩
    have HB2:=hid hbw
    have H62:=hid h6
    have H72:=hid h7
    have H82:=hid h8
    have H122:=hid h12
    clear h6 h7 h8 h12 hbw
    have hs2:=HB2.out.size
    obtain⟨⟨l6,l7,l8,l12⟩,⟨p0,p1,p2,p3,p4⟩,⟨q0,q1,q2,q3,q4,q5,q6⟩,⟨r0,r1,r2⟩,⟨z0,z1,z2,z3,z4,z5,z6⟩,⟨f0,f1,f2,f3,f4,f5,f6⟩,k3⟩:=cellsK H62.out H72.out H82.out H122.out
    go_wp2_with (go_at_call 59;refine(within_t _ _ _ _ HIN.out).mono ?_;rintro e w1 ⟨rfl,rfl⟩)
    refine(Cp.enc_any ic ii Ai ni ci li _ B (by have:=HB.out;omega) (HI.out.keep (HB2.out.mono HB.out)) HNI.out (by omega)).mono ?_
    unfold Cp.EncP
    rw[HEN.out]
    rintro x w3 ⟨v3,rfl,hb3,-⟩
    have HQ3:=hid (show Below w2.heap.size w2 w3 from hb3)
    have HB3:=hid (HB2.out.trans (HQ3.out.mono hs2))
    have H63:=hid ((HQ3.out.block _ l6).trans H62.out)
    have H73:=hid ((HQ3.out.block _ l7).trans H72.out)
    have H83:=hid ((HQ3.out.block _ l8).trans H82.out)
    have H123:=hid ((HQ3.out.block _ l12).trans H122.out)
    clear p0 p1 p2 p3 p4 q0 q1 q2 q3 q4 q5 q6 r0 r1 r2 z0 z1 z2 z3 z4 z5 z6 f0 f1 f2 f3 f4 f5 f6 k3 l6 l7 l8 l12
    have hs3:=HB3.out.size
    obtain⟨⟨l6,l7,l8,l12⟩,⟨p0,p1,p2,p3,p4⟩,⟨q0,q1,q2,q3,q4,q5,q6⟩,⟨r0,r1,r2⟩,⟨z0,z1,z2,z3,z4,z5,z6⟩,⟨f0,f1,f2,f3,f4,f5,f6⟩,k3⟩:=cellsK H63.out H73.out H83.out H123.out
    clear hb3
    go_wp2_with fail
    refine(may_any Ar nr cr R mc mt mf wt st id req cnt tim nak Aa na ca E L HL.out tick _ B (by have:=HB.out;omega) (HR.out.keep (HB3.out.mono HB.out)) HNR.out hlr (HE.out.keep (HB3.out.mono HB.out)) HNA.out).mono ?_
    rw[HF.out]
    rintro x w4 ⟨rfl,hb4⟩
    have HQ4:=hid (show Below w3.heap.size w3 w4 from hb4)
    have HB4:=hid (HB3.out.trans (HQ4.out.mono hs3))
    have H64:=hid ((HQ4.out.block _ l6).trans H63.out)
    have H74:=hid ((HQ4.out.block _ l7).trans H73.out)
    have H84:=hid ((HQ4.out.block _ l8).trans H83.out)
    have H124:=hid ((HQ4.out.block _ l12).trans H123.out)
    clear p0 p1 p2 p3 p4 q0 q1 q2 q3 q4 q5 q6 r0 r1 r2 z0 z1 z2 z3 z4 z5 z6 f0 f1 f2 f3 f4 f5 f6 k3 l6 l7 l8 l12
    have hs4:=HB4.out.size
    obtain⟨⟨l6,l7,l8,l12⟩,⟨p0,p1,p2,p3,p4⟩,⟨q0,q1,q2,q3,q4,q5,q6⟩,⟨r0,r1,r2⟩,⟨z0,z1,z2,z3,z4,z5,z6⟩,⟨f0,f1,f2,f3,f4,f5,f6⟩,k3⟩:=cellsK H64.out H74.out H84.out H124.out
    clear hb4
    go_wp2_with fail
    refine(which_any ic h1 h7 Ar Aa Ai nr cr na ca ni ci R mc mt mf wt st id req cnt tim nak ii E li _ B (by have:=HB.out;omega) (HR.out.keep (HB4.out.mono HB.out)) HNR.out hlr (HE.out.keep (HB4.out.mono HB.out)) HNA.out hla HDA.out (HI.out.keep (HB4.out.mono HB.out)) HNI.out hci).mono ?_
    rw[HL.out,HW.out]
    rintro x w5 ⟨Ad,nd,cd,An,nn,cn,rfl,hb5,hby,hop⟩
    have HBY:=hid (hby.base (Nat.le_trans hs4 (Nat.le_refl _)))
    have HOP:=hid hop
    have HQ5:=hid (show Below w4.heap.size w4 w5 from hb5)
    have HB5:=hid (HB4.out.trans (HQ5.out.mono hs4))
    have H65:=hid ((HQ5.out.block _ l6).trans H64.out)
    have H75:=hid ((HQ5.out.block _ l7).trans H74.out)
    have H85:=hid ((HQ5.out.block _ l8).trans H84.out)
    have H125:=hid ((HQ5.out.block _ l12).trans H124.out)
    clear p0 p1 p2 p3 p4 q0 q1 q2 q3 q4 q5 q6 r0 r1 r2 z0 z1 z2 z3 z4 z5 z6 f0 f1 f2 f3 f4 f5 f6 k3 l6 l7 l8 l12
    have hs5:=HB5.out.size
    obtain⟨⟨l6,l7,l8,l12⟩,⟨p0,p1,p2,p3,p4⟩,⟨q0,q1,q2,q3,q4,q5,q6⟩,⟨r0,r1,r2⟩,⟨z0,z1,z2,z3,z4,z5,z6⟩,⟨f0,f1,f2,f3,f4,f5,f6⟩,k3⟩:=cellsK H65.out H75.out H85.out H125.out
    clear hb5 hby hop
    dsimp only
    go_upto_region 7 with(fail)
    obtain⟨T,hT⟩: ∃T,T=w5.heap.size:=⟨_,rfl⟩
    rw[←hT]
    refine wp_w (fun W=>Below w5.heap.size w5 W∧W.heap[T]? =some (.cells #[.int .i64 aco,.int .i64 aid,.slice Ad nd cd] 32 (0,0))) ⟨by exact bel,by rw[hT];exact heap_alloc_new _ _⟩ ?_
    rintro w6 ⟨hb6,ht6⟩
    have HT6:=hid ht6
    have hT5:w5.heap.size≤T:=by omega
    have hTX:w.heap.size+1+1+1<T:=by omega
    clear hT
    have HQ6:=hid (show Below w5.heap.size w5 w6 from hb6)
    have HB6:=hid (HB5.out.trans (HQ6.out.mono hs5))
    have H66:=hid ((HQ6.out.block _ l6).trans H65.out)
    have H76:=hid ((HQ6.out.block _ l7).trans H75.out)
    have H86:=hid ((HQ6.out.block _ l8).trans H85.out)
    have H126:=hid ((HQ6.out.block _ l12).trans H125.out)
    clear p0 p1 p2 p3 p4 q0 q1 q2 q3 q4 q5 q6 r0 r1 r2 z0 z1 z2 z3 z4 z5 z6 f0 f1 f2 f3 f4 f5 f6 k3 l6 l7 l8 l12
    have hs6:=HB6.out.size
    obtain⟨⟨l6,l7,l8,l12⟩,⟨p0,p1,p2,p3,p4⟩,⟨q0,q1,q2,q3,q4,q5,q6⟩,⟨r0,r1,r2⟩,⟨z0,z1,z2,z3,z4,z5,z6⟩,⟨f0,f1,f2,f3,f4,f5,f6⟩,k3⟩:=cellsK H66.out H76.out H86.out H126.out
    have HBY6:=hid (HBY.out.below hb6)
    clear hb6 ht6
    have lT:=lt_blk HT6.out
    obtain⟨t0,t1',t2⟩:=cells3 HT6.out
    go_wp2_with fail
    refine(Fs.step_any st 10 _).mono ?_
    rw[show Fs.StepP st 10=fun w x w'=> ∃v,x=.returned (.tuple #[.int .i64 (Fs.tabNext 10 st),v,.int .i64 er])∧Fs.Told w (Fs.tabActs 10 st) v w' by unfold Fs.StepP;rw[HER.out]]
    rintro x w7 ⟨v7,rfl,hb7,-⟩
    have HQ7:=hid (show Below w6.heap.size w6 w7 from hb7)
    have HB7:=hid (HB6.out.trans (HQ7.out.mono hs6))
    have H67:=hid ((HQ7.out.block _ l6).trans H66.out)
    have H77:=hid ((HQ7.out.block _ l7).trans H76.out)
    have H87:=hid ((HQ7.out.block _ l8).trans H86.out)
    have H127:=hid ((HQ7.out.block _ l12).trans H126.out)
    clear p0 p1 p2 p3 p4 q0 q1 q2 q3 q4 q5 q6 r0 r1 r2 z0 z1 z2 z3 z4 z5 z6 f0 f1 f2 f3 f4 f5 f6 k3 l6 l7 l8 l12
    have hs7:=HB7.out.size
    obtain⟨⟨l6,l7,l8,l12⟩,⟨p0,p1,p2,p3,p4⟩,⟨q0,q1,q2,q3,q4,q5,q6⟩,⟨r0,r1,r2⟩,⟨z0,z1,z2,z3,z4,z5,z6⟩,⟨f0,f1,f2,f3,f4,f5,f6⟩,k3⟩:=cellsK H67.out H77.out H87.out H127.out
    clear hb7 t0 t1' t2
    go_wp2_with fail
    refine(as_any st id req cnt tim nak Aa na ca E _ B (by have:=HB.out;omega) (HE.out.keep (HB7.out.mono HB.out)) HNA.out hla (fun e he=>by have:=HDA.out e he;omega)).mono ?_
    rintro x w9 ⟨v,rfl,E9,A9,n9,c9,rfl,he9,hn9,hc9,hb9,ho9⟩
    have HE9:=hid (show E9.map Ent.o=L from he9.trans HL.out)
    have HO9:=hid ho9
    have HQ9:=hid (show Below w7.heap.size w7 w9 from hb9)
    have HB9:=hid (HB7.out.trans (HQ9.out.mono hs7))
    have H69:=hid ((HQ9.out.block _ l6).trans H67.out)
    have H79:=hid ((HQ9.out.block _ l7).trans H77.out)
    have H89:=hid ((HQ9.out.block _ l8).trans H87.out)
    have H129:=hid ((HQ9.out.block _ l12).trans H127.out)
    clear p0 p1 p2 p3 p4 q0 q1 q2 q3 q4 q5 q6 r0 r1 r2 z0 z1 z2 z3 z4 z5 z6 f0 f1 f2 f3 f4 f5 f6 k3 l6 l7 l8 l12
    have hs9:=HB9.out.size
    obtain⟨⟨l6,l7,l8,l12⟩,⟨p0,p1,p2,p3,p4⟩,⟨q0,q1,q2,q3,q4,q5,q6⟩,⟨r0,r1,r2⟩,⟨z0,z1,z2,z3,z4,z5,z6⟩,⟨f0,f1,f2,f3,f4,f5,f6⟩,k3⟩:=cellsK H69.out H79.out H89.out H129.out
    clear he9 hn9 hc9 hb9 ho9
    dsimp only
    go_wp2_with fail
    obtain⟨Wf,hWf⟩: ∃Wf:World,Wf=(((((((w9.setCell ⟨w.heap.size+1+1+1,0,none⟩ (.int .i64 st)).setCell ⟨w.heap.size+1+1+1,1,none⟩ (.int .i64 id)).setCell ⟨w.heap.size+1+1+1,2,none⟩ (.int .i64 req)).setCell ⟨w.heap.size+1+1+1,3,none⟩ (.slice A9 n9 c9)).setCell ⟨w.heap.size+1+1+1,4,none⟩ (.int .i64 cnt)).setCell ⟨w.heap.size+1+1+1,5,none⟩ (.int .i64 tim)).setCell ⟨w.heap.size+1+1+1,6,none⟩ (.int .i64 nak)):=⟨_,rfl⟩
    rw[←hWf]
    have hrow:Wf.heap[w.heap.size+1+1+1]? =some (.cells #[.int .i64 st,.int .i64 id,.int .i64 req,.slice A9 n9 c9,.int .i64 cnt,.int .i64 tim,.int .i64 nak] 29 (0,0)):=by rw[hWf];exact row7 H129.out rfl _ _ _ _ _ _ _
    have hgr:w9.grownBy Wf (some (w.heap.size+1+1+1)):=by rw[hWf];exact grn
    clear hWf
    clear p0 p1 p2 p3 p4 q0 q1 q2 q3 q4 q5 q6 r0 r1 r2 z0 z1 z2 z3 z4 z5 z6 f0 f1 f2 f3 f4 f5 f6 k3 l6 l7 l8 l12
    obtain⟨u0,u1,u2,u3,u4,u5,u6⟩:=cells7 hrow
    refine bodyPost_ret (v:=.tuple #[.agg #[.int .i64 st,.int .i64 id,.int .i64 req,.slice A9 n9 c9,.int .i64 cnt,.int .i64 tim,.int .i64 nak],.slice none 0 0,.slice none 0 0,.bool true]) (by simp[results,Tryz.results19,go_sem,u0,u1,u2,u3,u4,u5,u6]) rfl ?_
    exact⟨.slice A9 n9 c9,.slice none 0 0,.slice none 0 0,rfl,Below.grown HB9.out hgr hs9 (fun k hk=>by cases hk;omega),OptsO.base (OwnOpts.otherx (⟨E9,HO9.out,HE9.out⟩:OptsO _ _ _ L) hgr H129.out (by decide) (by decide)) hs7,⟨[],OwnPks.nil _ _,rfl⟩,ActsO.nil _ _⟩
  ·have h10':(e==10)=false:=by simpa using h10
   have h00':(e==0)=false:=by simpa using HWF.out.1
   have HNX:=hid (show next=L from HWF.out.2.2.1 h10)
   clear h10
   rw[HNX.out]
   have HPD:=hid (show(if Fs.stepErr st e≠0 then((⟨st,id,req,L,cnt,tim,nak⟩,[],[]),true) else(doO ⟨R,mc,mt,mf,wt⟩ ⟨st,id,req,L,cnt,tim,nak⟩ e ⟨ic,ii,li⟩ ⟨aco,aid,ad⟩ tick,true))=(doO ⟨R,mc,mt,mf,wt⟩ ⟨st,id,req,L,cnt,tim,nak⟩ e ⟨ic,ii,li⟩ ⟨aco,aid,ad⟩ tick,true) by
    split
    ·rename_i h
     unfold doO
     rw[if_neg (fun h2=>h h2.2)]
    ·rfl)
   rw[HPD.out]
   obtain⟨⟨⟨ys,yi,yr,yL,yc,yt,yk⟩,o1,d1⟩,hdo⟩: ∃r,doO ⟨R,mc,mt,mf,wt⟩ ⟨st,id,req,L,cnt,tim,nak⟩ e ⟨ic,ii,li⟩ ⟨aco,aid,ad⟩ tick=r:=⟨_,rfl⟩
   have HDO:=hid hdo
   rw[hdo]
   clear hdo HPD
   go_enter Tryz.func19,Tryz.ntmps19
   go_upto_region 1 with(fail)
   refine boxes4 ?_
   rintro w2 ⟨h6,h7,h8,h12,hbw⟩
   have HB2:=hid hbw
   have H62:=hid h6
   have H72:=hid h7
   have H82:=hid h8
   have H122:=hid h12
   clear h6 h7 h8 h12 hbw
   have hs2:=HB2.out.size
   obtain⟨⟨l6,l7,l8,l12⟩,⟨p0,p1,p2,p3,p4⟩,⟨q0,q1,q2,q3,q4,q5,q6⟩,⟨r0,r1,r2⟩,⟨z0,z1,z2,z3,z4,z5,z6⟩,⟨f0,f1,f2,f3,f4,f5,f6⟩,k3⟩:=cellsK H62.out H72.out H82.out H122.out
   go_wp2_with (go_at_call 59;refine(within_t _ _ _ _ HIN.out).mono ?_;rintro e w1 ⟨rfl,rfl⟩)
   refine(Cp.enc_any ic ii Ai ni ci li _ B (by have:=HB.out;omega) (HI.out.keep (HB2.out.mono HB.out)) HNI.out (by omega)).mono ?_
   unfold Cp.EncP
   rw[HEN.out]
   rintro x w3 ⟨v3,rfl,hb3,-⟩
   have HQ3:=hid (show Below w2.heap.size w2 w3 from hb3)
   have HB3:=hid (HB2.out.trans (HQ3.out.mono hs2))
   have H63:=hid ((HQ3.out.block _ l6).trans H62.out)
   have H73:=hid ((HQ3.out.block _ l7).trans H72.out)
   have H83:=hid ((HQ3.out.block _ l8).trans H82.out)
   have H123:=hid ((HQ3.out.block _ l12).trans H122.out)
   clear p0 p1 p2 p3 p4 q0 q1 q2 q3 q4 q5 q6 r0 r1 r2 z0 z1 z2 z3 z4 z5 z6 f0 f1 f2 f3 f4 f5 f6 k3 l6 l7 l8 l12
   have hs3:=HB3.out.size
   obtain⟨⟨l6,l7,l8,l12⟩,⟨p0,p1,p2,p3,p4⟩,⟨q0,q1,q2,q3,q4,q5,q6⟩,⟨r0,r1,r2⟩,⟨z0,z1,z2,z3,z4,z5,z6⟩,⟨f0,f1,f2,f3,f4,f5,f6⟩,k3⟩:=cellsK H63.out H73.out H83.out H123.out
   clear hb3
   go_wp2_with fail
   refine(may_any Ar nr cr R mc mt mf wt st id req cnt tim nak Aa na ca E L HL.out tick _ B (by have:=HB.out;omega) (HR.out.keep (HB3.out.mono HB.out)) HNR.out hlr (HE.out.keep (HB3.out.mono HB.out)) HNA.out).mono ?_
   rw[HF.out]
   rintro x w4 ⟨rfl,hb4⟩
   have HQ4:=hid (show Below w3.heap.size w3 w4 from hb4)
   have HB4:=hid (HB3.out.trans (HQ4.out.mono hs3))
   have H64:=hid ((HQ4.out.block _ l6).trans H63.out)
   have H74:=hid ((HQ4.out.block _ l7).trans H73.out)
   have H84:=hid ((HQ4.out.block _ l8).trans H83.out)
   have H124:=hid ((HQ4.out.block _ l12).trans H123.out)
   clear p0 p1 p2 p3 p4 q0 q1 q2 q3 q4 q5 q6 r0 r1 r2 z0 z1 z2 z3 z4 z5 z6 f0 f1 f2 f3 f4 f5 f6 k3 l6 l7 l8 l12
   have hs4:=HB4.out.size
   obtain⟨⟨l6,l7,l8,l12⟩,⟨p0,p1,p2,p3,p4⟩,⟨q0,q1,q2,q3,q4,q5,q6⟩,⟨r0,r1,r2⟩,⟨z0,z1,z2,z3,z4,z5,z6⟩,⟨f0,f1,f2,f3,f4,f5,f6⟩,k3⟩:=cellsK H64.out H74.out H84.out H124.out
   clear hb4
   go_wp2_with fail
   refine(which_any ic h1 h7 Ar Aa Ai nr cr na ca ni ci R mc mt mf wt st id req cnt tim nak ii E li _ B (by have:=HB.out;omega) (HR.out.keep (HB4.out.mono HB.out)) HNR.out hlr (HE.out.keep (HB4.out.mono HB.out)) HNA.out hla HDA.out (HI.out.keep (HB4.out.mono HB.out)) HNI.out hci).mono ?_
   rw[HL.out,HW.out]
   rintro x w5 ⟨Ad,nd,cd,An,nn,cn,rfl,hb5,hby,hop⟩
   have HBY:=hid (hby.base (Nat.le_trans hs4 (Nat.le_refl _)))
   have HOP:=hid hop
   have HQ5:=hid (show Below w4.heap.size w4 w5 from hb5)
   have HB5:=hid (HB4.out.trans (HQ5.out.mono hs4))
   have H65:=hid ((HQ5.out.block _ l6).trans H64.out)
   have H75:=hid ((HQ5.out.block _ l7).trans H74.out)
   have H85:=hid ((HQ5.out.block _ l8).trans H84.out)
   have H125:=hid ((HQ5.out.block _ l12).trans H124.out)
   clear p0 p1 p2 p3 p4 q0 q1 q2 q3 q4 q5 q6 r0 r1 r2 z0 z1 z2 z3 z4 z5 z6 f0 f1 f2 f3 f4 f5 f6 k3 l6 l7 l8 l12
   have hs5:=HB5.out.size
   obtain⟨⟨l6,l7,l8,l12⟩,⟨p0,p1,p2,p3,p4⟩,⟨q0,q1,q2,q3,q4,q5,q6⟩,⟨r0,r1,r2⟩,⟨z0,z1,z2,z3,z4,z5,z6⟩,⟨f0,f1,f2,f3,f4,f5,f6⟩,k3⟩:=cellsK H65.out H75.out H85.out H125.out
   clear hb5 hby hop
   dsimp only
   go_upto_region 7 with(fail)
   obtain⟨T,hT⟩: ∃T,T=w5.heap.size:=⟨_,rfl⟩
   rw[←hT]
   refine wp_w (fun W=>Below w5.heap.size w5 W∧W.heap[T]? =some (.cells #[.int .i64 aco,.int .i64 aid,.slice Ad nd cd] 32 (0,0))) ⟨by exact bel,by rw[hT];exact heap_alloc_new _ _⟩ ?_
   rintro w6 ⟨hb6,ht6⟩
   have HT6:=hid ht6
   have hT5:w5.heap.size≤T:=by omega
   have hTX:w.heap.size+1+1+1<T:=by omega
   clear hT
   have HQ6:=hid (show Below w5.heap.size w5 w6 from hb6)
   have HB6:=hid (HB5.out.trans (HQ6.out.mono hs5))
   have H66:=hid ((HQ6.out.block _ l6).trans H65.out)
   have H76:=hid ((HQ6.out.block _ l7).trans H75.out)
   have H86:=hid ((HQ6.out.block _ l8).trans H85.out)
   have H126:=hid ((HQ6.out.block _ l12).trans H125.out)
   clear p0 p1 p2 p3 p4 q0 q1 q2 q3 q4 q5 q6 r0 r1 r2 z0 z1 z2 z3 z4 z5 z6 f0 f1 f2 f3 f4 f5 f6 k3 l6 l7 l8 l12
   have hs6:=HB6.out.size
   obtain⟨⟨l6,l7,l8,l12⟩,⟨p0,p1,p2,p3,p4⟩,⟨q0,q1,q2,q3,q4,q5,q6⟩,⟨r0,r1,r2⟩,⟨z0,z1,z2,z3,z4,z5,z6⟩,⟨f0,f1,f2,f3,f4,f5,f6⟩,k3⟩:=cellsK H66.out H76.out H86.out H126.out
   have HBY6:=hid (HBY.out.below hb6)
   clear hb6 ht6
   have lT:=lt_blk HT6.out
   obtain⟨t0,t1',t2⟩:=cells3 HT6.out
   obtain⟨Ay,ny,cy,hey,hay,hny,hcy⟩:=HBY6.out.v
   simp only[Value.slice.injEq] at hey
   obtain⟨rfl,rfl,rfl⟩:=hey
   have HAY:=hid hay
   have HNY:=hid hny
   clear hay hny
   go_wp2_with fail
   refine(do_any Ar Aa Ai Ad nr cr na ca ni ci nd cd R mc mt mf wt st id req cnt tim nak e ic ii aco aid tick E li ad w6 w6.heap.size (Nat.le_refl _) ((HR.out.keep (HB6.out.mono HB.out)).more (by have:=HB.out;omega)) HNR.out hlr ((HE.out.keep (HB6.out.mono HB.out)).more (by have:=HB.out;omega)) HNA.out hla (fun e he=>by have:=HDA.out e he;omega) ((HI.out.keep (HB6.out.mono HB.out)).more (by have:=HB.out;omega)) HNI.out hci hli HAY.out HNY.out hcy (by have h3:ad.length≤1488:=HWF.out.2.1;have:=HNY.out;omega)).mono ?_
   rw[HL.out,HDO.out]
   rintro x wE ⟨va,vo,vd,rfl,hbE,⟨E4,hE4,hEL4⟩,hpE,haE⟩
   obtain⟨A4,c4,rfl,-,-⟩:=ownsRow_form hE4.1
   clear t0 t1' t2
   have HOE:=hid (⟨E4,hE4,hEL4⟩:OptsO wE _ _ yL)
   have HPE:=hid hpE
   have HAE:=hid haE
   have HQE:=hid (show Below w6.heap.size w6 wE from hbE)
   have HBE:=hid (HB6.out.trans (HQE.out.mono hs6))
   have H6E:=hid ((HQE.out.block _ l6).trans H66.out)
   have H7E:=hid ((HQE.out.block _ l7).trans H76.out)
   have H8E:=hid ((HQE.out.block _ l8).trans H86.out)
   have H12E:=hid ((HQE.out.block _ l12).trans H126.out)
   clear p0 p1 p2 p3 p4 q0 q1 q2 q3 q4 q5 q6 r0 r1 r2 z0 z1 z2 z3 z4 z5 z6 f0 f1 f2 f3 f4 f5 f6 k3 l6 l7 l8 l12
   have hsE:=HBE.out.size
   obtain⟨⟨l6,l7,l8,l12⟩,⟨p0,p1,p2,p3,p4⟩,⟨q0,q1,q2,q3,q4,q5,q6⟩,⟨r0,r1,r2⟩,⟨z0,z1,z2,z3,z4,z5,z6⟩,⟨f0,f1,f2,f3,f4,f5,f6⟩,k3⟩:=cellsK H6E.out H7E.out H8E.out H12E.out
   clear hbE hpE haE hE4 hEL4
   unfold auV
   go_upto_region 15 with(fail)
   obtain⟨T2,hT2⟩: ∃T2,T2=wE.heap.size:=⟨_,rfl⟩
   rw[←hT2]
   refine wp_w (fun W=>Below wE.heap.size wE W∧W.heap[T2]? =some (.cells #[.int .i64 ys,.int .i64 yi,.int .i64 yr,.slice A4 E4.length c4,.int .i64 yc,.int .i64 yt,.int .i64 yk] 29 (0,0))) ⟨by exact bel,by rw[hT2];exact heap_alloc_new _ _⟩ ?_
   rintro wF ⟨hbF,htF⟩
   have HTF:=hid htF
   have hT2E:wE.heap.size≤T2:=by omega
   clear hT2
   have HQF:=hid (show Below wE.heap.size wE wF from hbF)
   have HBF:=hid (HBE.out.trans (HQF.out.mono hsE))
   have H6F:=hid ((HQF.out.block _ l6).trans H6E.out)
   have H7F:=hid ((HQF.out.block _ l7).trans H7E.out)
   have H8F:=hid ((HQF.out.block _ l8).trans H8E.out)
   have H12F:=hid ((HQF.out.block _ l12).trans H12E.out)
   clear p0 p1 p2 p3 p4 q0 q1 q2 q3 q4 q5 q6 r0 r1 r2 z0 z1 z2 z3 z4 z5 z6 f0 f1 f2 f3 f4 f5 f6 k3 l6 l7 l8 l12
   have hsF:=HBF.out.size
   obtain⟨⟨l6,l7,l8,l12⟩,⟨p0,p1,p2,p3,p4⟩,⟨q0,q1,q2,q3,q4,q5,q6⟩,⟨r0,r1,r2⟩,⟨z0,z1,z2,z3,z4,z5,z6⟩,⟨f0,f1,f2,f3,f4,f5,f6⟩,k3⟩:=cellsK H6F.out H7F.out H8F.out H12F.out
   clear hbF htF
   have lT2:=lt_blk HTF.out
   obtain⟨t0,t1',t2,t3,t4,t5,t6⟩:=cells7 HTF.out
   go_wp2_with fail
   obtain⟨Wf,hWf⟩: ∃Wf:World,Wf=(((((((wF.setCell ⟨w.heap.size+1+1+1,0,none⟩ (.int .i64 ys)).setCell ⟨w.heap.size+1+1+1,1,none⟩ (.int .i64 yi)).setCell ⟨w.heap.size+1+1+1,2,none⟩ (.int .i64 yr)).setCell ⟨w.heap.size+1+1+1,3,none⟩ (.slice A4 E4.length c4)).setCell ⟨w.heap.size+1+1+1,4,none⟩ (.int .i64 yc)).setCell ⟨w.heap.size+1+1+1,5,none⟩ (.int .i64 yt)).setCell ⟨w.heap.size+1+1+1,6,none⟩ (.int .i64 yk)):=⟨_,rfl⟩
   rw[←hWf]
   have hrow:Wf.heap[w.heap.size+1+1+1]? =some (.cells #[.int .i64 ys,.int .i64 yi,.int .i64 yr,.slice A4 E4.length c4,.int .i64 yc,.int .i64 yt,.int .i64 yk] 29 (0,0)):=by rw[hWf];exact row7 H12F.out rfl _ _ _ _ _ _ _
   have hgr:wF.grownBy Wf (some (w.heap.size+1+1+1)):=by rw[hWf];exact grn
   clear hWf t0 t1' t2 t3 t4 t5 t6
   clear p0 p1 p2 p3 p4 q0 q1 q2 q3 q4 q5 q6 r0 r1 r2 z0 z1 z2 z3 z4 z5 z6 f0 f1 f2 f3 f4 f5 f6 k3 l6 l7 l8 l12
   obtain⟨u0,u1,u2,u3,u4,u5,u6⟩:=cells7 hrow
   refine bodyPost_ret (v:=.tuple #[.agg #[.int .i64 ys,.int .i64 yi,.int .i64 yr,.slice A4 E4.length c4,.int .i64 yc,.int .i64 yt,.int .i64 yk],vo,vd,.bool true]) (by simp[results,Tryz.results19,go_sem,u0,u1,u2,u3,u4,u5,u6]) rfl ?_
   exact⟨.slice A4 E4.length c4,vo,vd,rfl,Below.grown HBF.out hgr hsF (fun k hk=>by cases hk;omega),OptsO.base (OwnOpts.otherx (OptsO.below HOE.out HQF.out) hgr H12F.out (by decide) (by decide)) hs6,PksO.base (PksO.other (PksO.below HPE.out HQF.out) hgr H12F.out (by decide) (by decide)) hs6,ActsO.base (ActsO.other (ActsO.below HAE.out HQF.out) hgr H12F.out (by decide)) hs6⟩
end Go.Proofs.YtfkgmbknfnhjoaaGreat
namespace Go.Proofs.YtfkgmbknfnhjoaaGreat
open Lib (hid)
open Go.RowKit
set_option linter.unusedVariables false
set_option linter.ambiguousOpen false
open Ne (Rl Opt RulesAt areB)
theorem pack_any (Ar Aa Ai:Option Addr) (nr cr na ca ni ci:Nat) (R:List Rl) (mc mt mf wt st id req cnt tim nak ic ii tick:Int) (E:List Ent) (li:List UInt8) (w:World) (B:Nat) (hB:B≤w.heap.size) (hR:RulesAt w B Ar R) (hnr:nr=R.length) (hlr:nr≤1000000) (hE:OptsAt w B Aa E) (hna:na=E.length) (hla:na≤1000000) (hda: ∀e∈E,e.d.length≤1000000) (hI:At w B Ai (li.map bv)) (hni:ni=li.length) (hci:ni≤ci) (hli:ni≤400000000):Calls Tryz.prog 19 #[.agg #[.slice Ar nr cr,.int .i64 mc,.int .i64 mt,.int .i64 mf,.int .i64 wt],.agg #[.int .i64 st,.int .i64 id,.int .i64 req,.slice Aa na ca,.int .i64 cnt,.int .i64 tim,.int .i64 nak],.agg #[.int .i64 ic,.int .i64 ii,.slice Ai ni ci],.int .i64 tick] w (PackP (packO ⟨R,mc,mt,mf,wt⟩ ⟨st,id,req,E.map Ent.o,cnt,tim,nak⟩ ⟨ic,ii,li⟩ tick) w):=by
 by_cases h:inB ic 1 7=true∧Cp.encErr ic ii li.length=0∧fineB ⟨R,mc,mt,mf,wt⟩ ⟨st,id,req,E.map Ent.o,cnt,tim,nak⟩ tick=true
 ·exact pack_yes Ar Aa Ai nr cr na ca ni ci R mc mt mf wt st id req cnt tim nak ic ii tick E li w B hB hR hnr hlr hE hna hla hda hI hni hci hli h.1 h.2.1 h.2.2
 ·exact pack_no Ar Aa Ai nr cr na ca ni ci R mc mt mf wt st id req cnt tim nak ic ii tick E li w B hB hR hnr hlr hE hna hla hda hI hni hci hli (by
   cases h1:inB ic 1 7
   ·exact .inl rfl
   ·refine .inr ?_
    by_cases h2:Cp.encErr ic ii li.length=0
    ·refine .inr ?_
     cases h3:fineB ⟨R,mc,mt,mf,wt⟩ ⟨st,id,req,E.map Ent.o,cnt,tim,nak⟩ tick
     ·rfl
     ·exact absurd ⟨h1,h2,h3⟩ h
    ·exact .inl h2)
end Go.Proofs.YtfkgmbknfnhjoaaGreat
