/- Bundle PR. -/
import Derived.Test.YtfkgmbknfnhjoaaGreatRPO
import Derived.Test.YtfkgmbknfnhjoaaGreatRPP
import Derived.Test.YtfkgmbknfnhjoaaGreatRPQ
import Derived.Test.YtfkgmbknfnhjoaaGreatRPK
set_option maxHeartbeats 8000000
namespace Go.Proofs.YtfkgmbknfnhjoaaGreat
open Lib (hid)
open Go.RowKit
set_option linter.unusedVariables false
set_option linter.ambiguousOpen false
open Ne (Rl Opt RulesAt areB)
theorem rwhich_any (ic:Int) (h1:1≤ic) (h7:ic≤7) (Ar Aa Ai:Option Addr) (nr cr na ca ni ci:Nat) (R:List Rl) (mc mt mf wt st id req cnt tim nak ii:Int) (E:List Ent) (li:List UInt8) (w:World) (B:Nat) (hB:B≤w.heap.size) (hR:RulesAt w B Ar R) (hnr:nr=R.length) (hlr:nr≤1000000) (hE:OptsAt w B Aa E) (hna:na=E.length) (hca:na≤ca) (hla:na≤1000000) (hI:At w B Ai (li.map bv)) (hni:ni=li.length) (hci:ni≤ci):
  Calls Tryz.prog 63 #[.agg #[.slice Ar nr cr,.int .i64 mc,.int .i64 mt,.int .i64 mf,.int .i64 wt],.agg #[.int .i64 st,.int .i64 id,.int .i64 req,.slice Aa na ca,.int .i64 cnt,.int .i64 tim,.int .i64 nak],.agg #[.int .i64 ic,.int .i64 ii,.slice Ai ni ci]] w (RWhichP (whichO ⟨R,mc,mt,mf,wt⟩ ⟨st,id,req,E.map Ent.o,cnt,tim,nak⟩ ⟨ic,ii,li⟩) ⟨st,id,req,E.map Ent.o,cnt,tim,nak⟩ (.slice Aa na ca) w):=by
 have h:ic=1∨ic=2∨ic=3∨ic=4∨ic=5∨ic=6∨ic=7:=by omega
 rcases h with rfl|rfl|rfl|rfl|rfl|rfl|rfl
 ·exact rwhich_1 Ar Aa Ai nr cr na ca ni ci R mc mt mf wt st id req cnt tim nak ii E li w B hB hR hnr hlr hE hna hca hla hI hni hci
 ·exact rwhich_2 Ar Aa Ai nr cr na ca ni ci R mc mt mf wt st id req cnt tim nak ii E li w B hB hR hnr hlr hE hna hca hla hI hni hci
 ·exact rwhich_34 3 (.inl rfl) Ar Aa Ai nr cr na ca ni ci R mc mt mf wt st id req cnt tim nak ii E li w B hB hR hnr hlr hE hna hca hla hI hni hci
 ·exact rwhich_34 4 (.inr rfl) Ar Aa Ai nr cr na ca ni ci R mc mt mf wt st id req cnt tim nak ii E li w B hB hR hnr hlr hE hna hca hla hI hni hci
 ·exact rwhich_5 Ar Aa Ai nr cr na ca ni ci R mc mt mf wt st id req cnt tim nak ii E li w B hB hR hnr hlr hE hna hca hla hI hni hci
 ·exact rwhich_6 Ar Aa Ai nr cr na ca ni ci R mc mt mf wt st id req cnt tim nak ii E li w B hB hR hnr hlr hE hna hca hla hI hni hci
 ·exact rwhich_7 Ar Aa Ai nr cr na ca ni ci R mc mt mf wt st id req cnt tim nak ii E li w B hB hR hnr hlr hE hna hca hla hI hni hci
end Go.Proofs.YtfkgmbknfnhjoaaGreat
namespace Go.Proofs.YtfkgmbknfnhjoaaGreat
open Lib (hid)
open Go.RowKit
set_option linter.unusedSimpArgs false
set_option linter.unusedVariables false
set_option linter.ambiguousOpen false
open Ne (Rl Opt RulesAt areB answerO learnO)
open Fs (av hasB)
def RPackP (r:(Au×List Pk×List Int)×Bool) (ua:Value) (L:List Opt) (w:World) (x:Ending) (w':World):Prop:=
 ∃va vo vd,x=.returned (.tuple #[auV r.1.1 va,vo,vd,.bool r.2])∧Below w.heap.size w w'∧((va=ua∧r.1.1.ask=L)∨OptsR w' w.heap.size va r.1.1.ask)∧PksR w' w.heap.size vo r.1.2.1∧ActsO w' w.heap.size vd r.1.2.2
set_option maxRecDepth 100000 in
theorem rpack_no (Ar Aa Ai:Option Addr) (nr cr na ca ni ci:Nat) (R:List Rl) (mc mt mf wt st id req cnt tim nak ic ii tick:Int) (E:List Ent) (li:List UInt8) (w:World) (B:Nat) (hB:B≤w.heap.size) (hR:RulesAt w B Ar R) (hnr:nr=R.length) (hlr:nr≤1000000) (hE:OptsAt w B Aa E) (hna:na=E.length) (hca:na≤ca) (hla:na≤1000000) (hI:At w B Ai (li.map bv)) (hni:ni=li.length) (hci:ni≤ci) (hli:ni≤400000000) (hno:inB ic 1 7=false∨(Cp.encErr ic ii li.length≠0∨fineB ⟨R,mc,mt,mf,wt⟩ ⟨st,id,req,E.map Ent.o,cnt,tim,nak⟩ tick=false)):Calls Tryz.prog 20 #[.agg #[.slice Ar nr cr,.int .i64 mc,.int .i64 mt,.int .i64 mf,.int .i64 wt],.agg #[.int .i64 st,.int .i64 id,.int .i64 req,.slice Aa na ca,.int .i64 cnt,.int .i64 tim,.int .i64 nak],.agg #[.int .i64 ic,.int .i64 ii,.slice Ai ni ci],.int .i64 tick] w (RPackP (packO ⟨R,mc,mt,mf,wt⟩ ⟨st,id,req,E.map Ent.o,cnt,tim,nak⟩ ⟨ic,ii,li⟩ tick) (.slice Aa na ca) (E.map Ent.o) w):=by
 obtain⟨ib,hib⟩: ∃ib,inB ic 1 7=ib:=⟨_,rfl⟩
 rw[hib] at hno
 have HB:=hid hB
 have HR:=hid hR
 have HNR:=hid hnr
 have HE:=hid hE
 have HNA:=hid hna
 have HI:=hid hI
 have HNI:=hid hni
 obtain⟨L,hL⟩: ∃L,E.map Ent.o=L:=⟨_,rfl⟩
 have HL:=hid hL
 rw[hL]
 clear hB hR hnr hE hna hL hI hni
 rw[HL.out] at hno
 cases ib
 ·have HO:=hid (show packO ⟨R,mc,mt,mf,wt⟩ ⟨st,id,req,L,cnt,tim,nak⟩ ⟨ic,ii,li⟩ tick=((⟨st,id,req,L,cnt,tim,nak⟩,[],[]),false) from if_pos hib)
  rw[HO.out]
  by_cases hl1:ic<1
  ·clear hib hno HO
   go_enter Tryz.func20,Tryz.ntmps20
   go_upto_region 1 with(fail)
   refine boxes4 ?_
   rintro w2 ⟨h6,h7,h8,h12,hbw⟩
   have HB2:=hid hbw
   have H62:=hid h6
   have H72:=hid h7
   have H82:=hid h8
   have H122:=hid h12
   clear h6 h7 h8 h12 hbw
   have hs2:=HB2.out.size
   obtain⟨⟨l6,l7,l8,l12⟩,⟨p0,p1,p2,p3,p4⟩,⟨q0,q1,q2,q3,q4,q5,q6⟩,⟨r0,r1,r2⟩,⟨z0,z1,z2,z3,z4,z5,z6⟩,⟨f0,f1,f2,f3,f4,f5,f6⟩,k3⟩:=cellsK H62.out H72.out H82.out H122.out
   go_wp2_with fail
   obtain⟨Wf,hWf⟩: ∃Wf:World,Wf=(((((((w2.setCell ⟨w.heap.size+1+1+1,0,none⟩ (.int .i64 st)).setCell ⟨w.heap.size+1+1+1,1,none⟩ (.int .i64 id)).setCell ⟨w.heap.size+1+1+1,2,none⟩ (.int .i64 req)).setCell ⟨w.heap.size+1+1+1,3,none⟩ (.slice Aa na ca)).setCell ⟨w.heap.size+1+1+1,4,none⟩ (.int .i64 cnt)).setCell ⟨w.heap.size+1+1+1,5,none⟩ (.int .i64 tim)).setCell ⟨w.heap.size+1+1+1,6,none⟩ (.int .i64 nak)):=⟨_,rfl⟩
   rw[←hWf]
   have hrow:Wf.heap[w.heap.size+1+1+1]? =some (.cells #[.int .i64 st,.int .i64 id,.int .i64 req,.slice Aa na ca,.int .i64 cnt,.int .i64 tim,.int .i64 nak] 29 (0,0)):=by rw[hWf];exact row7 H122.out rfl _ _ _ _ _ _ _
   have hgr:w2.grownBy Wf (some (w.heap.size+1+1+1)):=by rw[hWf];exact grn
   clear hWf
   clear p0 p1 p2 p3 p4 q0 q1 q2 q3 q4 q5 q6 r0 r1 r2 z0 z1 z2 z3 z4 z5 z6 f0 f1 f2 f3 f4 f5 f6 k3 l6 l7 l8 l12
   obtain⟨u0,u1,u2,u3,u4,u5,u6⟩:=cells7 hrow
   refine bodyPost_ret (v:=.tuple #[.agg #[.int .i64 st,.int .i64 id,.int .i64 req,.slice Aa na ca,.int .i64 cnt,.int .i64 tim,.int .i64 nak],.slice none 0 0,.slice none 0 0,.bool false]) (by simp[results,Tryz.results20,go_sem,u0,u1,u2,u3,u4,u5,u6]) rfl ?_
   exact⟨.slice Aa na ca,.slice none 0 0,.slice none 0 0,rfl,Below.grown HB2.out hgr hs2 (fun k hk=>by cases hk;omega),.inl ⟨rfl,rfl⟩,PksR.nil _ _,ActsO.nil _ _⟩
  ·have hg7:7<ic:=by simp[inB] at hib;omega
   clear hib hno HO
   go_enter Tryz.func20,Tryz.ntmps20
   go_upto_region 1 with(fail)
   refine boxes4 ?_
   rintro w2 ⟨h6,h7,h8,h12,hbw⟩
   have HB2:=hid hbw
   have H62:=hid h6
   have H72:=hid h7
   have H82:=hid h8
   have H122:=hid h12
   clear h6 h7 h8 h12 hbw
   have hs2:=HB2.out.size
   obtain⟨⟨l6,l7,l8,l12⟩,⟨p0,p1,p2,p3,p4⟩,⟨q0,q1,q2,q3,q4,q5,q6⟩,⟨r0,r1,r2⟩,⟨z0,z1,z2,z3,z4,z5,z6⟩,⟨f0,f1,f2,f3,f4,f5,f6⟩,k3⟩:=cellsK H62.out H72.out H82.out H122.out
   go_wp2_with fail
   obtain⟨Wf,hWf⟩: ∃Wf:World,Wf=(((((((w2.setCell ⟨w.heap.size+1+1+1,0,none⟩ (.int .i64 st)).setCell ⟨w.heap.size+1+1+1,1,none⟩ (.int .i64 id)).setCell ⟨w.heap.size+1+1+1,2,none⟩ (.int .i64 req)).setCell ⟨w.heap.size+1+1+1,3,none⟩ (.slice Aa na ca)).setCell ⟨w.heap.size+1+1+1,4,none⟩ (.int .i64 cnt)).setCell ⟨w.heap.size+1+1+1,5,none⟩ (.int .i64 tim)).setCell ⟨w.heap.size+1+1+1,6,none⟩ (.int .i64 nak)):=⟨_,rfl⟩
   rw[←hWf]
   have hrow:Wf.heap[w.heap.size+1+1+1]? =some (.cells #[.int .i64 st,.int .i64 id,.int .i64 req,.slice Aa na ca,.int .i64 cnt,.int .i64 tim,.int .i64 nak] 29 (0,0)):=by rw[hWf];exact row7 H122.out rfl _ _ _ _ _ _ _
   have hgr:w2.grownBy Wf (some (w.heap.size+1+1+1)):=by rw[hWf];exact grn
   clear hWf
   clear p0 p1 p2 p3 p4 q0 q1 q2 q3 q4 q5 q6 r0 r1 r2 z0 z1 z2 z3 z4 z5 z6 f0 f1 f2 f3 f4 f5 f6 k3 l6 l7 l8 l12
   obtain⟨u0,u1,u2,u3,u4,u5,u6⟩:=cells7 hrow
   refine bodyPost_ret (v:=.tuple #[.agg #[.int .i64 st,.int .i64 id,.int .i64 req,.slice Aa na ca,.int .i64 cnt,.int .i64 tim,.int .i64 nak],.slice none 0 0,.slice none 0 0,.bool false]) (by simp[results,Tryz.results20,go_sem,u0,u1,u2,u3,u4,u5,u6]) rfl ?_
   exact⟨.slice Aa na ca,.slice none 0 0,.slice none 0 0,rfl,Below.grown HB2.out hgr hs2 (fun k hk=>by cases hk;omega),.inl ⟨rfl,rfl⟩,PksR.nil _ _,ActsO.nil _ _⟩
 ·have h2:Cp.encErr ic ii li.length≠0∨fineB ⟨R,mc,mt,mf,wt⟩ ⟨st,id,req,L,cnt,tim,nak⟩ tick=false:=by rcases hno with h|h;cases h;exact h
  have HO:=hid (show packO ⟨R,mc,mt,mf,wt⟩ ⟨st,id,req,L,cnt,tim,nak⟩ ⟨ic,ii,li⟩ tick=((⟨st,id,req,L,cnt,tim,nak⟩,[],[]),true) by unfold packO;dsimp only;rw[hib,if_neg (by decide),if_pos h2])
  rw[HO.out]
  obtain⟨er,her⟩: ∃er,Cp.encErr ic ii li.length=er:=⟨_,rfl⟩
  have HEN:=hid her
  rw[her] at h2
  obtain⟨fb,hfb⟩: ∃fb,fineB ⟨R,mc,mt,mf,wt⟩ ⟨st,id,req,L,cnt,tim,nak⟩ tick=fb:=⟨_,rfl⟩
  have HF:=hid hfb
  rw[hfb] at h2
  have hl1: ¬ic<1:=by simp[inB] at hib;omega
  have hg7: ¬7<ic:=by simp[inB] at hib;omega
  clear hib hno HO her hfb
  cases fb
  ·clear h2
   go_enter Tryz.func20,Tryz.ntmps20
   go_upto_region 1 with(fail)
   refine boxes4 ?_
   rintro w2 ⟨h6,h7,h8,h12,hbw⟩
   have HB2:=hid hbw
   have H62:=hid h6
   have H72:=hid h7
   have H82:=hid h8
   have H122:=hid h12
   clear h6 h7 h8 h12 hbw
   have hs2:=HB2.out.size
   obtain⟨⟨l6,l7,l8,l12⟩,⟨p0,p1,p2,p3,p4⟩,⟨q0,q1,q2,q3,q4,q5,q6⟩,⟨r0,r1,r2⟩,⟨z0,z1,z2,z3,z4,z5,z6⟩,⟨f0,f1,f2,f3,f4,f5,f6⟩,k3⟩:=cellsK H62.out H72.out H82.out H122.out
   go_wp2_with fail
   refine(Cp.enc_ref ic ii Ai ni ci li _ B (by have:=HB.out;omega) (HI.out.keep (HB2.out.mono HB.out)) HNI.out (by omega)).mono ?_
   unfold Cp.EncP
   rw[HEN.out]
   rintro x w3 ⟨v3,rfl,hb3,-⟩
   have HQ3:=hid (show Below w2.heap.size w2 w3 from hb3)
   have HB3:=hid (HB2.out.trans (HQ3.out.mono hs2))
   have H63:=hid ((HQ3.out.block _ l6).trans H62.out)
   have H73:=hid ((HQ3.out.block _ l7).trans H72.out)
   have H83:=hid ((HQ3.out.block _ l8).trans H82.out)
   have H123:=hid ((HQ3.out.block _ l12).trans H122.out)
   clear p0 p1 p2 p3 p4 q0 q1 q2 q3 q4 q5 q6 r0 r1 r2 z0 z1 z2 z3 z4 z5 z6 f0 f1 f2 f3 f4 f5 f6 k3 l6 l7 l8 l12
   have hs3:=HB3.out.size
   obtain⟨⟨l6,l7,l8,l12⟩,⟨p0,p1,p2,p3,p4⟩,⟨q0,q1,q2,q3,q4,q5,q6⟩,⟨r0,r1,r2⟩,⟨z0,z1,z2,z3,z4,z5,z6⟩,⟨f0,f1,f2,f3,f4,f5,f6⟩,k3⟩:=cellsK H63.out H73.out H83.out H123.out
   clear hb3
   go_wp2_with fail
   refine(fine_ref Ar nr cr R mc mt mf wt st id req cnt tim nak Aa na ca E L HL.out tick _ B (by have:=HB.out;omega) (HR.out.keep (HB3.out.mono HB.out)) HNR.out hlr (HE.out.keep (HB3.out.mono HB.out)) HNA.out).mono ?_
   rw[HF.out]
   rintro x w4 ⟨rfl,hb4⟩
   have HQ4:=hid (show Below w3.heap.size w3 w4 from hb4)
   have HB4:=hid (HB3.out.trans (HQ4.out.mono hs3))
   have H64:=hid ((HQ4.out.block _ l6).trans H63.out)
   have H74:=hid ((HQ4.out.block _ l7).trans H73.out)
   have H84:=hid ((HQ4.out.block _ l8).trans H83.out)
   have H124:=hid ((HQ4.out.block _ l12).trans H123.out)
   clear p0 p1 p2 p3 p4 q0 q1 q2 q3 q4 q5 q6 r0 r1 r2 z0 z1 z2 z3 z4 z5 z6 f0 f1 f2 f3 f4 f5 f6 k3 l6 l7 l8 l12
   have hs4:=HB4.out.size
   obtain⟨⟨l6,l7,l8,l12⟩,⟨p0,p1,p2,p3,p4⟩,⟨q0,q1,q2,q3,q4,q5,q6⟩,⟨r0,r1,r2⟩,⟨z0,z1,z2,z3,z4,z5,z6⟩,⟨f0,f1,f2,f3,f4,f5,f6⟩,k3⟩:=cellsK H64.out H74.out H84.out H124.out
   clear hb4
   go_wp2_with fail
   obtain⟨Wf,hWf⟩: ∃Wf:World,Wf=(((((((w4.setCell ⟨w.heap.size+1+1+1,0,none⟩ (.int .i64 st)).setCell ⟨w.heap.size+1+1+1,1,none⟩ (.int .i64 id)).setCell ⟨w.heap.size+1+1+1,2,none⟩ (.int .i64 req)).setCell ⟨w.heap.size+1+1+1,3,none⟩ (.slice Aa na ca)).setCell ⟨w.heap.size+1+1+1,4,none⟩ (.int .i64 cnt)).setCell ⟨w.heap.size+1+1+1,5,none⟩ (.int .i64 tim)).setCell ⟨w.heap.size+1+1+1,6,none⟩ (.int .i64 nak)):=⟨_,rfl⟩
   rw[←hWf]
   have hrow:Wf.heap[w.heap.size+1+1+1]? =some (.cells #[.int .i64 st,.int .i64 id,.int .i64 req,.slice Aa na ca,.int .i64 cnt,.int .i64 tim,.int .i64 nak] 29 (0,0)):=by rw[hWf];exact row7 H124.out rfl _ _ _ _ _ _ _
   have hgr:w4.grownBy Wf (some (w.heap.size+1+1+1)):=by rw[hWf];exact grn
   clear hWf
   clear p0 p1 p2 p3 p4 q0 q1 q2 q3 q4 q5 q6 r0 r1 r2 z0 z1 z2 z3 z4 z5 z6 f0 f1 f2 f3 f4 f5 f6 k3 l6 l7 l8 l12
   obtain⟨u0,u1,u2,u3,u4,u5,u6⟩:=cells7 hrow
   refine bodyPost_ret (v:=.tuple #[.agg #[.int .i64 st,.int .i64 id,.int .i64 req,.slice Aa na ca,.int .i64 cnt,.int .i64 tim,.int .i64 nak],.slice none 0 0,.slice none 0 0,.bool true]) (by simp[results,Tryz.results20,go_sem,u0,u1,u2,u3,u4,u5,u6]) rfl ?_
   exact⟨.slice Aa na ca,.slice none 0 0,.slice none 0 0,rfl,Below.grown HB4.out hgr hs4 (fun k hk=>by cases hk;omega),.inl ⟨rfl,rfl⟩,PksR.nil _ _,ActsO.nil _ _⟩
  ·have h0':(er !=0)=true:=by simpa using h2
   clear h2
   go_enter Tryz.func20,Tryz.ntmps20
   go_upto_region 1 with(fail)
   refine boxes4 ?_
   rintro w2 ⟨h6,h7,h8,h12,hbw⟩
   have HB2:=hid hbw
   have H62:=hid h6
   have H72:=hid h7
   have H82:=hid h8
   have H122:=hid h12
   clear h6 h7 h8 h12 hbw
   have hs2:=HB2.out.size
   obtain⟨⟨l6,l7,l8,l12⟩,⟨p0,p1,p2,p3,p4⟩,⟨q0,q1,q2,q3,q4,q5,q6⟩,⟨r0,r1,r2⟩,⟨z0,z1,z2,z3,z4,z5,z6⟩,⟨f0,f1,f2,f3,f4,f5,f6⟩,k3⟩:=cellsK H62.out H72.out H82.out H122.out
   go_wp2_with fail
   refine(Cp.enc_ref ic ii Ai ni ci li _ B (by have:=HB.out;omega) (HI.out.keep (HB2.out.mono HB.out)) HNI.out (by omega)).mono ?_
   unfold Cp.EncP
   rw[HEN.out]
   rintro x w3 ⟨v3,rfl,hb3,-⟩
   have HQ3:=hid (show Below w2.heap.size w2 w3 from hb3)
   have HB3:=hid (HB2.out.trans (HQ3.out.mono hs2))
   have H63:=hid ((HQ3.out.block _ l6).trans H62.out)
   have H73:=hid ((HQ3.out.block _ l7).trans H72.out)
   have H83:=hid ((HQ3.out.block _ l8).trans H82.out)
   have H123:=hid ((HQ3.out.block _ l12).trans H122.out)
   clear p0 p1 p2 p3 p4 q0 q1 q2 q3 q4 q5 q6 r0 r1 r2 z0 z1 z2 z3 z4 z5 z6 f0 f1 f2 f3 f4 f5 f6 k3 l6 l7 l8 l12
   have hs3:=HB3.out.size
   obtain⟨⟨l6,l7,l8,l12⟩,⟨p0,p1,p2,p3,p4⟩,⟨q0,q1,q2,q3,q4,q5,q6⟩,⟨r0,r1,r2⟩,⟨z0,z1,z2,z3,z4,z5,z6⟩,⟨f0,f1,f2,f3,f4,f5,f6⟩,k3⟩:=cellsK H63.out H73.out H83.out H123.out
   clear hb3
   go_wp2_with fail
   refine(fine_ref Ar nr cr R mc mt mf wt st id req cnt tim nak Aa na ca E L HL.out tick _ B (by have:=HB.out;omega) (HR.out.keep (HB3.out.mono HB.out)) HNR.out hlr (HE.out.keep (HB3.out.mono HB.out)) HNA.out).mono ?_
   rw[HF.out]
   rintro x w4 ⟨rfl,hb4⟩
   have HQ4:=hid (show Below w3.heap.size w3 w4 from hb4)
   have HB4:=hid (HB3.out.trans (HQ4.out.mono hs3))
   have H64:=hid ((HQ4.out.block _ l6).trans H63.out)
   have H74:=hid ((HQ4.out.block _ l7).trans H73.out)
   have H84:=hid ((HQ4.out.block _ l8).trans H83.out)
   have H124:=hid ((HQ4.out.block _ l12).trans H123.out)
   clear p0 p1 p2 p3 p4 q0 q1 q2 q3 q4 q5 q6 r0 r1 r2 z0 z1 z2 z3 z4 z5 z6 f0 f1 f2 f3 f4 f5 f6 k3 l6 l7 l8 l12
   have hs4:=HB4.out.size
   obtain⟨⟨l6,l7,l8,l12⟩,⟨p0,p1,p2,p3,p4⟩,⟨q0,q1,q2,q3,q4,q5,q6⟩,⟨r0,r1,r2⟩,⟨z0,z1,z2,z3,z4,z5,z6⟩,⟨f0,f1,f2,f3,f4,f5,f6⟩,k3⟩:=cellsK H64.out H74.out H84.out H124.out
   clear hb4
   go_wp2_with fail
   obtain⟨Wf,hWf⟩: ∃Wf:World,Wf=(((((((w4.setCell ⟨w.heap.size+1+1+1,0,none⟩ (.int .i64 st)).setCell ⟨w.heap.size+1+1+1,1,none⟩ (.int .i64 id)).setCell ⟨w.heap.size+1+1+1,2,none⟩ (.int .i64 req)).setCell ⟨w.heap.size+1+1+1,3,none⟩ (.slice Aa na ca)).setCell ⟨w.heap.size+1+1+1,4,none⟩ (.int .i64 cnt)).setCell ⟨w.heap.size+1+1+1,5,none⟩ (.int .i64 tim)).setCell ⟨w.heap.size+1+1+1,6,none⟩ (.int .i64 nak)):=⟨_,rfl⟩
   rw[←hWf]
   have hrow:Wf.heap[w.heap.size+1+1+1]? =some (.cells #[.int .i64 st,.int .i64 id,.int .i64 req,.slice Aa na ca,.int .i64 cnt,.int .i64 tim,.int .i64 nak] 29 (0,0)):=by rw[hWf];exact row7 H124.out rfl _ _ _ _ _ _ _
   have hgr:w4.grownBy Wf (some (w.heap.size+1+1+1)):=by rw[hWf];exact grn
   clear hWf
   clear p0 p1 p2 p3 p4 q0 q1 q2 q3 q4 q5 q6 r0 r1 r2 z0 z1 z2 z3 z4 z5 z6 f0 f1 f2 f3 f4 f5 f6 k3 l6 l7 l8 l12
   obtain⟨u0,u1,u2,u3,u4,u5,u6⟩:=cells7 hrow
   refine bodyPost_ret (v:=.tuple #[.agg #[.int .i64 st,.int .i64 id,.int .i64 req,.slice Aa na ca,.int .i64 cnt,.int .i64 tim,.int .i64 nak],.slice none 0 0,.slice none 0 0,.bool true]) (by simp[results,Tryz.results20,go_sem,u0,u1,u2,u3,u4,u5,u6]) rfl ?_
   exact⟨.slice Aa na ca,.slice none 0 0,.slice none 0 0,rfl,Below.grown HB4.out hgr hs4 (fun k hk=>by cases hk;omega),.inl ⟨rfl,rfl⟩,PksR.nil _ _,ActsO.nil _ _⟩
end Go.Proofs.YtfkgmbknfnhjoaaGreat
