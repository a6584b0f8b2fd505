/- Bundle PI. -/
import Derived.Test.YtfkgmbknfnhjoaaGreatRPH
import Derived.Test.YtfkgmbknfnhjoaaGreatRPE
set_option maxHeartbeats 16000000
namespace Go.Proofs.YtfkgmbknfnhjoaaGreat
open Lib (hid)
open Go.RowKit
set_option linter.unusedSimpArgs false
set_option linter.unusedVariables false
set_option linter.ambiguousOpen false
open Ne (Rl Opt RulesAt areB)
open Fs (av hasB)
def PksR (w:World) (base:Nat) (v:Value) (out:List Pk):Prop:= ∃P:List Pe,w.ownsRow base 32 3 v P.length (cellsP P)∧(∀e∈P,At w w.heap.size e.a (e.d.map bv)∧e.d.length≤e.c)∧P.map Pe.o=out
theorem PksR.nil (w:World) (b:Nat):PksR w b (.slice none 0 0) []:=⟨[],own_nil _ _ _ _,(fun _ h=>by cases h),rfl⟩
theorem PksR.v {w:World} {base:Nat} {v:Value} {out:List Pk} (h:PksR w base v out):PksV w w.heap.size v out:=by
 obtain⟨P,h1,h2,h3⟩:=h
 obtain⟨A,c,rfl,hc,-⟩:=ownsRow_form h1
 exact⟨A,_,c,P,rfl,⟨At.of_own h1,h2⟩,rfl,hc,h3⟩
theorem PksR.base {w:World} {b b':Nat} {v:Value} {out:List Pk} (h:PksR w b v out) (hb:b'≤b):PksR w b' v out:=by
 obtain⟨P,h1,h2,h3⟩:=h
 exact⟨P,own_base h1 hb,h2,h3⟩
theorem PksR.below {w w':World} {b:Nat} {v:Value} {out:List Pk} (h:PksR w b v out) (hb:Below w.heap.size w w'):PksR w' b v out:=by
 obtain⟨P,h1,h2,h3⟩:=h
 exact⟨P,own_below h1 hb,fun e he=>⟨((h2 e he).1.keep hb).more hb.size,(h2 e he).2⟩,h3⟩
theorem At.offc {A C:World} {B X:Nat} {p:Option Addr} {l:List UInt8} {cur:Array Value} {e':TypeId} (h:At A B p (l.map bv)) (hg:A.grownBy C (some X)) (hX:A.heap[X]? =some (.cells cur e' (0,0))) (hc: ∀(i:Nat) (x:UInt8),cur[i]?≠some (bv x)) (hB:B≤A.heap.size):At C B p (l.map bv):=by
 cases l with
 |nil=>exact At.nil _ _ _
 |cons x l=>
  refine h.off hg (fun g o e he=>?_) hB
  subst e
  obtain⟨b,o',e2,_,hcc⟩:=h.get (by simp)
  cases e2
  have h1:=hcc 0 (bv x) rfl
  subst he
  rw[cell_of_row A g _ _ _ _ hX] at h1
  exact hc _ _ h1
theorem PksR.other {A C:World} {base X:Nat} {v:Value} {out:List Pk} {cur:Array Value} {e':TypeId} (h:PksR A base v out) (hg:A.grownBy C (some X)) (hX:A.heap[X]? =some (.cells cur e' (0,0))) (hc: ∀(i:Nat) (x:UInt8),cur[i]?≠some (bv x)) (h1:e'≠32):PksR C base v out:=by
 obtain⟨P,ho,h2,h3⟩:=h
 exact⟨P,own_stays ho hg fun r e=>by cases e;exact .inr (.inr ⟨_,_,hX,h1⟩),fun e he=>⟨((h2 e he).1.offc hg hX hc (Nat.le_refl _)).more hg.size,(h2 e he).2⟩,h3⟩
theorem no_bytes7 (a b c d e f:Int) (A:Option Addr) (n m:Nat) (i:Nat) (x:UInt8):(#[.int .i64 a,.int .i64 b,.int .i64 c,.slice A n m,.int .i64 d,.int .i64 e,.int .i64 f]:Array Value)[i]?≠some (bv x):=by
 match i with
 |0|1|2|3|4|5|6=>intro h;cases h
 |n+7=>intro h;cases h
theorem RowPks.r {A:World} {base:Nat} {v:Value} {P:List Pe} {out:List Pk} (h:RowPks A base v P) (hp:P.map Pe.o=out) (hB:base≤A.heap.size):PksR A base v out:=by
 refine⟨P,h.1,fun e he=>?_,hp⟩
 rcases h.2 e he with⟨ha,hl⟩|ho
 ·exact⟨ha.more hB,hl⟩
 ·obtain⟨A',c',hv,hcc,-⟩:=ownsRow_form ho
  unfold Pe.v at ho hv
  cases hv
  exact⟨At.of_own ho,hcc⟩
def RDoP (r:Au×List Pk×List Int) (va:Value) (w:World) (x:Ending) (w':World):Prop:=
 ∃vo vd,x=.returned (.tuple #[auV r.1 va,vo,vd])∧Below w.heap.size w w'∧PksR w' w.heap.size vo r.2.1∧ActsO w' w.heap.size vd r.2.2
set_option maxRecDepth 100000 in
theorem rdo_no (Ar Aa Ai An:Option Addr) (nr cr na ca ni ci nn cn:Nat) (R:List Rl) (mc mt mf wt st id req cnt tim nak e ic ii ac ai tick:Int) (E:List Ent) (li ln:List UInt8) (w:World) (B:Nat) (hB:B≤w.heap.size) (hR:RulesAt w B Ar R) (hnr:nr=R.length) (hlr:nr≤1000000) (hE:OptsAt w B Aa E) (hna:na=E.length) (hI:At w B Ai (li.map bv)) (hni:ni=li.length) (hci:ni≤ci) (hli:ni≤400000000) (hN:At w B An (ln.map bv)) (hnn:nn=ln.length) (hcn:nn≤cn) (hln:nn≤400000000) (hno:fineB ⟨R,mc,mt,mf,wt⟩ ⟨st,id,req,E.map Ent.o,cnt,tim,nak⟩ tick=false∨Fs.stepErr st e≠0):Calls Tryz.prog 15 #[.agg #[.slice Ar nr cr,.int .i64 mc,.int .i64 mt,.int .i64 mf,.int .i64 wt],.agg #[.int .i64 st,.int .i64 id,.int .i64 req,.slice Aa na ca,.int .i64 cnt,.int .i64 tim,.int .i64 nak],.int .i64 e,.agg #[.int .i64 ic,.int .i64 ii,.slice Ai ni ci],.agg #[.int .i64 ac,.int .i64 ai,.slice An nn cn],.int .i64 tick] w (RDoP (doO ⟨R,mc,mt,mf,wt⟩ ⟨st,id,req,E.map Ent.o,cnt,tim,nak⟩ e ⟨ic,ii,li⟩ ⟨ac,ai,ln⟩ tick) (.slice Aa na ca) w):=by
 have HB:=hid hB
 have HR:=hid hR
 have HNR:=hid hnr
 have HE:=hid hE
 have HNA:=hid hna
 have HI:=hid (And.intro hI (And.intro hni hci))
 have HN:=hid (And.intro hN (And.intro hnn hcn))
 obtain⟨L,hL⟩: ∃L,E.map Ent.o=L:=⟨_,rfl⟩
 have HL:=hid hL
 rw[hL] at hno
 rw[hL]
 clear hB hR hnr hE hna hI hni hci hN hnn hcn hL
 obtain⟨fb,hfb⟩: ∃fb,fineB ⟨R,mc,mt,mf,wt⟩ ⟨st,id,req,L,cnt,tim,nak⟩ tick=fb:=⟨_,rfl⟩
 have HF:=hid hfb
 cases fb
 ·have HDO:=hid (show doO ⟨R,mc,mt,mf,wt⟩ ⟨st,id,req,L,cnt,tim,nak⟩ e ⟨ic,ii,li⟩ ⟨ac,ai,ln⟩ tick=(⟨st,id,req,L,cnt,tim,nak⟩,[],[]) by unfold doO;rw[hfb];simp)
  rw[HDO.out]
  clear hfb
  go_enter Tryz.func15,Tryz.ntmps15
  go_upto_region 1 with(fail)
  refine wp_w (fun W=>W.heap[w.heap.size]? =some (.cells #[.slice Ar nr cr,.int .i64 mc,.int .i64 mt,.int .i64 mf,.int .i64 wt] 24 (0,0))∧W.heap[w.heap.size+1]? =some (.cells #[.int .i64 st,.int .i64 id,.int .i64 req,.slice Aa na ca,.int .i64 cnt,.int .i64 tim,.int .i64 nak] 29 (0,0))∧W.heap[w.heap.size+1+1]? =some (.cells #[.int .i64 ic,.int .i64 ii,.slice Ai ni ci] 32 (0,0))∧W.heap[w.heap.size+1+1+1]? =some (.cells #[.int .i64 ac,.int .i64 ai,.slice An nn cn] 32 (0,0))∧W.heap[w.heap.size+1+1+1+1]? =some (.cells #[.int .i64 0,.int .i64 0,.int .i64 0,.slice none 0 0,.int .i64 0,.int .i64 0,.int .i64 0] 29 (0,0))∧Below w.heap.size w W) ⟨by exact hpa,by exact hpa,by exact hpa,by exact hpa,by exact hpa,by exact bel⟩ ?_
  rintro W2 ⟨h6,h7,h9,h10,h12,hbw⟩
  have HBW:=hid hbw
  have H6:=hid h6
  have H7:=hid h7
  have H9:=hid h9
  have H10:=hid h10
  have H12:=hid h12
  have hszW:=hbw.size
  have l6:=lt_blk h6
  have l7:=lt_blk h7
  have l9:=lt_blk h9
  have l10:=lt_blk h10
  have l12:=lt_blk h12
  obtain⟨p0,p1,p2,p3,p4⟩:=cells5 h6
  obtain⟨q0,q1,q2,q3,q4,q5,q6⟩:=cells7 h7
  obtain⟨z0,z1,z2,z3,z4,z5,z6⟩:=cells7 h12
  have f0:=frees h12 0
  have f1:=frees h12 1
  have f2:=frees h12 2
  have f3:=frees h12 3
  have f4:=frees h12 4
  have f5:=frees h12 5
  have f6:=frees h12 6
  clear h6 h7 h9 h10 h12 hbw
  go_wp2_with fail
  refine(fine_ref Ar nr cr R mc mt mf wt st id req cnt tim nak Aa na ca E L HL.out tick _ _ (Nat.le_refl _) ((HR.out.keep (HBW.out.mono HB.out)).more (by have:=HB.out;omega)) HNR.out hlr ((HE.out.keep (HBW.out.mono HB.out)).more (by have:=HB.out;omega)) HNA.out).mono ?_
  rw[HF.out]
  rintro x w1 ⟨rfl,hb⟩
  obtain⟨xs3,d3,rfl⟩:=ext_of hb
  clear hb
  go_wp2_with fail
  obtain⟨Wf,hWf⟩: ∃Wf,Wf=ext (((((((W2.setCell ⟨w.heap.size+1+1+1+1,0,none⟩ (.int .i64 st)).setCell ⟨w.heap.size+1+1+1+1,1,none⟩ (.int .i64 id)).setCell ⟨w.heap.size+1+1+1+1,2,none⟩ (.int .i64 req)).setCell ⟨w.heap.size+1+1+1+1,3,none⟩ (.slice Aa na ca)).setCell ⟨w.heap.size+1+1+1+1,4,none⟩ (.int .i64 cnt)).setCell ⟨w.heap.size+1+1+1+1,5,none⟩ (.int .i64 tim)).setCell ⟨w.heap.size+1+1+1+1,6,none⟩ (.int .i64 nak)) xs3 d3:=⟨_,rfl⟩
  rw[←hWf]
  have hrow:Wf.heap[w.heap.size+1+1+1+1]? =some (.cells #[.int .i64 st,.int .i64 id,.int .i64 req,.slice Aa na ca,.int .i64 cnt,.int .i64 tim,.int .i64 nak] 29 (0,0)):=by rw[hWf];exact(heap_ext _ _ _ _ (by simp;exact l12)).trans (row7 H12.out rfl _ _ _ _ _ _ _)
  have hgr:W2.grownBy Wf (some (w.heap.size+1+1+1+1)):=by rw[hWf];exact grn
  have hbl:Below w.heap.size w Wf:=Below.grown HBW.out hgr HBW.out.size (fun k hk=>by cases hk;omega)
  clear hWf p0 p1 p2 p3 p4 q0 q1 q2 q3 q4 q5 q6 z0 z1 z2 z3 z4 z5 z6 f0 f1 f2 f3 f4 f5 f6
  obtain⟨u0,u1,u2,u3,u4,u5,u6⟩:=cells7 hrow
  refine bodyPost_ret (v:=.tuple #[.agg #[.int .i64 st,.int .i64 id,.int .i64 req,.slice Aa na ca,.int .i64 cnt,.int .i64 tim,.int .i64 nak],.slice none 0 0,.slice none 0 0]) (by simp[results,Tryz.results15,go_sem,u0,u1,u2,u3,u4,u5,u6]) rfl ?_
  exact⟨.slice none 0 0,.slice none 0 0,rfl,hbl,PksR.nil _ _,ActsO.nil _ _⟩
 ·obtain⟨er,her⟩: ∃er,Fs.stepErr st e=er:=⟨_,rfl⟩
  have HER:=hid her
  have h0:er≠0:=by rcases hno with h|h
                   ·rw[hfb] at h;cases h
                   ·rwa [her] at h
  have HDO:=hid (show doO ⟨R,mc,mt,mf,wt⟩ ⟨st,id,req,L,cnt,tim,nak⟩ e ⟨ic,ii,li⟩ ⟨ac,ai,ln⟩ tick=(⟨st,id,req,L,cnt,tim,nak⟩,[],[]) by unfold doO;dsimp only;rw[her,if_neg (fun h=>h0 h.2)])
  rw[HDO.out]
  have h0':(er !=0)=true:=by simpa using h0
  clear hfb her
  go_enter Tryz.func15,Tryz.ntmps15
  go_upto_region 1 with(fail)
  refine wp_w (fun W=>W.heap[w.heap.size]? =some (.cells #[.slice Ar nr cr,.int .i64 mc,.int .i64 mt,.int .i64 mf,.int .i64 wt] 24 (0,0))∧W.heap[w.heap.size+1]? =some (.cells #[.int .i64 st,.int .i64 id,.int .i64 req,.slice Aa na ca,.int .i64 cnt,.int .i64 tim,.int .i64 nak] 29 (0,0))∧W.heap[w.heap.size+1+1]? =some (.cells #[.int .i64 ic,.int .i64 ii,.slice Ai ni ci] 32 (0,0))∧W.heap[w.heap.size+1+1+1]? =some (.cells #[.int .i64 ac,.int .i64 ai,.slice An nn cn] 32 (0,0))∧W.heap[w.heap.size+1+1+1+1]? =some (.cells #[.int .i64 0,.int .i64 0,.int .i64 0,.slice none 0 0,.int .i64 0,.int .i64 0,.int .i64 0] 29 (0,0))∧Below w.heap.size w W) ⟨by exact hpa,by exact hpa,by exact hpa,by exact hpa,by exact hpa,by exact bel⟩ ?_
  rintro W2 ⟨h6,h7,h9,h10,h12,hbw⟩
  have HBW:=hid hbw
  have H6:=hid h6
  have H7:=hid h7
  have H9:=hid h9
  have H10:=hid h10
  have H12:=hid h12
  have hszW:=hbw.size
  have l6:=lt_blk h6
  have l7:=lt_blk h7
  have l9:=lt_blk h9
  have l10:=lt_blk h10
  have l12:=lt_blk h12
  obtain⟨p0,p1,p2,p3,p4⟩:=cells5 h6
  obtain⟨q0,q1,q2,q3,q4,q5,q6⟩:=cells7 h7
  obtain⟨z0,z1,z2,z3,z4,z5,z6⟩:=cells7 h12
  have f0:=frees h12 0
  have f1:=frees h12 1
  have f2:=frees h12 2
  have f3:=frees h12 3
  have f4:=frees h12 4
  have f5:=frees h12 5
  have f6:=frees h12 6
  clear h6 h7 h9 h10 h12 hbw
  go_wp2_with fail
  refine(fine_ref Ar nr cr R mc mt mf wt st id req cnt tim nak Aa na ca E L HL.out tick _ _ (Nat.le_refl _) ((HR.out.keep (HBW.out.mono HB.out)).more (by have:=HB.out;omega)) HNR.out hlr ((HE.out.keep (HBW.out.mono HB.out)).more (by have:=HB.out;omega)) HNA.out).mono ?_
  rw[HF.out]
  rintro x w1 ⟨rfl,hb⟩
  obtain⟨xs3,d3,rfl⟩:=ext_of hb
  clear hb
  go_wp2_with fail
  refine(Fs.stepref_any st e _).mono ?_
  rw[show Fs.StepP st e=fun w x w'=> ∃v,x=.returned (.tuple #[.int .i64 (Fs.tabNext e st),v,.int .i64 er])∧Fs.Told w (Fs.tabActs e st) v w' by unfold Fs.StepP;rw[HER.out]]
  rintro x w1 ⟨v,rfl,hb,-⟩
  obtain⟨xs4,d4,rfl⟩:=ext_of hb
  clear hb
  go_wp2_with fail
  obtain⟨Wf,hWf⟩: ∃Wf,Wf=ext (ext (((((((W2.setCell ⟨w.heap.size+1+1+1+1,0,none⟩ (.int .i64 st)).setCell ⟨w.heap.size+1+1+1+1,1,none⟩ (.int .i64 id)).setCell ⟨w.heap.size+1+1+1+1,2,none⟩ (.int .i64 req)).setCell ⟨w.heap.size+1+1+1+1,3,none⟩ (.slice Aa na ca)).setCell ⟨w.heap.size+1+1+1+1,4,none⟩ (.int .i64 cnt)).setCell ⟨w.heap.size+1+1+1+1,5,none⟩ (.int .i64 tim)).setCell ⟨w.heap.size+1+1+1+1,6,none⟩ (.int .i64 nak)) xs3 d3) xs4 d4:=⟨_,rfl⟩
  rw[←hWf]
  have hrow:Wf.heap[w.heap.size+1+1+1+1]? =some (.cells #[.int .i64 st,.int .i64 id,.int .i64 req,.slice Aa na ca,.int .i64 cnt,.int .i64 tim,.int .i64 nak] 29 (0,0)):=by rw[hWf];exact(heap_ext _ _ _ _ (by simp[size_ext,grow];omega)).trans ((heap_ext _ _ _ _ (by simp;exact l12)).trans (row7 H12.out rfl _ _ _ _ _ _ _))
  have hgr:W2.grownBy Wf (some (w.heap.size+1+1+1+1)):=by rw[hWf];exact grn
  have hbl:Below w.heap.size w Wf:=Below.grown HBW.out hgr HBW.out.size (fun k hk=>by cases hk;omega)
  clear hWf p0 p1 p2 p3 p4 q0 q1 q2 q3 q4 q5 q6 z0 z1 z2 z3 z4 z5 z6 f0 f1 f2 f3 f4 f5 f6
  obtain⟨u0,u1,u2,u3,u4,u5,u6⟩:=cells7 hrow
  refine bodyPost_ret (v:=.tuple #[.agg #[.int .i64 st,.int .i64 id,.int .i64 req,.slice Aa na ca,.int .i64 cnt,.int .i64 tim,.int .i64 nak],.slice none 0 0,.slice none 0 0]) (by simp[results,Tryz.results15,go_sem,u0,u1,u2,u3,u4,u5,u6]) rfl ?_
  exact⟨.slice none 0 0,.slice none 0 0,rfl,hbl,PksR.nil _ _,ActsO.nil _ _⟩
end Go.Proofs.YtfkgmbknfnhjoaaGreat
namespace Go.Proofs.YtfkgmbknfnhjoaaGreat
open Lib (hid)
open Go.RowKit
set_option linter.unusedSimpArgs false
set_option linter.unusedVariables false
set_option linter.ambiguousOpen false
open Ne (Rl Opt RulesAt areB)
open Fs (av hasB)
set_option maxRecDepth 100000 in
theorem rdo_yes (Ar Aa Ai An:Option Addr) (nr cr na ca ni ci nn cn:Nat) (R:List Rl) (mc mt mf wt st id req cnt tim nak e ic ii ac ai tick:Int) (E:List Ent) (li ln:List UInt8) (w:World) (B:Nat) (hB:B≤w.heap.size) (hR:RulesAt w B Ar R) (hnr:nr=R.length) (hlr:nr≤1000000) (hE:OptsAt w B Aa E) (hna:na=E.length) (hI:At w B Ai (li.map bv)) (hni:ni=li.length) (hci:ni≤ci) (hli:ni≤400000000) (hN:At w B An (ln.map bv)) (hnn:nn=ln.length) (hcn:nn≤cn) (hln:nn≤400000000) (hf:fineB ⟨R,mc,mt,mf,wt⟩ ⟨st,id,req,E.map Ent.o,cnt,tim,nak⟩ tick=true) (h0:Fs.stepErr st e=0):Calls Tryz.prog 15 #[.agg #[.slice Ar nr cr,.int .i64 mc,.int .i64 mt,.int .i64 mf,.int .i64 wt],.agg #[.int .i64 st,.int .i64 id,.int .i64 req,.slice Aa na ca,.int .i64 cnt,.int .i64 tim,.int .i64 nak],.int .i64 e,.agg #[.int .i64 ic,.int .i64 ii,.slice Ai ni ci],.agg #[.int .i64 ac,.int .i64 ai,.slice An nn cn],.int .i64 tick] w (RDoP (doO ⟨R,mc,mt,mf,wt⟩ ⟨st,id,req,E.map Ent.o,cnt,tim,nak⟩ e ⟨ic,ii,li⟩ ⟨ac,ai,ln⟩ tick) (.slice Aa na ca) w):=by
 have HB:=hid hB
 have HR:=hid hR
 have HNR:=hid hnr
 have HE:=hid hE
 have HNA:=hid hna
 have HI:=hid (And.intro hI (And.intro hni hci))
 have HN:=hid (And.intro hN (And.intro hnn hcn))
 obtain⟨L,hL⟩: ∃L,E.map Ent.o=L:=⟨_,rfl⟩
 have HL:=hid hL
 rw[hL] at hf
 rw[hL]
 clear hB hR hnr hE hna hI hni hci hN hnn hcn hL
 have HF:=hid hf
 have HER:=hid h0
 have HOK:=hid (NumOk.of_fine hf)
 have HDO:=hid (show doO ⟨R,mc,mt,mf,wt⟩ ⟨st,id,req,L,cnt,tim,nak⟩ e ⟨ic,ii,li⟩ ⟨ac,ai,ln⟩ tick=(if Fs.timedB (Fs.tabNext e st)=true then(runO ⟨R,mc,mt,mf,wt⟩ ⟨ic,ii,li⟩ ⟨ac,ai,ln⟩ tick (Fs.tabActs e st) (⟨Fs.tabNext e st,id,req,L,cnt,tim,nak⟩,[]) (Fs.tabActs e st)).1
   else {(runO ⟨R,mc,mt,mf,wt⟩ ⟨ic,ii,li⟩ ⟨ac,ai,ln⟩ tick (Fs.tabActs e st) (⟨Fs.tabNext e st,id,req,L,cnt,tim,nak⟩,[]) (Fs.tabActs e st)).1 with tim:=0},
   (runO ⟨R,mc,mt,mf,wt⟩ ⟨ic,ii,li⟩ ⟨ac,ai,ln⟩ tick (Fs.tabActs e st) (⟨Fs.tabNext e st,id,req,L,cnt,tim,nak⟩,[]) (Fs.tabActs e st)).2,Fs.tabActs e st) from by unfold doO;rw[if_pos ⟨hf,h0⟩])
 have HAL:=hid (Fs.tabActs_le e st)
 have HSP:=hid (show Fs.StepP st e=fun w x w'=> ∃v,x=.returned (.tuple #[.int .i64 (Fs.tabNext e st),v,.int .i64 0])∧Fs.Told w (Fs.tabActs e st) v w' by unfold Fs.StepP;rw[h0])
 clear hf h0
 obtain⟨r,hr⟩: ∃r,doO ⟨R,mc,mt,mf,wt⟩ ⟨st,id,req,L,cnt,tim,nak⟩ e ⟨ic,ii,li⟩ ⟨ac,ai,ln⟩ tick=r:=⟨_,rfl⟩
 rw[hr] at HDO
 rw[hr]
 clear hr
 obtain⟨nx,hnx⟩: ∃nx,Fs.tabNext e st=nx:=⟨_,rfl⟩
 obtain⟨acts,hacts⟩: ∃acts,Fs.tabActs e st=acts:=⟨_,rfl⟩
 rw[hnx,hacts] at HSP
 rw[hacts] at HAL
 rw[hnx,hacts] at HDO
 clear hnx hacts
 go_enter Tryz.func15,Tryz.ntmps15
 go_upto_region 1 with(fail)
 refine wp_w (fun W=>W.heap[w.heap.size]? =some (.cells #[.slice Ar nr cr,.int .i64 mc,.int .i64 mt,.int .i64 mf,.int .i64 wt] 24 (0,0))∧W.heap[w.heap.size+1]? =some (.cells #[.int .i64 st,.int .i64 id,.int .i64 req,.slice Aa na ca,.int .i64 cnt,.int .i64 tim,.int .i64 nak] 29 (0,0))∧W.heap[w.heap.size+1+1]? =some (.cells #[.int .i64 ic,.int .i64 ii,.slice Ai ni ci] 32 (0,0))∧W.heap[w.heap.size+1+1+1]? =some (.cells #[.int .i64 ac,.int .i64 ai,.slice An nn cn] 32 (0,0))∧W.heap[w.heap.size+1+1+1+1]? =some (.cells #[.int .i64 0,.int .i64 0,.int .i64 0,.slice none 0 0,.int .i64 0,.int .i64 0,.int .i64 0] 29 (0,0))∧Below w.heap.size w W) ⟨by exact hpa,by exact hpa,by exact hpa,by exact hpa,by exact hpa,by exact bel⟩ ?_
 rintro W2 ⟨h6,h7,h9,h10,h12,hbw⟩
 have HBW:=hid hbw
 have H6:=hid h6
 have H7:=hid h7
 have H9:=hid h9
 have H10:=hid h10
 have H12:=hid h12
 have hszW:=hbw.size
 have l6:=lt_blk h6
 have l7:=lt_blk h7
 have l9:=lt_blk h9
 have l10:=lt_blk h10
 have l12:=lt_blk h12
 obtain⟨p0,p1,p2,p3,p4⟩:=cells5 h6
 obtain⟨q0,q1,q2,q3,q4,q5,q6⟩:=cells7 h7
 obtain⟨z0,z1,z2,z3,z4,z5,z6⟩:=cells7 h12
 have f0:=frees h12 0
 have f1:=frees h12 1
 have f2:=frees h12 2
 have f3:=frees h12 3
 have f4:=frees h12 4
 have f5:=frees h12 5
 have f6:=frees h12 6
 clear h6 h7 h9 h10 h12 hbw
 go_wp2_with fail
 refine(fine_ref Ar nr cr R mc mt mf wt st id req cnt tim nak Aa na ca E L HL.out tick _ _ (Nat.le_refl _) ((HR.out.keep (HBW.out.mono HB.out)).more (by have:=HB.out;omega)) HNR.out hlr ((HE.out.keep (HBW.out.mono HB.out)).more (by have:=HB.out;omega)) HNA.out).mono ?_
 rw[HF.out]
 rintro x w1 ⟨rfl,hb⟩
 obtain⟨xs3,d3,rfl⟩:=ext_of hb
 clear hb
 go_wp2_with fail
 refine(Fs.stepref_any st e _).mono ?_
 rw[HSP.out]
 rintro x w1 ⟨v,rfl,hb,ho4⟩
 obtain⟨Ad,cd,rfl,hcd,-⟩:=ownsRow_form ho4
 obtain⟨xs4,d4,rfl⟩:=ext_of hb
 have HO4:=hid ho4
 have HCD:=hid hcd
 clear hb ho4 hcd
 obtain⟨nd,hnd⟩: ∃nd,acts.length=nd:=⟨_,rfl⟩
 have HND:=hid hnd
 rw[hnd] at HO4
 clear hnd
 rw[HND.out]
 go_upto_region 8 with(fail)
 obtain⟨b,hb⟩: ∃b,b=grow (grow W2.heap.size xs3) xs4:=⟨_,rfl⟩
 rw[←hb]
 have hb4:(ext (ext W2 xs3 d3) xs4 d4).heap.size=b:=by rw[hb];simp[size_ext]
 have hbz:W2.heap.size≤b:=by rw[hb];simp[grow];omega
 refine wp_w (fun W=>RB W b (.slice Ar nr cr) mc mt mf wt nx id req (.slice Aa na ca) cnt tim nak (.slice none 0 0)∧Below W2.heap.size W2 W∧W.ownsRow W2.heap.size 104 1 (.slice Ad nd cd) nd (acts.map av)∧At W b Ad (acts.map av)) ?_ ?_
 ·have hbl:Below W2.heap.size W2 (ext (ext W2 xs3 d3) xs4 d4):=by exact bel
  refine⟨?_,?_,?_,?_⟩
  ·show(World.alloc _ _).heap[b]? =_
   rw[←hb4]
   exact heap_alloc_new _ _
  ·exact bel
  ·exact own_below (own_base HO4.out (by first|(simp[size_ext,grow];done)|(simp[size_ext,grow];omega))) (by rw[hb4];exact bel)
  ·have h:=(At.of_own HO4.out)
   rw[hb4] at h
   exact h.keep (by exact bel)
 rintro W5 ⟨hr5,hb5,ha5,hd5⟩
 have HAB:=hid (show∀g,(Value.slice Ad nd cd).ownBlock=some g→g<b from fun g e=>by have:=own_lt HO4.out e;rwa [hb4] at this)
 have HR5:=hid hr5
 have HB5:=hid hb5
 have HA5:=hid ha5
 have HDAT:=hid (show ActsV W5 b (.slice Ad nd cd) acts from ⟨Ad,nd,cd,rfl,hd5,HND.out.symm,by have:=HCD.out;have:=HND.out;omega⟩)
 have HZ5:=hid ((hb5.block _ l12).trans H12.out)
 have hsz5:=hb5.size
 have hbW5:b<W5.heap.size:=hr5.lt
 have hxb:w.heap.size+1+1+1+1<b:=by omega
 have HI5:=hid (show At W5 b Ai (li.map bv) from(HI.out.1.keep ((HBW.out.trans (hb5.mono hszW)).mono HB.out)).more (by have:=HB.out;omega))
 have HN5:=hid (show At W5 b An (ln.map bv) from(HN.out.1.keep ((HBW.out.trans (hb5.mono hszW)).mono HB.out)).more (by have:=HB.out;omega))
 have HE5:=hid (show OptsAt W5 b Aa E from(HE.out.keep ((HBW.out.trans (hb5.mono hszW)).mono HB.out)).more (by have:=HB.out;omega))
 have H9':=hid ((hb5.block _ l9).trans H9.out)
 have H10':=hid ((hb5.block _ l10).trans H10.out)
 clear hr5 hb5 ha5 hd5 p0 p1 p2 p3 p4 q0 q1 q2 q3 q4 q5 q6 z0 z1 z2 z3 z4 z5 z6 f0 f1 f2 f3 f4 f5 f6 hb hb4
 have hnd3:nd≤3:=by have:=HAL.out;have:=HND.out;omega
 go_wp2_with fail
 go_loopw [19] (fun i wr=> ∃(k:Nat) (vo:Value) (P:List Pe),k≤nd∧i=.int .i64 k∧RB wr b (.slice Ar nr cr) mc mt mf wt (runO ⟨R,mc,mt,mf,wt⟩ ⟨ic,ii,li⟩ ⟨ac,ai,ln⟩ tick acts (⟨nx,id,req,L,cnt,tim,nak⟩,[]) (acts.take k)).1.st (runO ⟨R,mc,mt,mf,wt⟩ ⟨ic,ii,li⟩ ⟨ac,ai,ln⟩ tick acts (⟨nx,id,req,L,cnt,tim,nak⟩,[]) (acts.take k)).1.id (runO ⟨R,mc,mt,mf,wt⟩ ⟨ic,ii,li⟩ ⟨ac,ai,ln⟩ tick acts (⟨nx,id,req,L,cnt,tim,nak⟩,[]) (acts.take k)).1.req (.slice Aa na ca) (runO ⟨R,mc,mt,mf,wt⟩ ⟨ic,ii,li⟩ ⟨ac,ai,ln⟩ tick acts (⟨nx,id,req,L,cnt,tim,nak⟩,[]) (acts.take k)).1.cnt (runO ⟨R,mc,mt,mf,wt⟩ ⟨ic,ii,li⟩ ⟨ac,ai,ln⟩ tick acts (⟨nx,id,req,L,cnt,tim,nak⟩,[]) (acts.take k)).1.tim (runO ⟨R,mc,mt,mf,wt⟩ ⟨ic,ii,li⟩ ⟨ac,ai,ln⟩ tick acts (⟨nx,id,req,L,cnt,tim,nak⟩,[]) (acts.take k)).1.nak vo∧RowPks wr b vo P∧P.map Pe.o=(runO ⟨R,mc,mt,mf,wt⟩ ⟨ic,ii,li⟩ ⟨ac,ai,ln⟩ tick acts (⟨nx,id,req,L,cnt,tim,nak⟩,[]) (acts.take k)).2∧Below b W5 wr) (fun i _=>nd-(intOf i).toNat)
 case atStart=>exact⟨0,_,[],Nat.zero_le _,rfl,HR5.out,RowPks.nil _ _,rfl,Below.refl _ _⟩
 case round=>
  obtain⟨k,vo,P,hk,rfl,hrb,hpk,hpo,hbl⟩:=hrel
  have HPK:=hid hpk
  have HPO:=hid hpo
  have HBL:=hid hbl
  have hszr:=hbl.size
  have hbr:b<wr.heap.size:=by omega
  clear hpk hpo hbl
  by_cases hlt:k<nd
  ·have HK:=hid (show k<acts.length by have:=HND.out;omega)
   obtain⟨Ad',nd',cd',hq,hat,-,-⟩:=HDAT.out.keep HBL.out
   have hq2:(Value.slice Ad nd cd)=.slice Ad' nd' cd':=hq
   simp only[Value.slice.injEq] at hq2
   obtain⟨rfl,-,-⟩:=hq2
   have HDT:=hid hat
   obtain⟨bd,od,rfl,hbd⟩:=hat.cellAt HK.out
   obtain⟨x,hx,hc⟩:=hat.readAt HK.out
   have HX:=hid (show acts[k]'HK.out=x by rw[←hx,List.getD_eq_getElem?_getD,List.getElem?_eq_getElem HK.out];rfl)
   have HTK:=hid (runO_take (c:=⟨R,mc,mt,mf,wt⟩) (inn:=⟨ic,ii,li⟩) (ans:=⟨ac,ai,ln⟩) (tick:=tick) (acts:=acts) (s:=(⟨nx,id,req,L,cnt,tim,nak⟩,[])) HK.out)
   have HAK:=hid (runO_ask ⟨R,mc,mt,mf,wt⟩ ⟨ic,ii,li⟩ ⟨ac,ai,ln⟩ tick acts (acts.take k) (⟨nx,id,req,L,cnt,tim,nak⟩,[]))
   have HLK:=hid (runO_len ⟨R,mc,mt,mf,wt⟩ ⟨ic,ii,li⟩ ⟨ac,ai,ln⟩ tick acts (acts.take k) (⟨nx,id,req,L,cnt,tim,nak⟩,[]))
   have HNK:=hid (runO_ok ⟨R,mc,mt,mf,wt⟩ ⟨ic,ii,li⟩ ⟨ac,ai,ln⟩ tick acts (acts.take k) (⟨nx,id,req,L,cnt,tim,nak⟩,[]) (HOK.out.state nx))
   rw[HX.out] at HTK
   obtain⟨⟨⟨s1,i1,r1,L1,c1,t1,k1⟩,ok⟩,hak⟩: ∃s,runO ⟨R,mc,mt,mf,wt⟩ ⟨ic,ii,li⟩ ⟨ac,ai,ln⟩ tick acts (⟨nx,id,req,L,cnt,tim,nak⟩,[]) (acts.take k)=s:=⟨_,rfl⟩
   rw[hak] at hrb HPO HTK HAK HLK HNK
   clear hak hx hat hq
   have hL1:L1=L:=HAK.out
   subst hL1
   dsimp only at hrb HTK HLK HNK
   have HRB:=hid hrb
   obtain⟨⟨b0,b1,b2,b3,b4⟩,⟨b5,b6,b7,b8,b9,b10,b11⟩,b12⟩:=(hrb).cells
   clear hrb HAK
   obtain⟨i0,i1',i2⟩:=cells3 ((HBL.out.block _ (by omega)).trans H9'.out)
   obtain⟨j0,j1,j2⟩:=cells3 ((HBL.out.block _ (by omega)).trans H10'.out)
   have lz9:w.heap.size+1+1<wr.heap.size:=by omega
   have lz10:w.heap.size+1+1+1<wr.heap.size:=by omega
   have hbdz:bd<wr.heap.size:=by omega
   have kk0:(0:Int)≤(k:Int):=by omega
   have kk1:(k:Int)<(nd:Int):=by omega
   go_wp2_with fail
   go_still_tail 9,(by kernel_rfl)
   go_wp2_with fail
   have HLP:=hid (show P.length≤999 by have h:=HLK.out;rw[List.length_take] at h;have:=HAL.out;have h2:=congrArg List.length HPO.out;rw[List.length_map] at h2;simp only[List.length_nil] at h;omega)
   have HBE:=hid (show Below wr.heap.size wr wr.drew by exact bel)
   obtain⟨⟨⟨s2,i2',r2,L2,c2,t2,k2⟩,o2⟩,ha2⟩: ∃s,actO ⟨R,mc,mt,mf,wt⟩ ⟨ic,ii,li⟩ ⟨ac,ai,ln⟩ tick acts ⟨s1,i1,r1,L1,c1,t1,k1⟩ x=s:=⟨_,rfl⟩
   rw[ha2] at HTK
   refine(ract_any x Ar Aa Ai An (some ⟨bd,od,none⟩) nr cr na ca ni ci nn cn nd cd mc mt mf wt s1 i1 r1 c1 t1 k1 ic ii ac ai tick E R li ln acts vo P wr.drew b (Nat.le_of_lt hbr) (HPK.out.below HBE.out (Nat.le_of_lt hbr)) HLP.out (((HE5.out.keep HBL.out).keep (HBE.out.mono (Nat.le_of_lt hbr))).more (Nat.le_of_lt hbr)) HNA.out ((HI5.out.keep HBL.out).keep (HBE.out.mono (Nat.le_of_lt hbr))) HI.out.2.1 HI.out.2.2 hli ((HN5.out.keep HBL.out).keep (HBE.out.mono (Nat.le_of_lt hbr))) HN.out.2.1 HN.out.2.2 ((HDT.out.keep (HBE.out.mono (Nat.le_of_lt hbr))).more (Nat.le_of_lt hbr)) HND.out.symm (by omega) (by rw[HL.out];exact HNK.out)).mono ?_
   rw[HL.out,ha2]
   clear ha2
   rintro y w6 ⟨v',P',rfl,hg6,hp6,he6⟩
   obtain⟨A4,c4,rfl,-,-⟩:=ownsRow_form hp6.1
   obtain⟨p4,hp4⟩: ∃p4,P'.length=p4:=⟨_,rfl⟩
   rw[hp4] at hp6
   rw[hp4]
   clear hp4
   have hr6:=RB.apart (HRB.out.keep HBE.out) hg6 (own_ne_typ HPK.out.1 HRB.out (by decide))
   have HR6:=hid hr6
   have HP6:=hid hp6
   have HE6:=hid he6
   have HB6:=hid (show Below b wr w6 from(HBE.out.mono (Nat.le_of_lt hbr)).grown hg6 (Nat.le_of_lt hbr) (fun k hk=>own_le HPK.out.1 hk))
   clear hg6 hp6 he6 b0 b1 b2 b3 b4 b5 b6 b7 b8 b9 b10 b11 b12 i0 i1' i2 j0 j1 j2
   have hl6:=hr6.lt
   have k0:=hr6.free 0
   have k1':=hr6.free 1
   have k2':=hr6.free 2
   have k3:=hr6.free 3
   have k4:=hr6.free 4
   have k5:=hr6.free 5
   have k6:=hr6.free 6
   have k7:=hr6.free 7
   have k8:=hr6.free 8
   have k9:=hr6.free 9
   have k10:=hr6.free 10
   have k11:=hr6.free 11
   have k12:=hr6.free 12
   obtain⟨⟨b0,b1,b2,b3,b4⟩,⟨b5,b6,b7,b8,b9,b10,b11⟩,b12⟩:=(hr6).cells
   clear hr6
   go_upto_region 10 with(fail)
   refine wp_w (fun W=>RB W b (.slice Ar nr cr) mc mt mf wt s2 i2' r2 (.slice Aa na ca) c2 t2 k2 (.slice A4 p4 c4)∧RowPks W b (.slice A4 p4 c4) P'∧Below b W5 W) ⟨row13 HR6.out rfl _ _ _ _ _ _ _ _ _ _ _ _ _,HP6.out.other (X:=b) grn HR6.out (Nat.le_refl _) (by decide) (by decide) (Nat.le_of_lt hl6),(HBL.out.trans HB6.out).trans (below_of_grown grn (Nat.le_of_lt hl6))⟩ ?_
   rintro W7 ⟨h71,h72,h73⟩
   have H71:=hid h71
   have H72:=hid h72
   have H73:=hid h73
   clear h71 h72 h73 b0 b1 b2 b3 b4 b5 b6 b7 b8 b9 b10 b11 b12 k0 k1' k2' k3 k4 k5 k6 k7 k8 k9 k10 k11 k12
   go_wp2_with fail
   go_roundw
   case rel=>exact⟨k+1,.slice A4 p4 c4,P',by omega,by go_num,by rw[HTK.out];exact H71.out,H72.out,by rw[HTK.out,HE6.out,HPO.out],H73.out⟩
   case measure=>simp[intOf];omega
  ·obtain rfl:k=nd:=by omega
   have HTA:=hid (show acts.take k=acts from List.take_of_length_le (by have:=HND.out;omega))
   rw[HTA.out] at hrb HPO
   obtain⟨⟨⟨s1,i1,r1,L1,c1,t1,k1⟩,o1⟩,haf⟩: ∃s,runO ⟨R,mc,mt,mf,wt⟩ ⟨ic,ii,li⟩ ⟨ac,ai,ln⟩ tick acts (⟨nx,id,req,L,cnt,tim,nak⟩,[]) acts=s:=⟨_,rfl⟩
   rw[haf] at hrb HPO HDO
   clear haf
   dsimp only at hrb HPO
   have HRB:=hid hrb
   clear hrb
   obtain⟨tb,htb⟩: ∃tb,Fs.timedB nx=tb:=⟨_,rfl⟩
   have HTM:=hid htb
   rw[htb] at HDO
   clear htb
   cases tb
   ·have HDO2:=hid (show r=(⟨s1,i1,r1,L1,c1,0,k1⟩,o1,acts) by rw[HDO.out];rfl)
    have c10:=HRB.out.cell 10 (v:=.int .i64 t1) rfl
    have f10:=HRB.out.free 10
    go_wp2_with fail
    refine(Fs.timed_r nx _).mono ?_
    rw[HTM.out]
    rintro y w1 ⟨rfl,rfl⟩
    go_wp2_with fail
    have HRF:=hid (HRB.out.stim 0)
    have HBF:=hid (HBL.out.trans (below_of_grown (grown_set wr b 10 (.int .i64 0)) (Nat.le_of_lt hbr)))
    have HPF:=hid (HPK.out.other (grown_set wr b 10 (.int .i64 0)) HRB.out (Nat.le_refl _) (by decide) (by decide) (Nat.le_of_lt hbr))
    have HZF:=hid (((HBF.out.block _ hxb)).trans HZ5.out)
    have hbf:b<((wr.setCell ⟨b,10,none⟩ (Value.int .i64 0))).heap.size:=HRF.out.lt
    have hxf:w.heap.size+1+1+1+1<((wr.setCell ⟨b,10,none⟩ (Value.int .i64 0))).heap.size:=by omega
    obtain⟨⟨b0,b1,b2,b3,b4⟩,⟨b5,b6,b7,b8,b9,b10,b11⟩,b12⟩:=(HRF.out).cells
    clear b0 b1 b2 b3 b4
    obtain⟨z0,z1,z2,z3,z4,z5,z6⟩:=cells7 HZF.out
    have f0:=frees HZF.out 0
    have f1:=frees HZF.out 1
    have f2:=frees HZF.out 2
    have f3:=frees HZF.out 3
    have f4:=frees HZF.out 4
    have f5:=frees HZF.out 5
    have f6:=frees HZF.out 6
    go_region_held3 (fun w'=>w'.cell? ⟨b,5,none⟩=some (.int .i64 s1)∧w'.cell? ⟨b,6,none⟩=some (.int .i64 i1)∧w'.cell? ⟨b,7,none⟩=some (.int .i64 r1)∧w'.cell? ⟨b,8,none⟩=some (.slice Aa na ca)∧w'.cell? ⟨b,9,none⟩=some (.int .i64 c1)∧w'.cell? ⟨b,10,none⟩=some (.int .i64 0)∧w'.cell? ⟨b,11,none⟩=some (.int .i64 k1)∧w'.cell? ⟨b,12,none⟩=some vo) (first|(go_keep;done)|(go_simp;done)|(simp[go_sem];done)) (fail)
    all_goals
     obtain⟨Wf,hWf⟩: ∃Wf:World,Wf=(((((((((wr.setCell ⟨b,10,none⟩ (Value.int .i64 0)).setCell ⟨w.heap.size+1+1+1+1,0,none⟩ (.int .i64 s1)).setCell ⟨w.heap.size+1+1+1+1,1,none⟩ (.int .i64 i1)).setCell ⟨w.heap.size+1+1+1+1,2,none⟩ (.int .i64 r1)).setCell ⟨w.heap.size+1+1+1+1,3,none⟩ (.slice Aa na ca)).setCell ⟨w.heap.size+1+1+1+1,4,none⟩ (.int .i64 c1)).setCell ⟨w.heap.size+1+1+1+1,5,none⟩ (.int .i64 0)).setCell ⟨w.heap.size+1+1+1+1,6,none⟩ (.int .i64 k1))).drew:=⟨_,rfl⟩
     rw[←hWf]
     have hrow:Wf.heap[w.heap.size+1+1+1+1]? =some (.cells #[.int .i64 s1,.int .i64 i1,.int .i64 r1,.slice Aa na ca,.int .i64 c1,.int .i64 0,.int .i64 k1] 29 (0,0)):=by rw[hWf,hdrew];exact row7 HZF.out rfl _ _ _ _ _ _ _
     have hgr:((wr.setCell ⟨b,10,none⟩ (Value.int .i64 0))).grownBy Wf (some (w.heap.size+1+1+1+1)):=by rw[hWf];exact grn
     have hb2:Below W2.heap.size W2 ((wr.setCell ⟨b,10,none⟩ (Value.int .i64 0))):=HB5.out.trans (HBF.out.mono hbz)
     have hbl:Below w.heap.size w Wf:=Below.grown (HBW.out.trans (hb2.mono hszW)) hgr (Nat.le_trans hszW hb2.size) (fun k hk=>by cases hk;omega)
     have hps:PksR Wf w.heap.size vo o1:=((HPF.out.r HPO.out (Nat.le_of_lt hbf)).other hgr HZF.out (no_bytes7 _ _ _ _ _ _ _ _ _) (by decide)).base (by omega)
     have hats:ActsO Wf w.heap.size (.slice Ad k cd) acts:=by
      have h1:((wr.setCell ⟨b,10,none⟩ (Value.int .i64 0))).ownsRow W2.heap.size 104 1 (.slice Ad k cd) k (acts.map av):=own_keep HA5.out fun k hk=>HBF.out.block k (HAB.out k hk)
      have h2:=own_base (base':=w.heap.size) (own_stays h1 hgr fun r e=>by cases e;exact .inr (.inr ⟨_,_,HZF.out,by decide⟩)) hszW
      unfold ActsO
      rw[HND.out]
      exact h2
     clear hWf b5 b6 b7 b8 b9 b10 b11 b12 z0 z1 z2 z3 z4 z5 z6 f0 f1 f2 f3 f4 f5 f6
     obtain⟨u0,u1,u2,u3,u4,u5,u6⟩:=cells7 hrow
     go_wp2_with fail
     refine bodyPost_ret (v:=.tuple #[.agg #[.int .i64 s1,.int .i64 i1,.int .i64 r1,.slice Aa na ca,.int .i64 c1,.int .i64 0,.int .i64 k1],vo,.slice Ad k cd]) (by simp[results,Tryz.results15,go_sem,u0,u1,u2,u3,u4,u5,u6]) rfl ?_
     rw[HDO2.out]
     exact⟨vo,.slice Ad k cd,rfl,hbl,hps,hats⟩
   ·have HDO2:=hid (show r=(⟨s1,i1,r1,L1,c1,t1,k1⟩,o1,acts) by rw[HDO.out];rfl)
    go_wp2_with fail
    refine(Fs.timed_r nx _).mono ?_
    rw[HTM.out]
    rintro y w1 ⟨rfl,rfl⟩
    go_wp2_with fail
    have HRF:=hid (HRB.out)
    have HBF:=hid (HBL.out)
    have HPF:=hid (HPK.out)
    have HZF:=hid (((HBF.out.block _ hxb)).trans HZ5.out)
    have hbf:b<(wr).heap.size:=HRF.out.lt
    have hxf:w.heap.size+1+1+1+1<(wr).heap.size:=by omega
    obtain⟨⟨b0,b1,b2,b3,b4⟩,⟨b5,b6,b7,b8,b9,b10,b11⟩,b12⟩:=(HRF.out).cells
    clear b0 b1 b2 b3 b4
    obtain⟨z0,z1,z2,z3,z4,z5,z6⟩:=cells7 HZF.out
    have f0:=frees HZF.out 0
    have f1:=frees HZF.out 1
    have f2:=frees HZF.out 2
    have f3:=frees HZF.out 3
    have f4:=frees HZF.out 4
    have f5:=frees HZF.out 5
    have f6:=frees HZF.out 6
    go_region_held3 (fun w'=>w'.cell? ⟨b,5,none⟩=some (.int .i64 s1)∧w'.cell? ⟨b,6,none⟩=some (.int .i64 i1)∧w'.cell? ⟨b,7,none⟩=some (.int .i64 r1)∧w'.cell? ⟨b,8,none⟩=some (.slice Aa na ca)∧w'.cell? ⟨b,9,none⟩=some (.int .i64 c1)∧w'.cell? ⟨b,10,none⟩=some (.int .i64 t1)∧w'.cell? ⟨b,11,none⟩=some (.int .i64 k1)∧w'.cell? ⟨b,12,none⟩=some vo) (first|(go_keep;done)|(go_simp;done)|(simp[go_sem];done)) (fail)
    all_goals
     obtain⟨Wf,hWf⟩: ∃Wf:World,Wf=((((((((wr.setCell ⟨w.heap.size+1+1+1+1,0,none⟩ (.int .i64 s1)).setCell ⟨w.heap.size+1+1+1+1,1,none⟩ (.int .i64 i1)).setCell ⟨w.heap.size+1+1+1+1,2,none⟩ (.int .i64 r1)).setCell ⟨w.heap.size+1+1+1+1,3,none⟩ (.slice Aa na ca)).setCell ⟨w.heap.size+1+1+1+1,4,none⟩ (.int .i64 c1)).setCell ⟨w.heap.size+1+1+1+1,5,none⟩ (.int .i64 t1)).setCell ⟨w.heap.size+1+1+1+1,6,none⟩ (.int .i64 k1))).drew:=⟨_,rfl⟩
     rw[←hWf]
     have hrow:Wf.heap[w.heap.size+1+1+1+1]? =some (.cells #[.int .i64 s1,.int .i64 i1,.int .i64 r1,.slice Aa na ca,.int .i64 c1,.int .i64 t1,.int .i64 k1] 29 (0,0)):=by rw[hWf,hdrew];exact row7 HZF.out rfl _ _ _ _ _ _ _
     have hgr:(wr).grownBy Wf (some (w.heap.size+1+1+1+1)):=by rw[hWf];exact grn
     have hb2:Below W2.heap.size W2 (wr):=HB5.out.trans (HBF.out.mono hbz)
     have hbl:Below w.heap.size w Wf:=Below.grown (HBW.out.trans (hb2.mono hszW)) hgr (Nat.le_trans hszW hb2.size) (fun k hk=>by cases hk;omega)
     have hps:PksR Wf w.heap.size vo o1:=((HPF.out.r HPO.out (Nat.le_of_lt hbf)).other hgr HZF.out (no_bytes7 _ _ _ _ _ _ _ _ _) (by decide)).base (by omega)
     have hats:ActsO Wf w.heap.size (.slice Ad k cd) acts:=by
      have h1:(wr).ownsRow W2.heap.size 104 1 (.slice Ad k cd) k (acts.map av):=own_keep HA5.out fun k hk=>HBF.out.block k (HAB.out k hk)
      have h2:=own_base (base':=w.heap.size) (own_stays h1 hgr fun r e=>by cases e;exact .inr (.inr ⟨_,_,HZF.out,by decide⟩)) hszW
      unfold ActsO
      rw[HND.out]
      exact h2
     clear hWf b5 b6 b7 b8 b9 b10 b11 b12 z0 z1 z2 z3 z4 z5 z6 f0 f1 f2 f3 f4 f5 f6
     obtain⟨u0,u1,u2,u3,u4,u5,u6⟩:=cells7 hrow
     go_wp2_with fail
     refine bodyPost_ret (v:=.tuple #[.agg #[.int .i64 s1,.int .i64 i1,.int .i64 r1,.slice Aa na ca,.int .i64 c1,.int .i64 t1,.int .i64 k1],vo,.slice Ad k cd]) (by simp[results,Tryz.results15,go_sem,u0,u1,u2,u3,u4,u5,u6]) rfl ?_
     rw[HDO2.out]
     exact⟨vo,.slice Ad k cd,rfl,hbl,hps,hats⟩
theorem rdo_any (Ar Aa Ai An:Option Addr) (nr cr na ca ni ci nn cn:Nat) (R:List Rl) (mc mt mf wt st id req cnt tim nak e ic ii ac ai tick:Int) (E:List Ent) (li ln:List UInt8) (w:World) (B:Nat) (hB:B≤w.heap.size) (hR:RulesAt w B Ar R) (hnr:nr=R.length) (hlr:nr≤1000000) (hE:OptsAt w B Aa E) (hna:na=E.length) (hI:At w B Ai (li.map bv)) (hni:ni=li.length) (hci:ni≤ci) (hli:ni≤400000000) (hN:At w B An (ln.map bv)) (hnn:nn=ln.length) (hcn:nn≤cn) (hln:nn≤400000000):Calls Tryz.prog 15 #[.agg #[.slice Ar nr cr,.int .i64 mc,.int .i64 mt,.int .i64 mf,.int .i64 wt],.agg #[.int .i64 st,.int .i64 id,.int .i64 req,.slice Aa na ca,.int .i64 cnt,.int .i64 tim,.int .i64 nak],.int .i64 e,.agg #[.int .i64 ic,.int .i64 ii,.slice Ai ni ci],.agg #[.int .i64 ac,.int .i64 ai,.slice An nn cn],.int .i64 tick] w (RDoP (doO ⟨R,mc,mt,mf,wt⟩ ⟨st,id,req,E.map Ent.o,cnt,tim,nak⟩ e ⟨ic,ii,li⟩ ⟨ac,ai,ln⟩ tick) (.slice Aa na ca) w):=by
 by_cases h0:Fs.stepErr st e=0
 ·cases hf:fineB ⟨R,mc,mt,mf,wt⟩ ⟨st,id,req,E.map Ent.o,cnt,tim,nak⟩ tick
  ·exact rdo_no Ar Aa Ai An nr cr na ca ni ci nn cn R mc mt mf wt st id req cnt tim nak e ic ii ac ai tick E li ln w B hB hR hnr hlr hE hna hI hni hci hli hN hnn hcn hln (.inl hf)
  ·exact rdo_yes Ar Aa Ai An nr cr na ca ni ci nn cn R mc mt mf wt st id req cnt tim nak e ic ii ac ai tick E li ln w B hB hR hnr hlr hE hna hI hni hci hli hN hnn hcn hln hf h0
 ·exact rdo_no Ar Aa Ai An nr cr na ca ni ci nn cn R mc mt mf wt st id req cnt tim nak e ic ii ac ai tick E li ln w B hB hR hnr hlr hE hna hI hni hci hli hN hnn hcn hln (.inr h0)
end Go.Proofs.YtfkgmbknfnhjoaaGreat
