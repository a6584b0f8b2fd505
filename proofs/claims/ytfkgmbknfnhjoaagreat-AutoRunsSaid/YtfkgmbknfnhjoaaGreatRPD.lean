/- Bundle PD. -/
import Derived.Test.YtfkgmbknfnhjoaaGreatRPC
set_option maxHeartbeats 8000000
namespace Go.Proofs.YtfkgmbknfnhjoaaGreat
open Lib (hid)
open Go.RowKit
set_option linter.unusedSimpArgs false
set_option linter.unusedVariables false
set_option linter.ambiguousOpen false
open Ne (Rl Opt RulesAt areB)
open Fs (av hasB)
def runO (c:Cf) (inn ans:Pk) (tick:Int) (acts:List Int) (s:Au×List Pk) (l:List Int):Au×List Pk:=
 l.foldl (fun s x=>((actO c inn ans tick acts s.1 x).1,s.2++(actO c inn ans tick acts s.1 x).2)) s
def doO (c:Cf) (a:Au) (e:Int) (inn ans:Pk) (tick:Int):Au×List Pk×List Int:=
 if fineB c a tick=true∧Fs.stepErr a.st e=0 then
  (if Fs.timedB (Fs.tabNext e a.st)=true then(runO c inn ans tick (Fs.tabActs e a.st) ({a with st:=Fs.tabNext e a.st},[]) (Fs.tabActs e a.st)).1
   else {(runO c inn ans tick (Fs.tabActs e a.st) ({a with st:=Fs.tabNext e a.st},[]) (Fs.tabActs e a.st)).1 with tim:=0},
   (runO c inn ans tick (Fs.tabActs e a.st) ({a with st:=Fs.tabNext e a.st},[]) (Fs.tabActs e a.st)).2,Fs.tabActs e a.st)
 else(a,[],[])
theorem runO_take {c:Cf} {inn ans:Pk} {tick:Int} {acts:List Int} {s:Au×List Pk} {l:List Int} {k:Nat} (hk:k<l.length):
  runO c inn ans tick acts s (l.take (k+1))=((actO c inn ans tick acts (runO c inn ans tick acts s (l.take k)).1 l[k]).1,(runO c inn ans tick acts s (l.take k)).2++(actO c inn ans tick acts (runO c inn ans tick acts s (l.take k)).1 l[k]).2):=by
 unfold runO
 rw[List.take_succ_eq_append_getElem hk,List.foldl_append]
 rfl
theorem runO_ask (c:Cf) (inn ans:Pk) (tick:Int) (acts:List Int): ∀(l:List Int) (s:Au×List Pk),(runO c inn ans tick acts s l).1.ask=s.1.ask
 |[],_=>rfl
 |x::l,s=>by
  unfold runO
  rw[List.foldl_cons]
  exact(runO_ask c inn ans tick acts l _).trans (act_ask ..)
theorem runO_len (c:Cf) (inn ans:Pk) (tick:Int) (acts:List Int): ∀(l:List Int) (s:Au×List Pk),(runO c inn ans tick acts s l).2.length≤s.2.length+l.length
 |[],s=>Nat.le_refl _
 |x::l,s=>by
  unfold runO
  rw[List.foldl_cons]
  have h1:=runO_len c inn ans tick acts l ((actO c inn ans tick acts s.1 x).1,s.2++(actO c inn ans tick acts s.1 x).2)
  have h2:=act_out c inn ans tick acts s.1 x
  unfold runO at h1
  simp only[List.length_append,List.length_cons] at h1 ⊢
  omega
theorem runO_ok (c:Cf) (inn ans:Pk) (tick:Int) (acts:List Int): ∀(l:List Int) (s:Au×List Pk),NumOk c s.1 tick→NumOk c (runO c inn ans tick acts s l).1 tick
 |[],s,h=>h
 |x::l,s,h=>by
  unfold runO
  rw[List.foldl_cons]
  exact runO_ok c inn ans tick acts l _ (h.act inn ans acts x)
theorem doO_ask (c:Cf) (a:Au) (e:Int) (inn ans:Pk) (tick:Int):(doO c a e inn ans tick).1.ask=a.ask:=by
 unfold doO
 split
 ·dsimp only
  split
  ·exact runO_ask ..
  ·exact runO_ask ..
 ·rfl
theorem NumOk.of_fine {c:Cf} {a:Au} {tick:Int} (h:fineB c a tick=true):NumOk c a tick:=by
 unfold fineB confB isB numsB inB at h
 simp only[Bool.and_eq_true,decide_eq_true_eq] at h
 obtain⟨⟨-,⟨m0,m1⟩,⟨n0,n1⟩,-,w0,w1⟩,⟨⟨-,⟨i0,i1⟩,⟨r0,r1⟩,⟨c0,c1⟩,k0,k1⟩,-⟩,t0,t1⟩:=h
 exact⟨t0,t1,w0,w1,m0,m1,n0,n1,c0,c1,i0,i1,r0,r1,k0,k1⟩
theorem NumOk.state {c:Cf} {a:Au} {tick:Int} (h:NumOk c a tick) (s:Int):NumOk c {a with st:=s} tick:=⟨h.t0,h.t1,h.w0,h.w1,h.m0,h.m1,h.n0,h.n1,h.c0,h.c1,h.i0,h.i1,h.r0,h.r1,h.k0,h.k1⟩
theorem wp_w {P:Program} {c:Code} {Q:Exit→Act→World→Prop} {a:Act} {w:World} (S:World→Prop) (hS:S w) (h: ∀W,S W→c.wp P Q a W):c.wp P Q a w:=h w hS
theorem lt_blk {w:World} {b:Nat} {o:Obj} (h:w.heap[b]? =some o):b<w.heap.size:=by rw[Array.getElem?_eq_some_iff] at h;exact h.1
theorem cells3 {W:World} {X:Nat} {a b c:Value} {T:TypeId} (h:W.heap[X]? =some (.cells #[a,b,c] T (0,0))):W.cell? ⟨X,0,none⟩=some a∧W.cell? ⟨X,1,none⟩=some b∧W.cell? ⟨X,2,none⟩=some c:=
 ⟨(cell_of_row W X 0 _ _ _ h).trans rfl,(cell_of_row W X 1 _ _ _ h).trans rfl,(cell_of_row W X 2 _ _ _ h).trans rfl⟩
theorem cells5 {W:World} {X:Nat} {a b c d e:Value} {T:TypeId} (h:W.heap[X]? =some (.cells #[a,b,c,d,e] T (0,0))):W.cell? ⟨X,0,none⟩=some a∧W.cell? ⟨X,1,none⟩=some b∧W.cell? ⟨X,2,none⟩=some c∧W.cell? ⟨X,3,none⟩=some d∧W.cell? ⟨X,4,none⟩=some e:=
 ⟨(cell_of_row W X 0 _ _ _ h).trans rfl,(cell_of_row W X 1 _ _ _ h).trans rfl,(cell_of_row W X 2 _ _ _ h).trans rfl,(cell_of_row W X 3 _ _ _ h).trans rfl,(cell_of_row W X 4 _ _ _ h).trans rfl⟩
theorem cells7 {W:World} {X:Nat} {a b c d e f g:Value} {T:TypeId} (h:W.heap[X]? =some (.cells #[a,b,c,d,e,f,g] T (0,0))):W.cell? ⟨X,0,none⟩=some a∧W.cell? ⟨X,1,none⟩=some b∧W.cell? ⟨X,2,none⟩=some c∧W.cell? ⟨X,3,none⟩=some d∧W.cell? ⟨X,4,none⟩=some e∧W.cell? ⟨X,5,none⟩=some f∧W.cell? ⟨X,6,none⟩=some g:=
 ⟨(cell_of_row W X 0 _ _ _ h).trans rfl,(cell_of_row W X 1 _ _ _ h).trans rfl,(cell_of_row W X 2 _ _ _ h).trans rfl,(cell_of_row W X 3 _ _ _ h).trans rfl,(cell_of_row W X 4 _ _ _ h).trans rfl,(cell_of_row W X 5 _ _ _ h).trans rfl,(cell_of_row W X 6 _ _ _ h).trans rfl⟩
theorem frees {W:World} {X:Nat} {cs:Array Value} {T:TypeId} (h:W.heap[X]? =some (.cells cs T (0,0))) (i:Nat):W.frozen? ⟨X,i,none⟩=false:=frozen_of_row W X i _ _ h
theorem row7 {w:World} {X:Nat} {cs:Array Value} {T:TypeId} (h:w.heap[X]? =some (.cells cs T (0,0))) (hc:cs.size=7) (a b c d e f g:Value):
  (((((((w.setCell ⟨X,0,none⟩ a).setCell ⟨X,1,none⟩ b).setCell ⟨X,2,none⟩ c).setCell ⟨X,3,none⟩ d).setCell ⟨X,4,none⟩ e).setCell ⟨X,5,none⟩ f).setCell ⟨X,6,none⟩ g).heap[X]? =some (.cells #[a,b,c,d,e,f,g] T (0,0)):=by
 obtain⟨l⟩:=cs
 match l,hc with
 |[x0,x1,x2,x3,x4,x5,x6],_=>
  rw[heap_setCell_same _ X 6 _ _ _ (heap_setCell_same _ X 5 _ _ _ (heap_setCell_same _ X 4 _ _ _ (heap_setCell_same _ X 3 _ _ _ (heap_setCell_same _ X 2 _ _ _ (heap_setCell_same _ X 1 _ _ _ (heap_setCell_same _ X 0 _ _ _ h))))))]
  rfl
def OptsO (w:World) (base:Nat) (v:Value) (L:List Opt):Prop:= ∃E,OwnOpts w base v E∧E.map Ent.o=L
def auV (a:Au) (va:Value):Value:=.agg #[.int .i64 a.st,.int .i64 a.id,.int .i64 a.req,va,.int .i64 a.cnt,.int .i64 a.tim,.int .i64 a.nak]
def ActsO (w:World) (base:Nat) (v:Value) (l:List Int):Prop:=w.ownsRow base 104 1 v l.length (l.map av)
theorem ActsO.nil (w:World) (base:Nat):ActsO w base (.slice none 0 0) []:=own_nil _ _ _ _
theorem ActsO.v {w:World} {base:Nat} {v:Value} {l:List Int} (h:ActsO w base v l):ActsV w w.heap.size v l:=by
 have h2:=h
 unfold ActsO at h2
 obtain⟨A,c,rfl,hc,-⟩:=ownsRow_form h2
 exact⟨A,_,c,rfl,At.of_own h2,rfl,hc⟩
def DoP (r:Au×List Pk×List Int) (w:World) (x:Ending) (w':World):Prop:=
 ∃va vo vd,x=.returned (.tuple #[auV r.1 va,vo,vd])∧Below w.heap.size w w'∧OptsO w' w.heap.size va r.1.ask∧PksO w' w.heap.size vo r.2.1∧ActsO w' w.heap.size vd r.2.2
theorem OwnOpts.other {A C:World} {base X:Nat} {v:Value} {E:List Ent} {cur:Array Value} {e':TypeId} (h:OwnOpts A base v E) (hg:A.grownBy C (some X)) (hX:A.heap[X]? =some (.cells cur e' (0,0))) (h1:e'≠111) (h2:e'≠5):OwnOpts C base v E:=
 ⟨own_stays h.1 hg fun r e=>by cases e;exact .inr (.inr ⟨_,_,hX,h1⟩),fun x hx=>own_stays (h.2 x hx) hg fun r e=>by cases e;exact .inr (.inr ⟨_,_,hX,h2⟩)⟩
set_option maxRecDepth 100000 in
theorem do_no (Ar Aa Ai An:Option Addr) (nr cr na ca ni ci nn cn:Nat) (R:List Rl) (mc mt mf wt st id req cnt tim nak e ic ii ac ai tick:Int) (E:List Ent) (li ln:List UInt8) (w:World) (B:Nat) (hB:B≤w.heap.size)
  (hR:RulesAt w B Ar R) (hnr:nr=R.length) (hlr:nr≤1000000) (hE:OptsAt w B Aa E) (hna:na=E.length) (hla:na≤1000000) (hda: ∀e∈E,e.d.length≤400000000)
  (hI:At w B Ai (li.map bv)) (hni:ni=li.length) (hci:ni≤ci) (hli:ni≤400000000) (hN:At w B An (ln.map bv)) (hnn:nn=ln.length) (hcn:nn≤cn) (hln:nn≤400000000) (hno:fineB ⟨R,mc,mt,mf,wt⟩ ⟨st,id,req,E.map Ent.o,cnt,tim,nak⟩ tick=false∨Fs.stepErr st e≠0):
  Calls Tryz.prog 14 #[.agg #[.slice Ar nr cr,.int .i64 mc,.int .i64 mt,.int .i64 mf,.int .i64 wt],.agg #[.int .i64 st,.int .i64 id,.int .i64 req,.slice Aa na ca,.int .i64 cnt,.int .i64 tim,.int .i64 nak],.int .i64 e,.agg #[.int .i64 ic,.int .i64 ii,.slice Ai ni ci],.agg #[.int .i64 ac,.int .i64 ai,.slice An nn cn],.int .i64 tick] w (DoP (doO ⟨R,mc,mt,mf,wt⟩ ⟨st,id,req,E.map Ent.o,cnt,tim,nak⟩ e ⟨ic,ii,li⟩ ⟨ac,ai,ln⟩ tick) w):=by
 have HB:=hid hB
 have HR:=hid hR
 have HNR:=hid hnr
 have HE:=hid hE
 have HNA:=hid hna
 have HDA:=hid hda
 have HI:=hid (And.intro hI (And.intro hni hci))
 have HN:=hid (And.intro hN (And.intro hnn hcn))
 obtain⟨L,hL⟩: ∃L,E.map Ent.o=L:=⟨_,rfl⟩
 have HL:=hid hL
 rw[hL] at hno
 rw[hL]
 clear hB hR hnr hE hna hda hI hni hci hN hnn hcn hL
 obtain⟨fb,hfb⟩: ∃fb,fineB ⟨R,mc,mt,mf,wt⟩ ⟨st,id,req,L,cnt,tim,nak⟩ tick=fb:=⟨_,rfl⟩
 have HF:=hid hfb
 cases fb
 ·have HDO:=hid (show doO ⟨R,mc,mt,mf,wt⟩ ⟨st,id,req,L,cnt,tim,nak⟩ e ⟨ic,ii,li⟩ ⟨ac,ai,ln⟩ tick=(⟨st,id,req,L,cnt,tim,nak⟩,[],[]) by unfold doO;rw[hfb];simp)
  rw[HDO.out]
  clear hfb
  go_enter Tryz.func14,Tryz.ntmps14
  go_wp2_with fail
  refine(as_any st id req cnt tim nak Aa na ca E _ B (by have:=HB.out;simp;omega) (by exact HE.out.keep (by have:=HB.out;exact bel)) HNA.out hla HDA.out).mono ?_
  rintro x w1 ⟨v,rfl,E2,A2,n2,c2,rfl,he2,hn2,hc2,hb,ho⟩
  obtain⟨xs,d,rfl⟩:=ext_of hb
  have HE2:=hid (show E2.map Ent.o=L from he2.trans HL.out)
  have HN2:=hid hn2
  have HC2:=hid hc2
  have HO:=hid ho
  clear hb ho he2 hn2 hc2
  dsimp only
  go_upto_region 2 with(fail)
  refine wp_w (fun W=>W.heap[w.heap.size]? =some (.cells #[.slice Ar nr cr,.int .i64 mc,.int .i64 mt,.int .i64 mf,.int .i64 wt] 24 (0,0))∧W.heap[w.heap.size+1]? =some (.cells #[.int .i64 st,.int .i64 id,.int .i64 req,.slice A2 n2 c2,.int .i64 cnt,.int .i64 tim,.int .i64 nak] 29 (0,0))∧W.heap[w.heap.size+1+1]? =some (.cells #[.int .i64 ic,.int .i64 ii,.slice Ai ni ci] 32 (0,0))∧W.heap[w.heap.size+1+1+1]? =some (.cells #[.int .i64 ac,.int .i64 ai,.slice An nn cn] 32 (0,0))∧W.heap[w.heap.size+1+1+1+1]? =some (.cells #[.int .i64 0,.int .i64 0,.int .i64 0,.slice none 0 0,.int .i64 0,.int .i64 0,.int .i64 0] 29 (0,0))∧Below w.heap.size w W∧OwnOpts W w.heap.size (.slice A2 n2 c2) E2) ⟨by exact hpa,by exact hpa,by exact hpa,by exact hpa,by exact hpa,by exact bel,(OwnOpts.swap HO.out (by simp) (by simp)).base (by simp;omega)⟩ ?_
  rintro W2 ⟨h6,h7,h9,h10,h12,hbw,how⟩
  have HBW:=hid hbw
  have HOW:=hid how
  have H6:=hid h6
  have H7:=hid h7
  have H9:=hid h9
  have H10:=hid h10
  have H12:=hid h12
  have hszW:=hbw.size
  have l6:=lt_blk h6
  have l7:=lt_blk h7
  have l9:=lt_blk h9
  have l10:=lt_blk h10
  have l12:=lt_blk h12
  obtain⟨p0,p1,p2,p3,p4⟩:=cells5 h6
  obtain⟨q0,q1,q2,q3,q4,q5,q6⟩:=cells7 h7
  obtain⟨z0,z1,z2,z3,z4,z5,z6⟩:=cells7 h12
  have f0:=frees h12 0
  have f1:=frees h12 1
  have f2:=frees h12 2
  have f3:=frees h12 3
  have f4:=frees h12 4
  have f5:=frees h12 5
  have f6:=frees h12 6
  clear h6 h7 h9 h10 h12 hbw how
  go_wp2_with fail
  refine(may_any Ar nr cr R mc mt mf wt st id req cnt tim nak A2 n2 c2 E2 L HE2.out tick _ _ (Nat.le_refl _) ((HR.out.keep (HBW.out.mono HB.out)).more (by have:=HB.out;omega)) HNR.out hlr HOW.out.at HN2.out).mono ?_
  rw[HF.out]
  rintro x w1 ⟨rfl,hb⟩
  obtain⟨xs3,d3,rfl⟩:=ext_of hb
  clear hb
  go_wp2_with fail
  obtain⟨Wf,hWf⟩: ∃Wf,Wf=ext (((((((W2.setCell ⟨w.heap.size+1+1+1+1,0,none⟩ (.int .i64 st)).setCell ⟨w.heap.size+1+1+1+1,1,none⟩ (.int .i64 id)).setCell ⟨w.heap.size+1+1+1+1,2,none⟩ (.int .i64 req)).setCell ⟨w.heap.size+1+1+1+1,3,none⟩ (.slice A2 n2 c2)).setCell ⟨w.heap.size+1+1+1+1,4,none⟩ (.int .i64 cnt)).setCell ⟨w.heap.size+1+1+1+1,5,none⟩ (.int .i64 tim)).setCell ⟨w.heap.size+1+1+1+1,6,none⟩ (.int .i64 nak)) xs3 d3:=⟨_,rfl⟩
  rw[←hWf]
  have hrow:Wf.heap[w.heap.size+1+1+1+1]? =some (.cells #[.int .i64 st,.int .i64 id,.int .i64 req,.slice A2 n2 c2,.int .i64 cnt,.int .i64 tim,.int .i64 nak] 29 (0,0)):=by rw[hWf];exact(heap_ext _ _ _ _ (by simp;exact l12)).trans (row7 H12.out rfl _ _ _ _ _ _ _)
  have hgr:W2.grownBy Wf (some (w.heap.size+1+1+1+1)):=by rw[hWf];exact grn
  have hbl:Below w.heap.size w Wf:=Below.grown HBW.out hgr HBW.out.size (fun k hk=>by cases hk;omega)
  clear hWf p0 p1 p2 p3 p4 q0 q1 q2 q3 q4 q5 q6 z0 z1 z2 z3 z4 z5 z6 f0 f1 f2 f3 f4 f5 f6
  obtain⟨u0,u1,u2,u3,u4,u5,u6⟩:=cells7 hrow
  refine bodyPost_ret (v:=.tuple #[.agg #[.int .i64 st,.int .i64 id,.int .i64 req,.slice A2 n2 c2,.int .i64 cnt,.int .i64 tim,.int .i64 nak],.slice none 0 0,.slice none 0 0]) (by simp[results,Tryz.results14,go_sem,u0,u1,u2,u3,u4,u5,u6]) rfl ?_
  exact⟨.slice A2 n2 c2,.slice none 0 0,.slice none 0 0,rfl,hbl,⟨E2,HOW.out.other hgr H12.out (by decide) (by decide),HE2.out⟩,⟨[],OwnPks.nil _ _,rfl⟩,ActsO.nil _ _⟩
 ·obtain⟨er,her⟩: ∃er,Fs.stepErr st e=er:=⟨_,rfl⟩
  have HER:=hid her
  have h0:er≠0:=by rcases hno with h|h
                   ·rw[hfb] at h;cases h
                   ·rwa [her] at h
  ·have HDO:=hid (show doO ⟨R,mc,mt,mf,wt⟩ ⟨st,id,req,L,cnt,tim,nak⟩ e ⟨ic,ii,li⟩ ⟨ac,ai,ln⟩ tick=(⟨st,id,req,L,cnt,tim,nak⟩,[],[]) by unfold doO;dsimp only;rw[her,if_neg (fun h=>h0 h.2)])
   rw[HDO.out]
   have h0':(er !=0)=true:=by simpa using h0
   clear hfb her
   go_enter Tryz.func14,Tryz.ntmps14
   go_wp2_with fail
   refine(as_any st id req cnt tim nak Aa na ca E _ B (by have:=HB.out;simp;omega) (by exact HE.out.keep (by have:=HB.out;exact bel)) HNA.out hla HDA.out).mono ?_
   rintro x w1 ⟨v,rfl,E2,A2,n2,c2,rfl,he2,hn2,hc2,hb,ho⟩
   obtain⟨xs,d,rfl⟩:=ext_of hb
   have HE2:=hid (show E2.map Ent.o=L from he2.trans HL.out)
   have HN2:=hid hn2
   have HC2:=hid hc2
   have HO:=hid ho
   clear hb ho he2 hn2 hc2
   dsimp only
   go_upto_region 2 with(fail)
   refine wp_w (fun W=>W.heap[w.heap.size]? =some (.cells #[.slice Ar nr cr,.int .i64 mc,.int .i64 mt,.int .i64 mf,.int .i64 wt] 24 (0,0))∧W.heap[w.heap.size+1]? =some (.cells #[.int .i64 st,.int .i64 id,.int .i64 req,.slice A2 n2 c2,.int .i64 cnt,.int .i64 tim,.int .i64 nak] 29 (0,0))∧W.heap[w.heap.size+1+1]? =some (.cells #[.int .i64 ic,.int .i64 ii,.slice Ai ni ci] 32 (0,0))∧W.heap[w.heap.size+1+1+1]? =some (.cells #[.int .i64 ac,.int .i64 ai,.slice An nn cn] 32 (0,0))∧W.heap[w.heap.size+1+1+1+1]? =some (.cells #[.int .i64 0,.int .i64 0,.int .i64 0,.slice none 0 0,.int .i64 0,.int .i64 0,.int .i64 0] 29 (0,0))∧Below w.heap.size w W∧OwnOpts W w.heap.size (.slice A2 n2 c2) E2) ⟨by exact hpa,by exact hpa,by exact hpa,by exact hpa,by exact hpa,by exact bel,(OwnOpts.swap HO.out (by simp) (by simp)).base (by simp;omega)⟩ ?_
   rintro W2 ⟨h6,h7,h9,h10,h12,hbw,how⟩
   have HBW:=hid hbw
   have HOW:=hid how
   have H6:=hid h6
   have H7:=hid h7
   have H9:=hid h9
   have H10:=hid h10
   have H12:=hid h12
   have hszW:=hbw.size
   have l6:=lt_blk h6
   have l7:=lt_blk h7
   have l9:=lt_blk h9
   have l10:=lt_blk h10
   have l12:=lt_blk h12
   obtain⟨p0,p1,p2,p3,p4⟩:=cells5 h6
   obtain⟨q0,q1,q2,q3,q4,q5,q6⟩:=cells7 h7
   obtain⟨z0,z1,z2,z3,z4,z5,z6⟩:=cells7 h12
   have f0:=frees h12 0
   have f1:=frees h12 1
   have f2:=frees h12 2
   have f3:=frees h12 3
   have f4:=frees h12 4
   have f5:=frees h12 5
   have f6:=frees h12 6
   clear h6 h7 h9 h10 h12 hbw how
   go_wp2_with fail
   refine(may_any Ar nr cr R mc mt mf wt st id req cnt tim nak A2 n2 c2 E2 L HE2.out tick _ _ (Nat.le_refl _) ((HR.out.keep (HBW.out.mono HB.out)).more (by have:=HB.out;omega)) HNR.out hlr HOW.out.at HN2.out).mono ?_
   rw[HF.out]
   rintro x w1 ⟨rfl,hb⟩
   obtain⟨xs3,d3,rfl⟩:=ext_of hb
   clear hb
   go_wp2_with fail
   refine(Fs.step_any st e _).mono ?_
   rw[show Fs.StepP st e=fun w x w'=> ∃v,x=.returned (.tuple #[.int .i64 (Fs.tabNext e st),v,.int .i64 er])∧Fs.Told w (Fs.tabActs e st) v w' by unfold Fs.StepP;rw[HER.out]]
   rintro x w1 ⟨v,rfl,hb,-⟩
   obtain⟨xs4,d4,rfl⟩:=ext_of hb
   clear hb
   go_wp2_with fail
   obtain⟨Wf,hWf⟩: ∃Wf,Wf=ext (ext (((((((W2.setCell ⟨w.heap.size+1+1+1+1,0,none⟩ (.int .i64 st)).setCell ⟨w.heap.size+1+1+1+1,1,none⟩ (.int .i64 id)).setCell ⟨w.heap.size+1+1+1+1,2,none⟩ (.int .i64 req)).setCell ⟨w.heap.size+1+1+1+1,3,none⟩ (.slice A2 n2 c2)).setCell ⟨w.heap.size+1+1+1+1,4,none⟩ (.int .i64 cnt)).setCell ⟨w.heap.size+1+1+1+1,5,none⟩ (.int .i64 tim)).setCell ⟨w.heap.size+1+1+1+1,6,none⟩ (.int .i64 nak)) xs3 d3) xs4 d4:=⟨_,rfl⟩
   rw[←hWf]
   have hrow:Wf.heap[w.heap.size+1+1+1+1]? =some (.cells #[.int .i64 st,.int .i64 id,.int .i64 req,.slice A2 n2 c2,.int .i64 cnt,.int .i64 tim,.int .i64 nak] 29 (0,0)):=by rw[hWf];exact(heap_ext _ _ _ _ (by simp[size_ext,grow];omega)).trans ((heap_ext _ _ _ _ (by simp;exact l12)).trans (row7 H12.out rfl _ _ _ _ _ _ _))
   have hgr:W2.grownBy Wf (some (w.heap.size+1+1+1+1)):=by rw[hWf];exact grn
   have hbl:Below w.heap.size w Wf:=Below.grown HBW.out hgr HBW.out.size (fun k hk=>by cases hk;omega)
   clear hWf p0 p1 p2 p3 p4 q0 q1 q2 q3 q4 q5 q6 z0 z1 z2 z3 z4 z5 z6 f0 f1 f2 f3 f4 f5 f6
   obtain⟨u0,u1,u2,u3,u4,u5,u6⟩:=cells7 hrow
   refine bodyPost_ret (v:=.tuple #[.agg #[.int .i64 st,.int .i64 id,.int .i64 req,.slice A2 n2 c2,.int .i64 cnt,.int .i64 tim,.int .i64 nak],.slice none 0 0,.slice none 0 0]) (by simp[results,Tryz.results14,go_sem,u0,u1,u2,u3,u4,u5,u6]) rfl ?_
   exact⟨.slice A2 n2 c2,.slice none 0 0,.slice none 0 0,rfl,hbl,⟨E2,HOW.out.other hgr H12.out (by decide) (by decide),HE2.out⟩,⟨[],OwnPks.nil _ _,rfl⟩,ActsO.nil _ _⟩
end Go.Proofs.YtfkgmbknfnhjoaaGreat
namespace Go.Proofs.YtfkgmbknfnhjoaaGreat
open Lib (hid)
open Go.RowKit
set_option linter.unusedSimpArgs false
set_option linter.unusedVariables false
set_option linter.ambiguousOpen false
open Ne (Rl Opt RulesAt areB)
open Fs (av hasB)
theorem hdrew (w:World):w.drew.heap=w.heap:=rfl
theorem At.off {w w':World} {B X:Nat} {A:Option Addr} {xs:List Value} (h:At w B A xs) (hg:w.grownBy w' (some X)) (hne: ∀(g o:Nat),A=some ⟨g,o,none⟩→g≠X) (hB:B≤w.heap.size):At w' B A xs:=by
 rcases h with h|⟨b,o,e,hb,hc⟩
 ·exact .inl h
 ·refine .inr ⟨b,o,e,hb,fun j u hu=>?_⟩
  rw[World.cell?_of_block (w:=w) (a:=⟨b,o+j,none⟩) (hg.block b (by omega) (fun e'=>hne b o e (by simpa using e')))]
  exact hc j u hu
set_option maxRecDepth 100000 in
theorem do_yes (Ar Aa Ai An:Option Addr) (nr cr na ca ni ci nn cn:Nat) (R:List Rl) (mc mt mf wt st id req cnt tim nak e ic ii ac ai tick:Int) (E:List Ent) (li ln:List UInt8) (w:World) (B:Nat) (hB:B≤w.heap.size)
  (hR:RulesAt w B Ar R) (hnr:nr=R.length) (hlr:nr≤1000000) (hE:OptsAt w B Aa E) (hna:na=E.length) (hla:na≤1000000) (hda: ∀e∈E,e.d.length≤400000000)
  (hI:At w B Ai (li.map bv)) (hni:ni=li.length) (hci:ni≤ci) (hli:ni≤400000000) (hN:At w B An (ln.map bv)) (hnn:nn=ln.length) (hcn:nn≤cn) (hln:nn≤400000000) (hf:fineB ⟨R,mc,mt,mf,wt⟩ ⟨st,id,req,E.map Ent.o,cnt,tim,nak⟩ tick=true) (h0:Fs.stepErr st e=0):
  Calls Tryz.prog 14 #[.agg #[.slice Ar nr cr,.int .i64 mc,.int .i64 mt,.int .i64 mf,.int .i64 wt],.agg #[.int .i64 st,.int .i64 id,.int .i64 req,.slice Aa na ca,.int .i64 cnt,.int .i64 tim,.int .i64 nak],.int .i64 e,.agg #[.int .i64 ic,.int .i64 ii,.slice Ai ni ci],.agg #[.int .i64 ac,.int .i64 ai,.slice An nn cn],.int .i64 tick] w (DoP (doO ⟨R,mc,mt,mf,wt⟩ ⟨st,id,req,E.map Ent.o,cnt,tim,nak⟩ e ⟨ic,ii,li⟩ ⟨ac,ai,ln⟩ tick) w):=by
 have HB:=hid hB
 have HR:=hid hR
 have HNR:=hid hnr
 have HE:=hid hE
 have HNA:=hid hna
 have HDA:=hid hda
 have HI:=hid (And.intro hI (And.intro hni hci))
 have HN:=hid (And.intro hN (And.intro hnn hcn))
 obtain⟨L,hL⟩: ∃L,E.map Ent.o=L:=⟨_,rfl⟩
 have HL:=hid hL
 rw[hL] at hf
 rw[hL]
 clear hB hR hnr hE hna hda hI hni hci hN hnn hcn hL
 have HF:=hid hf
 have HER:=hid h0
 have HOK:=hid (NumOk.of_fine hf)
 have HDO:=hid (show doO ⟨R,mc,mt,mf,wt⟩ ⟨st,id,req,L,cnt,tim,nak⟩ e ⟨ic,ii,li⟩ ⟨ac,ai,ln⟩ tick=(if Fs.timedB (Fs.tabNext e st)=true then(runO ⟨R,mc,mt,mf,wt⟩ ⟨ic,ii,li⟩ ⟨ac,ai,ln⟩ tick (Fs.tabActs e st) (⟨Fs.tabNext e st,id,req,L,cnt,tim,nak⟩,[]) (Fs.tabActs e st)).1
   else {(runO ⟨R,mc,mt,mf,wt⟩ ⟨ic,ii,li⟩ ⟨ac,ai,ln⟩ tick (Fs.tabActs e st) (⟨Fs.tabNext e st,id,req,L,cnt,tim,nak⟩,[]) (Fs.tabActs e st)).1 with tim:=0},
   (runO ⟨R,mc,mt,mf,wt⟩ ⟨ic,ii,li⟩ ⟨ac,ai,ln⟩ tick (Fs.tabActs e st) (⟨Fs.tabNext e st,id,req,L,cnt,tim,nak⟩,[]) (Fs.tabActs e st)).2,Fs.tabActs e st) from by unfold doO;rw[if_pos ⟨hf,h0⟩])
 have HAL:=hid (Fs.tabActs_le e st)
 have HSP:=hid (show Fs.StepP st e=fun w x w'=> ∃v,x=.returned (.tuple #[.int .i64 (Fs.tabNext e st),v,.int .i64 0])∧Fs.Told w (Fs.tabActs e st) v w' by unfold Fs.StepP;rw[h0])
 clear hf h0
 obtain⟨r,hr⟩: ∃r,doO ⟨R,mc,mt,mf,wt⟩ ⟨st,id,req,L,cnt,tim,nak⟩ e ⟨ic,ii,li⟩ ⟨ac,ai,ln⟩ tick=r:=⟨_,rfl⟩
 rw[hr] at HDO
 rw[hr]
 clear hr
 obtain⟨nx,hnx⟩: ∃nx,Fs.tabNext e st=nx:=⟨_,rfl⟩
 obtain⟨acts,hacts⟩: ∃acts,Fs.tabActs e st=acts:=⟨_,rfl⟩
 rw[hnx,hacts] at HSP
 rw[hacts] at HAL
 rw[hnx,hacts] at HDO
 clear hnx hacts
 go_enter Tryz.func14,Tryz.ntmps14
 go_wp2_with fail
 refine(as_any st id req cnt tim nak Aa na ca E _ B (by have:=HB.out;simp;omega) (by exact HE.out.keep (by have:=HB.out;exact bel)) HNA.out hla HDA.out).mono ?_
 rintro x w1 ⟨v,rfl,E2,A2,n2,c2,rfl,he2,hn2,hc2,hb,ho⟩
 obtain⟨xs,d,rfl⟩:=ext_of hb
 have HE2:=hid (show E2.map Ent.o=L from he2.trans HL.out)
 have HN2:=hid hn2
 have HC2:=hid hc2
 have HO:=hid ho
 clear hb ho he2 hn2 hc2
 dsimp only
 go_upto_region 2 with(fail)
 refine wp_w (fun W=>W.heap[w.heap.size]? =some (.cells #[.slice Ar nr cr,.int .i64 mc,.int .i64 mt,.int .i64 mf,.int .i64 wt] 24 (0,0))∧W.heap[w.heap.size+1]? =some (.cells #[.int .i64 st,.int .i64 id,.int .i64 req,.slice A2 n2 c2,.int .i64 cnt,.int .i64 tim,.int .i64 nak] 29 (0,0))∧W.heap[w.heap.size+1+1]? =some (.cells #[.int .i64 ic,.int .i64 ii,.slice Ai ni ci] 32 (0,0))∧W.heap[w.heap.size+1+1+1]? =some (.cells #[.int .i64 ac,.int .i64 ai,.slice An nn cn] 32 (0,0))∧W.heap[w.heap.size+1+1+1+1]? =some (.cells #[.int .i64 0,.int .i64 0,.int .i64 0,.slice none 0 0,.int .i64 0,.int .i64 0,.int .i64 0] 29 (0,0))∧Below w.heap.size w W∧OwnOpts W w.heap.size (.slice A2 n2 c2) E2) ⟨by exact hpa,by exact hpa,by exact hpa,by exact hpa,by exact hpa,by exact bel,(OwnOpts.swap HO.out (by simp) (by simp)).base (by simp;omega)⟩ ?_
 rintro W2 ⟨h6,h7,h9,h10,h12,hbw,how⟩
 have HBW:=hid hbw
 have HOW:=hid how
 have H6:=hid h6
 have H7:=hid h7
 have H9:=hid h9
 have H10:=hid h10
 have H12:=hid h12
 have hszW:=hbw.size
 have l6:=lt_blk h6
 have l7:=lt_blk h7
 have l9:=lt_blk h9
 have l10:=lt_blk h10
 have l12:=lt_blk h12
 obtain⟨p0,p1,p2,p3,p4⟩:=cells5 h6
 obtain⟨q0,q1,q2,q3,q4,q5,q6⟩:=cells7 h7
 obtain⟨i0,i1,i2⟩:=cells3 h9
 obtain⟨j0,j1,j2⟩:=cells3 h10
 obtain⟨z0,z1,z2,z3,z4,z5,z6⟩:=cells7 h12
 have f0:=frees h12 0
 have f1:=frees h12 1
 have f2:=frees h12 2
 have f3:=frees h12 3
 have f4:=frees h12 4
 have f5:=frees h12 5
 have f6:=frees h12 6
 clear h6 h7 h9 h10 h12 hbw how
 go_wp2_with fail
 refine(may_any Ar nr cr R mc mt mf wt st id req cnt tim nak A2 n2 c2 E2 L HE2.out tick _ _ (Nat.le_refl _) ((HR.out.keep (HBW.out.mono HB.out)).more (by have:=HB.out;omega)) HNR.out hlr HOW.out.at HN2.out).mono ?_
 rw[HF.out]
 rintro x w1 ⟨rfl,hb⟩
 obtain⟨xs3,d3,rfl⟩:=ext_of hb
 clear hb
 go_wp2_with fail
 refine(Fs.step_any st e _).mono ?_
 rw[HSP.out]
 rintro x w1 ⟨v,rfl,hb,ho4⟩
 obtain⟨Ad,cd,rfl,hcd,-⟩:=ownsRow_form ho4
 obtain⟨xs4,d4,rfl⟩:=ext_of hb
 have HO4:=hid ho4
 have HCD:=hid hcd
 clear hb ho4 hcd
 obtain⟨nd,hnd⟩: ∃nd,acts.length=nd:=⟨_,rfl⟩
 have HND:=hid hnd
 rw[hnd] at HO4
 clear hnd
 rw[HND.out]
 go_upto_region 9 with(fail)
 obtain⟨b,hb⟩: ∃b,b=grow (grow W2.heap.size xs3) xs4:=⟨_,rfl⟩
 rw[←hb]
 have hb4:(ext (ext W2 xs3 d3) xs4 d4).heap.size=b:=by rw[hb];simp[size_ext]
 have hbz:W2.heap.size≤b:=by rw[hb];simp[grow];omega
 refine wp_w (fun W=>RunI W b (rm ⟨R,mc,mt,mf,wt⟩ ⟨nx,id,req,L,cnt,tim,nak⟩ ⟨ic,ii,li⟩ ⟨ac,ai,ln⟩ tick (.slice Ar nr cr) (.slice A2 n2 c2) (.slice Ai ni ci) (.slice An nn cn) (.slice Ad nd cd) (.slice none 0 0)) L li ln acts []∧Below W2.heap.size W2 W∧W.ownsRow W2.heap.size 104 1 (.slice Ad nd cd) nd (acts.map av)) ?_ ?_
 ·have hbl:Below W2.heap.size W2 ((ext (ext W2 xs3 d3) xs4 d4).alloc (.cells #[.slice Ar nr cr,.int .i64 mc,.int .i64 mt,.int .i64 mf,.int .i64 wt,.int .i64 nx,.int .i64 id,.int .i64 req,.slice A2 n2 c2,.int .i64 cnt,.int .i64 tim,.int .i64 nak,.int .i64 ic,.int .i64 ii,.slice Ai ni ci,.int .i64 ac,.int .i64 ai,.slice An nn cn,.int .i64 tick,.slice Ad nd cd,.slice none 0 0] 102)):=by exact bel
  refine⟨⟨?_,⟨A2,n2,c2,E2,rfl,((HOW.out.at).keep hbl).more hbz,HN2.out,HC2.out,HE2.out⟩,⟨Ai,ni,ci,rfl,(HI.out.1.keep ((HBW.out.trans (hbl.mono hszW)).mono HB.out)).more (by have:=HB.out;omega),HI.out.2.1,HI.out.2.2⟩,⟨An,nn,cn,rfl,(HN.out.1.keep ((HBW.out.trans (hbl.mono hszW)).mono HB.out)).more (by have:=HB.out;omega),HN.out.2.1,HN.out.2.2⟩,⟨Ad,nd,cd,rfl,?_,HND.out.symm,by have:=HCD.out;have:=HND.out;omega⟩,⟨[],OwnPks.nil _ _,rfl⟩,by have:=HI.out.2.1;omega,by have:=HN.out.2.1;omega,by simp⟩,hbl,?_⟩
  ·show(World.alloc _ _).heap[b]? =_
   rw[←hb4]
   exact heap_alloc_new _ _
  ·rw[←hb4]
   exact(At.of_own HO4.out).keep ((Below.refl _ _).alloc (Nat.le_refl _) _)
  ·exact own_below (own_base HO4.out (by first|(simp[size_ext,grow];done)|(simp[size_ext,grow];omega))) ((Below.refl _ _).alloc (Nat.le_refl _) _)
 rintro W5 ⟨hi5,hb5,ha5⟩
 have HAB:=hid (show∀g,(Value.slice Ad nd cd).ownBlock=some g→g<b from fun g e=>by have:=own_lt HO4.out e;rwa [hb4] at this)
 have HI5:=hid hi5
 have HB5:=hid hb5
 have HA5:=hid ha5
 have HZ5:=hid ((hb5.block _ l12).trans H12.out)
 have HOW5:=hid (HOW.out.below hb5)
 have hsz5:=hb5.size
 have hbW5:b<W5.heap.size:=hi5.run.lt
 have HDAT:=hid hi5.did
 have hxb:w.heap.size+1+1+1+1<b:=by omega
 clear hi5 hb5 ha5 p0 p1 p2 p3 p4 q0 q1 q2 q3 q4 q5 q6 z0 z1 z2 z3 z4 z5 z6 f0 f1 f2 f3 f4 f5 f6 i0 i1 i2 j0 j1 j2 hb hb4
 have hnd3:nd≤3:=by have:=HAL.out;have:=HND.out;omega
 go_wp2_with fail
 go_loopw [58] (fun i wr=> ∃(k:Nat) (vo:Value),k≤nd∧i=.int .i64 k∧RunI wr b (rm ⟨R,mc,mt,mf,wt⟩ (runO ⟨R,mc,mt,mf,wt⟩ ⟨ic,ii,li⟩ ⟨ac,ai,ln⟩ tick acts (⟨nx,id,req,L,cnt,tim,nak⟩,[]) (acts.take k)).1 ⟨ic,ii,li⟩ ⟨ac,ai,ln⟩ tick (.slice Ar nr cr) (.slice A2 n2 c2) (.slice Ai ni ci) (.slice An nn cn) (.slice Ad nd cd) vo) L li ln acts (runO ⟨R,mc,mt,mf,wt⟩ ⟨ic,ii,li⟩ ⟨ac,ai,ln⟩ tick acts (⟨nx,id,req,L,cnt,tim,nak⟩,[]) (acts.take k)).2∧Below b W5 wr) (fun i _=>nd-(intOf i).toNat)
 case atStart=>exact⟨0,_,Nat.zero_le _,rfl,HI5.out,Below.refl _ _⟩
 case round=>
  obtain⟨k,vo,hk,rfl,hi,hbl⟩:=hrel
  have HIK:=hid hi
  have HBL:=hid hbl
  have hszr:=hbl.size
  clear hi hbl
  by_cases hlt:k<nd
  ·have HK:=hid (show k<acts.length by have:=HND.out;omega)
   obtain⟨Ad',nd',cd',hq,hat,-,-⟩:=HDAT.out.keep HBL.out
   have hq2:(Value.slice Ad nd cd)=.slice Ad' nd' cd':=hq
   simp only[Value.slice.injEq] at hq2
   obtain⟨rfl,-,-⟩:=hq2
   obtain⟨bd,od,rfl,hbd⟩:=hat.cellAt HK.out
   obtain⟨x,hx,hc⟩:=hat.readAt HK.out
   have HX:=hid (show acts[k]'HK.out=x by rw[←hx,List.getD_eq_getElem?_getD,List.getElem?_eq_getElem HK.out];rfl)
   have HTK:=hid (runO_take (c:=⟨R,mc,mt,mf,wt⟩) (inn:=⟨ic,ii,li⟩) (ans:=⟨ac,ai,ln⟩) (tick:=tick) (acts:=acts) (s:=(⟨nx,id,req,L,cnt,tim,nak⟩,[])) HK.out)
   have HAK:=hid (runO_ask ⟨R,mc,mt,mf,wt⟩ ⟨ic,ii,li⟩ ⟨ac,ai,ln⟩ tick acts (acts.take k) (⟨nx,id,req,L,cnt,tim,nak⟩,[]))
   have HLK:=hid (runO_len ⟨R,mc,mt,mf,wt⟩ ⟨ic,ii,li⟩ ⟨ac,ai,ln⟩ tick acts (acts.take k) (⟨nx,id,req,L,cnt,tim,nak⟩,[]))
   have HNK:=hid (runO_ok ⟨R,mc,mt,mf,wt⟩ ⟨ic,ii,li⟩ ⟨ac,ai,ln⟩ tick acts (acts.take k) (⟨nx,id,req,L,cnt,tim,nak⟩,[]) (HOK.out.state nx))
   rw[HX.out] at HTK
   obtain⟨⟨ak,ok⟩,hak⟩: ∃s,runO ⟨R,mc,mt,mf,wt⟩ ⟨ic,ii,li⟩ ⟨ac,ai,ln⟩ tick acts (⟨nx,id,req,L,cnt,tim,nak⟩,[]) (acts.take k)=s:=⟨_,rfl⟩
   rw[hak] at HIK HTK HAK HLK HNK
   clear hak hx hat hq
   have hbdz:bd<wr.heap.size:=by omega
   have kk0:(0:Int)≤(k:Int):=by omega
   have kk1:(k:Int)<(nd:Int):=by omega
   go_wp2_with fail
   refine(act_any b ⟨R,mc,mt,mf,wt⟩ ak ⟨ic,ii,li⟩ ⟨ac,ai,ln⟩ tick _ _ _ _ _ vo acts ok x wr (by rw[show ak.ask=L from HAK.out];exact HIK.out) (by have h:=HLK.out;rw[List.length_take] at h;have:=HAL.out;simp only[List.length_nil] at h;omega) (by have:=HAL.out;omega) HNK.out).mono ?_
   rintro y w1 ⟨rfl,hb1,vo1,hi1⟩
   rw[show ak.ask=L from HAK.out] at hi1
   have HB1:=hid hb1
   have HI1:=hid hi1
   clear hb1 hi1
   go_wp2_with fail
   go_roundw
   case rel=>exact⟨k+1,vo1,by omega,by go_num,by rw[HTK.out];exact HI1.out,HBL.out.trans HB1.out⟩
   case measure=>simp[intOf];omega
  ·obtain rfl:k=nd:=by omega
   have HTA:=hid (show acts.take k=acts from List.take_of_length_le (by have:=HND.out;omega))
   rw[HTA.out] at HIK
   obtain⟨⟨af,of⟩,haf⟩: ∃s,runO ⟨R,mc,mt,mf,wt⟩ ⟨ic,ii,li⟩ ⟨ac,ai,ln⟩ tick acts (⟨nx,id,req,L,cnt,tim,nak⟩,[]) acts=s:=⟨_,rfl⟩
   have HASK:=hid (show af.ask=L by have h:=runO_ask ⟨R,mc,mt,mf,wt⟩ ⟨ic,ii,li⟩ ⟨ac,ai,ln⟩ tick acts acts (⟨nx,id,req,L,cnt,tim,nak⟩,[]);rw[haf] at h;exact h)
   rw[haf] at HIK HDO
   clear haf
   obtain⟨tb,htb⟩: ∃tb,Fs.timedB nx=tb:=⟨_,rfl⟩
   have HTM:=hid htb
   rw[htb] at HDO
   clear htb
   have hbr:b<wr.heap.size:=by omega
   cases tb
   ·have HDO2:=hid (show r=({af with tim:=0},of,acts) by rw[HDO.out];rfl)
    have c10:=HIK.out.run.cell 10 (v:=.int .i64 af.tim) rfl
    have f10:=HIK.out.run.free 10
    go_wp2_with fail
    refine(Fs.timed_any nx _).mono ?_
    rw[HTM.out]
    rintro y w1 ⟨rfl,rfl⟩
    go_wp2_with fail
    have HIF:=hid (HIK.out.num _ (HIK.out.run.tim 0) (grown_set _ _ _ _) rfl rfl rfl rfl rfl)
    have HBF:=hid (HBL.out.trans (below_of_grown (grown_set wr b 10 (.int .i64 0)) (Nat.le_of_lt hbr)))
    have HZF:=hid (((HBF.out.block _ hxb)).trans HZ5.out)
    have hbf:b<((wr.setCell ⟨b,10,none⟩ (Value.int .i64 0))).heap.size:=HIF.out.run.lt
    have hxf:w.heap.size+1+1+1+1<((wr.setCell ⟨b,10,none⟩ (Value.int .i64 0))).heap.size:=by omega
    obtain⟨a5,a6,a7⟩:((wr.setCell ⟨b,10,none⟩ (Value.int .i64 0))).cell? ⟨b,5,none⟩=some (.int .i64 af.st)∧((wr.setCell ⟨b,10,none⟩ (Value.int .i64 0))).cell? ⟨b,6,none⟩=some (.int .i64 af.id)∧((wr.setCell ⟨b,10,none⟩ (Value.int .i64 0))).cell? ⟨b,7,none⟩=some (.int .i64 af.req):=⟨HIF.out.run.cell 5 rfl,HIF.out.run.cell 6 rfl,HIF.out.run.cell 7 rfl⟩
    have a8:((wr.setCell ⟨b,10,none⟩ (Value.int .i64 0))).cell? ⟨b,8,none⟩=some (.slice A2 n2 c2):=HIF.out.run.cell 8 rfl
    have a9:((wr.setCell ⟨b,10,none⟩ (Value.int .i64 0))).cell? ⟨b,9,none⟩=some (.int .i64 af.cnt):=HIF.out.run.cell 9 rfl
    have a10:((wr.setCell ⟨b,10,none⟩ (Value.int .i64 0))).cell? ⟨b,10,none⟩=some (.int .i64 0):=HIF.out.run.cell 10 rfl
    have a11:((wr.setCell ⟨b,10,none⟩ (Value.int .i64 0))).cell? ⟨b,11,none⟩=some (.int .i64 af.nak):=HIF.out.run.cell 11 rfl
    have a20:((wr.setCell ⟨b,10,none⟩ (Value.int .i64 0))).cell? ⟨b,20,none⟩=some vo:=HIF.out.run.cell 20 rfl
    obtain⟨z0,z1,z2,z3,z4,z5,z6⟩:=cells7 HZF.out
    have f0:=frees HZF.out 0
    have f1:=frees HZF.out 1
    have f2:=frees HZF.out 2
    have f3:=frees HZF.out 3
    have f4:=frees HZF.out 4
    have f5:=frees HZF.out 5
    have f6:=frees HZF.out 6
    go_region_held3 (fun w'=>w'.cell? ⟨b,5,none⟩=some (.int .i64 af.st)∧w'.cell? ⟨b,6,none⟩=some (.int .i64 af.id)∧w'.cell? ⟨b,7,none⟩=some (.int .i64 af.req)∧w'.cell? ⟨b,8,none⟩=some (.slice A2 n2 c2)∧w'.cell? ⟨b,9,none⟩=some (.int .i64 af.cnt)∧w'.cell? ⟨b,10,none⟩=some (.int .i64 0)∧w'.cell? ⟨b,11,none⟩=some (.int .i64 af.nak)∧w'.cell? ⟨b,20,none⟩=some vo) (first|(go_keep;done)|(go_simp;done)|(simp[go_sem];done)) (fail)
    all_goals
     obtain⟨Wf,hWf⟩: ∃Wf:World,Wf=(((((((((wr.setCell ⟨b,10,none⟩ (Value.int .i64 0)).setCell ⟨w.heap.size+1+1+1+1,0,none⟩ (.int .i64 af.st)).setCell ⟨w.heap.size+1+1+1+1,1,none⟩ (.int .i64 af.id)).setCell ⟨w.heap.size+1+1+1+1,2,none⟩ (.int .i64 af.req)).setCell ⟨w.heap.size+1+1+1+1,3,none⟩ (.slice A2 n2 c2)).setCell ⟨w.heap.size+1+1+1+1,4,none⟩ (.int .i64 af.cnt)).setCell ⟨w.heap.size+1+1+1+1,5,none⟩ (.int .i64 0)).setCell ⟨w.heap.size+1+1+1+1,6,none⟩ (.int .i64 af.nak))).drew:=⟨_,rfl⟩
     rw[←hWf]
     have hrow:Wf.heap[w.heap.size+1+1+1+1]? =some (.cells #[.int .i64 af.st,.int .i64 af.id,.int .i64 af.req,.slice A2 n2 c2,.int .i64 af.cnt,.int .i64 0,.int .i64 af.nak] 29 (0,0)):=by rw[hWf,hdrew];exact row7 HZF.out rfl _ _ _ _ _ _ _
     have hgr:((wr.setCell ⟨b,10,none⟩ (Value.int .i64 0))).grownBy Wf (some (w.heap.size+1+1+1+1)):=by rw[hWf];exact grn
     have hb2:Below W2.heap.size W2 ((wr.setCell ⟨b,10,none⟩ (Value.int .i64 0))):=HB5.out.trans (HBF.out.mono hbz)
     have hbl:Below w.heap.size w Wf:=Below.grown (HBW.out.trans (hb2.mono hszW)) hgr (Nat.le_trans hszW hb2.size) (fun k hk=>by cases hk;omega)
     have hos:=(HOW.out.below hb2).other hgr HZF.out (by decide) (by decide)
     obtain⟨P,hp,hpe⟩:=HIF.out.ot
     have hps:=(hp.stays hgr (fun r e=>by cases e;omega)).base (b':=w.heap.size) (by omega)
     have hats:ActsO Wf w.heap.size (.slice Ad k cd) acts:=by
      have h1:((wr.setCell ⟨b,10,none⟩ (Value.int .i64 0))).ownsRow W2.heap.size 104 1 (.slice Ad k cd) k (acts.map av):=own_keep HA5.out fun k hk=>HBF.out.block k (HAB.out k hk)
      have h2:=own_base (base':=w.heap.size) (own_stays h1 hgr fun r e=>by cases e;exact .inr (.inr ⟨_,_,HZF.out,by decide⟩)) hszW
      unfold ActsO
      rw[HND.out]
      exact h2
     clear hWf a5 a6 a7 a8 a9 a10 a11 a20 z0 z1 z2 z3 z4 z5 z6 f0 f1 f2 f3 f4 f5 f6
     obtain⟨u0,u1,u2,u3,u4,u5,u6⟩:=cells7 hrow
     go_wp2_with fail
     refine bodyPost_ret (v:=.tuple #[.agg #[.int .i64 af.st,.int .i64 af.id,.int .i64 af.req,.slice A2 n2 c2,.int .i64 af.cnt,.int .i64 0,.int .i64 af.nak],vo,.slice Ad k cd]) (by simp[results,Tryz.results14,go_sem,u0,u1,u2,u3,u4,u5,u6,HND.out]) rfl ?_
     rw[HDO2.out]
     exact⟨.slice A2 n2 c2,vo,.slice Ad k cd,rfl,hbl,⟨E2,hos,HE2.out.trans HASK.out.symm⟩,⟨P,hps,hpe⟩,hats⟩
   ·have HDO2:=hid (show r=(af,of,acts) by rw[HDO.out];rfl)
    go_wp2_with fail
    refine(Fs.timed_any nx _).mono ?_
    rw[HTM.out]
    rintro y w1 ⟨rfl,rfl⟩
    go_wp2_with fail
    have HIF:=hid (HIK.out)
    have HBF:=hid (HBL.out)
    have HZF:=hid (((HBF.out.block _ hxb)).trans HZ5.out)
    have hbf:b<(wr).heap.size:=HIF.out.run.lt
    have hxf:w.heap.size+1+1+1+1<(wr).heap.size:=by omega
    obtain⟨a5,a6,a7⟩:(wr).cell? ⟨b,5,none⟩=some (.int .i64 af.st)∧(wr).cell? ⟨b,6,none⟩=some (.int .i64 af.id)∧(wr).cell? ⟨b,7,none⟩=some (.int .i64 af.req):=⟨HIF.out.run.cell 5 rfl,HIF.out.run.cell 6 rfl,HIF.out.run.cell 7 rfl⟩
    have a8:(wr).cell? ⟨b,8,none⟩=some (.slice A2 n2 c2):=HIF.out.run.cell 8 rfl
    have a9:(wr).cell? ⟨b,9,none⟩=some (.int .i64 af.cnt):=HIF.out.run.cell 9 rfl
    have a10:(wr).cell? ⟨b,10,none⟩=some (.int .i64 af.tim):=HIF.out.run.cell 10 rfl
    have a11:(wr).cell? ⟨b,11,none⟩=some (.int .i64 af.nak):=HIF.out.run.cell 11 rfl
    have a20:(wr).cell? ⟨b,20,none⟩=some vo:=HIF.out.run.cell 20 rfl
    obtain⟨z0,z1,z2,z3,z4,z5,z6⟩:=cells7 HZF.out
    have f0:=frees HZF.out 0
    have f1:=frees HZF.out 1
    have f2:=frees HZF.out 2
    have f3:=frees HZF.out 3
    have f4:=frees HZF.out 4
    have f5:=frees HZF.out 5
    have f6:=frees HZF.out 6
    go_region_held3 (fun w'=>w'.cell? ⟨b,5,none⟩=some (.int .i64 af.st)∧w'.cell? ⟨b,6,none⟩=some (.int .i64 af.id)∧w'.cell? ⟨b,7,none⟩=some (.int .i64 af.req)∧w'.cell? ⟨b,8,none⟩=some (.slice A2 n2 c2)∧w'.cell? ⟨b,9,none⟩=some (.int .i64 af.cnt)∧w'.cell? ⟨b,10,none⟩=some (.int .i64 af.tim)∧w'.cell? ⟨b,11,none⟩=some (.int .i64 af.nak)∧w'.cell? ⟨b,20,none⟩=some vo) (first|(go_keep;done)|(go_simp;done)|(simp[go_sem];done)) (fail)
    all_goals
     obtain⟨Wf,hWf⟩: ∃Wf:World,Wf=((((((((wr.setCell ⟨w.heap.size+1+1+1+1,0,none⟩ (.int .i64 af.st)).setCell ⟨w.heap.size+1+1+1+1,1,none⟩ (.int .i64 af.id)).setCell ⟨w.heap.size+1+1+1+1,2,none⟩ (.int .i64 af.req)).setCell ⟨w.heap.size+1+1+1+1,3,none⟩ (.slice A2 n2 c2)).setCell ⟨w.heap.size+1+1+1+1,4,none⟩ (.int .i64 af.cnt)).setCell ⟨w.heap.size+1+1+1+1,5,none⟩ (.int .i64 af.tim)).setCell ⟨w.heap.size+1+1+1+1,6,none⟩ (.int .i64 af.nak))).drew:=⟨_,rfl⟩
     rw[←hWf]
     have hrow:Wf.heap[w.heap.size+1+1+1+1]? =some (.cells #[.int .i64 af.st,.int .i64 af.id,.int .i64 af.req,.slice A2 n2 c2,.int .i64 af.cnt,.int .i64 af.tim,.int .i64 af.nak] 29 (0,0)):=by rw[hWf,hdrew];exact row7 HZF.out rfl _ _ _ _ _ _ _
     have hgr:(wr).grownBy Wf (some (w.heap.size+1+1+1+1)):=by rw[hWf];exact grn
     have hb2:Below W2.heap.size W2 (wr):=HB5.out.trans (HBF.out.mono hbz)
     have hbl:Below w.heap.size w Wf:=Below.grown (HBW.out.trans (hb2.mono hszW)) hgr (Nat.le_trans hszW hb2.size) (fun k hk=>by cases hk;omega)
     have hos:=(HOW.out.below hb2).other hgr HZF.out (by decide) (by decide)
     obtain⟨P,hp,hpe⟩:=HIF.out.ot
     have hps:=(hp.stays hgr (fun r e=>by cases e;omega)).base (b':=w.heap.size) (by omega)
     have hats:ActsO Wf w.heap.size (.slice Ad k cd) acts:=by
      have h1:(wr).ownsRow W2.heap.size 104 1 (.slice Ad k cd) k (acts.map av):=own_keep HA5.out fun k hk=>HBF.out.block k (HAB.out k hk)
      have h2:=own_base (base':=w.heap.size) (own_stays h1 hgr fun r e=>by cases e;exact .inr (.inr ⟨_,_,HZF.out,by decide⟩)) hszW
      unfold ActsO
      rw[HND.out]
      exact h2
     clear hWf a5 a6 a7 a8 a9 a10 a11 a20 z0 z1 z2 z3 z4 z5 z6 f0 f1 f2 f3 f4 f5 f6
     obtain⟨u0,u1,u2,u3,u4,u5,u6⟩:=cells7 hrow
     go_wp2_with fail
     refine bodyPost_ret (v:=.tuple #[.agg #[.int .i64 af.st,.int .i64 af.id,.int .i64 af.req,.slice A2 n2 c2,.int .i64 af.cnt,.int .i64 af.tim,.int .i64 af.nak],vo,.slice Ad k cd]) (by simp[results,Tryz.results14,go_sem,u0,u1,u2,u3,u4,u5,u6,HND.out]) rfl ?_
     rw[HDO2.out]
     exact⟨.slice A2 n2 c2,vo,.slice Ad k cd,rfl,hbl,⟨E2,hos,HE2.out.trans HASK.out.symm⟩,⟨P,hps,hpe⟩,hats⟩
theorem do_any (Ar Aa Ai An:Option Addr) (nr cr na ca ni ci nn cn:Nat) (R:List Rl) (mc mt mf wt st id req cnt tim nak e ic ii ac ai tick:Int) (E:List Ent) (li ln:List UInt8) (w:World) (B:Nat) (hB:B≤w.heap.size)
  (hR:RulesAt w B Ar R) (hnr:nr=R.length) (hlr:nr≤1000000) (hE:OptsAt w B Aa E) (hna:na=E.length) (hla:na≤1000000) (hda: ∀e∈E,e.d.length≤400000000)
  (hI:At w B Ai (li.map bv)) (hni:ni=li.length) (hci:ni≤ci) (hli:ni≤400000000) (hN:At w B An (ln.map bv)) (hnn:nn=ln.length) (hcn:nn≤cn) (hln:nn≤400000000):
  Calls Tryz.prog 14 #[.agg #[.slice Ar nr cr,.int .i64 mc,.int .i64 mt,.int .i64 mf,.int .i64 wt],.agg #[.int .i64 st,.int .i64 id,.int .i64 req,.slice Aa na ca,.int .i64 cnt,.int .i64 tim,.int .i64 nak],.int .i64 e,.agg #[.int .i64 ic,.int .i64 ii,.slice Ai ni ci],.agg #[.int .i64 ac,.int .i64 ai,.slice An nn cn],.int .i64 tick] w (DoP (doO ⟨R,mc,mt,mf,wt⟩ ⟨st,id,req,E.map Ent.o,cnt,tim,nak⟩ e ⟨ic,ii,li⟩ ⟨ac,ai,ln⟩ tick) w):=by
 by_cases h0:Fs.stepErr st e=0
 ·cases hf:fineB ⟨R,mc,mt,mf,wt⟩ ⟨st,id,req,E.map Ent.o,cnt,tim,nak⟩ tick
  ·exact do_no Ar Aa Ai An nr cr na ca ni ci nn cn R mc mt mf wt st id req cnt tim nak e ic ii ac ai tick E li ln w B hB hR hnr hlr hE hna hla hda hI hni hci hli hN hnn hcn hln (.inl hf)
  ·exact do_yes Ar Aa Ai An nr cr na ca ni ci nn cn R mc mt mf wt st id req cnt tim nak e ic ii ac ai tick E li ln w B hB hR hnr hlr hE hna hla hda hI hni hci hli hN hnn hcn hln hf h0
 ·exact do_no Ar Aa Ai An nr cr na ca ni ci nn cn R mc mt mf wt st id req cnt tim nak e ic ii ac ai tick E li ln w B hB hR hnr hlr hE hna hla hda hI hni hci hli hN hnn hcn hln (.inr h0)
end Go.Proofs.YtfkgmbknfnhjoaaGreat
namespace Go.Proofs.YtfkgmbknfnhjoaaGreat
open Lib (hid)
open Go.RowKit
section
variable {P:Program} {c:Code} {Q:Exit→Act→World→Prop} {a:Act} {w:World} {c0 c1 c2 c3 c4 c5:Array Value} {T0 T1 T2 T3 T4 T5:TypeId}
theorem boxes4 (h: ∀W:World,W.heap[w.heap.size]? =some (.cells c0 T0 (0,0))∧W.heap[w.heap.size+1]? =some (.cells c1 T1 (0,0))∧W.heap[w.heap.size+1+1]? =some (.cells c2 T2 (0,0))∧W.heap[w.heap.size+1+1+1]? =some (.cells c3 T3 (0,0))∧Below w.heap.size w W→c.wp P Q a W):
  c.wp P Q a ((((w.alloc (.cells c0 T0)).alloc (.cells c1 T1)).alloc (.cells c2 T2)).alloc (.cells c3 T3)):=
 h _ ⟨by exact hpa,by exact hpa,by exact hpa,by exact hpa,by exact bel⟩
theorem boxes6 (h: ∀W:World,W.heap[w.heap.size]? =some (.cells c0 T0 (0,0))∧W.heap[w.heap.size+1]? =some (.cells c1 T1 (0,0))∧W.heap[w.heap.size+1+1]? =some (.cells c2 T2 (0,0))∧W.heap[w.heap.size+1+1+1]? =some (.cells c3 T3 (0,0))∧W.heap[w.heap.size+1+1+1+1]? =some (.cells c4 T4 (0,0))∧W.heap[w.heap.size+1+1+1+1+1]? =some (.cells c5 T5 (0,0))∧Below w.heap.size w W→c.wp P Q a W):
  c.wp P Q a ((((((w.alloc (.cells c0 T0)).alloc (.cells c1 T1)).alloc (.cells c2 T2)).alloc (.cells c3 T3)).alloc (.cells c4 T4)).alloc (.cells c5 T5)):=
 h _ ⟨by exact hpa,by exact hpa,by exact hpa,by exact hpa,by exact hpa,by exact hpa,by exact bel⟩
end
theorem cellsK {W:World} {X6 X7 X8 X12:Nat} {p0 p1 p2 p3 p4 q0 q1 q2 q3 q4 q5 q6 r0 r1 r2 z0 z1 z2 z3 z4 z5 z6:Value} {T6 T7 T8 T12:TypeId} (h6:W.heap[X6]? =some (.cells #[p0,p1,p2,p3,p4] T6 (0,0))) (h7:W.heap[X7]? =some (.cells #[q0,q1,q2,q3,q4,q5,q6] T7 (0,0))) (h8:W.heap[X8]? =some (.cells #[r0,r1,r2] T8 (0,0))) (h12:W.heap[X12]? =some (.cells #[z0,z1,z2,z3,z4,z5,z6] T12 (0,0))):
  (X6<W.heap.size∧X7<W.heap.size∧X8<W.heap.size∧X12<W.heap.size)∧(W.cell? ⟨X6,0,none⟩=some p0∧W.cell? ⟨X6,1,none⟩=some p1∧W.cell? ⟨X6,2,none⟩=some p2∧W.cell? ⟨X6,3,none⟩=some p3∧W.cell? ⟨X6,4,none⟩=some p4)∧(W.cell? ⟨X7,0,none⟩=some q0∧W.cell? ⟨X7,1,none⟩=some q1∧W.cell? ⟨X7,2,none⟩=some q2∧W.cell? ⟨X7,3,none⟩=some q3∧W.cell? ⟨X7,4,none⟩=some q4∧W.cell? ⟨X7,5,none⟩=some q5∧W.cell? ⟨X7,6,none⟩=some q6)∧(W.cell? ⟨X8,0,none⟩=some r0∧W.cell? ⟨X8,1,none⟩=some r1∧W.cell? ⟨X8,2,none⟩=some r2)∧(W.cell? ⟨X12,0,none⟩=some z0∧W.cell? ⟨X12,1,none⟩=some z1∧W.cell? ⟨X12,2,none⟩=some z2∧W.cell? ⟨X12,3,none⟩=some z3∧W.cell? ⟨X12,4,none⟩=some z4∧W.cell? ⟨X12,5,none⟩=some z5∧W.cell? ⟨X12,6,none⟩=some z6)∧(W.frozen? ⟨X12,0,none⟩=false∧W.frozen? ⟨X12,1,none⟩=false∧W.frozen? ⟨X12,2,none⟩=false∧W.frozen? ⟨X12,3,none⟩=false∧W.frozen? ⟨X12,4,none⟩=false∧W.frozen? ⟨X12,5,none⟩=false∧W.frozen? ⟨X12,6,none⟩=false)∧W.frozen? ⟨X7,3,none⟩=false:=
 ⟨⟨lt_blk h6,lt_blk h7,lt_blk h8,lt_blk h12⟩,cells5 h6,cells7 h7,cells3 h8,cells7 h12,⟨frees h12 0,frees h12 1,frees h12 2,frees h12 3,frees h12 4,frees h12 5,frees h12 6⟩,frees h7 3⟩
theorem cellsR {W:World} {X7 X8 X12 X13 X15:Nat} {q0 q1 q2 q3 q4 q5 q6 r0 r1 r2 s0 s1 s2 m0 m1 m2 m3 m4 m5 m6 z0 z1 z2:Value} {T7 T8 T12 T13 T15:TypeId} (h7:W.heap[X7]? =some (.cells #[q0,q1,q2,q3,q4,q5,q6] T7 (0,0))) (h8:W.heap[X8]? =some (.cells #[r0,r1,r2] T8 (0,0))) (h12:W.heap[X12]? =some (.cells #[s0,s1,s2] T12 (0,0))) (h13:W.heap[X13]? =some (.cells #[m0,m1,m2,m3,m4,m5,m6] T13 (0,0))) (h15:W.heap[X15]? =some (.cells #[z0,z1,z2] T15 (0,0))):
  (X7<W.heap.size∧X8<W.heap.size∧X12<W.heap.size∧X13<W.heap.size∧X15<W.heap.size)∧(W.cell? ⟨X7,0,none⟩=some q0∧W.cell? ⟨X7,1,none⟩=some q1∧W.cell? ⟨X7,2,none⟩=some q2∧W.cell? ⟨X7,3,none⟩=some q3∧W.cell? ⟨X7,4,none⟩=some q4∧W.cell? ⟨X7,5,none⟩=some q5∧W.cell? ⟨X7,6,none⟩=some q6)∧(W.cell? ⟨X8,0,none⟩=some r0∧W.cell? ⟨X8,1,none⟩=some r1∧W.cell? ⟨X8,2,none⟩=some r2)∧(W.cell? ⟨X15,0,none⟩=some z0∧W.cell? ⟨X15,1,none⟩=some z1∧W.cell? ⟨X15,2,none⟩=some z2)∧(W.cell? ⟨X12,0,none⟩=some s0∧W.cell? ⟨X12,1,none⟩=some s1∧W.cell? ⟨X12,2,none⟩=some s2)∧(W.cell? ⟨X13,0,none⟩=some m0∧W.cell? ⟨X13,1,none⟩=some m1∧W.cell? ⟨X13,2,none⟩=some m2∧W.cell? ⟨X13,3,none⟩=some m3∧W.cell? ⟨X13,4,none⟩=some m4∧W.cell? ⟨X13,5,none⟩=some m5∧W.cell? ⟨X13,6,none⟩=some m6)∧(W.frozen? ⟨X12,0,none⟩=false∧W.frozen? ⟨X12,1,none⟩=false∧W.frozen? ⟨X12,2,none⟩=false)∧(W.frozen? ⟨X13,0,none⟩=false∧W.frozen? ⟨X13,1,none⟩=false∧W.frozen? ⟨X13,2,none⟩=false∧W.frozen? ⟨X13,3,none⟩=false∧W.frozen? ⟨X13,4,none⟩=false∧W.frozen? ⟨X13,5,none⟩=false∧W.frozen? ⟨X13,6,none⟩=false)∧W.frozen? ⟨X7,3,none⟩=false:=
 ⟨⟨lt_blk h7,lt_blk h8,lt_blk h12,lt_blk h13,lt_blk h15⟩,cells7 h7,cells3 h8,cells3 h15,cells3 h12,cells7 h13,⟨frees h12 0,frees h12 1,frees h12 2⟩,⟨frees h13 0,frees h13 1,frees h13 2,frees h13 3,frees h13 4,frees h13 5,frees h13 6⟩,frees h7 3⟩
theorem afterK {W w1:World} {X7 X8 X12:Nat} {q2 q3 r0 r1 r2 z0 z1 z2:Value} {T:TypeId} (hb:Below W.heap.size W w1) (l7:X7<W.heap.size) (l8:X8<W.heap.size) (l12:X12<W.heap.size) (h2:W.cell? ⟨X7,2,none⟩=some q2) (h3:W.cell? ⟨X7,3,none⟩=some q3) (e0:W.cell? ⟨X8,0,none⟩=some r0) (e1:W.cell? ⟨X8,1,none⟩=some r1) (e2:W.cell? ⟨X8,2,none⟩=some r2) (h12:W.heap[X12]? =some (.cells #[z0,z1,z2] T (0,0))):
  (X7<w1.heap.size∧X8<w1.heap.size∧X12<w1.heap.size)∧(w1.cell? ⟨X7,2,none⟩=some q2∧w1.cell? ⟨X7,3,none⟩=some q3)∧(w1.cell? ⟨X8,0,none⟩=some r0∧w1.cell? ⟨X8,1,none⟩=some r1∧w1.cell? ⟨X8,2,none⟩=some r2)∧(w1.cell? ⟨X12,0,none⟩=some z0∧w1.cell? ⟨X12,1,none⟩=some z1∧w1.cell? ⟨X12,2,none⟩=some z2)∧(w1.frozen? ⟨X12,0,none⟩=false∧w1.frozen? ⟨X12,1,none⟩=false∧w1.frozen? ⟨X12,2,none⟩=false):=by
 have hs:=hb.size
 have h:=(hb.block _ l12).trans h12
 exact⟨⟨by omega,by omega,by omega⟩,⟨(hb.cell (p:=⟨X7,2,none⟩) l7).trans h2,(hb.cell (p:=⟨X7,3,none⟩) l7).trans h3⟩,⟨(hb.cell (p:=⟨X8,0,none⟩) l8).trans e0,(hb.cell (p:=⟨X8,1,none⟩) l8).trans e1,(hb.cell (p:=⟨X8,2,none⟩) l8).trans e2⟩,cells3 h,⟨frees h 0,frees h 1,frees h 2⟩⟩
end Go.Proofs.YtfkgmbknfnhjoaaGreat
