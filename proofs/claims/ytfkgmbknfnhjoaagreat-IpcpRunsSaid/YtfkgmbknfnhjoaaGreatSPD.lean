/- PD -/
import Derived.Test.YtfkgmbknfnhjoaaGreatSPC
set_option linter.all false
set_option linter.ambiguousOpen false
set_option maxHeartbeats 8000000
namespace Go.Proofs.YtfkgmbknfnhjoaaGreat
open Lib (hid)
open Go.RowKit
open Ne (Rl bF aD bM)
open Fs (av hasB)
def fO (c:Cf) (inn ans:Pk) (tick:Int) (acts:List Int) (s:Au×List Pk) (l:List Int):Au×List Pk:=
 l.foldl (fun s x=>((fK c inn ans tick acts s.1 x).1,s.2++(fK c inn ans tick acts s.1 x).2)) s
def jo (c:Cf) (a:Au) (e:Int) (inn ans:Pk) (tick:Int):Au×List Pk×List Int:=
 if dn c a tick=true∧Fs.bP a.st e=0 then
  (if Fs.iw (Fs.aZ e a.st)=true then(fO c inn ans tick (Fs.aT e a.st) ({a with st:=Fs.aZ e a.st},[]) (Fs.aT e a.st)).1
   else {(fO c inn ans tick (Fs.aT e a.st) ({a with st:=Fs.aZ e a.st},[]) (Fs.aT e a.st)).1 with ay:=0},
   (fO c inn ans tick (Fs.aT e a.st) ({a with st:=Fs.aZ e a.st},[]) (Fs.aT e a.st)).2,Fs.aT e a.st)
 else(a,[],[])
theorem xI {c:Cf} {inn ans:Pk} {tick:Int} {acts:List Int} {s:Au×List Pk} {l:List Int} {k:Nat} (hk:k<l.length):
  fO c inn ans tick acts s (l.take (k+1))=((fK c inn ans tick acts (fO c inn ans tick acts s (l.take k)).1 l[k]).1,(fO c inn ans tick acts s (l.take k)).2++(fK c inn ans tick acts (fO c inn ans tick acts s (l.take k)).1 l[k]).2):=by
 unfold fO
 rw[List.take_succ_eq_append_getElem hk,List.foldl_append]
 rfl
theorem jQ (c:Cf) (inn ans:Pk) (tick:Int) (acts:List Int): ∀(l:List Int) (s:Au×List Pk),(fO c inn ans tick acts s l).1.ask=s.1.ask
 |[],_=>rfl
 |x::l,s=>by
  unfold fO
  rw[List.foldl_cons]
  exact(jQ c inn ans tick acts l _).trans (KS ..)
theorem qI (c:Cf) (inn ans:Pk) (tick:Int) (acts:List Int): ∀(l:List Int) (s:Au×List Pk),(fO c inn ans tick acts s l).2.length≤s.2.length+l.length
 |[],s=>aaE _
 |x::l,s=>by
  unfold fO
  rw[List.foldl_cons]
  have h1:=qI c inn ans tick acts l ((fK c inn ans tick acts s.1 x).1,s.2++(fK c inn ans tick acts s.1 x).2)
  have h2:=KT c inn ans tick acts s.1 x
  unfold fO at h1
  simp only[List.length_append,List.length_cons] at h1 ⊢
  omega
theorem tN (c:Cf) (inn ans:Pk) (tick:Int) (acts:List Int): ∀(l:List Int) (s:Au×List Pk),gN c s.1 tick→gN c (fO c inn ans tick acts s l).1 tick
 |[],s,h=>h
 |x::l,s,h=>by
  unfold fO
  rw[List.foldl_cons]
  exact tN c inn ans tick acts l _ (h.act inn ans acts x)
theorem fU (c:Cf) (a:Au) (e:Int) (inn ans:Pk) (tick:Int):(jo c a e inn ans tick).1.ask=a.ask:=by
 unfold jo
 split
 ·dsimp only
  split
  ·exact jQ ..
  ·exact jQ ..
 ·rfl
theorem gN.yO {c:Cf} {a:Au} {tick:Int} (h:dn c a tick=true):gN c a tick:=by
 unfold dn dA fA fF bC at h
 simp only[Bool.and_eq_true,decide_eq_true_eq] at h
 obtain⟨⟨-,⟨m0,m1⟩,⟨n0,n1⟩,-,w0,w1⟩,⟨⟨-,⟨i0,i1⟩,⟨r0,r1⟩,⟨c0,c1⟩,k0,k1⟩,-⟩,t0,t1⟩:=h
 exact⟨t0,t1,w0,w1,m0,m1,n0,n1,c0,c1,i0,i1,r0,r1,k0,k1⟩
theorem gN.state {c:Cf} {a:Au} {tick:Int} (h:gN c a tick) (s:Int):gN c {a with st:=s} tick:=⟨h.t0,h.t1,h.w0,h.w1,h.m0,h.m1,h.n0,h.n1,h.c0,h.c1,h.i0,h.i1,h.r0,h.r1,h.k0,h.k1⟩
theorem bY {P:Program} {c:Code} {Q:Exit→Act→World→Prop} {a:Act} {w:World} (S:World→Prop) (hS:S w) (h: ∀W,S W→c.wp P Q a W):c.wp P Q a w:=h w hS
theorem aj {w:World} {b:Nat} {o:Obj} (h:w.heap[b]? =some o):b<w.heap.size:=by rw[Array.getElem?_eq_some_iff] at h;exact h.1
theorem cells3 {W:World} {X:Nat} {a b c:Value} {T:TypeId} (h:W.heap[X]? =some (.cells #[a,b,c] T (0,0))):W.cell? ⟨X,0,none⟩=some a∧W.cell? ⟨X,1,none⟩=some b∧W.cell? ⟨X,2,none⟩=some c:=
 ⟨(cell_of_row W X 0 _ _ _ h).trans rfl,(cell_of_row W X 1 _ _ _ h).trans rfl,(cell_of_row W X 2 _ _ _ h).trans rfl⟩
theorem cells5 {W:World} {X:Nat} {a b c d e:Value} {T:TypeId} (h:W.heap[X]? =some (.cells #[a,b,c,d,e] T (0,0))):W.cell? ⟨X,0,none⟩=some a∧W.cell? ⟨X,1,none⟩=some b∧W.cell? ⟨X,2,none⟩=some c∧W.cell? ⟨X,3,none⟩=some d∧W.cell? ⟨X,4,none⟩=some e:=
 ⟨(cell_of_row W X 0 _ _ _ h).trans rfl,(cell_of_row W X 1 _ _ _ h).trans rfl,(cell_of_row W X 2 _ _ _ h).trans rfl,(cell_of_row W X 3 _ _ _ h).trans rfl,(cell_of_row W X 4 _ _ _ h).trans rfl⟩
theorem aG {W:World} {X:Nat} {a b c d e f g:Value} {T:TypeId} (h:W.heap[X]? =some (.cells #[a,b,c,d,e,f,g] T (0,0))):W.cell? ⟨X,0,none⟩=some a∧W.cell? ⟨X,1,none⟩=some b∧W.cell? ⟨X,2,none⟩=some c∧W.cell? ⟨X,3,none⟩=some d∧W.cell? ⟨X,4,none⟩=some e∧W.cell? ⟨X,5,none⟩=some f∧W.cell? ⟨X,6,none⟩=some g:=
 ⟨(cell_of_row W X 0 _ _ _ h).trans rfl,(cell_of_row W X 1 _ _ _ h).trans rfl,(cell_of_row W X 2 _ _ _ h).trans rfl,(cell_of_row W X 3 _ _ _ h).trans rfl,(cell_of_row W X 4 _ _ _ h).trans rfl,(cell_of_row W X 5 _ _ _ h).trans rfl,(cell_of_row W X 6 _ _ _ h).trans rfl⟩
theorem frees {W:World} {X:Nat} {cs:Array Value} {T:TypeId} (h:W.heap[X]? =some (.cells cs T (0,0))) (i:Nat):W.frozen? ⟨X,i,none⟩=false:=frozen_of_row W X i _ _ h
theorem gF {w:World} {X:Nat} {cs:Array Value} {T:TypeId} (h:w.heap[X]? =some (.cells cs T (0,0))) (hc:cs.size=7) (a b c d e f g:Value):
  (((((((w.setCell ⟨X,0,none⟩ a).setCell ⟨X,1,none⟩ b).setCell ⟨X,2,none⟩ c).setCell ⟨X,3,none⟩ d).setCell ⟨X,4,none⟩ e).setCell ⟨X,5,none⟩ f).setCell ⟨X,6,none⟩ g).heap[X]? =some (.cells #[a,b,c,d,e,f,g] T (0,0)):=by
 obtain⟨l⟩:=cs
 match l,hc with
 |[x0,x1,x2,x3,x4,x5,x6],_=>
  rw[heap_setCell_same _ X 6 _ _ _ (heap_setCell_same _ X 5 _ _ _ (heap_setCell_same _ X 4 _ _ _ (heap_setCell_same _ X 3 _ _ _ (heap_setCell_same _ X 2 _ _ _ (heap_setCell_same _ X 1 _ _ _ (heap_setCell_same _ X 0 _ _ _ h))))))]
  rfl
def bA (w:World) (base:Nat) (v:Value) (L:List bF):Prop:= ∃E,aI w base v E∧E.map aH.o=L
def vV (a:Au) (va:Value):Value:=.agg #[.int .i64 a.st,.int .i64 a.id,.int .i64 a.req,va,.int .i64 a.cnt,.int .i64 a.ay,.int .i64 a.au]
def aU (w:World) (base:Nat) (v:Value) (l:List Int):Prop:=w.ownsRow base 104 1 v l.length (l.map av)
theorem aU.nil (w:World) (base:Nat):aU w base (.slice none 0 0) []:=aN _ _ _ _
theorem aU.v {w:World} {base:Nat} {v:Value} {l:List Int} (h:aU w base v l):lG w w.heap.size v l:=by
 have h2:=h
 unfold aU at h2
 obtain⟨A,c,rfl,hc,-⟩:=ownsRow_form h2
 exact⟨A,_,c,rfl,At.bq h2,rfl,hc⟩
def U8 (r:Au×List Pk×List Int) (w:World) (x:Ending) (w':World):Prop:=
 ∃va vo vd,x=.returned (.tuple #[vV r.1 va,vo,vd])∧Below w.heap.size w w'∧bA w' w.heap.size va r.1.ask∧dP w' w.heap.size vo r.2.1∧aU w' w.heap.size vd r.2.2
theorem aI.other {A C:World} {base X:Nat} {v:Value} {E:List aH} {cur:Array Value} {e':TypeId} (h:aI A base v E) (hg:A.grownBy C (some X)) (hX:A.heap[X]? =some (.cells cur e' (0,0))) (h1:e'≠111) (h2:e'≠5):aI C base v E:=
 ⟨aW h.1 hg fun r e=>by cases e;exact .inr (.inr ⟨_,_,hX,h1⟩),fun x hx=>aW (h.2 x hx) hg fun r e=>by cases e;exact .inr (.inr ⟨_,_,hX,h2⟩)⟩
set_option maxRecDepth 100000 in
theorem Pg (Ar Aa Ai An:Option Addr) (nr cr na ca ni ci nn cn:Nat) (R:List Rl) (mc mt mf wt st id req cnt ay au e ic ii ac ai tick:Int) (E:List aH) (li ln:List UInt8) (w:World) (B:Nat) (hB:B≤w.heap.size)
  (hR:aD w B Ar R) (hnr:nr=R.length) (hlr:nr≤1000000) (hE:aJ w B Aa E) (hna:na=E.length) (hla:na≤1000000) (hda: ∀e∈E,e.d.length≤400000000)
  (hI:At w B Ai (li.map bv)) (hni:ni=li.length) (hci:ni≤ci) (iF:ni≤400000000) (hN:At w B An (ln.map bv)) (hnn:nn=ln.length) (hcn:nn≤cn) (hln:nn≤400000000) (hno:dn ⟨R,mc,mt,mf,wt⟩ ⟨st,id,req,E.map aH.o,cnt,ay,au⟩ tick=false∨Fs.bP st e≠0):
  Calls Tryz.prog 14 #[.agg #[.slice Ar nr cr,.int .i64 mc,.int .i64 mt,.int .i64 mf,.int .i64 wt],.agg #[.int .i64 st,.int .i64 id,.int .i64 req,.slice Aa na ca,.int .i64 cnt,.int .i64 ay,.int .i64 au],.int .i64 e,.agg #[.int .i64 ic,.int .i64 ii,.slice Ai ni ci],.agg #[.int .i64 ac,.int .i64 ai,.slice An nn cn],.int .i64 tick] w (U8 (jo ⟨R,mc,mt,mf,wt⟩ ⟨st,id,req,E.map aH.o,cnt,ay,au⟩ e ⟨ic,ii,li⟩ ⟨ac,ai,ln⟩ tick) w):=by
 have HB:=hid hB
 have HR:=hid hR
 have gB:=hid hnr
 have HE:=hid hE
 have dz:=hid hna
 have jr:=hid hda
 have HI:=hid (And.intro hI (And.intro hni hci))
 have HN:=hid (And.intro hN (And.intro hnn hcn))
 obtain⟨L,hL⟩: ∃L,E.map aH.o=L:=⟨_,rfl⟩
 have HL:=hid hL
 rw[hL] at hno
 rw[hL]
 clear hB hR hnr hE hna hda hI hni hci hN hnn hcn hL
 obtain⟨fb,sw⟩: ∃fb,dn ⟨R,mc,mt,mf,wt⟩ ⟨st,id,req,L,cnt,ay,au⟩ tick=fb:=⟨_,rfl⟩
 have HF:=hid sw
 cases fb
 ·have qg:=hid (show jo ⟨R,mc,mt,mf,wt⟩ ⟨st,id,req,L,cnt,ay,au⟩ e ⟨ic,ii,li⟩ ⟨ac,ai,ln⟩ tick=(⟨st,id,req,L,cnt,ay,au⟩,[],[]) by unfold jo;rw[sw];simp)
  rw[qg.out]
  clear sw
  go_enter Tryz.func14,Tryz.ntmps14
  go_wp2_with fail
  refine(mD st id req cnt ay au Aa na ca E _ B (by have:=HB.out;simp;omega) (by exact HE.out.keep (by have:=HB.out;exact aA)) dz.out hla jr.out).mono ?_
  rintro x w1 ⟨v,rfl,E2,A2,n2,c2,rfl,he2,hn2,hc2,hb,ho⟩
  obtain⟨xs,d,rfl⟩:=aB hb
  have HE2:=hid (show E2.map aH.o=L from he2.trans HL.out)
  have iA:=hid hn2
  have xR:=hid hc2
  have HO:=hid ho
  clear hb ho he2 hn2 hc2
  dsimp only
  go_upto_region 2 with(fail)
  refine bY (fun W=>W.heap[w.heap.size]? =some (.cells #[.slice Ar nr cr,.int .i64 mc,.int .i64 mt,.int .i64 mf,.int .i64 wt] 24 (0,0))∧W.heap[w.heap.size+1]? =some (.cells #[.int .i64 st,.int .i64 id,.int .i64 req,.slice A2 n2 c2,.int .i64 cnt,.int .i64 ay,.int .i64 au] 29 (0,0))∧W.heap[w.heap.size+1+1]? =some (.cells #[.int .i64 ic,.int .i64 ii,.slice Ai ni ci] 32 (0,0))∧W.heap[w.heap.size+1+1+1]? =some (.cells #[.int .i64 ac,.int .i64 ai,.slice An nn cn] 32 (0,0))∧W.heap[w.heap.size+1+1+1+1]? =some (.cells #[.int .i64 0,.int .i64 0,.int .i64 0,.slice none 0 0,.int .i64 0,.int .i64 0,.int .i64 0] 29 (0,0))∧Below w.heap.size w W∧aI W w.heap.size (.slice A2 n2 c2) E2) ⟨by exact hpa,by exact hpa,by exact hpa,by exact hpa,by exact hpa,by exact aA,(aI.swap HO.out (by simp) (by simp)).base (by simp;omega)⟩ ?_
  rintro W2 ⟨h6,h7,h9,h10,h12,hbw,how⟩
  have aQ:=hid hbw
  have HOW:=hid how
  have H6:=hid h6
  have H7:=hid h7
  have H9:=hid h9
  have za:=hid h10
  have fC:=hid h12
  have hszW:=hbw.size
  have l6:=aj h6
  have l7:=aj h7
  have l9:=aj h9
  have l10:=aj h10
  have bn:=aj h12
  obtain⟨p0,p1,p2,p3,p4⟩:=cells5 h6
  obtain⟨q0,q1,q2,q3,q4,q5,q6⟩:=aG h7
  obtain⟨z0,z1,z2,z3,z4,z5,z6⟩:=aG h12
  have f0:=frees h12 0
  have f1:=frees h12 1
  have f2:=frees h12 2
  have f3:=frees h12 3
  have f4:=frees h12 4
  have f5:=frees h12 5
  have f6:=frees h12 6
  clear h6 h7 h9 h10 h12 hbw how
  go_wp2_with fail
  refine(jk Ar nr cr R mc mt mf wt st id req cnt ay au A2 n2 c2 E2 L HE2.out tick _ _ (aaE _) ((HR.out.keep (aQ.out.mono HB.out)).more (by have:=HB.out;omega)) gB.out hlr HOW.out.at iA.out).mono ?_
  rw[HF.out]
  rintro x w1 ⟨rfl,hb⟩
  obtain⟨mP,d3,rfl⟩:=aB hb
  clear hb
  go_wp2_with fail
  obtain⟨Wf,hWf⟩: ∃Wf,Wf=ext (((((((W2.setCell ⟨w.heap.size+1+1+1+1,0,none⟩ (.int .i64 st)).setCell ⟨w.heap.size+1+1+1+1,1,none⟩ (.int .i64 id)).setCell ⟨w.heap.size+1+1+1+1,2,none⟩ (.int .i64 req)).setCell ⟨w.heap.size+1+1+1+1,3,none⟩ (.slice A2 n2 c2)).setCell ⟨w.heap.size+1+1+1+1,4,none⟩ (.int .i64 cnt)).setCell ⟨w.heap.size+1+1+1+1,5,none⟩ (.int .i64 ay)).setCell ⟨w.heap.size+1+1+1+1,6,none⟩ (.int .i64 au)) mP d3:=⟨_,rfl⟩
  rw[←hWf]
  have hrow:Wf.heap[w.heap.size+1+1+1+1]? =some (.cells #[.int .i64 st,.int .i64 id,.int .i64 req,.slice A2 n2 c2,.int .i64 cnt,.int .i64 ay,.int .i64 au] 29 (0,0)):=by rw[hWf];exact(aO _ _ _ _ (by simp;exact bn)).trans (gF fC.out rfl _ _ _ _ _ _ _)
  have hgr:W2.grownBy Wf (some (w.heap.size+1+1+1+1)):=by rw[hWf];exact grn
  have hbl:Below w.heap.size w Wf:=Below.grown aQ.out hgr aQ.out.size (fun k hk=>by cases hk;omega)
  clear hWf p0 p1 p2 p3 p4 q0 q1 q2 q3 q4 q5 q6 z0 z1 z2 z3 z4 z5 z6 f0 f1 f2 f3 f4 f5 f6
  obtain⟨u0,u1,u2,u3,u4,u5,u6⟩:=aG hrow
  refine bodyPost_ret (v:=.tuple #[.agg #[.int .i64 st,.int .i64 id,.int .i64 req,.slice A2 n2 c2,.int .i64 cnt,.int .i64 ay,.int .i64 au],.slice none 0 0,.slice none 0 0]) (by simp[results,Tryz.results14,go_sem,u0,u1,u2,u3,u4,u5,u6]) rfl ?_
  exact⟨.slice A2 n2 c2,.slice none 0 0,.slice none 0 0,rfl,hbl,⟨E2,HOW.out.other hgr fC.out (by decide) (by decide),HE2.out⟩,⟨[],dM.nil _ _,rfl⟩,aU.nil _ _⟩
 ·obtain⟨er,her⟩: ∃er,Fs.bP st e=er:=⟨_,rfl⟩
  have tC:=hid her
  have h0:er≠0:=by rcases hno with h|h
                   ·rw[sw] at h;cases h
                   ·rwa [her] at h
  ·have qg:=hid (show jo ⟨R,mc,mt,mf,wt⟩ ⟨st,id,req,L,cnt,ay,au⟩ e ⟨ic,ii,li⟩ ⟨ac,ai,ln⟩ tick=(⟨st,id,req,L,cnt,ay,au⟩,[],[]) by unfold jo;dsimp only;rw[her,if_neg (fun h=>h0 h.2)])
   rw[qg.out]
   have h0':(er !=0)=true:=by simpa using h0
   clear sw her
   go_enter Tryz.func14,Tryz.ntmps14
   go_wp2_with fail
   refine(mD st id req cnt ay au Aa na ca E _ B (by have:=HB.out;simp;omega) (by exact HE.out.keep (by have:=HB.out;exact aA)) dz.out hla jr.out).mono ?_
   rintro x w1 ⟨v,rfl,E2,A2,n2,c2,rfl,he2,hn2,hc2,hb,ho⟩
   obtain⟨xs,d,rfl⟩:=aB hb
   have HE2:=hid (show E2.map aH.o=L from he2.trans HL.out)
   have iA:=hid hn2
   have xR:=hid hc2
   have HO:=hid ho
   clear hb ho he2 hn2 hc2
   dsimp only
   go_upto_region 2 with(fail)
   refine bY (fun W=>W.heap[w.heap.size]? =some (.cells #[.slice Ar nr cr,.int .i64 mc,.int .i64 mt,.int .i64 mf,.int .i64 wt] 24 (0,0))∧W.heap[w.heap.size+1]? =some (.cells #[.int .i64 st,.int .i64 id,.int .i64 req,.slice A2 n2 c2,.int .i64 cnt,.int .i64 ay,.int .i64 au] 29 (0,0))∧W.heap[w.heap.size+1+1]? =some (.cells #[.int .i64 ic,.int .i64 ii,.slice Ai ni ci] 32 (0,0))∧W.heap[w.heap.size+1+1+1]? =some (.cells #[.int .i64 ac,.int .i64 ai,.slice An nn cn] 32 (0,0))∧W.heap[w.heap.size+1+1+1+1]? =some (.cells #[.int .i64 0,.int .i64 0,.int .i64 0,.slice none 0 0,.int .i64 0,.int .i64 0,.int .i64 0] 29 (0,0))∧Below w.heap.size w W∧aI W w.heap.size (.slice A2 n2 c2) E2) ⟨by exact hpa,by exact hpa,by exact hpa,by exact hpa,by exact hpa,by exact aA,(aI.swap HO.out (by simp) (by simp)).base (by simp;omega)⟩ ?_
   rintro W2 ⟨h6,h7,h9,h10,h12,hbw,how⟩
   have aQ:=hid hbw
   have HOW:=hid how
   have H6:=hid h6
   have H7:=hid h7
   have H9:=hid h9
   have za:=hid h10
   have fC:=hid h12
   have hszW:=hbw.size
   have l6:=aj h6
   have l7:=aj h7
   have l9:=aj h9
   have l10:=aj h10
   have bn:=aj h12
   obtain⟨p0,p1,p2,p3,p4⟩:=cells5 h6
   obtain⟨q0,q1,q2,q3,q4,q5,q6⟩:=aG h7
   obtain⟨z0,z1,z2,z3,z4,z5,z6⟩:=aG h12
   have f0:=frees h12 0
   have f1:=frees h12 1
   have f2:=frees h12 2
   have f3:=frees h12 3
   have f4:=frees h12 4
   have f5:=frees h12 5
   have f6:=frees h12 6
   clear h6 h7 h9 h10 h12 hbw how
   go_wp2_with fail
   refine(jk Ar nr cr R mc mt mf wt st id req cnt ay au A2 n2 c2 E2 L HE2.out tick _ _ (aaE _) ((HR.out.keep (aQ.out.mono HB.out)).more (by have:=HB.out;omega)) gB.out hlr HOW.out.at iA.out).mono ?_
   rw[HF.out]
   rintro x w1 ⟨rfl,hb⟩
   obtain⟨mP,d3,rfl⟩:=aB hb
   clear hb
   go_wp2_with fail
   refine(Fs.qJ st e _).mono ?_
   rw[show Fs.iI st e=fun w x w'=> ∃v,x=.returned (.tuple #[.int .i64 (Fs.aZ e st),v,.int .i64 er])∧Fs.Told w (Fs.aT e st) v w' by unfold Fs.iI;rw[tC.out]]
   rintro x w1 ⟨v,rfl,hb,-⟩
   obtain⟨xO,d4,rfl⟩:=aB hb
   clear hb
   go_wp2_with fail
   obtain⟨Wf,hWf⟩: ∃Wf,Wf=ext (ext (((((((W2.setCell ⟨w.heap.size+1+1+1+1,0,none⟩ (.int .i64 st)).setCell ⟨w.heap.size+1+1+1+1,1,none⟩ (.int .i64 id)).setCell ⟨w.heap.size+1+1+1+1,2,none⟩ (.int .i64 req)).setCell ⟨w.heap.size+1+1+1+1,3,none⟩ (.slice A2 n2 c2)).setCell ⟨w.heap.size+1+1+1+1,4,none⟩ (.int .i64 cnt)).setCell ⟨w.heap.size+1+1+1+1,5,none⟩ (.int .i64 ay)).setCell ⟨w.heap.size+1+1+1+1,6,none⟩ (.int .i64 au)) mP d3) xO d4:=⟨_,rfl⟩
   rw[←hWf]
   have hrow:Wf.heap[w.heap.size+1+1+1+1]? =some (.cells #[.int .i64 st,.int .i64 id,.int .i64 req,.slice A2 n2 c2,.int .i64 cnt,.int .i64 ay,.int .i64 au] 29 (0,0)):=by rw[hWf];exact(aO _ _ _ _ (by simp[size_ext,grow];omega)).trans ((aO _ _ _ _ (by simp;exact bn)).trans (gF fC.out rfl _ _ _ _ _ _ _))
   have hgr:W2.grownBy Wf (some (w.heap.size+1+1+1+1)):=by rw[hWf];exact grn
   have hbl:Below w.heap.size w Wf:=Below.grown aQ.out hgr aQ.out.size (fun k hk=>by cases hk;omega)
   clear hWf p0 p1 p2 p3 p4 q0 q1 q2 q3 q4 q5 q6 z0 z1 z2 z3 z4 z5 z6 f0 f1 f2 f3 f4 f5 f6
   obtain⟨u0,u1,u2,u3,u4,u5,u6⟩:=aG hrow
   refine bodyPost_ret (v:=.tuple #[.agg #[.int .i64 st,.int .i64 id,.int .i64 req,.slice A2 n2 c2,.int .i64 cnt,.int .i64 ay,.int .i64 au],.slice none 0 0,.slice none 0 0]) (by simp[results,Tryz.results14,go_sem,u0,u1,u2,u3,u4,u5,u6]) rfl ?_
   exact⟨.slice A2 n2 c2,.slice none 0 0,.slice none 0 0,rfl,hbl,⟨E2,HOW.out.other hgr fC.out (by decide) (by decide),HE2.out⟩,⟨[],dM.nil _ _,rfl⟩,aU.nil _ _⟩
theorem dR (w:World):w.drew.heap=w.heap:=rfl
theorem At.off {w w':World} {B X:Nat} {A:Option Addr} {xs:List Value} (h:At w B A xs) (hg:w.grownBy w' (some X)) (hne: ∀(g o:Nat),A=some ⟨g,o,none⟩→g≠X) (hB:B≤w.heap.size):At w' B A xs:=by
 rcases h with h|⟨b,o,e,hb,hc⟩
 ·exact .inl h
 ·refine .inr ⟨b,o,e,hb,fun j u hu=>?_⟩
  rw[World.cell?_of_block (w:=w) (a:=⟨b,o+j,none⟩) (hg.block b (by omega) (fun e'=>hne b o e (by simpa using e')))]
  exact hc j u hu
set_option maxRecDepth 100000 in
theorem TL (Ar Aa Ai An:Option Addr) (nr cr na ca ni ci nn cn:Nat) (R:List Rl) (mc mt mf wt st id req cnt ay au e ic ii ac ai tick:Int) (E:List aH) (li ln:List UInt8) (w:World) (B:Nat) (hB:B≤w.heap.size)
  (hR:aD w B Ar R) (hnr:nr=R.length) (hlr:nr≤1000000) (hE:aJ w B Aa E) (hna:na=E.length) (hla:na≤1000000) (hda: ∀e∈E,e.d.length≤400000000)
  (hI:At w B Ai (li.map bv)) (hni:ni=li.length) (hci:ni≤ci) (iF:ni≤400000000) (hN:At w B An (ln.map bv)) (hnn:nn=ln.length) (hcn:nn≤cn) (hln:nn≤400000000) (hf:dn ⟨R,mc,mt,mf,wt⟩ ⟨st,id,req,E.map aH.o,cnt,ay,au⟩ tick=true) (h0:Fs.bP st e=0):
  Calls Tryz.prog 14 #[.agg #[.slice Ar nr cr,.int .i64 mc,.int .i64 mt,.int .i64 mf,.int .i64 wt],.agg #[.int .i64 st,.int .i64 id,.int .i64 req,.slice Aa na ca,.int .i64 cnt,.int .i64 ay,.int .i64 au],.int .i64 e,.agg #[.int .i64 ic,.int .i64 ii,.slice Ai ni ci],.agg #[.int .i64 ac,.int .i64 ai,.slice An nn cn],.int .i64 tick] w (U8 (jo ⟨R,mc,mt,mf,wt⟩ ⟨st,id,req,E.map aH.o,cnt,ay,au⟩ e ⟨ic,ii,li⟩ ⟨ac,ai,ln⟩ tick) w):=by
 have HB:=hid hB
 have HR:=hid hR
 have gB:=hid hnr
 have HE:=hid hE
 have dz:=hid hna
 have jr:=hid hda
 have HI:=hid (And.intro hI (And.intro hni hci))
 have HN:=hid (And.intro hN (And.intro hnn hcn))
 obtain⟨L,hL⟩: ∃L,E.map aH.o=L:=⟨_,rfl⟩
 have HL:=hid hL
 rw[hL] at hf
 rw[hL]
 clear hB hR hnr hE hna hda hI hni hci hN hnn hcn hL
 have HF:=hid hf
 have tC:=hid h0
 have jU:=hid (gN.yO hf)
 have qg:=hid (show jo ⟨R,mc,mt,mf,wt⟩ ⟨st,id,req,L,cnt,ay,au⟩ e ⟨ic,ii,li⟩ ⟨ac,ai,ln⟩ tick=(if Fs.iw (Fs.aZ e st)=true then(fO ⟨R,mc,mt,mf,wt⟩ ⟨ic,ii,li⟩ ⟨ac,ai,ln⟩ tick (Fs.aT e st) (⟨Fs.aZ e st,id,req,L,cnt,ay,au⟩,[]) (Fs.aT e st)).1
   else {(fO ⟨R,mc,mt,mf,wt⟩ ⟨ic,ii,li⟩ ⟨ac,ai,ln⟩ tick (Fs.aT e st) (⟨Fs.aZ e st,id,req,L,cnt,ay,au⟩,[]) (Fs.aT e st)).1 with ay:=0},
   (fO ⟨R,mc,mt,mf,wt⟩ ⟨ic,ii,li⟩ ⟨ac,ai,ln⟩ tick (Fs.aT e st) (⟨Fs.aZ e st,id,req,L,cnt,ay,au⟩,[]) (Fs.aT e st)).2,Fs.aT e st) from by unfold jo;rw[if_pos ⟨hf,h0⟩])
 have qc:=hid (Fs.mK e st)
 have V3:=hid (show Fs.iI st e=fun w x w'=> ∃v,x=.returned (.tuple #[.int .i64 (Fs.aZ e st),v,.int .i64 0])∧Fs.Told w (Fs.aT e st) v w' by unfold Fs.iI;rw[h0])
 clear hf h0
 obtain⟨r,hr⟩: ∃r,jo ⟨R,mc,mt,mf,wt⟩ ⟨st,id,req,L,cnt,ay,au⟩ e ⟨ic,ii,li⟩ ⟨ac,ai,ln⟩ tick=r:=⟨_,rfl⟩
 rw[hr] at qg
 rw[hr]
 clear hr
 obtain⟨nx,hnx⟩: ∃nx,Fs.aZ e st=nx:=⟨_,rfl⟩
 obtain⟨acts,qA⟩: ∃acts,Fs.aT e st=acts:=⟨_,rfl⟩
 rw[hnx,qA] at V3
 rw[qA] at qc
 rw[hnx,qA] at qg
 clear hnx qA
 go_enter Tryz.func14,Tryz.ntmps14
 go_wp2_with fail
 refine(mD st id req cnt ay au Aa na ca E _ B (by have:=HB.out;simp;omega) (by exact HE.out.keep (by have:=HB.out;exact aA)) dz.out hla jr.out).mono ?_
 rintro x w1 ⟨v,rfl,E2,A2,n2,c2,rfl,he2,hn2,hc2,hb,ho⟩
 obtain⟨xs,d,rfl⟩:=aB hb
 have HE2:=hid (show E2.map aH.o=L from he2.trans HL.out)
 have iA:=hid hn2
 have xR:=hid hc2
 have HO:=hid ho
 clear hb ho he2 hn2 hc2
 dsimp only
 go_upto_region 2 with(fail)
 refine bY (fun W=>W.heap[w.heap.size]? =some (.cells #[.slice Ar nr cr,.int .i64 mc,.int .i64 mt,.int .i64 mf,.int .i64 wt] 24 (0,0))∧W.heap[w.heap.size+1]? =some (.cells #[.int .i64 st,.int .i64 id,.int .i64 req,.slice A2 n2 c2,.int .i64 cnt,.int .i64 ay,.int .i64 au] 29 (0,0))∧W.heap[w.heap.size+1+1]? =some (.cells #[.int .i64 ic,.int .i64 ii,.slice Ai ni ci] 32 (0,0))∧W.heap[w.heap.size+1+1+1]? =some (.cells #[.int .i64 ac,.int .i64 ai,.slice An nn cn] 32 (0,0))∧W.heap[w.heap.size+1+1+1+1]? =some (.cells #[.int .i64 0,.int .i64 0,.int .i64 0,.slice none 0 0,.int .i64 0,.int .i64 0,.int .i64 0] 29 (0,0))∧Below w.heap.size w W∧aI W w.heap.size (.slice A2 n2 c2) E2) ⟨by exact hpa,by exact hpa,by exact hpa,by exact hpa,by exact hpa,by exact aA,(aI.swap HO.out (by simp) (by simp)).base (by simp;omega)⟩ ?_
 rintro W2 ⟨h6,h7,h9,h10,h12,hbw,how⟩
 have aQ:=hid hbw
 have HOW:=hid how
 have H6:=hid h6
 have H7:=hid h7
 have H9:=hid h9
 have za:=hid h10
 have fC:=hid h12
 have hszW:=hbw.size
 have l6:=aj h6
 have l7:=aj h7
 have l9:=aj h9
 have l10:=aj h10
 have bn:=aj h12
 obtain⟨p0,p1,p2,p3,p4⟩:=cells5 h6
 obtain⟨q0,q1,q2,q3,q4,q5,q6⟩:=aG h7
 obtain⟨i0,i1,i2⟩:=cells3 h9
 obtain⟨j0,j1,j2⟩:=cells3 h10
 obtain⟨z0,z1,z2,z3,z4,z5,z6⟩:=aG h12
 have f0:=frees h12 0
 have f1:=frees h12 1
 have f2:=frees h12 2
 have f3:=frees h12 3
 have f4:=frees h12 4
 have f5:=frees h12 5
 have f6:=frees h12 6
 clear h6 h7 h9 h10 h12 hbw how
 go_wp2_with fail
 refine(jk Ar nr cr R mc mt mf wt st id req cnt ay au A2 n2 c2 E2 L HE2.out tick _ _ (aaE _) ((HR.out.keep (aQ.out.mono HB.out)).more (by have:=HB.out;omega)) gB.out hlr HOW.out.at iA.out).mono ?_
 rw[HF.out]
 rintro x w1 ⟨rfl,hb⟩
 obtain⟨mP,d3,rfl⟩:=aB hb
 clear hb
 go_wp2_with fail
 refine(Fs.qJ st e _).mono ?_
 rw[V3.out]
 rintro x w1 ⟨v,rfl,hb,vR⟩
 obtain⟨Ad,cd,rfl,hcd,-⟩:=ownsRow_form vR
 obtain⟨xO,d4,rfl⟩:=aB hb
 have qR:=hid vR
 have Yq:=hid hcd
 clear hb vR hcd
 obtain⟨nd,hnd⟩: ∃nd,acts.length=nd:=⟨_,rfl⟩
 have wM:=hid hnd
 rw[hnd] at qR
 clear hnd
 rw[wM.out]
 go_upto_region 9 with(fail)
 obtain⟨b,hb⟩: ∃b,b=grow (grow W2.heap.size mP) xO:=⟨_,rfl⟩
 rw[←hb]
 have hb4:(ext (ext W2 mP d3) xO d4).heap.size=b:=by rw[hb];simp[size_ext]
 have hbz:W2.heap.size≤b:=by rw[hb];simp[grow];omega
 refine bY (fun W=>lq W b (rm ⟨R,mc,mt,mf,wt⟩ ⟨nx,id,req,L,cnt,ay,au⟩ ⟨ic,ii,li⟩ ⟨ac,ai,ln⟩ tick (.slice Ar nr cr) (.slice A2 n2 c2) (.slice Ai ni ci) (.slice An nn cn) (.slice Ad nd cd) (.slice none 0 0)) L li ln acts []∧Below W2.heap.size W2 W∧W.ownsRow W2.heap.size 104 1 (.slice Ad nd cd) nd (acts.map av)) ?_ ?_
 ·have hbl:Below W2.heap.size W2 ((ext (ext W2 mP d3) xO d4).alloc (.cells #[.slice Ar nr cr,.int .i64 mc,.int .i64 mt,.int .i64 mf,.int .i64 wt,.int .i64 nx,.int .i64 id,.int .i64 req,.slice A2 n2 c2,.int .i64 cnt,.int .i64 ay,.int .i64 au,.int .i64 ic,.int .i64 ii,.slice Ai ni ci,.int .i64 ac,.int .i64 ai,.slice An nn cn,.int .i64 tick,.slice Ad nd cd,.slice none 0 0] 102)):=by exact aA
  refine⟨⟨?_,⟨A2,n2,c2,E2,rfl,((HOW.out.at).keep hbl).more hbz,iA.out,xR.out,HE2.out⟩,⟨Ai,ni,ci,rfl,(HI.out.1.keep ((aQ.out.trans (hbl.mono hszW)).mono HB.out)).more (by have:=HB.out;omega),HI.out.2.1,HI.out.2.2⟩,⟨An,nn,cn,rfl,(HN.out.1.keep ((aQ.out.trans (hbl.mono hszW)).mono HB.out)).more (by have:=HB.out;omega),HN.out.2.1,HN.out.2.2⟩,⟨Ad,nd,cd,rfl,?_,wM.out.symm,by have:=Yq.out;have:=wM.out;omega⟩,⟨[],dM.nil _ _,rfl⟩,by have:=HI.out.2.1;omega,by have:=HN.out.2.1;omega,by simp⟩,hbl,?_⟩
  ·show(World.alloc _ _).heap[b]? =_
   rw[←hb4]
   exact heap_alloc_new _ _
  ·rw[←hb4]
   exact(At.bq qR.out).keep ((Below.refl _ _).alloc (aaE _) _)
  ·exact own_below (aK qR.out (by first|(simp[size_ext,grow];done)|(simp[size_ext,grow];omega))) ((Below.refl _ _).alloc (aaE _) _)
 rintro W5 ⟨hi5,hb5,WG⟩
 have VA:=hid (show∀g,(Value.slice Ad nd cd).ownBlock=some g→g<b from fun g e=>by have:=eY qR.out e;rwa [hb4] at this)
 have Yy:=hid hi5
 have dO:=hid hb5
 have zD:=hid WG
 have uj:=hid ((hb5.block _ bn).trans fC.out)
 have aaf:=hid (HOW.out.below hb5)
 have hsz5:=hb5.size
 have Zj:b<W5.heap.size:=hi5.run.lt
 have qd:=hid hi5.did
 have hxb:w.heap.size+1+1+1+1<b:=by omega
 clear hi5 hb5 WG p0 p1 p2 p3 p4 q0 q1 q2 q3 q4 q5 q6 z0 z1 z2 z3 z4 z5 z6 f0 f1 f2 f3 f4 f5 f6 i0 i1 i2 j0 j1 j2 hb hb4
 have kN:nd≤3:=by have:=qc.out;have:=wM.out;omega
 go_wp2_with fail
 go_loopw [58] (fun i wr=> ∃(k:Nat) (vo:Value),k≤nd∧i=.int .i64 k∧lq wr b (rm ⟨R,mc,mt,mf,wt⟩ (fO ⟨R,mc,mt,mf,wt⟩ ⟨ic,ii,li⟩ ⟨ac,ai,ln⟩ tick acts (⟨nx,id,req,L,cnt,ay,au⟩,[]) (acts.take k)).1 ⟨ic,ii,li⟩ ⟨ac,ai,ln⟩ tick (.slice Ar nr cr) (.slice A2 n2 c2) (.slice Ai ni ci) (.slice An nn cn) (.slice Ad nd cd) vo) L li ln acts (fO ⟨R,mc,mt,mf,wt⟩ ⟨ic,ii,li⟩ ⟨ac,ai,ln⟩ tick acts (⟨nx,id,req,L,cnt,ay,au⟩,[]) (acts.take k)).2∧Below b W5 wr) (fun i _=>nd-(intOf i).toNat)
 case atStart=>exact⟨0,_,Nat.zero_le _,rfl,Yy.out,Below.refl _ _⟩
 case round=>
  obtain⟨k,vo,hk,rfl,hi,hbl⟩:=hrel
  have KD:=hid hi
  have cu:=hid hbl
  have Av:=hbl.size
  clear hi hbl
  by_cases hlt:k<nd
  ·have HK:=hid (show k<acts.length by have:=wM.out;omega)
   obtain⟨Ye,nd',YZ,hq,hat,-,-⟩:=qd.out.keep cu.out
   have hq2:(Value.slice Ad nd cd)=.slice Ye nd' YZ:=hq
   simp only[Value.slice.injEq] at hq2
   obtain⟨rfl,-,-⟩:=hq2
   obtain⟨bd,od,rfl,hbd⟩:=hat.cellAt HK.out
   obtain⟨x,hx,hc⟩:=hat.rP HK.out
   have HX:=hid (show acts[k]'HK.out=x by rw[←hx,List.getD_eq_getElem?_getD,List.getElem?_eq_getElem HK.out];rfl)
   have qV:=hid (xI (c:=⟨R,mc,mt,mf,wt⟩) (inn:=⟨ic,ii,li⟩) (ans:=⟨ac,ai,ln⟩) (tick:=tick) (acts:=acts) (s:=(⟨nx,id,req,L,cnt,ay,au⟩,[])) HK.out)
   have BP:=hid (jQ ⟨R,mc,mt,mf,wt⟩ ⟨ic,ii,li⟩ ⟨ac,ai,ln⟩ tick acts (acts.take k) (⟨nx,id,req,L,cnt,ay,au⟩,[]))
   have BG:=hid (qI ⟨R,mc,mt,mf,wt⟩ ⟨ic,ii,li⟩ ⟨ac,ai,ln⟩ tick acts (acts.take k) (⟨nx,id,req,L,cnt,ay,au⟩,[]))
   have Gi:=hid (tN ⟨R,mc,mt,mf,wt⟩ ⟨ic,ii,li⟩ ⟨ac,ai,ln⟩ tick acts (acts.take k) (⟨nx,id,req,L,cnt,ay,au⟩,[]) (jU.out.state nx))
   rw[HX.out] at qV
   obtain⟨⟨ak,ok⟩,hak⟩: ∃s,fO ⟨R,mc,mt,mf,wt⟩ ⟨ic,ii,li⟩ ⟨ac,ai,ln⟩ tick acts (⟨nx,id,req,L,cnt,ay,au⟩,[]) (acts.take k)=s:=⟨_,rfl⟩
   rw[hak] at KD qV BP BG Gi
   clear hak hx hat hq
   have Zk:bd<wr.heap.size:=by omega
   have kk0:(0:Int)≤(k:Int):=by omega
   have kk1:(k:Int)<(nd:Int):=by omega
   go_wp2_with fail
   refine(KR b ⟨R,mc,mt,mf,wt⟩ ak ⟨ic,ii,li⟩ ⟨ac,ai,ln⟩ tick _ _ _ _ _ vo acts ok x wr (by rw[show ak.ask=L from BP.out];exact KD.out) (by have h:=BG.out;rw[List.length_take] at h;have:=qc.out;simp only[List.length_nil] at h;omega) (by have:=qc.out;omega) Gi.out).mono ?_
   rintro y w1 ⟨rfl,hb1,U1,hi1⟩
   rw[show ak.ask=L from BP.out] at hi1
   have HB1:=hid hb1
   have HI1:=hid hi1
   clear hb1 hi1
   go_wp2_with fail
   go_roundw
   case rel=>exact⟨k+1,U1,by omega,by go_num,by rw[qV.out];exact HI1.out,cu.out.trans HB1.out⟩
   case measure=>simp[intOf];omega
  focus
   obtain rfl:k=nd:=by omega
   have YM:=hid (show acts.take k=acts from List.take_of_length_le (by have:=wM.out;omega))
   rw[YM.out] at KD
   obtain⟨⟨af,of⟩,Vr⟩: ∃s,fO ⟨R,mc,mt,mf,wt⟩ ⟨ic,ii,li⟩ ⟨ac,ai,ln⟩ tick acts (⟨nx,id,req,L,cnt,ay,au⟩,[]) acts=s:=⟨_,rfl⟩
   have VF:=hid (show af.ask=L by have h:=jQ ⟨R,mc,mt,mf,wt⟩ ⟨ic,ii,li⟩ ⟨ac,ai,ln⟩ tick acts acts (⟨nx,id,req,L,cnt,ay,au⟩,[]);rw[Vr] at h;exact h)
   rw[Vr] at KD qg
   clear Vr
   obtain⟨tb,htb⟩: ∃tb,Fs.iw nx=tb:=⟨_,rfl⟩
   have zu:=hid htb
   rw[htb] at qg
   clear htb
   have hbr:b<wr.heap.size:=by omega
   cases tb
  focus
   have BQ:=hid (show r=({af with ay:=0},of,acts) by rw[qg.out];rfl)
   have c10:=KD.out.run.cell 10 (v:=.int .i64 af.ay) rfl
   have f10:=KD.out.run.free 10
   go_wp2_with fail
   refine(Fs.kC nx _).mono ?_
   rw[zu.out]
   rintro y w1 ⟨rfl,rfl⟩
   go_wp2_with fail
   have vU:=hid (KD.out.num _ (KD.out.run.ay 0) (bV _ _ _ _) rfl rfl rfl rfl rfl)
   have tu:=hid (cu.out.trans (bE (bV wr b 10 (.int .i64 0)) (Nat.le_of_lt hbr)))
   have o9:=hid (((tu.out.block _ hxb)).trans uj.out)
   have hbf:b<((wr.setCell ⟨b,10,none⟩ (Value.int .i64 0))).heap.size:=vU.out.run.lt
   have ZA:w.heap.size+1+1+1+1<((wr.setCell ⟨b,10,none⟩ (Value.int .i64 0))).heap.size:=by omega
   obtain⟨a5,a6,a7⟩:((wr.setCell ⟨b,10,none⟩ (Value.int .i64 0))).cell? ⟨b,5,none⟩=some (.int .i64 af.st)∧((wr.setCell ⟨b,10,none⟩ (Value.int .i64 0))).cell? ⟨b,6,none⟩=some (.int .i64 af.id)∧((wr.setCell ⟨b,10,none⟩ (Value.int .i64 0))).cell? ⟨b,7,none⟩=some (.int .i64 af.req):=⟨vU.out.run.cell 5 rfl,vU.out.run.cell 6 rfl,vU.out.run.cell 7 rfl⟩
   have a8:((wr.setCell ⟨b,10,none⟩ (Value.int .i64 0))).cell? ⟨b,8,none⟩=some (.slice A2 n2 c2):=vU.out.run.cell 8 rfl
   have a9:((wr.setCell ⟨b,10,none⟩ (Value.int .i64 0))).cell? ⟨b,9,none⟩=some (.int .i64 af.cnt):=vU.out.run.cell 9 rfl
   have TF:((wr.setCell ⟨b,10,none⟩ (Value.int .i64 0))).cell? ⟨b,10,none⟩=some (.int .i64 0):=vU.out.run.cell 10 rfl
   have TG:((wr.setCell ⟨b,10,none⟩ (Value.int .i64 0))).cell? ⟨b,11,none⟩=some (.int .i64 af.au):=vU.out.run.cell 11 rfl
   have a20:((wr.setCell ⟨b,10,none⟩ (Value.int .i64 0))).cell? ⟨b,20,none⟩=some vo:=vU.out.run.cell 20 rfl
  rotate_left
  focus
   have BQ:=hid (show r=(af,of,acts) by rw[qg.out];rfl)
   go_wp2_with fail
   refine(Fs.kC nx _).mono ?_
   rw[zu.out]
   rintro y w1 ⟨rfl,rfl⟩
   go_wp2_with fail
   have vU:=hid (KD.out)
   have tu:=hid (cu.out)
   have o9:=hid (((tu.out.block _ hxb)).trans uj.out)
   have hbf:b<(wr).heap.size:=vU.out.run.lt
   have ZA:w.heap.size+1+1+1+1<(wr).heap.size:=by omega
   obtain⟨a5,a6,a7⟩:(wr).cell? ⟨b,5,none⟩=some (.int .i64 af.st)∧(wr).cell? ⟨b,6,none⟩=some (.int .i64 af.id)∧(wr).cell? ⟨b,7,none⟩=some (.int .i64 af.req):=⟨vU.out.run.cell 5 rfl,vU.out.run.cell 6 rfl,vU.out.run.cell 7 rfl⟩
   have a8:(wr).cell? ⟨b,8,none⟩=some (.slice A2 n2 c2):=vU.out.run.cell 8 rfl
   have a9:(wr).cell? ⟨b,9,none⟩=some (.int .i64 af.cnt):=vU.out.run.cell 9 rfl
   have TF:(wr).cell? ⟨b,10,none⟩=some (.int .i64 af.ay):=vU.out.run.cell 10 rfl
   have TG:(wr).cell? ⟨b,11,none⟩=some (.int .i64 af.au):=vU.out.run.cell 11 rfl
   have a20:(wr).cell? ⟨b,20,none⟩=some vo:=vU.out.run.cell 20 rfl
  rotate_left
  all_goals
   obtain⟨z0,z1,z2,z3,z4,z5,z6⟩:=aG o9.out
   have f0:=frees o9.out 0
   have f1:=frees o9.out 1
   have f2:=frees o9.out 2
   have f3:=frees o9.out 3
   have f4:=frees o9.out 4
   have f5:=frees o9.out 5
   have f6:=frees o9.out 6
  ·go_region_held3 (fun w'=>w'.cell? ⟨b,5,none⟩=some (.int .i64 af.st)∧w'.cell? ⟨b,6,none⟩=some (.int .i64 af.id)∧w'.cell? ⟨b,7,none⟩=some (.int .i64 af.req)∧w'.cell? ⟨b,8,none⟩=some (.slice A2 n2 c2)∧w'.cell? ⟨b,9,none⟩=some (.int .i64 af.cnt)∧w'.cell? ⟨b,10,none⟩=some (.int .i64 0)∧w'.cell? ⟨b,11,none⟩=some (.int .i64 af.au)∧w'.cell? ⟨b,20,none⟩=some vo) (first|(go_keep;done)|(go_simp;done)|(simp[go_sem];done)) (fail)
   all_goals
    obtain⟨Wf,hWf⟩: ∃Wf:World,Wf=(((((((((wr.setCell ⟨b,10,none⟩ (Value.int .i64 0)).setCell ⟨w.heap.size+1+1+1+1,0,none⟩ (.int .i64 af.st)).setCell ⟨w.heap.size+1+1+1+1,1,none⟩ (.int .i64 af.id)).setCell ⟨w.heap.size+1+1+1+1,2,none⟩ (.int .i64 af.req)).setCell ⟨w.heap.size+1+1+1+1,3,none⟩ (.slice A2 n2 c2)).setCell ⟨w.heap.size+1+1+1+1,4,none⟩ (.int .i64 af.cnt)).setCell ⟨w.heap.size+1+1+1+1,5,none⟩ (.int .i64 0)).setCell ⟨w.heap.size+1+1+1+1,6,none⟩ (.int .i64 af.au))).drew:=⟨_,rfl⟩
    rw[←hWf]
    have hrow:Wf.heap[w.heap.size+1+1+1+1]? =some (.cells #[.int .i64 af.st,.int .i64 af.id,.int .i64 af.req,.slice A2 n2 c2,.int .i64 af.cnt,.int .i64 0,.int .i64 af.au] 29 (0,0)):=by rw[hWf,dR];exact gF o9.out rfl _ _ _ _ _ _ _
    have hgr:((wr.setCell ⟨b,10,none⟩ (Value.int .i64 0))).grownBy Wf (some (w.heap.size+1+1+1+1)):=by rw[hWf];exact grn
    have hb2:Below W2.heap.size W2 ((wr.setCell ⟨b,10,none⟩ (Value.int .i64 0))):=dO.out.trans (tu.out.mono hbz)
    have hbl:Below w.heap.size w Wf:=Below.grown (aQ.out.trans (hb2.mono hszW)) hgr (aaF hszW hb2.size) (fun k hk=>by cases hk;omega)
    have hos:=(HOW.out.below hb2).other hgr o9.out (by decide) (by decide)
    obtain⟨P,hp,hpe⟩:=vU.out.ot
    have hps:=(hp.stays hgr (fun r e=>by cases e;omega)).base (b':=w.heap.size) (by omega)
    have Cy:aU Wf w.heap.size (.slice Ad k cd) acts:=by
     have h1:((wr.setCell ⟨b,10,none⟩ (Value.int .i64 0))).ownsRow W2.heap.size 104 1 (.slice Ad k cd) k (acts.map av):=dx zD.out fun k hk=>tu.out.block k (VA.out k hk)
     have h2:=aK (base':=w.heap.size) (aW h1 hgr fun r e=>by cases e;exact .inr (.inr ⟨_,_,o9.out,by decide⟩)) hszW
     unfold aU
     rw[wM.out]
     exact h2
    clear hWf a5 a6 a7 a8 a9 TF TG a20 z0 z1 z2 z3 z4 z5 z6 f0 f1 f2 f3 f4 f5 f6
    obtain⟨u0,u1,u2,u3,u4,u5,u6⟩:=aG hrow
    go_wp2_with fail
    refine bodyPost_ret (v:=.tuple #[.agg #[.int .i64 af.st,.int .i64 af.id,.int .i64 af.req,.slice A2 n2 c2,.int .i64 af.cnt,.int .i64 0,.int .i64 af.au],vo,.slice Ad k cd]) (by simp[results,Tryz.results14,go_sem,u0,u1,u2,u3,u4,u5,u6,wM.out]) rfl ?_
    rw[BQ.out]
    exact⟨.slice A2 n2 c2,vo,.slice Ad k cd,rfl,hbl,⟨E2,hos,HE2.out.trans VF.out.symm⟩,⟨P,hps,hpe⟩,Cy⟩
  ·go_region_held3 (fun w'=>w'.cell? ⟨b,5,none⟩=some (.int .i64 af.st)∧w'.cell? ⟨b,6,none⟩=some (.int .i64 af.id)∧w'.cell? ⟨b,7,none⟩=some (.int .i64 af.req)∧w'.cell? ⟨b,8,none⟩=some (.slice A2 n2 c2)∧w'.cell? ⟨b,9,none⟩=some (.int .i64 af.cnt)∧w'.cell? ⟨b,10,none⟩=some (.int .i64 af.ay)∧w'.cell? ⟨b,11,none⟩=some (.int .i64 af.au)∧w'.cell? ⟨b,20,none⟩=some vo) (first|(go_keep;done)|(go_simp;done)|(simp[go_sem];done)) (fail)
   all_goals
    obtain⟨Wf,hWf⟩: ∃Wf:World,Wf=((((((((wr.setCell ⟨w.heap.size+1+1+1+1,0,none⟩ (.int .i64 af.st)).setCell ⟨w.heap.size+1+1+1+1,1,none⟩ (.int .i64 af.id)).setCell ⟨w.heap.size+1+1+1+1,2,none⟩ (.int .i64 af.req)).setCell ⟨w.heap.size+1+1+1+1,3,none⟩ (.slice A2 n2 c2)).setCell ⟨w.heap.size+1+1+1+1,4,none⟩ (.int .i64 af.cnt)).setCell ⟨w.heap.size+1+1+1+1,5,none⟩ (.int .i64 af.ay)).setCell ⟨w.heap.size+1+1+1+1,6,none⟩ (.int .i64 af.au))).drew:=⟨_,rfl⟩
    rw[←hWf]
    have hrow:Wf.heap[w.heap.size+1+1+1+1]? =some (.cells #[.int .i64 af.st,.int .i64 af.id,.int .i64 af.req,.slice A2 n2 c2,.int .i64 af.cnt,.int .i64 af.ay,.int .i64 af.au] 29 (0,0)):=by rw[hWf,dR];exact gF o9.out rfl _ _ _ _ _ _ _
    have hgr:(wr).grownBy Wf (some (w.heap.size+1+1+1+1)):=by rw[hWf];exact grn
    have hb2:Below W2.heap.size W2 (wr):=dO.out.trans (tu.out.mono hbz)
    have hbl:Below w.heap.size w Wf:=Below.grown (aQ.out.trans (hb2.mono hszW)) hgr (aaF hszW hb2.size) (fun k hk=>by cases hk;omega)
    have hos:=(HOW.out.below hb2).other hgr o9.out (by decide) (by decide)
    obtain⟨P,hp,hpe⟩:=vU.out.ot
    have hps:=(hp.stays hgr (fun r e=>by cases e;omega)).base (b':=w.heap.size) (by omega)
    have Cy:aU Wf w.heap.size (.slice Ad k cd) acts:=by
     have h1:(wr).ownsRow W2.heap.size 104 1 (.slice Ad k cd) k (acts.map av):=dx zD.out fun k hk=>tu.out.block k (VA.out k hk)
     have h2:=aK (base':=w.heap.size) (aW h1 hgr fun r e=>by cases e;exact .inr (.inr ⟨_,_,o9.out,by decide⟩)) hszW
     unfold aU
     rw[wM.out]
     exact h2
    clear hWf a5 a6 a7 a8 a9 TF TG a20 z0 z1 z2 z3 z4 z5 z6 f0 f1 f2 f3 f4 f5 f6
    obtain⟨u0,u1,u2,u3,u4,u5,u6⟩:=aG hrow
    go_wp2_with fail
    refine bodyPost_ret (v:=.tuple #[.agg #[.int .i64 af.st,.int .i64 af.id,.int .i64 af.req,.slice A2 n2 c2,.int .i64 af.cnt,.int .i64 af.ay,.int .i64 af.au],vo,.slice Ad k cd]) (by simp[results,Tryz.results14,go_sem,u0,u1,u2,u3,u4,u5,u6,wM.out]) rfl ?_
    rw[BQ.out]
    exact⟨.slice A2 n2 c2,vo,.slice Ad k cd,rfl,hbl,⟨E2,hos,HE2.out.trans VF.out.symm⟩,⟨P,hps,hpe⟩,Cy⟩
theorem yC (Ar Aa Ai An:Option Addr) (nr cr na ca ni ci nn cn:Nat) (R:List Rl) (mc mt mf wt st id req cnt ay au e ic ii ac ai tick:Int) (E:List aH) (li ln:List UInt8) (w:World) (B:Nat) (hB:B≤w.heap.size)
  (hR:aD w B Ar R) (hnr:nr=R.length) (hlr:nr≤1000000) (hE:aJ w B Aa E) (hna:na=E.length) (hla:na≤1000000) (hda: ∀e∈E,e.d.length≤400000000)
  (hI:At w B Ai (li.map bv)) (hni:ni=li.length) (hci:ni≤ci) (iF:ni≤400000000) (hN:At w B An (ln.map bv)) (hnn:nn=ln.length) (hcn:nn≤cn) (hln:nn≤400000000):
  Calls Tryz.prog 14 #[.agg #[.slice Ar nr cr,.int .i64 mc,.int .i64 mt,.int .i64 mf,.int .i64 wt],.agg #[.int .i64 st,.int .i64 id,.int .i64 req,.slice Aa na ca,.int .i64 cnt,.int .i64 ay,.int .i64 au],.int .i64 e,.agg #[.int .i64 ic,.int .i64 ii,.slice Ai ni ci],.agg #[.int .i64 ac,.int .i64 ai,.slice An nn cn],.int .i64 tick] w (U8 (jo ⟨R,mc,mt,mf,wt⟩ ⟨st,id,req,E.map aH.o,cnt,ay,au⟩ e ⟨ic,ii,li⟩ ⟨ac,ai,ln⟩ tick) w):=by
 by_cases h0:Fs.bP st e=0
 ·cases hf:dn ⟨R,mc,mt,mf,wt⟩ ⟨st,id,req,E.map aH.o,cnt,ay,au⟩ tick
  ·exact Pg Ar Aa Ai An nr cr na ca ni ci nn cn R mc mt mf wt st id req cnt ay au e ic ii ac ai tick E li ln w B hB hR hnr hlr hE hna hla hda hI hni hci iF hN hnn hcn hln (.inl hf)
  ·exact TL Ar Aa Ai An nr cr na ca ni ci nn cn R mc mt mf wt st id req cnt ay au e ic ii ac ai tick E li ln w B hB hR hnr hlr hE hna hla hda hI hni hci iF hN hnn hcn hln hf h0
 ·exact Pg Ar Aa Ai An nr cr na ca ni ci nn cn R mc mt mf wt st id req cnt ay au e ic ii ac ai tick E li ln w B hB hR hnr hlr hE hna hla hda hI hni hci iF hN hnn hcn hln (.inr h0)
section
variable {P:Program} {c:Code} {Q:Exit→Act→World→Prop} {a:Act} {w:World} {c0 c1 c2 c3 c4 c5:Array Value} {T0 T1 T2 T3 T4 T5:TypeId}
theorem fE (h: ∀W:World,W.heap[w.heap.size]? =some (.cells c0 T0 (0,0))∧W.heap[w.heap.size+1]? =some (.cells c1 T1 (0,0))∧W.heap[w.heap.size+1+1]? =some (.cells c2 T2 (0,0))∧W.heap[w.heap.size+1+1+1]? =some (.cells c3 T3 (0,0))∧Below w.heap.size w W→c.wp P Q a W):
  c.wp P Q a ((((w.alloc (.cells c0 T0)).alloc (.cells c1 T1)).alloc (.cells c2 T2)).alloc (.cells c3 T3)):=
 h _ ⟨by exact hpa,by exact hpa,by exact hpa,by exact hpa,by exact aA⟩
theorem jC (h: ∀W:World,W.heap[w.heap.size]? =some (.cells c0 T0 (0,0))∧W.heap[w.heap.size+1]? =some (.cells c1 T1 (0,0))∧W.heap[w.heap.size+1+1]? =some (.cells c2 T2 (0,0))∧W.heap[w.heap.size+1+1+1]? =some (.cells c3 T3 (0,0))∧W.heap[w.heap.size+1+1+1+1]? =some (.cells c4 T4 (0,0))∧W.heap[w.heap.size+1+1+1+1+1]? =some (.cells c5 T5 (0,0))∧Below w.heap.size w W→c.wp P Q a W):
  c.wp P Q a ((((((w.alloc (.cells c0 T0)).alloc (.cells c1 T1)).alloc (.cells c2 T2)).alloc (.cells c3 T3)).alloc (.cells c4 T4)).alloc (.cells c5 T5)):=
 h _ ⟨by exact hpa,by exact hpa,by exact hpa,by exact hpa,by exact hpa,by exact hpa,by exact aA⟩
end
theorem bG {W:World} {X6 X7 X8 nG:Nat} {p0 p1 p2 p3 p4 q0 q1 q2 q3 q4 q5 q6 r0 r1 r2 z0 z1 z2 z3 z4 z5 z6:Value} {T6 T7 T8 YS:TypeId} (h6:W.heap[X6]? =some (.cells #[p0,p1,p2,p3,p4] T6 (0,0))) (h7:W.heap[X7]? =some (.cells #[q0,q1,q2,q3,q4,q5,q6] T7 (0,0))) (h8:W.heap[X8]? =some (.cells #[r0,r1,r2] T8 (0,0))) (h12:W.heap[nG]? =some (.cells #[z0,z1,z2,z3,z4,z5,z6] YS (0,0))):
  (X6<W.heap.size∧X7<W.heap.size∧X8<W.heap.size∧nG<W.heap.size)∧(W.cell? ⟨X6,0,none⟩=some p0∧W.cell? ⟨X6,1,none⟩=some p1∧W.cell? ⟨X6,2,none⟩=some p2∧W.cell? ⟨X6,3,none⟩=some p3∧W.cell? ⟨X6,4,none⟩=some p4)∧(W.cell? ⟨X7,0,none⟩=some q0∧W.cell? ⟨X7,1,none⟩=some q1∧W.cell? ⟨X7,2,none⟩=some q2∧W.cell? ⟨X7,3,none⟩=some q3∧W.cell? ⟨X7,4,none⟩=some q4∧W.cell? ⟨X7,5,none⟩=some q5∧W.cell? ⟨X7,6,none⟩=some q6)∧(W.cell? ⟨X8,0,none⟩=some r0∧W.cell? ⟨X8,1,none⟩=some r1∧W.cell? ⟨X8,2,none⟩=some r2)∧(W.cell? ⟨nG,0,none⟩=some z0∧W.cell? ⟨nG,1,none⟩=some z1∧W.cell? ⟨nG,2,none⟩=some z2∧W.cell? ⟨nG,3,none⟩=some z3∧W.cell? ⟨nG,4,none⟩=some z4∧W.cell? ⟨nG,5,none⟩=some z5∧W.cell? ⟨nG,6,none⟩=some z6)∧(W.frozen? ⟨nG,0,none⟩=false∧W.frozen? ⟨nG,1,none⟩=false∧W.frozen? ⟨nG,2,none⟩=false∧W.frozen? ⟨nG,3,none⟩=false∧W.frozen? ⟨nG,4,none⟩=false∧W.frozen? ⟨nG,5,none⟩=false∧W.frozen? ⟨nG,6,none⟩=false)∧W.frozen? ⟨X7,3,none⟩=false:=
 ⟨⟨aj h6,aj h7,aj h8,aj h12⟩,cells5 h6,aG h7,cells3 h8,aG h12,⟨frees h12 0,frees h12 1,frees h12 2,frees h12 3,frees h12 4,frees h12 5,frees h12 6⟩,frees h7 3⟩
theorem dN {W:World} {X7 X8 nG BI Wo:Nat} {q0 q1 q2 q3 q4 q5 q6 r0 r1 r2 s0 s1 s2 m0 m1 m2 m3 m4 m5 m6 z0 z1 z2:Value} {T7 T8 YS T13 T15:TypeId} (h7:W.heap[X7]? =some (.cells #[q0,q1,q2,q3,q4,q5,q6] T7 (0,0))) (h8:W.heap[X8]? =some (.cells #[r0,r1,r2] T8 (0,0))) (h12:W.heap[nG]? =some (.cells #[s0,s1,s2] YS (0,0))) (bR:W.heap[BI]? =some (.cells #[m0,m1,m2,m3,m4,m5,m6] T13 (0,0))) (iq:W.heap[Wo]? =some (.cells #[z0,z1,z2] T15 (0,0))):
  (X7<W.heap.size∧X8<W.heap.size∧nG<W.heap.size∧BI<W.heap.size∧Wo<W.heap.size)∧(W.cell? ⟨X7,0,none⟩=some q0∧W.cell? ⟨X7,1,none⟩=some q1∧W.cell? ⟨X7,2,none⟩=some q2∧W.cell? ⟨X7,3,none⟩=some q3∧W.cell? ⟨X7,4,none⟩=some q4∧W.cell? ⟨X7,5,none⟩=some q5∧W.cell? ⟨X7,6,none⟩=some q6)∧(W.cell? ⟨X8,0,none⟩=some r0∧W.cell? ⟨X8,1,none⟩=some r1∧W.cell? ⟨X8,2,none⟩=some r2)∧(W.cell? ⟨Wo,0,none⟩=some z0∧W.cell? ⟨Wo,1,none⟩=some z1∧W.cell? ⟨Wo,2,none⟩=some z2)∧(W.cell? ⟨nG,0,none⟩=some s0∧W.cell? ⟨nG,1,none⟩=some s1∧W.cell? ⟨nG,2,none⟩=some s2)∧(W.cell? ⟨BI,0,none⟩=some m0∧W.cell? ⟨BI,1,none⟩=some m1∧W.cell? ⟨BI,2,none⟩=some m2∧W.cell? ⟨BI,3,none⟩=some m3∧W.cell? ⟨BI,4,none⟩=some m4∧W.cell? ⟨BI,5,none⟩=some m5∧W.cell? ⟨BI,6,none⟩=some m6)∧(W.frozen? ⟨nG,0,none⟩=false∧W.frozen? ⟨nG,1,none⟩=false∧W.frozen? ⟨nG,2,none⟩=false)∧(W.frozen? ⟨BI,0,none⟩=false∧W.frozen? ⟨BI,1,none⟩=false∧W.frozen? ⟨BI,2,none⟩=false∧W.frozen? ⟨BI,3,none⟩=false∧W.frozen? ⟨BI,4,none⟩=false∧W.frozen? ⟨BI,5,none⟩=false∧W.frozen? ⟨BI,6,none⟩=false)∧W.frozen? ⟨X7,3,none⟩=false:=
 ⟨⟨aj h7,aj h8,aj h12,aj bR,aj iq⟩,aG h7,cells3 h8,cells3 iq,cells3 h12,aG bR,⟨frees h12 0,frees h12 1,frees h12 2⟩,⟨frees bR 0,frees bR 1,frees bR 2,frees bR 3,frees bR 4,frees bR 5,frees bR 6⟩,frees h7 3⟩
theorem jX {W w1:World} {X7 X8 nG:Nat} {q2 q3 r0 r1 r2 z0 z1 z2:Value} {T:TypeId} (hb:Below W.heap.size W w1) (l7:X7<W.heap.size) (l8:X8<W.heap.size) (bn:nG<W.heap.size) (h2:W.cell? ⟨X7,2,none⟩=some q2) (h3:W.cell? ⟨X7,3,none⟩=some q3) (e0:W.cell? ⟨X8,0,none⟩=some r0) (e1:W.cell? ⟨X8,1,none⟩=some r1) (e2:W.cell? ⟨X8,2,none⟩=some r2) (h12:W.heap[nG]? =some (.cells #[z0,z1,z2] T (0,0))):
  (X7<w1.heap.size∧X8<w1.heap.size∧nG<w1.heap.size)∧(w1.cell? ⟨X7,2,none⟩=some q2∧w1.cell? ⟨X7,3,none⟩=some q3)∧(w1.cell? ⟨X8,0,none⟩=some r0∧w1.cell? ⟨X8,1,none⟩=some r1∧w1.cell? ⟨X8,2,none⟩=some r2)∧(w1.cell? ⟨nG,0,none⟩=some z0∧w1.cell? ⟨nG,1,none⟩=some z1∧w1.cell? ⟨nG,2,none⟩=some z2)∧(w1.frozen? ⟨nG,0,none⟩=false∧w1.frozen? ⟨nG,1,none⟩=false∧w1.frozen? ⟨nG,2,none⟩=false):=by
 have hs:=hb.size
 have h:=(hb.block _ bn).trans h12
 exact⟨⟨by omega,by omega,by omega⟩,⟨(hb.cell (p:=⟨X7,2,none⟩) l7).trans h2,(hb.cell (p:=⟨X7,3,none⟩) l7).trans h3⟩,⟨(hb.cell (p:=⟨X8,0,none⟩) l8).trans e0,(hb.cell (p:=⟨X8,1,none⟩) l8).trans e1,(hb.cell (p:=⟨X8,2,none⟩) l8).trans e2⟩,cells3 h,⟨frees h 0,frees h 1,frees h 2⟩⟩
end Go.Proofs.YtfkgmbknfnhjoaaGreat
