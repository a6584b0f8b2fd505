/- PI -/
import Derived.Test.YtfkgmbknfnhjoaaGreatSPH
import Derived.Test.YtfkgmbknfnhjoaaGreatSZ40
set_option linter.all false
set_option linter.ambiguousOpen false
set_option maxHeartbeats 16000000
namespace Go.Proofs.YtfkgmbknfnhjoaaGreat
open Lib (hid)
open Go.RowKit
open Ne (Rl bF aD bM)
open Fs (av hasB)
def fG (w:World) (base:Nat) (v:Value) (out:List Pk):Prop:= ∃P:List Pe,w.ownsRow base 32 3 v P.length (eX P)∧(∀e∈P,At w w.heap.size e.a (e.d.map bv)∧e.d.length≤e.c)∧P.map Pe.o=out
theorem fG.nil (w:World) (b:Nat):fG w b (.slice none 0 0) []:=⟨[],aN _ _ _ _,(fun _ h=>by cases h),rfl⟩
theorem fG.v {w:World} {base:Nat} {v:Value} {out:List Pk} (h:fG w base v out):sU w w.heap.size v out:=by
 obtain⟨P,h1,h2,h3⟩:=h
 obtain⟨A,c,rfl,hc,-⟩:=ownsRow_form h1
 exact⟨A,_,c,P,rfl,⟨At.bq h1,h2⟩,rfl,hc,h3⟩
theorem fG.base {w:World} {b b':Nat} {v:Value} {out:List Pk} (h:fG w b v out) (hb:b'≤b):fG w b' v out:=by
 obtain⟨P,h1,h2,h3⟩:=h
 exact⟨P,aK h1 hb,h2,h3⟩
theorem fG.below {w w':World} {b:Nat} {v:Value} {out:List Pk} (h:fG w b v out) (hb:Below w.heap.size w w'):fG w' b v out:=by
 obtain⟨P,h1,h2,h3⟩:=h
 exact⟨P,own_below h1 hb,fun e he=>⟨((h2 e he).1.keep hb).more hb.size,(h2 e he).2⟩,h3⟩
theorem At.Xf {A C:World} {B X:Nat} {p:Option Addr} {l:List UInt8} {cur:Array Value} {e':TypeId} (h:At A B p (l.map bv)) (hg:A.grownBy C (some X)) (hX:A.heap[X]? =some (.cells cur e' (0,0))) (hc: ∀(i:Nat) (x:UInt8),cur[i]?≠some (bv x)) (hB:B≤A.heap.size):At C B p (l.map bv):=by
 cases l with
 |nil=>exact At.nil _ _ _
 |cons x l=>
  refine h.off hg (fun g o e he=>?_) hB
  subst e
  obtain⟨b,o',e2,_,hcc⟩:=h.get (by simp)
  cases e2
  have h1:=hcc 0 (bv x) rfl
  subst he
  rw[cell_of_row A g _ _ _ _ hX] at h1
  exact hc _ _ h1
theorem fG.other {A C:World} {base X:Nat} {v:Value} {out:List Pk} {cur:Array Value} {e':TypeId} (h:fG A base v out) (hg:A.grownBy C (some X)) (hX:A.heap[X]? =some (.cells cur e' (0,0))) (hc: ∀(i:Nat) (x:UInt8),cur[i]?≠some (bv x)) (h1:e'≠32):fG C base v out:=by
 obtain⟨P,ho,h2,h3⟩:=h
 exact⟨P,aW ho hg fun r e=>by cases e;exact .inr (.inr ⟨_,_,hX,h1⟩),fun e he=>⟨((h2 e he).1.Xf hg hX hc (aaE _)).more hg.size,(h2 e he).2⟩,h3⟩
theorem f_ (a b c d e f:Int) (A:Option Addr) (n m:Nat) (i:Nat) (x:UInt8):(#[.int .i64 a,.int .i64 b,.int .i64 c,.slice A n m,.int .i64 d,.int .i64 e,.int .i64 f]:Array Value)[i]?≠some (bv x):=by
 match i with
 |0|1|2|3|4|5|6=>intro h;cases h
 |n+7=>intro h;cases h
theorem bS.r {A:World} {base:Nat} {v:Value} {P:List Pe} {out:List Pk} (h:bS A base v P) (hp:P.map Pe.o=out) (hB:base≤A.heap.size):fG A base v out:=by
 refine⟨P,h.1,fun e he=>?_,hp⟩
 rcases h.2 e he with⟨ha,hl⟩|ho
 ·exact⟨ha.more hB,hl⟩
 ·obtain⟨A',c',hv,hcc,-⟩:=ownsRow_form ho
  unfold Pe.v at ho hv
  cases hv
  exact⟨At.bq ho,hcc⟩
def zT (r:Au×List Pk×List Int) (va:Value) (w:World) (x:Ending) (w':World):Prop:=
 ∃vo vd,x=.returned (.tuple #[vV r.1 va,vo,vd])∧Below w.heap.size w w'∧fG w' w.heap.size vo r.2.1∧aU w' w.heap.size vd r.2.2
set_option maxRecDepth 100000 in
theorem I_ (Ar Aa Ai An:Option Addr) (nr cr na ca ni ci nn cn:Nat) (R:List Rl) (mc mt mf wt st id req cnt ay au e ic ii ac ai tick:Int) (E:List aH) (li ln:List UInt8) (w:World) (B:Nat) (hB:B≤w.heap.size) (hR:aD w B Ar R) (hnr:nr=R.length) (hlr:nr≤1000000) (hE:aJ w B Aa E) (hna:na=E.length) (hI:At w B Ai (li.map bv)) (hni:ni=li.length) (hci:ni≤ci) (iF:ni≤400000000) (hN:At w B An (ln.map bv)) (hnn:nn=ln.length) (hcn:nn≤cn) (hln:nn≤400000000) (hno:dn ⟨R,mc,mt,mf,wt⟩ ⟨st,id,req,E.map aH.o,cnt,ay,au⟩ tick=false∨Fs.bP st e≠0):Calls Tryz.prog 15 #[.agg #[.slice Ar nr cr,.int .i64 mc,.int .i64 mt,.int .i64 mf,.int .i64 wt],.agg #[.int .i64 st,.int .i64 id,.int .i64 req,.slice Aa na ca,.int .i64 cnt,.int .i64 ay,.int .i64 au],.int .i64 e,.agg #[.int .i64 ic,.int .i64 ii,.slice Ai ni ci],.agg #[.int .i64 ac,.int .i64 ai,.slice An nn cn],.int .i64 tick] w (zT (jo ⟨R,mc,mt,mf,wt⟩ ⟨st,id,req,E.map aH.o,cnt,ay,au⟩ e ⟨ic,ii,li⟩ ⟨ac,ai,ln⟩ tick) (.slice Aa na ca) w):=by
 have HB:=hid hB
 have HR:=hid hR
 have gB:=hid hnr
 have HE:=hid hE
 have dz:=hid hna
 have HI:=hid (And.intro hI (And.intro hni hci))
 have HN:=hid (And.intro hN (And.intro hnn hcn))
 obtain⟨L,hL⟩: ∃L,E.map aH.o=L:=⟨_,rfl⟩
 have HL:=hid hL
 rw[hL] at hno
 rw[hL]
 clear hB hR hnr hE hna hI hni hci hN hnn hcn hL
 obtain⟨fb,sw⟩: ∃fb,dn ⟨R,mc,mt,mf,wt⟩ ⟨st,id,req,L,cnt,ay,au⟩ tick=fb:=⟨_,rfl⟩
 have HF:=hid sw
 cases fb
 focus
  have qg:=hid (show jo ⟨R,mc,mt,mf,wt⟩ ⟨st,id,req,L,cnt,ay,au⟩ e ⟨ic,ii,li⟩ ⟨ac,ai,ln⟩ tick=(⟨st,id,req,L,cnt,ay,au⟩,[],[]) by unfold jo;rw[sw];simp)
  rw[qg.out]
  clear sw
 rotate_left
 focus
  obtain⟨er,her⟩: ∃er,Fs.bP st e=er:=⟨_,rfl⟩
  have tC:=hid her
  have h0:er≠0:=by rcases hno with h|h
                   ·rw[sw] at h;cases h
                   ·rwa [her] at h
  have qg:=hid (show jo ⟨R,mc,mt,mf,wt⟩ ⟨st,id,req,L,cnt,ay,au⟩ e ⟨ic,ii,li⟩ ⟨ac,ai,ln⟩ tick=(⟨st,id,req,L,cnt,ay,au⟩,[],[]) by unfold jo;dsimp only;rw[her,if_neg (fun h=>h0 h.2)])
  rw[qg.out]
  have h0':(er !=0)=true:=by simpa using h0
  clear sw her
 rotate_left
 all_goals
  go_enter Tryz.func15,Tryz.ntmps15
  go_upto_region 1 with(fail)
  refine bY (fun W=>W.heap[w.heap.size]? =some (.cells #[.slice Ar nr cr,.int .i64 mc,.int .i64 mt,.int .i64 mf,.int .i64 wt] 24 (0,0))∧W.heap[w.heap.size+1]? =some (.cells #[.int .i64 st,.int .i64 id,.int .i64 req,.slice Aa na ca,.int .i64 cnt,.int .i64 ay,.int .i64 au] 29 (0,0))∧W.heap[w.heap.size+1+1]? =some (.cells #[.int .i64 ic,.int .i64 ii,.slice Ai ni ci] 32 (0,0))∧W.heap[w.heap.size+1+1+1]? =some (.cells #[.int .i64 ac,.int .i64 ai,.slice An nn cn] 32 (0,0))∧W.heap[w.heap.size+1+1+1+1]? =some (.cells #[.int .i64 0,.int .i64 0,.int .i64 0,.slice none 0 0,.int .i64 0,.int .i64 0,.int .i64 0] 29 (0,0))∧Below w.heap.size w W) ⟨by exact hpa,by exact hpa,by exact hpa,by exact hpa,by exact hpa,by exact aA⟩ ?_
  rintro W2 ⟨h6,h7,h9,h10,h12,hbw⟩
  have aQ:=hid hbw
  have H6:=hid h6
  have H7:=hid h7
  have H9:=hid h9
  have za:=hid h10
  have fC:=hid h12
  have hszW:=hbw.size
  have l6:=aj h6
  have l7:=aj h7
  have l9:=aj h9
  have l10:=aj h10
  have bn:=aj h12
  obtain⟨p0,p1,p2,p3,p4⟩:=cells5 h6
  obtain⟨q0,q1,q2,q3,q4,q5,q6⟩:=aG h7
  obtain⟨z0,z1,z2,z3,z4,z5,z6⟩:=aG h12
  have f0:=frees h12 0
  have f1:=frees h12 1
  have f2:=frees h12 2
  have f3:=frees h12 3
  have f4:=frees h12 4
  have f5:=frees h12 5
  have f6:=frees h12 6
  clear h6 h7 h9 h10 h12 hbw
  go_wp2_with fail
  refine(nL Ar nr cr R mc mt mf wt st id req cnt ay au Aa na ca E L HL.out tick _ _ (aaE _) ((HR.out.keep (aQ.out.mono HB.out)).more (by have:=HB.out;omega)) gB.out hlr ((HE.out.keep (aQ.out.mono HB.out)).more (by have:=HB.out;omega)) dz.out).mono ?_
  rw[HF.out]
  rintro x w1 ⟨rfl,hb⟩
  obtain⟨mP,d3,rfl⟩:=aB hb
  clear hb
  go_wp2_with fail
 focus
  obtain⟨Wf,hWf⟩: ∃Wf,Wf=ext (((((((W2.setCell ⟨w.heap.size+1+1+1+1,0,none⟩ (.int .i64 st)).setCell ⟨w.heap.size+1+1+1+1,1,none⟩ (.int .i64 id)).setCell ⟨w.heap.size+1+1+1+1,2,none⟩ (.int .i64 req)).setCell ⟨w.heap.size+1+1+1+1,3,none⟩ (.slice Aa na ca)).setCell ⟨w.heap.size+1+1+1+1,4,none⟩ (.int .i64 cnt)).setCell ⟨w.heap.size+1+1+1+1,5,none⟩ (.int .i64 ay)).setCell ⟨w.heap.size+1+1+1+1,6,none⟩ (.int .i64 au)) mP d3:=⟨_,rfl⟩
  rw[←hWf]
  have hrow:Wf.heap[w.heap.size+1+1+1+1]? =some (.cells #[.int .i64 st,.int .i64 id,.int .i64 req,.slice Aa na ca,.int .i64 cnt,.int .i64 ay,.int .i64 au] 29 (0,0)):=by rw[hWf];exact(aO _ _ _ _ (by simp;exact bn)).trans (gF fC.out rfl _ _ _ _ _ _ _)
 rotate_left
 focus
  refine(Fs.nW st e _).mono ?_
  rw[show Fs.iI st e=fun w x w'=> ∃v,x=.returned (.tuple #[.int .i64 (Fs.aZ e st),v,.int .i64 er])∧Fs.Told w (Fs.aT e st) v w' by unfold Fs.iI;rw[tC.out]]
  rintro x w1 ⟨v,rfl,hb,-⟩
  obtain⟨xO,d4,rfl⟩:=aB hb
  clear hb
  go_wp2_with fail
  obtain⟨Wf,hWf⟩: ∃Wf,Wf=ext (ext (((((((W2.setCell ⟨w.heap.size+1+1+1+1,0,none⟩ (.int .i64 st)).setCell ⟨w.heap.size+1+1+1+1,1,none⟩ (.int .i64 id)).setCell ⟨w.heap.size+1+1+1+1,2,none⟩ (.int .i64 req)).setCell ⟨w.heap.size+1+1+1+1,3,none⟩ (.slice Aa na ca)).setCell ⟨w.heap.size+1+1+1+1,4,none⟩ (.int .i64 cnt)).setCell ⟨w.heap.size+1+1+1+1,5,none⟩ (.int .i64 ay)).setCell ⟨w.heap.size+1+1+1+1,6,none⟩ (.int .i64 au)) mP d3) xO d4:=⟨_,rfl⟩
  rw[←hWf]
  have hrow:Wf.heap[w.heap.size+1+1+1+1]? =some (.cells #[.int .i64 st,.int .i64 id,.int .i64 req,.slice Aa na ca,.int .i64 cnt,.int .i64 ay,.int .i64 au] 29 (0,0)):=by rw[hWf];exact(aO _ _ _ _ (by simp[size_ext,grow];omega)).trans ((aO _ _ _ _ (by simp;exact bn)).trans (gF fC.out rfl _ _ _ _ _ _ _))
 rotate_left
 all_goals
  have hgr:W2.grownBy Wf (some (w.heap.size+1+1+1+1)):=by rw[hWf];exact grn
  have hbl:Below w.heap.size w Wf:=Below.grown aQ.out hgr aQ.out.size (fun k hk=>by cases hk;omega)
  clear hWf p0 p1 p2 p3 p4 q0 q1 q2 q3 q4 q5 q6 z0 z1 z2 z3 z4 z5 z6 f0 f1 f2 f3 f4 f5 f6
  obtain⟨u0,u1,u2,u3,u4,u5,u6⟩:=aG hrow
  refine bodyPost_ret (v:=.tuple #[.agg #[.int .i64 st,.int .i64 id,.int .i64 req,.slice Aa na ca,.int .i64 cnt,.int .i64 ay,.int .i64 au],.slice none 0 0,.slice none 0 0]) (by simp[results,Tryz.results15,go_sem,u0,u1,u2,u3,u4,u5,u6]) rfl ?_
  exact⟨.slice none 0 0,.slice none 0 0,rfl,hbl,fG.nil _ _,aU.nil _ _⟩
set_option maxRecDepth 100000 in
theorem Ol (Ar Aa Ai An:Option Addr) (nr cr na ca ni ci nn cn:Nat) (R:List Rl) (mc mt mf wt st id req cnt ay au e ic ii ac ai tick:Int) (E:List aH) (li ln:List UInt8) (w:World) (B:Nat) (hB:B≤w.heap.size) (hR:aD w B Ar R) (hnr:nr=R.length) (hlr:nr≤1000000) (hE:aJ w B Aa E) (hna:na=E.length) (hI:At w B Ai (li.map bv)) (hni:ni=li.length) (hci:ni≤ci) (iF:ni≤400000000) (hN:At w B An (ln.map bv)) (hnn:nn=ln.length) (hcn:nn≤cn) (hln:nn≤400000000) (hf:dn ⟨R,mc,mt,mf,wt⟩ ⟨st,id,req,E.map aH.o,cnt,ay,au⟩ tick=true) (h0:Fs.bP st e=0):Calls Tryz.prog 15 #[.agg #[.slice Ar nr cr,.int .i64 mc,.int .i64 mt,.int .i64 mf,.int .i64 wt],.agg #[.int .i64 st,.int .i64 id,.int .i64 req,.slice Aa na ca,.int .i64 cnt,.int .i64 ay,.int .i64 au],.int .i64 e,.agg #[.int .i64 ic,.int .i64 ii,.slice Ai ni ci],.agg #[.int .i64 ac,.int .i64 ai,.slice An nn cn],.int .i64 tick] w (zT (jo ⟨R,mc,mt,mf,wt⟩ ⟨st,id,req,E.map aH.o,cnt,ay,au⟩ e ⟨ic,ii,li⟩ ⟨ac,ai,ln⟩ tick) (.slice Aa na ca) w):=by
 have HB:=hid hB
 have HR:=hid hR
 have gB:=hid hnr
 have HE:=hid hE
 have dz:=hid hna
 have HI:=hid (And.intro hI (And.intro hni hci))
 have HN:=hid (And.intro hN (And.intro hnn hcn))
 obtain⟨L,hL⟩: ∃L,E.map aH.o=L:=⟨_,rfl⟩
 have HL:=hid hL
 rw[hL] at hf
 rw[hL]
 clear hB hR hnr hE hna hI hni hci hN hnn hcn hL
 have HF:=hid hf
 have tC:=hid h0
 have jU:=hid (gN.yO hf)
 have qg:=hid (show jo ⟨R,mc,mt,mf,wt⟩ ⟨st,id,req,L,cnt,ay,au⟩ e ⟨ic,ii,li⟩ ⟨ac,ai,ln⟩ tick=(if Fs.iw (Fs.aZ e st)=true then(fO ⟨R,mc,mt,mf,wt⟩ ⟨ic,ii,li⟩ ⟨ac,ai,ln⟩ tick (Fs.aT e st) (⟨Fs.aZ e st,id,req,L,cnt,ay,au⟩,[]) (Fs.aT e st)).1
   else {(fO ⟨R,mc,mt,mf,wt⟩ ⟨ic,ii,li⟩ ⟨ac,ai,ln⟩ tick (Fs.aT e st) (⟨Fs.aZ e st,id,req,L,cnt,ay,au⟩,[]) (Fs.aT e st)).1 with ay:=0},
   (fO ⟨R,mc,mt,mf,wt⟩ ⟨ic,ii,li⟩ ⟨ac,ai,ln⟩ tick (Fs.aT e st) (⟨Fs.aZ e st,id,req,L,cnt,ay,au⟩,[]) (Fs.aT e st)).2,Fs.aT e st) from by unfold jo;rw[if_pos ⟨hf,h0⟩])
 have qc:=hid (Fs.mK e st)
 have V3:=hid (show Fs.iI st e=fun w x w'=> ∃v,x=.returned (.tuple #[.int .i64 (Fs.aZ e st),v,.int .i64 0])∧Fs.Told w (Fs.aT e st) v w' by unfold Fs.iI;rw[h0])
 clear hf h0
 obtain⟨r,hr⟩: ∃r,jo ⟨R,mc,mt,mf,wt⟩ ⟨st,id,req,L,cnt,ay,au⟩ e ⟨ic,ii,li⟩ ⟨ac,ai,ln⟩ tick=r:=⟨_,rfl⟩
 rw[hr] at qg
 rw[hr]
 clear hr
 obtain⟨nx,hnx⟩: ∃nx,Fs.aZ e st=nx:=⟨_,rfl⟩
 obtain⟨acts,qA⟩: ∃acts,Fs.aT e st=acts:=⟨_,rfl⟩
 rw[hnx,qA] at V3
 rw[qA] at qc
 rw[hnx,qA] at qg
 clear hnx qA
 go_enter Tryz.func15,Tryz.ntmps15
 go_upto_region 1 with(fail)
 refine bY (fun W=>W.heap[w.heap.size]? =some (.cells #[.slice Ar nr cr,.int .i64 mc,.int .i64 mt,.int .i64 mf,.int .i64 wt] 24 (0,0))∧W.heap[w.heap.size+1]? =some (.cells #[.int .i64 st,.int .i64 id,.int .i64 req,.slice Aa na ca,.int .i64 cnt,.int .i64 ay,.int .i64 au] 29 (0,0))∧W.heap[w.heap.size+1+1]? =some (.cells #[.int .i64 ic,.int .i64 ii,.slice Ai ni ci] 32 (0,0))∧W.heap[w.heap.size+1+1+1]? =some (.cells #[.int .i64 ac,.int .i64 ai,.slice An nn cn] 32 (0,0))∧W.heap[w.heap.size+1+1+1+1]? =some (.cells #[.int .i64 0,.int .i64 0,.int .i64 0,.slice none 0 0,.int .i64 0,.int .i64 0,.int .i64 0] 29 (0,0))∧Below w.heap.size w W) ⟨by exact hpa,by exact hpa,by exact hpa,by exact hpa,by exact hpa,by exact aA⟩ ?_
 rintro W2 ⟨h6,h7,h9,h10,h12,hbw⟩
 have aQ:=hid hbw
 have H6:=hid h6
 have H7:=hid h7
 have H9:=hid h9
 have za:=hid h10
 have fC:=hid h12
 have hszW:=hbw.size
 have l6:=aj h6
 have l7:=aj h7
 have l9:=aj h9
 have l10:=aj h10
 have bn:=aj h12
 obtain⟨p0,p1,p2,p3,p4⟩:=cells5 h6
 obtain⟨q0,q1,q2,q3,q4,q5,q6⟩:=aG h7
 obtain⟨z0,z1,z2,z3,z4,z5,z6⟩:=aG h12
 have f0:=frees h12 0
 have f1:=frees h12 1
 have f2:=frees h12 2
 have f3:=frees h12 3
 have f4:=frees h12 4
 have f5:=frees h12 5
 have f6:=frees h12 6
 clear h6 h7 h9 h10 h12 hbw
 go_wp2_with fail
 refine(nL Ar nr cr R mc mt mf wt st id req cnt ay au Aa na ca E L HL.out tick _ _ (aaE _) ((HR.out.keep (aQ.out.mono HB.out)).more (by have:=HB.out;omega)) gB.out hlr ((HE.out.keep (aQ.out.mono HB.out)).more (by have:=HB.out;omega)) dz.out).mono ?_
 rw[HF.out]
 rintro x w1 ⟨rfl,hb⟩
 obtain⟨mP,d3,rfl⟩:=aB hb
 clear hb
 go_wp2_with fail
 refine(Fs.nW st e _).mono ?_
 rw[V3.out]
 rintro x w1 ⟨v,rfl,hb,vR⟩
 obtain⟨Ad,cd,rfl,hcd,-⟩:=ownsRow_form vR
 obtain⟨xO,d4,rfl⟩:=aB hb
 have qR:=hid vR
 have Yq:=hid hcd
 clear hb vR hcd
 obtain⟨nd,hnd⟩: ∃nd,acts.length=nd:=⟨_,rfl⟩
 have wM:=hid hnd
 rw[hnd] at qR
 clear hnd
 rw[wM.out]
 go_upto_region 8 with(fail)
 obtain⟨b,hb⟩: ∃b,b=grow (grow W2.heap.size mP) xO:=⟨_,rfl⟩
 rw[←hb]
 have hb4:(ext (ext W2 mP d3) xO d4).heap.size=b:=by rw[hb];simp[size_ext]
 have hbz:W2.heap.size≤b:=by rw[hb];simp[grow];omega
 refine bY (fun W=>RB W b (.slice Ar nr cr) mc mt mf wt nx id req (.slice Aa na ca) cnt ay au (.slice none 0 0)∧Below W2.heap.size W2 W∧W.ownsRow W2.heap.size 104 1 (.slice Ad nd cd) nd (acts.map av)∧At W b Ad (acts.map av)) ?_ ?_
 ·have hbl:Below W2.heap.size W2 (ext (ext W2 mP d3) xO d4):=by exact aA
  refine⟨?_,?_,?_,?_⟩
  ·show(World.alloc _ _).heap[b]? =_
   rw[←hb4]
   exact heap_alloc_new _ _
  ·exact aA
  ·exact own_below (aK qR.out (by first|(simp[size_ext,grow];done)|(simp[size_ext,grow];omega))) (by rw[hb4];exact aA)
  ·have h:=(At.bq qR.out)
   rw[hb4] at h
   exact h.keep (by exact aA)
 rintro W5 ⟨sW,hb5,WG,hd5⟩
 have VA:=hid (show∀g,(Value.slice Ad nd cd).ownBlock=some g→g<b from fun g e=>by have:=eY qR.out e;rwa [hb4] at this)
 have VZ:=hid sW
 have dO:=hid hb5
 have zD:=hid WG
 have qd:=hid (show lG W5 b (.slice Ad nd cd) acts from ⟨Ad,nd,cd,rfl,hd5,wM.out.symm,by have:=Yq.out;have:=wM.out;omega⟩)
 have uj:=hid ((hb5.block _ bn).trans fC.out)
 have hsz5:=hb5.size
 have Zj:b<W5.heap.size:=sW.lt
 have hxb:w.heap.size+1+1+1+1<b:=by omega
 have Yy:=hid (show At W5 b Ai (li.map bv) from(HI.out.1.keep ((aQ.out.trans (hb5.mono hszW)).mono HB.out)).more (by have:=HB.out;omega))
 have zN:=hid (show At W5 b An (ln.map bv) from(HN.out.1.keep ((aQ.out.trans (hb5.mono hszW)).mono HB.out)).more (by have:=HB.out;omega))
 have zl:=hid (show aJ W5 b Aa E from(HE.out.keep ((aQ.out.trans (hb5.mono hszW)).mono HB.out)).more (by have:=HB.out;omega))
 have H9':=hid ((hb5.block _ l9).trans H9.out)
 have BN:=hid ((hb5.block _ l10).trans za.out)
 clear sW hb5 WG hd5 p0 p1 p2 p3 p4 q0 q1 q2 q3 q4 q5 q6 z0 z1 z2 z3 z4 z5 z6 f0 f1 f2 f3 f4 f5 f6 hb hb4
 have kN:nd≤3:=by have:=qc.out;have:=wM.out;omega
 go_wp2_with fail
 go_loopw [19] (fun i wr=> ∃(k:Nat) (vo:Value) (P:List Pe),k≤nd∧i=.int .i64 k∧RB wr b (.slice Ar nr cr) mc mt mf wt (fO ⟨R,mc,mt,mf,wt⟩ ⟨ic,ii,li⟩ ⟨ac,ai,ln⟩ tick acts (⟨nx,id,req,L,cnt,ay,au⟩,[]) (acts.take k)).1.st (fO ⟨R,mc,mt,mf,wt⟩ ⟨ic,ii,li⟩ ⟨ac,ai,ln⟩ tick acts (⟨nx,id,req,L,cnt,ay,au⟩,[]) (acts.take k)).1.id (fO ⟨R,mc,mt,mf,wt⟩ ⟨ic,ii,li⟩ ⟨ac,ai,ln⟩ tick acts (⟨nx,id,req,L,cnt,ay,au⟩,[]) (acts.take k)).1.req (.slice Aa na ca) (fO ⟨R,mc,mt,mf,wt⟩ ⟨ic,ii,li⟩ ⟨ac,ai,ln⟩ tick acts (⟨nx,id,req,L,cnt,ay,au⟩,[]) (acts.take k)).1.cnt (fO ⟨R,mc,mt,mf,wt⟩ ⟨ic,ii,li⟩ ⟨ac,ai,ln⟩ tick acts (⟨nx,id,req,L,cnt,ay,au⟩,[]) (acts.take k)).1.ay (fO ⟨R,mc,mt,mf,wt⟩ ⟨ic,ii,li⟩ ⟨ac,ai,ln⟩ tick acts (⟨nx,id,req,L,cnt,ay,au⟩,[]) (acts.take k)).1.au vo∧bS wr b vo P∧P.map Pe.o=(fO ⟨R,mc,mt,mf,wt⟩ ⟨ic,ii,li⟩ ⟨ac,ai,ln⟩ tick acts (⟨nx,id,req,L,cnt,ay,au⟩,[]) (acts.take k)).2∧Below b W5 wr) (fun i _=>nd-(intOf i).toNat)
 case atStart=>exact⟨0,_,[],Nat.zero_le _,rfl,VZ.out,bS.nil _ _,rfl,Below.refl _ _⟩
 case round=>
  obtain⟨k,vo,P,hk,rfl,hrb,hpk,hpo,hbl⟩:=hrel
  have GL:=hid hpk
  have O1:=hid hpo
  have cu:=hid hbl
  have Av:=hbl.size
  have hbr:b<wr.heap.size:=by omega
  clear hpk hpo hbl
  by_cases hlt:k<nd
  ·have HK:=hid (show k<acts.length by have:=wM.out;omega)
   obtain⟨Ye,nd',YZ,hq,hat,-,-⟩:=qd.out.keep cu.out
   have hq2:(Value.slice Ad nd cd)=.slice Ye nd' YZ:=hq
   simp only[Value.slice.injEq] at hq2
   obtain⟨rfl,-,-⟩:=hq2
   have HDT:=hid hat
   obtain⟨bd,od,rfl,hbd⟩:=hat.cellAt HK.out
   obtain⟨x,hx,hc⟩:=hat.rP HK.out
   have HX:=hid (show acts[k]'HK.out=x by rw[←hx,List.getD_eq_getElem?_getD,List.getElem?_eq_getElem HK.out];rfl)
   have qV:=hid (xI (c:=⟨R,mc,mt,mf,wt⟩) (inn:=⟨ic,ii,li⟩) (ans:=⟨ac,ai,ln⟩) (tick:=tick) (acts:=acts) (s:=(⟨nx,id,req,L,cnt,ay,au⟩,[])) HK.out)
   have BP:=hid (jQ ⟨R,mc,mt,mf,wt⟩ ⟨ic,ii,li⟩ ⟨ac,ai,ln⟩ tick acts (acts.take k) (⟨nx,id,req,L,cnt,ay,au⟩,[]))
   have BG:=hid (qI ⟨R,mc,mt,mf,wt⟩ ⟨ic,ii,li⟩ ⟨ac,ai,ln⟩ tick acts (acts.take k) (⟨nx,id,req,L,cnt,ay,au⟩,[]))
   have Gi:=hid (tN ⟨R,mc,mt,mf,wt⟩ ⟨ic,ii,li⟩ ⟨ac,ai,ln⟩ tick acts (acts.take k) (⟨nx,id,req,L,cnt,ay,au⟩,[]) (jU.out.state nx))
   rw[HX.out] at qV
   obtain⟨⟨⟨s1,i1,r1,L1,c1,t1,k1⟩,ok⟩,hak⟩: ∃s,fO ⟨R,mc,mt,mf,wt⟩ ⟨ic,ii,li⟩ ⟨ac,ai,ln⟩ tick acts (⟨nx,id,req,L,cnt,ay,au⟩,[]) (acts.take k)=s:=⟨_,rfl⟩
   rw[hak] at hrb O1 qV BP BG Gi
   clear hak hx hat hq
   have hL1:L1=L:=BP.out
   subst hL1
   dsimp only at hrb qV BG Gi
   have O5:=hid hrb
   obtain⟨⟨b0,b1,b2,b3,b4⟩,⟨b5,b6,b7,b8,b9,b10,b11⟩,b12⟩:=(hrb).cells
   clear hrb BP
   obtain⟨i0,i1',i2⟩:=cells3 ((cu.out.block _ (by omega)).trans H9'.out)
   obtain⟨j0,j1,j2⟩:=cells3 ((cu.out.block _ (by omega)).trans BN.out)
   have Uw:w.heap.size+1+1<wr.heap.size:=by omega
   have aaz:w.heap.size+1+1+1<wr.heap.size:=by omega
   have Zk:bd<wr.heap.size:=by omega
   have kk0:(0:Int)≤(k:Int):=by omega
   have kk1:(k:Int)<(nd:Int):=by omega
   go_wp2_with fail
   go_still_tail 9,(by kernel_rfl)
   go_wp2_with fail
   have HLP:=hid (show P.length≤999 by have h:=BG.out;rw[List.length_take] at h;have:=qc.out;have h2:=congrArg List.length O1.out;rw[List.length_map] at h2;simp only[List.length_nil] at h;omega)
   have BA:=hid (show Below wr.heap.size wr wr.drew by exact aA)
   obtain⟨⟨⟨s2,i2',r2,L2,c2,t2,k2⟩,o2⟩,ha2⟩: ∃s,fK ⟨R,mc,mt,mf,wt⟩ ⟨ic,ii,li⟩ ⟨ac,ai,ln⟩ tick acts ⟨s1,i1,r1,L1,c1,t1,k1⟩ x=s:=⟨_,rfl⟩
   rw[ha2] at qV
   refine(I9 x Ar Aa Ai An (some ⟨bd,od,none⟩) nr cr na ca ni ci nn cn nd cd mc mt mf wt s1 i1 r1 c1 t1 k1 ic ii ac ai tick E R li ln acts vo P wr.drew b (Nat.le_of_lt hbr) (GL.out.below BA.out (Nat.le_of_lt hbr)) HLP.out (((zl.out.keep cu.out).keep (BA.out.mono (Nat.le_of_lt hbr))).more (Nat.le_of_lt hbr)) dz.out ((Yy.out.keep cu.out).keep (BA.out.mono (Nat.le_of_lt hbr))) HI.out.2.1 HI.out.2.2 iF ((zN.out.keep cu.out).keep (BA.out.mono (Nat.le_of_lt hbr))) HN.out.2.1 HN.out.2.2 ((HDT.out.keep (BA.out.mono (Nat.le_of_lt hbr))).more (Nat.le_of_lt hbr)) wM.out.symm (by omega) (by rw[HL.out];exact Gi.out)).mono ?_
   rw[HL.out,ha2]
   clear ha2
   rintro y w6 ⟨v',P',rfl,BL,XK,he6⟩
   obtain⟨A4,c4,rfl,-,-⟩:=ownsRow_form XK.1
   obtain⟨p4,yH⟩: ∃p4,P'.length=p4:=⟨_,rfl⟩
   rw[yH] at XK
   rw[yH]
   clear yH
   have vS:=RB.apart (O5.out.keep BA.out) BL (bW GL.out.1 O5.out (by decide))
   have HR6:=hid vS
   have wN:=hid XK
   have Xz:=hid he6
   have lC:=hid (show Below b wr w6 from(BA.out.mono (Nat.le_of_lt hbr)).grown BL (Nat.le_of_lt hbr) (fun k hk=>eu GL.out.1 hk))
   clear BL XK he6 b0 b1 b2 b3 b4 b5 b6 b7 b8 b9 b10 b11 b12 i0 i1' i2 j0 j1 j2
   have hl6:=vS.lt
   have k0:=vS.free 0
   have k1':=vS.free 1
   have k2':=vS.free 2
   have k3:=vS.free 3
   have k4:=vS.free 4
   have k5:=vS.free 5
   have k6:=vS.free 6
   have k7:=vS.free 7
   have k8:=vS.free 8
   have k9:=vS.free 9
   have k10:=vS.free 10
   have k11:=vS.free 11
   have k12:=vS.free 12
   obtain⟨⟨b0,b1,b2,b3,b4⟩,⟨b5,b6,b7,b8,b9,b10,b11⟩,b12⟩:=(vS).cells
   clear vS
   go_upto_region 10 with(fail)
   refine bY (fun W=>RB W b (.slice Ar nr cr) mc mt mf wt s2 i2' r2 (.slice Aa na ca) c2 t2 k2 (.slice A4 p4 c4)∧bS W b (.slice A4 p4 c4) P'∧Below b W5 W) ⟨jy HR6.out rfl _ _ _ _ _ _ _ _ _ _ _ _ _,wN.out.other (X:=b) grn HR6.out (aaE _) (by decide) (by decide) (Nat.le_of_lt hl6),(cu.out.trans lC.out).trans (bE grn (Nat.le_of_lt hl6))⟩ ?_
   rintro W7 ⟨Vq,h72,h73⟩
   have H71:=hid Vq
   have pW:=hid h72
   have mQ:=hid h73
   clear Vq h72 h73 b0 b1 b2 b3 b4 b5 b6 b7 b8 b9 b10 b11 b12 k0 k1' k2' k3 k4 k5 k6 k7 k8 k9 k10 k11 k12
   go_wp2_with fail
   go_roundw
   case rel=>exact⟨k+1,.slice A4 p4 c4,P',by omega,by go_num,by rw[qV.out];exact H71.out,pW.out,by rw[qV.out,Xz.out,O1.out],mQ.out⟩
   case measure=>simp[intOf];omega
  focus
   obtain rfl:k=nd:=by omega
   have YM:=hid (show acts.take k=acts from List.take_of_length_le (by have:=wM.out;omega))
   rw[YM.out] at hrb O1
   obtain⟨⟨⟨s1,i1,r1,L1,c1,t1,k1⟩,o1⟩,Vr⟩: ∃s,fO ⟨R,mc,mt,mf,wt⟩ ⟨ic,ii,li⟩ ⟨ac,ai,ln⟩ tick acts (⟨nx,id,req,L,cnt,ay,au⟩,[]) acts=s:=⟨_,rfl⟩
   rw[Vr] at hrb O1 qg
   clear Vr
   dsimp only at hrb O1
   have O5:=hid hrb
   clear hrb
   obtain⟨tb,htb⟩: ∃tb,Fs.iw nx=tb:=⟨_,rfl⟩
   have zu:=hid htb
   rw[htb] at qg
   clear htb
   cases tb
  focus
   have BQ:=hid (show r=(⟨s1,i1,r1,L1,c1,0,k1⟩,o1,acts) by rw[qg.out];rfl)
   have c10:=O5.out.cell 10 (v:=.int .i64 t1) rfl
   have f10:=O5.out.free 10
   go_wp2_with fail
   refine(Fs.yV nx _).mono ?_
   rw[zu.out]
   rintro y w1 ⟨rfl,rfl⟩
   go_wp2_with fail
   have XD:=hid (O5.out.Z6 0)
   have tu:=hid (cu.out.trans (bE (bV wr b 10 (.int .i64 0)) (Nat.le_of_lt hbr)))
   have YK:=hid (GL.out.other (bV wr b 10 (.int .i64 0)) O5.out (aaE _) (by decide) (by decide) (Nat.le_of_lt hbr))
   have o9:=hid (((tu.out.block _ hxb)).trans uj.out)
   have hbf:b<((wr.setCell ⟨b,10,none⟩ (Value.int .i64 0))).heap.size:=XD.out.lt
   have ZA:w.heap.size+1+1+1+1<((wr.setCell ⟨b,10,none⟩ (Value.int .i64 0))).heap.size:=by omega
  rotate_left
  focus
   have BQ:=hid (show r=(⟨s1,i1,r1,L1,c1,t1,k1⟩,o1,acts) by rw[qg.out];rfl)
   go_wp2_with fail
   refine(Fs.yV nx _).mono ?_
   rw[zu.out]
   rintro y w1 ⟨rfl,rfl⟩
   go_wp2_with fail
   have XD:=hid (O5.out)
   have tu:=hid (cu.out)
   have YK:=hid (GL.out)
   have o9:=hid (((tu.out.block _ hxb)).trans uj.out)
   have hbf:b<(wr).heap.size:=XD.out.lt
   have ZA:w.heap.size+1+1+1+1<(wr).heap.size:=by omega
  rotate_left
  all_goals
   obtain⟨⟨b0,b1,b2,b3,b4⟩,⟨b5,b6,b7,b8,b9,b10,b11⟩,b12⟩:=(XD.out).cells
   clear b0 b1 b2 b3 b4
   obtain⟨z0,z1,z2,z3,z4,z5,z6⟩:=aG o9.out
   have f0:=frees o9.out 0
   have f1:=frees o9.out 1
   have f2:=frees o9.out 2
   have f3:=frees o9.out 3
   have f4:=frees o9.out 4
   have f5:=frees o9.out 5
   have f6:=frees o9.out 6
  ·go_region_held3 (fun w'=>w'.cell? ⟨b,5,none⟩=some (.int .i64 s1)∧w'.cell? ⟨b,6,none⟩=some (.int .i64 i1)∧w'.cell? ⟨b,7,none⟩=some (.int .i64 r1)∧w'.cell? ⟨b,8,none⟩=some (.slice Aa na ca)∧w'.cell? ⟨b,9,none⟩=some (.int .i64 c1)∧w'.cell? ⟨b,10,none⟩=some (.int .i64 0)∧w'.cell? ⟨b,11,none⟩=some (.int .i64 k1)∧w'.cell? ⟨b,12,none⟩=some vo) (first|(go_keep;done)|(go_simp;done)|(simp[go_sem];done)) (fail)
   all_goals
    obtain⟨Wf,hWf⟩: ∃Wf:World,Wf=(((((((((wr.setCell ⟨b,10,none⟩ (Value.int .i64 0)).setCell ⟨w.heap.size+1+1+1+1,0,none⟩ (.int .i64 s1)).setCell ⟨w.heap.size+1+1+1+1,1,none⟩ (.int .i64 i1)).setCell ⟨w.heap.size+1+1+1+1,2,none⟩ (.int .i64 r1)).setCell ⟨w.heap.size+1+1+1+1,3,none⟩ (.slice Aa na ca)).setCell ⟨w.heap.size+1+1+1+1,4,none⟩ (.int .i64 c1)).setCell ⟨w.heap.size+1+1+1+1,5,none⟩ (.int .i64 0)).setCell ⟨w.heap.size+1+1+1+1,6,none⟩ (.int .i64 k1))).drew:=⟨_,rfl⟩
    rw[←hWf]
    have hrow:Wf.heap[w.heap.size+1+1+1+1]? =some (.cells #[.int .i64 s1,.int .i64 i1,.int .i64 r1,.slice Aa na ca,.int .i64 c1,.int .i64 0,.int .i64 k1] 29 (0,0)):=by rw[hWf,dR];exact gF o9.out rfl _ _ _ _ _ _ _
    have hgr:((wr.setCell ⟨b,10,none⟩ (Value.int .i64 0))).grownBy Wf (some (w.heap.size+1+1+1+1)):=by rw[hWf];exact grn
    have hb2:Below W2.heap.size W2 ((wr.setCell ⟨b,10,none⟩ (Value.int .i64 0))):=dO.out.trans (tu.out.mono hbz)
    have hbl:Below w.heap.size w Wf:=Below.grown (aQ.out.trans (hb2.mono hszW)) hgr (aaF hszW hb2.size) (fun k hk=>by cases hk;omega)
    have hps:fG Wf w.heap.size vo o1:=((YK.out.r O1.out (Nat.le_of_lt hbf)).other hgr o9.out (f_ _ _ _ _ _ _ _ _ _) (by decide)).base (by omega)
    have Cy:aU Wf w.heap.size (.slice Ad k cd) acts:=by
     have h1:((wr.setCell ⟨b,10,none⟩ (Value.int .i64 0))).ownsRow W2.heap.size 104 1 (.slice Ad k cd) k (acts.map av):=dx zD.out fun k hk=>tu.out.block k (VA.out k hk)
     have h2:=aK (base':=w.heap.size) (aW h1 hgr fun r e=>by cases e;exact .inr (.inr ⟨_,_,o9.out,by decide⟩)) hszW
     unfold aU
     rw[wM.out]
     exact h2
    clear hWf b5 b6 b7 b8 b9 b10 b11 b12 z0 z1 z2 z3 z4 z5 z6 f0 f1 f2 f3 f4 f5 f6
    obtain⟨u0,u1,u2,u3,u4,u5,u6⟩:=aG hrow
    go_wp2_with fail
    refine bodyPost_ret (v:=.tuple #[.agg #[.int .i64 s1,.int .i64 i1,.int .i64 r1,.slice Aa na ca,.int .i64 c1,.int .i64 0,.int .i64 k1],vo,.slice Ad k cd]) (by simp[results,Tryz.results15,go_sem,u0,u1,u2,u3,u4,u5,u6]) rfl ?_
    rw[BQ.out]
    exact⟨vo,.slice Ad k cd,rfl,hbl,hps,Cy⟩
  ·go_region_held3 (fun w'=>w'.cell? ⟨b,5,none⟩=some (.int .i64 s1)∧w'.cell? ⟨b,6,none⟩=some (.int .i64 i1)∧w'.cell? ⟨b,7,none⟩=some (.int .i64 r1)∧w'.cell? ⟨b,8,none⟩=some (.slice Aa na ca)∧w'.cell? ⟨b,9,none⟩=some (.int .i64 c1)∧w'.cell? ⟨b,10,none⟩=some (.int .i64 t1)∧w'.cell? ⟨b,11,none⟩=some (.int .i64 k1)∧w'.cell? ⟨b,12,none⟩=some vo) (first|(go_keep;done)|(go_simp;done)|(simp[go_sem];done)) (fail)
   all_goals
    obtain⟨Wf,hWf⟩: ∃Wf:World,Wf=((((((((wr.setCell ⟨w.heap.size+1+1+1+1,0,none⟩ (.int .i64 s1)).setCell ⟨w.heap.size+1+1+1+1,1,none⟩ (.int .i64 i1)).setCell ⟨w.heap.size+1+1+1+1,2,none⟩ (.int .i64 r1)).setCell ⟨w.heap.size+1+1+1+1,3,none⟩ (.slice Aa na ca)).setCell ⟨w.heap.size+1+1+1+1,4,none⟩ (.int .i64 c1)).setCell ⟨w.heap.size+1+1+1+1,5,none⟩ (.int .i64 t1)).setCell ⟨w.heap.size+1+1+1+1,6,none⟩ (.int .i64 k1))).drew:=⟨_,rfl⟩
    rw[←hWf]
    have hrow:Wf.heap[w.heap.size+1+1+1+1]? =some (.cells #[.int .i64 s1,.int .i64 i1,.int .i64 r1,.slice Aa na ca,.int .i64 c1,.int .i64 t1,.int .i64 k1] 29 (0,0)):=by rw[hWf,dR];exact gF o9.out rfl _ _ _ _ _ _ _
    have hgr:(wr).grownBy Wf (some (w.heap.size+1+1+1+1)):=by rw[hWf];exact grn
    have hb2:Below W2.heap.size W2 (wr):=dO.out.trans (tu.out.mono hbz)
    have hbl:Below w.heap.size w Wf:=Below.grown (aQ.out.trans (hb2.mono hszW)) hgr (aaF hszW hb2.size) (fun k hk=>by cases hk;omega)
    have hps:fG Wf w.heap.size vo o1:=((YK.out.r O1.out (Nat.le_of_lt hbf)).other hgr o9.out (f_ _ _ _ _ _ _ _ _ _) (by decide)).base (by omega)
    have Cy:aU Wf w.heap.size (.slice Ad k cd) acts:=by
     have h1:(wr).ownsRow W2.heap.size 104 1 (.slice Ad k cd) k (acts.map av):=dx zD.out fun k hk=>tu.out.block k (VA.out k hk)
     have h2:=aK (base':=w.heap.size) (aW h1 hgr fun r e=>by cases e;exact .inr (.inr ⟨_,_,o9.out,by decide⟩)) hszW
     unfold aU
     rw[wM.out]
     exact h2
    clear hWf b5 b6 b7 b8 b9 b10 b11 b12 z0 z1 z2 z3 z4 z5 z6 f0 f1 f2 f3 f4 f5 f6
    obtain⟨u0,u1,u2,u3,u4,u5,u6⟩:=aG hrow
    go_wp2_with fail
    refine bodyPost_ret (v:=.tuple #[.agg #[.int .i64 s1,.int .i64 i1,.int .i64 r1,.slice Aa na ca,.int .i64 c1,.int .i64 t1,.int .i64 k1],vo,.slice Ad k cd]) (by simp[results,Tryz.results15,go_sem,u0,u1,u2,u3,u4,u5,u6]) rfl ?_
    rw[BQ.out]
    exact⟨vo,.slice Ad k cd,rfl,hbl,hps,Cy⟩
theorem qF (Ar Aa Ai An:Option Addr) (nr cr na ca ni ci nn cn:Nat) (R:List Rl) (mc mt mf wt st id req cnt ay au e ic ii ac ai tick:Int) (E:List aH) (li ln:List UInt8) (w:World) (B:Nat) (hB:B≤w.heap.size) (hR:aD w B Ar R) (hnr:nr=R.length) (hlr:nr≤1000000) (hE:aJ w B Aa E) (hna:na=E.length) (hI:At w B Ai (li.map bv)) (hni:ni=li.length) (hci:ni≤ci) (iF:ni≤400000000) (hN:At w B An (ln.map bv)) (hnn:nn=ln.length) (hcn:nn≤cn) (hln:nn≤400000000):Calls Tryz.prog 15 #[.agg #[.slice Ar nr cr,.int .i64 mc,.int .i64 mt,.int .i64 mf,.int .i64 wt],.agg #[.int .i64 st,.int .i64 id,.int .i64 req,.slice Aa na ca,.int .i64 cnt,.int .i64 ay,.int .i64 au],.int .i64 e,.agg #[.int .i64 ic,.int .i64 ii,.slice Ai ni ci],.agg #[.int .i64 ac,.int .i64 ai,.slice An nn cn],.int .i64 tick] w (zT (jo ⟨R,mc,mt,mf,wt⟩ ⟨st,id,req,E.map aH.o,cnt,ay,au⟩ e ⟨ic,ii,li⟩ ⟨ac,ai,ln⟩ tick) (.slice Aa na ca) w):=by
 by_cases h0:Fs.bP st e=0
 ·cases hf:dn ⟨R,mc,mt,mf,wt⟩ ⟨st,id,req,E.map aH.o,cnt,ay,au⟩ tick
  ·exact I_ Ar Aa Ai An nr cr na ca ni ci nn cn R mc mt mf wt st id req cnt ay au e ic ii ac ai tick E li ln w B hB hR hnr hlr hE hna hI hni hci iF hN hnn hcn hln (.inl hf)
  ·exact Ol Ar Aa Ai An nr cr na ca ni ci nn cn R mc mt mf wt st id req cnt ay au e ic ii ac ai tick E li ln w B hB hR hnr hlr hE hna hI hni hci iF hN hnn hcn hln hf h0
 ·exact I_ Ar Aa Ai An nr cr na ca ni ci nn cn R mc mt mf wt st id req cnt ay au e ic ii ac ai tick E li ln w B hB hR hnr hlr hE hna hI hni hci iF hN hnn hcn hln (.inr h0)
end Go.Proofs.YtfkgmbknfnhjoaaGreat
