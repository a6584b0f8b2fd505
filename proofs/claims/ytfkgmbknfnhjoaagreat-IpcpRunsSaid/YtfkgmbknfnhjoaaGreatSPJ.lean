/- PJ -/
import Derived.Test.YtfkgmbknfnhjoaaGreatSZ40
import Derived.Test.YtfkgmbknfnhjoaaGreatSN4
set_option linter.all false
set_option linter.ambiguousOpen false
set_option maxHeartbeats 8000000
namespace Go.Proofs.YtfkgmbknfnhjoaaGreat
open Lib (hid)
open Go.RowKit
open Ne (Rl bF aD bM aS bN)
open Fs (av hasB)
def fV (c:Cf) (a:Au) (inn:Pk):Option (Int×Pk×List bF):=
 if (Op.iJ inn.data).2≠0 then none
 else if (Op.encR (aS c.rules (Op.iJ inn.data).1 a.au c.mf).2).2≠0 then none
 else some (if (aS c.rules (Op.iJ inn.data).1 a.au c.mf).1=2 then 7 else 8,⟨(aS c.rules (Op.iJ inn.data).1 a.au c.mf).1,inn.id,(Op.encR (aS c.rules (Op.iJ inn.data).1 a.au c.mf).2).1⟩,a.ask)
def cZ (a:Au) (inn:Pk):Option (Int×Pk×List bF):=
 if inn.id≠a.req∨(Op.iJ inn.data).2≠0 then none
 else if (bN a.ask inn.code (Op.iJ inn.data).1).2=true∧(Op.encR (bN a.ask inn.code (Op.iJ inn.data).1).1).2=0 then some (10,⟨0,0,[]⟩,(bN a.ask inn.code (Op.iJ inn.data).1).1)
 else none
def bK (c:Cf) (a:Au) (inn:Pk):Option (Int×Pk×List bF):=
 if inn.code=1 then fV c a inn
 else if inn.code=2 then(if inn.id=a.req∧inn.data=(Op.encR a.ask).1 then some (9,⟨0,0,[]⟩,a.ask) else none)
 else if inn.code=3∨inn.code=4 then cZ a inn
 else if inn.code=5 then some (11,⟨0,0,[]⟩,a.ask)
 else if inn.code=6 then some (12,⟨0,0,[]⟩,a.ask)
 else match inn.data with
  |[]=>none
  |x::_=>if 1≤x.toNat∧x.toNat≤7 then some (15,⟨0,0,[]⟩,a.ask) else some (14,⟨0,0,[]⟩,a.ask)
def bB (w:World) (base:Nat) (v:Value) (l:List UInt8):Prop:=w.ownsRow base 5 1 v l.length (l.map bv)
theorem bB.nil (w:World) (base:Nat):bB w base (.slice none 0 0) []:=aN _ _ _ _
theorem bB.v {w:World} {base:Nat} {v:Value} {l:List UInt8} (h:bB w base v l):qL w w.heap.size v l:=by
 have h2:=h
 unfold bB at h2
 obtain⟨A,c,rfl,hc,-⟩:=ownsRow_form h2
 exact⟨A,_,c,rfl,At.bq h2,rfl,hc⟩
theorem bB.other {A C:World} {base X:Nat} {v:Value} {l:List UInt8} {cur:Array Value} {e':TypeId} (h:bB A base v l) (hg:A.grownBy C (some X)) (hX:A.heap[X]? =some (.cells cur e' (0,0))) (h1:e'≠5):bB C base v l:=
 aW h hg fun r e=>by cases e;exact .inr (.inr ⟨_,_,hX,h1⟩)
theorem bB.base {A:World} {b b':Nat} {v:Value} {l:List UInt8} (h:bB A b v l) (hb:b'≤b):bB A b' v l:=aK h hb
theorem bB.below {A C:World} {b:Nat} {v:Value} {l:List UInt8} (h:bB A b v l) (hb:Below A.heap.size A C):bB C b v l:=own_below h hb
def mq:Option (Int×Pk×List bF)→World→Ending→World→Prop
 |none,w,x,w'=> ∃A n c,x=.returned (.tuple #[.int .i64 0,.agg #[.int .i64 0,.int .i64 0,.slice none 0 0],.slice A n c])∧Below w.heap.size w w'
 |some (e,ans,next),w,x,w'=> ∃Ad nd cd An nn cn,x=.returned (.tuple #[.int .i64 e,.agg #[.int .i64 ans.code,.int .i64 ans.id,.slice Ad nd cd],.slice An nn cn])∧Below w.heap.size w w'∧bB w' w.heap.size (.slice Ad nd cd) ans.data∧(e=10→bA w' w.heap.size (.slice An nn cn) next)
theorem EH {c:Cf} {a:Au} {inn:Pk} {r:Int×Pk×List bF} (h:fV c a inn=some r):r.1≠10:=by
 unfold fV at h
 split at h
 ·cases h
 ·split at h
  ·cases h
  ·cases h
   dsimp only
   split<;>decide
theorem EP (l:List UInt8):(Op.iJ l).1.length≤64∧ ∀o∈(Op.iJ l).1,o.2.length≤253:=by
 obtain⟨⟨Y,e⟩,h⟩: ∃r,Op.iJ l=r:=⟨_,rfl⟩
 rw[h]
 by_cases he:e=0
 ·subst he
  have h2:=Op.G_ h
  unfold Op.encR at h2
  split at h2
  ·cases h2
  ·split at h2
   ·rename_i h3 h4
    refine⟨by simp only;omega,fun o ho=>?_⟩
    have:=List.all_eq_true.1 h4 o ho
    simp only[Op.okO,Bool.and_eq_true,decide_eq_true_eq] at this
    exact this.2
   ·cases h2
 ·rw[Op.Hq h he]
  exact⟨by simp,fun o ho=>by cases ho⟩
theorem uN {E:List aH} {L:List bF} {D:Nat} (h:E.map aH.o=L) (hL: ∀o∈L,o.2.length≤D): ∀e∈E,e.d.length≤D:=fun e he=>hL e.o (by rw[←h];exact List.mem_map_of_mem he)
theorem mo.get {w w':World} {l:List UInt8} {x:Ending} {Y:List bF} {e:Int} (h:Op.mo w l x w') (hR:Op.iJ l=(Y,e)):
  ∃(E:List aH) (A:Option Addr) (n c:Nat),x=.returned (.tuple #[.slice A n c,.int .i64 e])∧Below w.heap.size w w'∧aI w' w.heap.size (.slice A n c) E∧E.map aH.o=Y∧n=E.length∧n≤c∧n≤64∧ ∀e∈E,e.d.length≤253:=by
 obtain⟨E,v,h1,h2,h3,h4⟩:=h
 obtain⟨f1,f2⟩:=EP l
 rw[hR] at h1 h4 f1 f2
 simp only at h1 h4 f1 f2
 obtain⟨A,c,rfl,hc,-⟩:=ownsRow_form h3.1
 rw[←h4,List.length_map] at f1
 exact⟨E,A,E.length,c,h1,h2,h3,h4,rfl,hc,f1,uN h4 f2⟩
theorem gK.get {w w':World} {L:List bF} {x:Ending} {y:List UInt8} {e:Int} {n:Nat} (h:Op.gK w L x w') (hR:Op.encR L=(y,e)) (hn:y.length=n):
  ∃A c,x=.returned (.tuple #[.slice A n c,.int .i64 e])∧Below w.heap.size w w'∧w'.ownsRow w.heap.size 5 1 (.slice A n c) n (y.map bv)∧n≤c:=by
 obtain⟨v,h1,h2,h3⟩:=h
 rw[hR] at h1 h3
 simp only at h1 h3
 subst hn
 obtain⟨A,c,rfl,hc,-⟩:=ownsRow_form h3
 exact⟨A,c,h1,h2,h3,hc⟩
theorem iB {w:World} {X:Nat} {cs:Array Value} {T:TypeId} (h:w.heap[X]? =some (.cells cs T (0,0))) (hc:cs.size=3) (a b c:Value):
  (((w.setCell ⟨X,0,none⟩ a).setCell ⟨X,1,none⟩ b).setCell ⟨X,2,none⟩ c).heap[X]? =some (.cells #[a,b,c] T (0,0)):=by
 obtain⟨l⟩:=cs
 match l,hc with
 |[x0,x1,x2],_=>
  rw[heap_setCell_same _ X 2 _ _ _ (heap_setCell_same _ X 1 _ _ _ (heap_setCell_same _ X 0 _ _ _ h))]
  rfl
set_option maxRecDepth 100000 in
theorem EI (Ar Aa Ai:Option Addr) (nr cr na ca ni ci:Nat) (R:List Rl) (mc mt mf wt st id req cnt ay au ic ii:Int) (E:List aH) (li:List UInt8) (w:World) (B:Nat) (hB:B≤w.heap.size) (hR:aD w B Ar R) (hnr:nr=R.length) (hlr:nr≤1000000) (hE:aJ w B Aa E) (hna:na=E.length) (hI:At w B Ai (li.map bv)) (hni:ni=li.length) (hci:ni≤ci):Calls Tryz.prog 95 #[.agg #[.slice Ar nr cr,.int .i64 mc,.int .i64 mt,.int .i64 mf,.int .i64 wt],.agg #[.int .i64 st,.int .i64 id,.int .i64 req,.slice Aa na ca,.int .i64 cnt,.int .i64 ay,.int .i64 au],.agg #[.int .i64 ic,.int .i64 ii,.slice Ai ni ci]] w (mq (fV ⟨R,mc,mt,mf,wt⟩ ⟨st,id,req,E.map aH.o,cnt,ay,au⟩ ⟨ic,ii,li⟩) w):=by
 have HB:=hid hB
 have HR:=hid hR
 have gB:=hid hnr
 have HE:=hid hE
 have dz:=hid hna
 have HI:=hid hI
 have gy:=hid hni
 obtain⟨L,hL⟩: ∃L,E.map aH.o=L:=⟨_,rfl⟩
 have HL:=hid hL
 rw[hL]
 clear hB hR hnr hE hna hL hI hni
 obtain⟨⟨Y,ye⟩,hd⟩: ∃r,Op.iJ li=r:=⟨_,rfl⟩
 have HDR:=hid hd
 by_cases h0:ye=0
 focus
  subst h0
  obtain⟨⟨co,back⟩,han⟩: ∃r,aS R Y au mf=r:=⟨_,rfl⟩
  have Yk:=hid han
  obtain⟨⟨eb,ee⟩,hen⟩: ∃r,Op.encR back=r:=⟨_,rfl⟩
  have jB:=hid hen
  obtain⟨nb,hnb⟩: ∃nb,eb.length=nb:=⟨_,rfl⟩
  have jK:=hid hnb
  obtain⟨nk,hnk⟩: ∃nk,back.length=nk:=⟨_,rfl⟩
  have Gi:=hid hnk
  by_cases h1:ee=0
 focus
  subst h1
  have HO:=hid (show fV ⟨R,mc,mt,mf,wt⟩ ⟨st,id,req,L,cnt,ay,au⟩ ⟨ic,ii,li⟩=some (if co=2 then 7 else 8,⟨co,ii,eb⟩,L) by unfold fV;dsimp only;rw[hd];dsimp only;rw[han];dsimp only;rw[hen];simp)
  rw[HO.out]
  clear hd han hen hnb hnk
  by_cases h2:co=2
 focus
  have h3:(co==2)=true:=by simpa using h2
  rw[if_pos h2]
  clear h2
 rotate_left
 focus
  have h3:(co==2)=false:=by simpa using h2
  rw[if_neg h2]
  clear h2
 rotate_left
 focus
  have HO:=hid (show fV ⟨R,mc,mt,mf,wt⟩ ⟨st,id,req,L,cnt,ay,au⟩ ⟨ic,ii,li⟩=none by unfold fV;dsimp only;rw[hd];dsimp only;rw[han];dsimp only;rw[hen];simp[h1])
  rw[HO.out]
  have h1':(ee !=0)=true:=by simpa using h1
  clear hd han hen hnb hnk h1
 rotate_left
 ·have HO:=hid (show fV ⟨R,mc,mt,mf,wt⟩ ⟨st,id,req,L,cnt,ay,au⟩ ⟨ic,ii,li⟩=none by unfold fV;dsimp only;rw[hd];simp[h0])
  rw[HO.out]
  have h0':(ye !=0)=true:=by simpa using h0
  clear hd h0
  go_enter Tryz.func95,Tryz.ntmps95
  go_upto_region 1 with(fail)
  refine fE ?_
  rintro W2 ⟨h6,h7,h8,h12,hbw⟩
  have aQ:=hid hbw
  have fC:=hid h12
  have hszW:=hbw.size
  have l6:=aj h6
  have l7:=aj h7
  have l8:=aj h8
  have bn:=aj h12
  obtain⟨p0,p1,p2,p3,p4⟩:=cells5 h6
  obtain⟨q0,q1,q2,q3,q4,q5,q6⟩:=aG h7
  obtain⟨r0,r1,r2⟩:=cells3 h8
  obtain⟨z0,z1,z2⟩:=cells3 h12
  have f0:=frees h12 0
  have f1:=frees h12 1
  have f2:=frees h12 2
  clear h6 h7 h8 h12 hbw
  go_wp2_with fail
  refine(Op.kS Ai ni ci li _ B (by have:=HB.out;omega) (HI.out.keep (aQ.out.mono HB.out)) gy.out hci).mono ?_
  rintro x w3 hd
  obtain⟨E3,A3,n3,c3,rfl,hb3,ho3,mX,ji,hc3,hl3,hs3⟩:=mo.get hd HDR.out
  obtain⟨mP,d3,rfl⟩:=aB hb3
  have gZ:=hid ho3
  have qj:=hid mX
  have wK:=hid ji
  have BH:=hid hs3
  clear hd hb3 ho3 mX ji hs3
  go_wp2_with fail
  obtain⟨Wf,hWf⟩: ∃Wf:World,Wf=ext (((W2.setCell ⟨w.heap.size+1+1+1,0,none⟩ (.int .i64 0)).setCell ⟨w.heap.size+1+1+1,1,none⟩ (.int .i64 0)).setCell ⟨w.heap.size+1+1+1,2,none⟩ (.slice none 0 0)) mP d3:=⟨_,rfl⟩
  rw[←hWf]
  have hrow:Wf.heap[w.heap.size+1+1+1]? =some (.cells #[.int .i64 0,.int .i64 0,.slice none 0 0] 32 (0,0)):=by rw[hWf];exact(aO _ _ _ _ (by first|(simp[size_ext,grow];done)|(simp[size_ext,grow];omega))).trans (iB fC.out rfl _ _ _)
  have hgr:(ext W2 mP d3).grownBy Wf (some (w.heap.size+1+1+1)):=by rw[hWf];first|with_reducible exact bJ grn (by simp)|exact grn
  clear hWf f0 f1 f2 z0 z1 z2
  obtain⟨u0,u1,u2⟩:=cells3 hrow
  refine bodyPost_ret (v:=.tuple #[.int .i64 0,.agg #[.int .i64 0,.int .i64 0,.slice none 0 0],.slice none 0 0]) (by simp[results,Tryz.results95,go_sem,u0,u1,u2]) rfl ?_
  exact⟨_,_,_,rfl,Below.grown ((show Below w.heap.size w (ext W2 mP d3) by have:=aQ.out;exact aA)) hgr ((by simp[size_ext,grow];omega)) (fun k hk=>by cases hk;omega)⟩
 all_goals
  go_enter Tryz.func95,Tryz.ntmps95
  go_upto_region 1 with(fail)
  refine fE ?_
  rintro W2 ⟨h6,h7,h8,h12,hbw⟩
  have aQ:=hid hbw
  have fC:=hid h12
  have hszW:=hbw.size
  have l6:=aj h6
  have l7:=aj h7
  have l8:=aj h8
  have bn:=aj h12
  obtain⟨p0,p1,p2,p3,p4⟩:=cells5 h6
  obtain⟨q0,q1,q2,q3,q4,q5,q6⟩:=aG h7
  obtain⟨r0,r1,r2⟩:=cells3 h8
  obtain⟨z0,z1,z2⟩:=cells3 h12
  have f0:=frees h12 0
  have f1:=frees h12 1
  have f2:=frees h12 2
  clear h6 h7 h8 h12 hbw
  go_wp2_with fail
  refine(Op.kS Ai ni ci li _ B (by have:=HB.out;omega) (HI.out.keep (aQ.out.mono HB.out)) gy.out hci).mono ?_
  rintro x w3 hd
  obtain⟨E3,A3,n3,c3,rfl,hb3,ho3,mX,ji,hc3,hl3,hs3⟩:=mo.get hd HDR.out
  obtain⟨mP,d3,rfl⟩:=aB hb3
  have gZ:=hid ho3
  have qj:=hid mX
  have wK:=hid ji
  have BH:=hid hs3
  clear hd hb3 ho3 mX ji hs3
  go_wp2_with fail
  refine(Ne.Cb Ar A3 nr cr n3 c3 au mf R E3 Y qj.out _ (ext W2 mP d3).heap.size (aaE _) ((HR.out.keep ((show Below w.heap.size w (ext W2 mP d3) by have:=aQ.out;exact aA).mono HB.out)).more (by have:=HB.out;simp[size_ext,grow];omega)) gB.out hlr gZ.out.at wK.out (by omega) (by omega) (fun e he=>by have:=BH.out e he;omega)).mono ?_
  rw[Yk.out]
  rintro x w4 ha
  obtain⟨E4,A4,c4,rfl,uS,xg,hc4,hb4,vR⟩:=Ne.DV.get ha Gi.out
  obtain⟨xO,d4,rfl⟩:=aB hb4
  have qR:=hid vR
  have rX:=hid uS
  have wL:=hid xg
  clear ha hb4 vR uS xg
  go_wp2_with fail
  refine(Op.dZ A4 nk c4 E4 _ _ (aaE _) qR.out.at wL.out).mono ?_
  rw[rX.out]
  rintro x w5 he
  obtain⟨A5,c5,rfl,hb5,lN,CF⟩:=gK.get he jB.out jK.out
  have qU:=hid (aK (base':=W2.heap.size) lN (by simp[size_ext,grow];omega))
  have dO:=hid (show Below W2.heap.size W2 w5 from(show Below W2.heap.size W2 (ext (ext W2 mP d3) xO d4) by exact aA).trans (hb5.mono (by simp[size_ext,grow];omega)))
  have hs5:=dO.out.size
  have r1':w5.cell? ⟨w.heap.size+1+1,1,none⟩=some (.int .i64 ii):=(dO.out.cell (p:=⟨w.heap.size+1+1,1,none⟩) l8).trans r1
  have Em:=hid ((dO.out.block _ bn).trans fC.out)
  have l8':w.heap.size+1+1<w5.heap.size:=by omega
  have ZG:w.heap.size+1+1+1<w5.heap.size:=by omega
  clear he hb5 lN f0 f1 f2 z0 z1 z2 p0 p1 p2 p3 p4 q0 q1 q2 q3 q4 q5 q6 r0 r1 r2
  obtain⟨z0,z1,z2⟩:=cells3 Em.out
  have f0:=frees Em.out 0
  have f1:=frees Em.out 1
  have f2:=frees Em.out 2
 rotate_left
 rotate_left
 ·go_wp2_with fail
  obtain⟨Wf,hWf⟩: ∃Wf:World,Wf=((w5.setCell ⟨w.heap.size+1+1+1,0,none⟩ (.int .i64 0)).setCell ⟨w.heap.size+1+1+1,1,none⟩ (.int .i64 0)).setCell ⟨w.heap.size+1+1+1,2,none⟩ (.slice none 0 0):=⟨_,rfl⟩
  rw[←hWf]
  have hrow:Wf.heap[w.heap.size+1+1+1]? =some (.cells #[.int .i64 0,.int .i64 0,.slice none 0 0] 32 (0,0)):=by rw[hWf];exact iB Em.out rfl _ _ _
  have hgr:(w5).grownBy Wf (some (w.heap.size+1+1+1)):=by rw[hWf];first|with_reducible exact bJ grn (by simp)|exact grn
  clear hWf f0 f1 f2 z0 z1 z2
  obtain⟨u0,u1,u2⟩:=cells3 hrow
  refine bodyPost_ret (v:=.tuple #[.int .i64 0,.agg #[.int .i64 0,.int .i64 0,.slice none 0 0],.slice none 0 0]) (by simp[results,Tryz.results95,go_sem,u0,u1,u2]) rfl ?_
  exact⟨_,_,_,rfl,Below.grown (aQ.out.trans (dO.out.mono hszW)) hgr (aaF hszW hs5) (fun k hk=>by cases hk;omega)⟩
 all_goals
  go_upto_region 9 with(fail)
  obtain⟨T,hT⟩: ∃T,T=w5.heap.size:=⟨_,rfl⟩
  rw[←hT]
  refine bY (fun W=>W.heap[T]? =some (.cells #[.int .i64 co,.int .i64 ii,.slice A5 nb c5] 32 (0,0))∧Below w5.heap.size w5 W) ⟨by rw[hT];exact heap_alloc_new _ _,by exact aA⟩ ?_
  rintro W6 ⟨XH,hb6⟩
  have KH:=hid (own_below qU.out hb6)
  have HZ:=hid ((hb6.block _ ZG).trans Em.out)
  have VI:=hid (aQ.out.trans ((dO.out.trans (hb6.mono hs5)).mono hszW))
  have hs6:=hb6.size
  have l14:=aj XH
  obtain⟨x0,x1,x2⟩:=cells3 XH
  clear z0 z1 z2 f0 f1 f2 r1' XH
  obtain⟨z0,z1,z2⟩:=cells3 HZ.out
  have f0:=frees HZ.out 0
  have f1:=frees HZ.out 1
  have f2:=frees HZ.out 2
  have CX:=aj HZ.out
  clear hb6
  have hne: ¬T=w.heap.size+1+1+1:=by omega
  clear hT
  go_wp2_with fail
  go_region_held3 (fun w'=>w'.cell? ⟨T,0,none⟩=some (.int .i64 co)∧w'.cell? ⟨T,1,none⟩=some (.int .i64 ii)∧w'.cell? ⟨T,2,none⟩=some (.slice A5 nb c5)) (first|(go_keep;done)|(go_simp;done)|(simp[go_sem];done)) (fail)
 ·all_goals
   go_wp2_with fail
   obtain⟨Wf,hWf⟩: ∃Wf:World,Wf=((((W6.setCell ⟨w.heap.size+1+1+1,0,none⟩ (.int .i64 co)).setCell ⟨w.heap.size+1+1+1,1,none⟩ (.int .i64 ii)).setCell ⟨w.heap.size+1+1+1,2,none⟩ (.slice A5 nb c5))).drew:=⟨_,rfl⟩
   rw[←hWf]
   have hrow:Wf.heap[w.heap.size+1+1+1]? =some (.cells #[.int .i64 co,.int .i64 ii,.slice A5 nb c5] 32 (0,0)):=by rw[hWf,dR];exact iB HZ.out rfl _ _ _
   have hgr:W6.grownBy Wf (some (w.heap.size+1+1+1)):=by rw[hWf];exact grn
   clear hWf f0 f1 f2 z0 z1 z2 x0 x1 x2
   obtain⟨u0,u1,u2⟩:=cells3 hrow
   refine bodyPost_ret (v:=.tuple #[.int .i64 7,.agg #[.int .i64 co,.int .i64 ii,.slice A5 nb c5],.slice none 0 0]) (by simp[results,Tryz.results95,go_sem,u0,u1,u2]) rfl ?_
   exact⟨A5,nb,c5,none,0,0,rfl,VI.out.grown hgr (by omega) (fun k hk=>by cases hk;omega),by have h:=(bB.other (l:=eb) (by unfold bB;rw[jK.out];exact KH.out) hgr HZ.out (by decide));exact h.base hszW,fun h=>by cases h⟩
 ·all_goals
   go_wp2_with fail
   obtain⟨Wf,hWf⟩: ∃Wf:World,Wf=((((W6.setCell ⟨w.heap.size+1+1+1,0,none⟩ (.int .i64 co)).setCell ⟨w.heap.size+1+1+1,1,none⟩ (.int .i64 ii)).setCell ⟨w.heap.size+1+1+1,2,none⟩ (.slice A5 nb c5))).drew:=⟨_,rfl⟩
   rw[←hWf]
   have hrow:Wf.heap[w.heap.size+1+1+1]? =some (.cells #[.int .i64 co,.int .i64 ii,.slice A5 nb c5] 32 (0,0)):=by rw[hWf,dR];exact iB HZ.out rfl _ _ _
   have hgr:W6.grownBy Wf (some (w.heap.size+1+1+1)):=by rw[hWf];exact grn
   clear hWf f0 f1 f2 z0 z1 z2 x0 x1 x2
   obtain⟨u0,u1,u2⟩:=cells3 hrow
   refine bodyPost_ret (v:=.tuple #[.int .i64 8,.agg #[.int .i64 co,.int .i64 ii,.slice A5 nb c5],.slice none 0 0]) (by simp[results,Tryz.results95,go_sem,u0,u1,u2]) rfl ?_
   exact⟨A5,nb,c5,none,0,0,rfl,VI.out.grown hgr (by omega) (fun k hk=>by cases hk;omega),by have h:=(bB.other (l:=eb) (by unfold bB;rw[jK.out];exact KH.out) hgr HZ.out (by decide));exact h.base hszW,fun h=>by cases h⟩
set_option maxRecDepth 100000 in
theorem OC (Ar Aa Ai:Option Addr) (nr cr na ca ni ci:Nat) (R:List Rl) (mc mt mf wt st id req cnt ay au ii:Int) (E:List aH) (li:List UInt8) (w:World) (B:Nat) (hB:B≤w.heap.size) (hR:aD w B Ar R) (hnr:nr=R.length) (hlr:nr≤1000000) (hE:aJ w B Aa E) (hna:na=E.length) (hla:na≤1000000) (hda: ∀e∈E,e.d.length≤1000000) (hI:At w B Ai (li.map bv)) (hni:ni=li.length) (hci:ni≤ci):Calls Tryz.prog 61 #[.agg #[.slice Ar nr cr,.int .i64 mc,.int .i64 mt,.int .i64 mf,.int .i64 wt],.agg #[.int .i64 st,.int .i64 id,.int .i64 req,.slice Aa na ca,.int .i64 cnt,.int .i64 ay,.int .i64 au],.agg #[.int .i64 1,.int .i64 ii,.slice Ai ni ci]] w (mq (bK ⟨R,mc,mt,mf,wt⟩ ⟨st,id,req,E.map aH.o,cnt,ay,au⟩ ⟨1,ii,li⟩) w):=by
 have HB:=hid hB
 have HR:=hid hR
 have gB:=hid hnr
 have HE:=hid hE
 have dz:=hid hna
 have jr:=hid hda
 have HI:=hid hI
 have gy:=hid hni
 obtain⟨L,hL⟩: ∃L,E.map aH.o=L:=⟨_,rfl⟩
 have HL:=hid hL
 rw[hL]
 clear hB hR hnr hE hna hda hL hI hni
 have HO:=hid (show bK ⟨R,mc,mt,mf,wt⟩ ⟨st,id,req,L,cnt,ay,au⟩ ⟨1,ii,li⟩=fV ⟨R,mc,mt,mf,wt⟩ ⟨st,id,req,L,cnt,ay,au⟩ ⟨1,ii,li⟩ from if_pos rfl)
 rw[HO.out]
 obtain⟨r,hr⟩: ∃r,fV ⟨R,mc,mt,mf,wt⟩ ⟨st,id,req,L,cnt,ay,au⟩ ⟨1,ii,li⟩=r:=⟨_,rfl⟩
 have HA:=hid hr
 rw[hr]
 clear hr
 go_enter Tryz.func61,Tryz.ntmps61
 go_upto_region 1 with(fail)
 refine fE ?_
 rintro W2 ⟨h6,h7,h8,h12,hbw⟩
 have aQ:=hid hbw
 have fC:=hid h12
 have hszW:=hbw.size
 have l6:=aj h6
 have l7:=aj h7
 have l8:=aj h8
 have bn:=aj h12
 obtain⟨p0,p1,p2,p3,p4⟩:=cells5 h6
 obtain⟨q0,q1,q2,q3,q4,q5,q6⟩:=aG h7
 obtain⟨r0,r1,r2⟩:=cells3 h8
 obtain⟨z0,z1,z2⟩:=cells3 h12
 have f0:=frees h12 0
 have f1:=frees h12 1
 have f2:=frees h12 2
 clear h6 h7 h8 h12 hbw
 go_wp2_with fail
 refine(EI Ar Aa Ai nr cr na ca ni ci R mc mt mf wt st id req cnt ay au 1 ii E li W2 B (by have:=HB.out;omega) (HR.out.keep (aQ.out.mono HB.out)) gB.out hlr (HE.out.keep (aQ.out.mono HB.out)) dz.out (HI.out.keep (aQ.out.mono HB.out)) gy.out hci).mono ?_
 rw[HL.out,HA.out]
 cases r with
 |none=>
  rintro x w3 ⟨A4,n4,c4,rfl,hb⟩
  obtain⟨mP,d3,rfl⟩:=aB hb
  clear hb
  go_wp2_with fail
  obtain⟨Wf,hWf⟩: ∃Wf:World,Wf=ext (((W2.setCell ⟨w.heap.size+1+1+1,0,none⟩ (.int .i64 0)).setCell ⟨w.heap.size+1+1+1,1,none⟩ (.int .i64 0)).setCell ⟨w.heap.size+1+1+1,2,none⟩ (.slice none 0 0)) mP d3:=⟨_,rfl⟩
  rw[←hWf]
  have hrow:Wf.heap[w.heap.size+1+1+1]? =some (.cells #[.int .i64 0,.int .i64 0,.slice none 0 0] 32 (0,0)):=by rw[hWf];exact(aO _ _ _ _ (by first|(simp[size_ext,grow];done)|(simp[size_ext,grow];omega))).trans (iB fC.out rfl _ _ _)
  have hgr:(W2).grownBy Wf (some (w.heap.size+1+1+1)):=by rw[hWf];first|with_reducible exact bJ grn (by simp)|exact grn
  have hbf:Below w.heap.size w Wf:=Below.grown (by have:=aQ.out;exact aA) hgr (by first|exact hszW|(simp[size_ext,grow];omega)) (fun k hk=>by cases hk;omega)
  clear hWf f0 f1 f2 z0 z1 z2
  obtain⟨u0,u1,u2⟩:=cells3 hrow
  refine bodyPost_ret (v:=.tuple #[.int .i64 0,.agg #[.int .i64 0,.int .i64 0,.slice none 0 0],.slice A4 n4 c4]) (by simp[results,Tryz.results61,go_sem,u0,u1,u2]) rfl ?_
  exact⟨_,_,_,rfl,hbf⟩
 |some r=>
  obtain⟨ev,⟨xX,aid,ad⟩,next⟩:=r
  rintro x w3 ⟨Ad,nd,cd,A4,n4,c4,rfl,hb,hby,hop⟩
  have Kv:=hid hby
  have HZ:=hid ((hb.block _ bn).trans fC.out)
  obtain⟨mP,d3,rfl⟩:=aB hb
  clear hb hby hop
  dsimp only
  go_wp2_with fail
  obtain⟨Wf,hWf⟩: ∃Wf:World,Wf=ext (((W2.setCell ⟨w.heap.size+1+1+1,0,none⟩ (.int .i64 xX)).setCell ⟨w.heap.size+1+1+1,1,none⟩ (.int .i64 aid)).setCell ⟨w.heap.size+1+1+1,2,none⟩ (.slice Ad nd cd)) mP d3:=⟨_,rfl⟩
  rw[←hWf]
  have hrow:Wf.heap[w.heap.size+1+1+1]? =some (.cells #[.int .i64 xX,.int .i64 aid,.slice Ad nd cd] 32 (0,0)):=by rw[hWf];exact(aO _ _ _ _ (by first|(simp[size_ext,grow];done)|(simp[size_ext,grow];omega))).trans (iB fC.out rfl _ _ _)
  have hgr:(ext W2 mP d3).grownBy Wf (some (w.heap.size+1+1+1)):=by rw[hWf];first|with_reducible exact bJ grn (by simp)|exact grn
  have hbf:Below w.heap.size w Wf:=Below.grown (by have:=aQ.out;exact aA) hgr (by first|exact hszW|(simp[size_ext,grow];omega)) (fun k hk=>by cases hk;omega)
  clear hWf f0 f1 f2 z0 z1 z2
  obtain⟨u0,u1,u2⟩:=cells3 hrow
  refine bodyPost_ret (v:=.tuple #[.int .i64 ev,.agg #[.int .i64 xX,.int .i64 aid,.slice Ad nd cd],.slice A4 n4 c4]) (by simp[results,Tryz.results61,go_sem,u0,u1,u2]) rfl ?_
  exact⟨Ad,nd,cd,A4,n4,c4,rfl,hbf,(Kv.out.other hgr ((HZ.out)) (by decide)).base hszW,fun h=>absurd h (EH HA.out)⟩
set_option maxRecDepth 100000 in
theorem OH (Ar Aa Ai:Option Addr) (nr cr na ca ni ci:Nat) (R:List Rl) (mc mt mf wt st id req cnt ay au ii:Int) (E:List aH) (li:List UInt8) (w:World) (B:Nat) (hB:B≤w.heap.size) (hR:aD w B Ar R) (hnr:nr=R.length) (hlr:nr≤1000000) (hE:aJ w B Aa E) (hna:na=E.length) (hla:na≤1000000) (hda: ∀e∈E,e.d.length≤1000000) (hI:At w B Ai (li.map bv)) (hni:ni=li.length) (hci:ni≤ci):Calls Tryz.prog 61 #[.agg #[.slice Ar nr cr,.int .i64 mc,.int .i64 mt,.int .i64 mf,.int .i64 wt],.agg #[.int .i64 st,.int .i64 id,.int .i64 req,.slice Aa na ca,.int .i64 cnt,.int .i64 ay,.int .i64 au],.agg #[.int .i64 5,.int .i64 ii,.slice Ai ni ci]] w (mq (bK ⟨R,mc,mt,mf,wt⟩ ⟨st,id,req,E.map aH.o,cnt,ay,au⟩ ⟨5,ii,li⟩) w):=by
 have HB:=hid hB
 have HR:=hid hR
 have gB:=hid hnr
 have HE:=hid hE
 have dz:=hid hna
 have jr:=hid hda
 have HI:=hid hI
 have gy:=hid hni
 obtain⟨L,hL⟩: ∃L,E.map aH.o=L:=⟨_,rfl⟩
 have HL:=hid hL
 rw[hL]
 clear hB hR hnr hE hna hda hL hI hni
 have HO:=hid (show bK ⟨R,mc,mt,mf,wt⟩ ⟨st,id,req,L,cnt,ay,au⟩ ⟨5,ii,li⟩=some (11,⟨0,0,[]⟩,L) from rfl)
 rw[HO.out]
 go_enter Tryz.func61,Tryz.ntmps61
 go_upto_region 1 with(fail)
 refine fE ?_
 rintro W2 ⟨h6,h7,h8,h12,hbw⟩
 have aQ:=hid hbw
 have fC:=hid h12
 have hszW:=hbw.size
 have l6:=aj h6
 have l7:=aj h7
 have l8:=aj h8
 have bn:=aj h12
 obtain⟨p0,p1,p2,p3,p4⟩:=cells5 h6
 obtain⟨q0,q1,q2,q3,q4,q5,q6⟩:=aG h7
 obtain⟨r0,r1,r2⟩:=cells3 h8
 obtain⟨z0,z1,z2⟩:=cells3 h12
 have f0:=frees h12 0
 have f1:=frees h12 1
 have f2:=frees h12 2
 clear h6 h7 h8 h12 hbw
 go_wp2_with fail
 obtain⟨Wf,hWf⟩: ∃Wf:World,Wf=(((W2.setCell ⟨w.heap.size+1+1+1,0,none⟩ (.int .i64 0)).setCell ⟨w.heap.size+1+1+1,1,none⟩ (.int .i64 0)).setCell ⟨w.heap.size+1+1+1,2,none⟩ (.slice none 0 0)):=⟨_,rfl⟩
 rw[←hWf]
 have hrow:Wf.heap[w.heap.size+1+1+1]? =some (.cells #[.int .i64 0,.int .i64 0,.slice none 0 0] 32 (0,0)):=by rw[hWf];exact iB fC.out rfl _ _ _
 have hgr:(W2).grownBy Wf (some (w.heap.size+1+1+1)):=by rw[hWf];first|with_reducible exact bJ grn (by simp)|exact grn
 have hbf:Below w.heap.size w Wf:=Below.grown (by have:=aQ.out;exact aA) hgr (by first|exact hszW|(simp[size_ext,grow];omega)) (fun k hk=>by cases hk;omega)
 clear hWf f0 f1 f2 z0 z1 z2
 obtain⟨u0,u1,u2⟩:=cells3 hrow
 refine bodyPost_ret (v:=.tuple #[.int .i64 11,.agg #[.int .i64 0,.int .i64 0,.slice none 0 0],.slice none 0 0]) (by simp[results,Tryz.results61,go_sem,u0,u1,u2]) rfl ?_
 exact⟨none,0,0,none,0,0,rfl,hbf,bB.nil _ _,fun h=>by cases h⟩
set_option maxRecDepth 100000 in
theorem OI (Ar Aa Ai:Option Addr) (nr cr na ca ni ci:Nat) (R:List Rl) (mc mt mf wt st id req cnt ay au ii:Int) (E:List aH) (li:List UInt8) (w:World) (B:Nat) (hB:B≤w.heap.size) (hR:aD w B Ar R) (hnr:nr=R.length) (hlr:nr≤1000000) (hE:aJ w B Aa E) (hna:na=E.length) (hla:na≤1000000) (hda: ∀e∈E,e.d.length≤1000000) (hI:At w B Ai (li.map bv)) (hni:ni=li.length) (hci:ni≤ci):Calls Tryz.prog 61 #[.agg #[.slice Ar nr cr,.int .i64 mc,.int .i64 mt,.int .i64 mf,.int .i64 wt],.agg #[.int .i64 st,.int .i64 id,.int .i64 req,.slice Aa na ca,.int .i64 cnt,.int .i64 ay,.int .i64 au],.agg #[.int .i64 6,.int .i64 ii,.slice Ai ni ci]] w (mq (bK ⟨R,mc,mt,mf,wt⟩ ⟨st,id,req,E.map aH.o,cnt,ay,au⟩ ⟨6,ii,li⟩) w):=by
 have HB:=hid hB
 have HR:=hid hR
 have gB:=hid hnr
 have HE:=hid hE
 have dz:=hid hna
 have jr:=hid hda
 have HI:=hid hI
 have gy:=hid hni
 obtain⟨L,hL⟩: ∃L,E.map aH.o=L:=⟨_,rfl⟩
 have HL:=hid hL
 rw[hL]
 clear hB hR hnr hE hna hda hL hI hni
 have HO:=hid (show bK ⟨R,mc,mt,mf,wt⟩ ⟨st,id,req,L,cnt,ay,au⟩ ⟨6,ii,li⟩=some (12,⟨0,0,[]⟩,L) from rfl)
 rw[HO.out]
 go_enter Tryz.func61,Tryz.ntmps61
 go_upto_region 1 with(fail)
 refine fE ?_
 rintro W2 ⟨h6,h7,h8,h12,hbw⟩
 have aQ:=hid hbw
 have fC:=hid h12
 have hszW:=hbw.size
 have l6:=aj h6
 have l7:=aj h7
 have l8:=aj h8
 have bn:=aj h12
 obtain⟨p0,p1,p2,p3,p4⟩:=cells5 h6
 obtain⟨q0,q1,q2,q3,q4,q5,q6⟩:=aG h7
 obtain⟨r0,r1,r2⟩:=cells3 h8
 obtain⟨z0,z1,z2⟩:=cells3 h12
 have f0:=frees h12 0
 have f1:=frees h12 1
 have f2:=frees h12 2
 clear h6 h7 h8 h12 hbw
 go_wp2_with fail
 obtain⟨Wf,hWf⟩: ∃Wf:World,Wf=(((W2.setCell ⟨w.heap.size+1+1+1,0,none⟩ (.int .i64 0)).setCell ⟨w.heap.size+1+1+1,1,none⟩ (.int .i64 0)).setCell ⟨w.heap.size+1+1+1,2,none⟩ (.slice none 0 0)):=⟨_,rfl⟩
 rw[←hWf]
 have hrow:Wf.heap[w.heap.size+1+1+1]? =some (.cells #[.int .i64 0,.int .i64 0,.slice none 0 0] 32 (0,0)):=by rw[hWf];exact iB fC.out rfl _ _ _
 have hgr:(W2).grownBy Wf (some (w.heap.size+1+1+1)):=by rw[hWf];first|with_reducible exact bJ grn (by simp)|exact grn
 have hbf:Below w.heap.size w Wf:=Below.grown (by have:=aQ.out;exact aA) hgr (by first|exact hszW|(simp[size_ext,grow];omega)) (fun k hk=>by cases hk;omega)
 clear hWf f0 f1 f2 z0 z1 z2
 obtain⟨u0,u1,u2⟩:=cells3 hrow
 refine bodyPost_ret (v:=.tuple #[.int .i64 12,.agg #[.int .i64 0,.int .i64 0,.slice none 0 0],.slice none 0 0]) (by simp[results,Tryz.results61,go_sem,u0,u1,u2]) rfl ?_
 exact⟨none,0,0,none,0,0,rfl,hbf,bB.nil _ _,fun h=>by cases h⟩
set_option maxRecDepth 100000 in
theorem OD (Ar Aa Ai:Option Addr) (nr cr na ca ni ci:Nat) (R:List Rl) (mc mt mf wt st id req cnt ay au ii:Int) (E:List aH) (li:List UInt8) (w:World) (B:Nat) (hB:B≤w.heap.size) (hR:aD w B Ar R) (hnr:nr=R.length) (hlr:nr≤1000000) (hE:aJ w B Aa E) (hna:na=E.length) (hla:na≤1000000) (hda: ∀e∈E,e.d.length≤1000000) (hI:At w B Ai (li.map bv)) (hni:ni=li.length) (hci:ni≤ci):Calls Tryz.prog 61 #[.agg #[.slice Ar nr cr,.int .i64 mc,.int .i64 mt,.int .i64 mf,.int .i64 wt],.agg #[.int .i64 st,.int .i64 id,.int .i64 req,.slice Aa na ca,.int .i64 cnt,.int .i64 ay,.int .i64 au],.agg #[.int .i64 2,.int .i64 ii,.slice Ai ni ci]] w (mq (bK ⟨R,mc,mt,mf,wt⟩ ⟨st,id,req,E.map aH.o,cnt,ay,au⟩ ⟨2,ii,li⟩) w):=by
 have HB:=hid hB
 have HR:=hid hR
 have gB:=hid hnr
 have HE:=hid hE
 have dz:=hid hna
 have jr:=hid hda
 have HI:=hid hI
 have gy:=hid hni
 obtain⟨L,hL⟩: ∃L,E.map aH.o=L:=⟨_,rfl⟩
 have HL:=hid hL
 rw[hL]
 clear hB hR hnr hE hna hda hL hI hni
 obtain⟨⟨eb,ee⟩,hen⟩: ∃r,Op.encR L=r:=⟨_,rfl⟩
 have jB:=hid hen
 obtain⟨nb,hnb⟩: ∃nb,eb.length=nb:=⟨_,rfl⟩
 have jK:=hid hnb
 have je:=hid (show bK ⟨R,mc,mt,mf,wt⟩ ⟨st,id,req,L,cnt,ay,au⟩ ⟨2,ii,li⟩=if ii=req∧li=eb then some (9,⟨0,0,[]⟩,L) else none by have h:bK ⟨R,mc,mt,mf,wt⟩ ⟨st,id,req,L,cnt,ay,au⟩ ⟨2,ii,li⟩=if ii=req∧li=(Op.encR L).1 then some (9,⟨0,0,[]⟩,L) else none:=rfl;rw[h,hen])
 rw[je.out]
 clear hen hnb je
 by_cases h1:ii=req
 focus
  have h1':(ii==req)=true:=by simpa using h1
  cases h2:(li==eb)
 focus
  have HQ:=hid (show¬(ii=req∧li=eb) from fun h=>by simp at h2;exact h2 h.2)
  rw[if_neg HQ.out]
 rotate_left
 focus
  have HQ:=hid (show ii=req∧li=eb from ⟨h1,by simpa using h2⟩)
  rw[if_pos HQ.out]
 rotate_left
 ·have h1':(ii==req)=false:=by simpa using h1
  have HQ:=hid (show¬(ii=req∧li=eb) from fun h=>h1 h.1)
  rw[if_neg HQ.out]
  clear h1
  go_enter Tryz.func61,Tryz.ntmps61
  go_upto_region 1 with(fail)
  refine fE ?_
  rintro W2 ⟨h6,h7,h8,h12,hbw⟩
  have aQ:=hid hbw
  have fC:=hid h12
  have hszW:=hbw.size
  have l6:=aj h6
  have l7:=aj h7
  have l8:=aj h8
  have bn:=aj h12
  obtain⟨p0,p1,p2,p3,p4⟩:=cells5 h6
  obtain⟨q0,q1,q2,q3,q4,q5,q6⟩:=aG h7
  obtain⟨r0,r1,r2⟩:=cells3 h8
  obtain⟨z0,z1,z2⟩:=cells3 h12
  have f0:=frees h12 0
  have f1:=frees h12 1
  have f2:=frees h12 2
  clear h6 h7 h8 h12 hbw
  go_wp2_with fail
  refine(Op.dZ Aa na ca E _ B (by have:=HB.out;omega) (HE.out.keep (aQ.out.mono HB.out)) dz.out).mono ?_
  rw[HL.out]
  rintro x w5 he
  obtain⟨A5,c5,rfl,hb5,lN,CF⟩:=gK.get he jB.out jK.out
  have qU:=hid lN
  have dO:=hid (show Below W2.heap.size W2 w5 from hb5)
  have hs5:=dO.out.size
  have eZ:=hid ((dO.out.block _ bn).trans fC.out)
  obtain⟨⟨ZI,ZJ,Ud⟩,⟨t25,t35⟩,⟨v05,v15,v25⟩,⟨U4,U5,z25⟩,⟨TP,f15,f25⟩⟩:=jX dO.out l7 l8 bn q2 q3 r0 r1 r2 fC.out
  clear he hb5 lN f0 f1 f2 z0 z1 z2 p0 p1 p2 p3 p4 q0 q1 q2 q3 q4 q5 q6 r0 r1 r2
  go_wp2_with fail
  obtain⟨Wf,hWf⟩: ∃Wf:World,Wf=(((w5.setCell ⟨w.heap.size+1+1+1,0,none⟩ (.int .i64 0)).setCell ⟨w.heap.size+1+1+1,1,none⟩ (.int .i64 0)).setCell ⟨w.heap.size+1+1+1,2,none⟩ (.slice none 0 0)):=⟨_,rfl⟩
  rw[←hWf]
  have hrow:Wf.heap[w.heap.size+1+1+1]? =some (.cells #[.int .i64 0,.int .i64 0,.slice none 0 0] 32 (0,0)):=by rw[hWf];exact iB eZ.out rfl _ _ _
  have hgr:(w5).grownBy Wf (some (w.heap.size+1+1+1)):=by rw[hWf];exact grn
  have hbf:Below w.heap.size w Wf:=Below.grown (aQ.out.trans (dO.out.mono hszW)) hgr (aaF hszW hs5) (fun k hk=>by cases hk;omega)
  clear hWf U4 U5 z25 TP f15 f25
  obtain⟨u0,u1,u2⟩:=cells3 hrow
  refine bodyPost_ret (v:=.tuple #[.int .i64 0,.agg #[.int .i64 0,.int .i64 0,.slice none 0 0],.slice none 0 0]) (by simp[results,Tryz.results61,go_sem,u0,u1,u2]) rfl ?_
  exact⟨_,_,_,rfl,hbf⟩
 all_goals
  clear h1
  go_enter Tryz.func61,Tryz.ntmps61
  go_upto_region 1 with(fail)
  refine fE ?_
  rintro W2 ⟨h6,h7,h8,h12,hbw⟩
  have aQ:=hid hbw
  have fC:=hid h12
  have hszW:=hbw.size
  have l6:=aj h6
  have l7:=aj h7
  have l8:=aj h8
  have bn:=aj h12
  obtain⟨p0,p1,p2,p3,p4⟩:=cells5 h6
  obtain⟨q0,q1,q2,q3,q4,q5,q6⟩:=aG h7
  obtain⟨r0,r1,r2⟩:=cells3 h8
  obtain⟨z0,z1,z2⟩:=cells3 h12
  have f0:=frees h12 0
  have f1:=frees h12 1
  have f2:=frees h12 2
  clear h6 h7 h8 h12 hbw
  go_wp2_with fail
  refine(Op.dZ Aa na ca E _ B (by have:=HB.out;omega) (HE.out.keep (aQ.out.mono HB.out)) dz.out).mono ?_
  rw[HL.out]
  rintro x w5 he
  obtain⟨A5,c5,rfl,hb5,lN,CF⟩:=gK.get he jB.out jK.out
  have qU:=hid lN
  have dO:=hid (show Below W2.heap.size W2 w5 from hb5)
  have hs5:=dO.out.size
  have eZ:=hid ((dO.out.block _ bn).trans fC.out)
  obtain⟨⟨ZI,ZJ,Ud⟩,⟨t25,t35⟩,⟨v05,v15,v25⟩,⟨U4,U5,z25⟩,⟨TP,f15,f25⟩⟩:=jX dO.out l7 l8 bn q2 q3 r0 r1 r2 fC.out
  clear he hb5 lN f0 f1 f2 z0 z1 z2 p0 p1 p2 p3 p4 q0 q1 q2 q3 q4 q5 q6 r0 r1 r2
  have k1: ∀W:World,At W w5.heap.size Ai (li.map bv)→(convert 30 9 (.slice Ai ni ci)).run Tryz.prog W=.ok (.string ⟨li.toArray⟩) W:=fun W h=>gM Tryz.underlying30 Tryz.underlying5 Tryz.underlying9 gy.out h
  have k2: ∀W:World,At W w5.heap.size A5 (eb.map bv)→(convert 30 9 (.slice A5 nb c5)).run Tryz.prog W=.ok (.string ⟨eb.toArray⟩) W:=fun W h=>gM Tryz.underlying30 Tryz.underlying5 Tryz.underlying9 jK.out.symm h
  have g1:At w5 w5.heap.size Ai (li.map bv):=((HI.out.keep ((aQ.out.trans (dO.out.mono hszW)).mono HB.out))).more (by have:=HB.out;omega)
  have g2:At w5 w5.heap.size A5 (eb.map bv):=At.bq qU.out
  go_wp2_with fail
  clear k1 k2 g1 g2
  obtain⟨Wf,hWf⟩: ∃Wf:World,Wf=(((w5.setCell ⟨w.heap.size+1+1+1,0,none⟩ (.int .i64 0)).setCell ⟨w.heap.size+1+1+1,1,none⟩ (.int .i64 0)).setCell ⟨w.heap.size+1+1+1,2,none⟩ (.slice none 0 0)):=⟨_,rfl⟩
  rw[←hWf]
  have hrow:Wf.heap[w.heap.size+1+1+1]? =some (.cells #[.int .i64 0,.int .i64 0,.slice none 0 0] 32 (0,0)):=by rw[hWf];exact iB eZ.out rfl _ _ _
  have hgr:(w5).grownBy Wf (some (w.heap.size+1+1+1)):=by rw[hWf];exact grn
  have hbf:Below w.heap.size w Wf:=Below.grown (aQ.out.trans (dO.out.mono hszW)) hgr (aaF hszW hs5) (fun k hk=>by cases hk;omega)
  clear hWf U4 U5 z25 TP f15 f25
  obtain⟨u0,u1,u2⟩:=cells3 hrow
 ·refine bodyPost_ret (v:=.tuple #[.int .i64 0,.agg #[.int .i64 0,.int .i64 0,.slice none 0 0],.slice none 0 0]) (by simp[results,Tryz.results61,go_sem,u0,u1,u2]) rfl ?_
  exact⟨_,_,_,rfl,hbf⟩
 ·refine bodyPost_ret (v:=.tuple #[.int .i64 9,.agg #[.int .i64 0,.int .i64 0,.slice none 0 0],.slice none 0 0]) (by simp[results,Tryz.results61,go_sem,u0,u1,u2]) rfl ?_
  exact⟨none,0,0,none,0,0,rfl,hbf,bB.nil _ _,fun h=>by cases h⟩
end Go.Proofs.YtfkgmbknfnhjoaaGreat
