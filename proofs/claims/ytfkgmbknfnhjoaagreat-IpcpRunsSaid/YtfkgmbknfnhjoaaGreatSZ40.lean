/- PE PY Z40 -/
import Derived.Test.YtfkgmbknfnhjoaaGreatSPD
import Derived.Test.YtfkgmbknfnhjoaaGreatSPB
import Derived.Test.YtfkgmbknfnhjoaaGreatSZ7
import Derived.BigQuiet
set_option linter.all false
set_option linter.ambiguousOpen false
set_option maxHeartbeats 4000000
namespace Go.Proofs.YtfkgmbknfnhjoaaGreat
open Lib (hid)
open Go.RowKit
open Ne (Rl bF aD bM)
open Fs (av hasB)
def sU (w:World) (B:Nat) (v:Value) (out:List Pk):Prop:= ∃(A:Option Addr) (n c:Nat) (P:List Pe),v=.slice A n c∧mW w B A P∧n=P.length∧n≤c∧P.map Pe.o=out
theorem sU.keep {w w':World} {B:Nat} {v:Value} {l:List Pk} (h:sU w B v l) (hb:Below B w w'):sU w' B v l:=by
 obtain⟨A,n,c,P,rfl,h1,h2,h3,h4⟩:=h;exact⟨A,n,c,P,rfl,h1.keep hb,h2,h3,h4⟩
theorem sU.more {w:World} {B B':Nat} {v:Value} {l:List Pk} (h:sU w B v l) (hb:B≤B'):sU w B' v l:=by
 obtain⟨A,n,c,P,rfl,h1,h2,h3,h4⟩:=h;exact⟨A,n,c,P,rfl,h1.more hb,h2,h3,h4⟩
theorem dP.v {w:World} {base:Nat} {v:Value} {out:List Pk} (h:dP w base v out):sU w w.heap.size v out:=by
 obtain⟨P,hP,he⟩:=h
 obtain⟨A,c,rfl,hc,-⟩:=ownsRow_form hP.1
 exact⟨A,_,c,P,rfl,hP.at,rfl,hc,he⟩
theorem Dx (a:Au):jm a a=true:=by simp[jm,Op.jA]
set_option maxRecDepth 100000 in
theorem yT (A1 A2:Option Addr) (n1 n2 c1 c2:Nat) (P1 P2:List Pe) (w:World) (B:Nat) (hB:B≤w.heap.size) (h1:mW w B A1 P1) (h2:mW w B A2 P2) (hn1:n1=P1.length) (hn2:n2=P2.length) (he:P1.map Pe.o=P2.map Pe.o) (hl:n1≤1000000):
  Calls Tryz.prog 22 #[.slice A1 n1 c1,.slice A2 n2 c2] w fun x w'=>x=.returned (.bool true)∧Below w.heap.size w w':=by
 have sS:=hid (show n2=n1 by have:=congrArg List.length he;simp only[List.length_map] at this;omega)
 have hll:=sS.out
 subst hll
 have H1:=hid h1
 have H2:=hid h2
 have lD:=hid hn1
 have iA:=hid hn2
 have HE:=hid he
 have HB:=hid hB
 clear h1 h2 hn1 hn2 he hB sS
 go_enter Tryz.func22,Tryz.ntmps22
 go_wp2_with fail
 go_loopw [5] (fun i wr=> ∃k:Nat,k≤n2∧i=.int .i64 k∧Below w.heap.size w wr) (fun i _=>n2-(intOf i).toNat)
 case atStart=>exact⟨0,Nat.zero_le _,rfl,Below.refl _ _⟩
 case round=>
  obtain⟨k,hk,rfl,hbl⟩:=hrel
  have cu:=hid hbl
  have Av:=hbl.size
  clear hbl
  by_cases hlt:k<n2
  ·have qP:=hid (show k<P1.length by have:=lD.out;omega)
   have tF:=hid (show k<P2.length by have:=iA.out;omega)
   obtain⟨b1,o1,rfl,hb1,x0,x1,x2⟩:=(H1.out.keep (cu.out.mono HB.out)).get qP.out
   obtain⟨b2,o2,rfl,hb2,y0,y1,y2⟩:=(H2.out.keep (cu.out.mono HB.out)).get tF.out
   have Lb:=H1.out.2 _ (List.getElem_mem qP.out)
   have jM:=H2.out.2 _ (List.getElem_mem tF.out)
   have heq:(P1[k]'qP.out).o=(P2[k]'tF.out).o:=by
    have h3:(P1.map Pe.o)[k]? =(P2.map Pe.o)[k]?:=by rw[HE.out]
    rw[List.getElem?_map,List.getElem?_map,List.getElem?_eq_getElem qP.out,List.getElem?_eq_getElem tF.out] at h3
    simpa using h3
   obtain⟨⟨co,id,d,a,c⟩,he1⟩: ∃e,P1[k]'qP.out=e:=⟨_,rfl⟩
   obtain⟨⟨fq,id',d',a',c'⟩,he2⟩: ∃e,P2[k]'tF.out=e:=⟨_,rfl⟩
   rw[he1] at x0 x1 x2 Lb heq
   rw[he2] at y0 y1 y2 jM heq
   simp only[Pe.o,Pk.mk.injEq] at heq
   obtain⟨rfl,rfl,rfl⟩:=heq
   unfold Pe.v at x2 y2
   simp only at x0 x1 x2 y0 y1 y2 Lb jM
   have HA1:=hid Lb
   have HA2:=hid jM
   clear Lb jM he1 he2
   have z1:b1<wr.heap.size:=by have:=HB.out;omega
   have z2:b2<wr.heap.size:=by have:=HB.out;omega
   have kk0:(0:Int)≤(k:Int):=by omega
   have kk1:(k:Int)<(n2:Int):=by omega
   go_wp2_with fail
   go_region_held3 (fun w'=>w'.cell? ⟨b1,o1+k*3,none⟩=some (.int .i64 co)∧w'.cell? ⟨b1,o1+k*3+1,none⟩=some (.int .i64 id)∧w'.cell? ⟨b1,o1+k*3+2,none⟩=some (.slice a d.length c)∧w'.cell? ⟨b2,o2+k*3,none⟩=some (.int .i64 co)∧w'.cell? ⟨b2,o2+k*3+1,none⟩=some (.int .i64 id)∧w'.cell? ⟨b2,o2+k*3+2,none⟩=some (.slice a' d.length c')) (first|(go_keep;done)|(go_simp;done)|(simp[go_sem];done)) ((go_at_call 65;go_must (refine(Cp.F9 co id a a' d.length c c' d _ B (by have:=HB.out;first|omega|(simp;omega)) ((HA1.out.1.keep (cu.out.mono HB.out)).keep (by exact aA)) ((HA2.out.1.keep (cu.out.mono HB.out)).keep (by exact aA)) rfl).mono ?_);rintro e w2 ⟨rfl,hb⟩;obtain⟨xs2,d2,rfl⟩:=aB hb;clear hb))
   all_goals
    go_wp2_with fail
    go_roundw
    case rel=>exact⟨k+1,by omega,by go_num,by have:=cu.out;exact aA⟩
    case measure=>simp[intOf];omega
  ·obtain rfl:k=n2:=by omega
   go_wp2_with fail
   go_ret
   exact⟨rfl,cu.out⟩
def mh (c:Cf) (a:Au) (tick:Int):Au×List Pk×List Int:=
 if a.ay=0∨tick<a.ay then(a,[],[]) else jo c a (if 0<a.cnt then 5 else 6) ⟨0,0,[]⟩ ⟨0,0,[]⟩ tick
theorem aI.jZ {A C:World} {base X:Nat} {v:Value} {L:List bF} {cur:Array Value} {e':TypeId} (h:bA A base v L) (hg:A.grownBy C (some X)) (hX:A.heap[X]? =some (.cells cur e' (0,0))) (h1:e'≠111) (h2:e'≠5):bA C base v L:=by
 obtain⟨E,h,he⟩:=h
 exact⟨E,h.other hg hX h1 h2,he⟩
theorem dP.other {A C:World} {base X:Nat} {v:Value} {out:List Pk} {cur:Array Value} {e':TypeId} (h:dP A base v out) (hg:A.grownBy C (some X)) (hX:A.heap[X]? =some (.cells cur e' (0,0))) (h1:e'≠32) (h2:e'≠5):dP C base v out:=by
 obtain⟨P,h,he⟩:=h
 exact⟨P,⟨aW h.1 hg fun r e=>by cases e;exact .inr (.inr ⟨_,_,hX,h1⟩),fun x hx=>aW (h.2 x hx) hg fun r e=>by cases e;exact .inr (.inr ⟨_,_,hX,h2⟩)⟩,he⟩
theorem aU.other {A C:World} {base X:Nat} {v:Value} {l:List Int} {cur:Array Value} {e':TypeId} (h:aU A base v l) (hg:A.grownBy C (some X)) (hX:A.heap[X]? =some (.cells cur e' (0,0))) (h1:e'≠104):aU C base v l:=
 aW h hg fun r e=>by cases e;exact .inr (.inr ⟨_,_,hX,h1⟩)
theorem bA.base {A:World} {b b':Nat} {v:Value} {L:List bF} (h:bA A b v L) (hb:b'≤b):bA A b' v L:=by
 obtain⟨E,h,he⟩:=h
 exact⟨E,h.base hb,he⟩
theorem dP.base {A:World} {b b':Nat} {v:Value} {out:List Pk} (h:dP A b v out) (hb:b'≤b):dP A b' v out:=by
 obtain⟨P,h,he⟩:=h
 exact⟨P,h.base hb,he⟩
theorem aU.base {A:World} {b b':Nat} {v:Value} {l:List Int} (h:aU A b v l) (hb:b'≤b):aU A b' v l:=aK h hb
theorem bJ {w w':World} {X:Nat} {xs:List Obj} {d d':Nat} (h:w.grownBy w' (some X)) (hs:w'.heap.size=w.heap.size):(ext w xs d).grownBy (ext w' xs d') (some X):=
 ⟨h.os,h.tape,h.output,by simp[size_ext,grow,hs],fun k hk hne=>by
  by_cases hkw:k<w.heap.size
  ·rw[gQ w' xs d' k (by omega),gQ w xs d k hkw];exact h.block k hkw hne
  ·exact nK w w' xs d d' k hs.symm (by omega)⟩
theorem bA.below {A C:World} {b:Nat} {v:Value} {L:List bF} (h:bA A b v L) (hb:Below A.heap.size A C):bA C b v L:=by
 obtain⟨E,h,he⟩:=h
 exact⟨E,h.below hb,he⟩
theorem bA.v {A:World} {b:Nat} {v:Value} {L:List bF} (h:bA A b v L):uy A A.heap.size v L:=by
 obtain⟨E,h,he⟩:=h
 obtain⟨Ao,c,rfl,hc,-⟩:=ownsRow_form h.1
 exact⟨Ao,_,c,E,rfl,h.at,rfl,hc,he⟩
theorem aU.below {A C:World} {b:Nat} {v:Value} {l:List Int} (h:aU A b v l) (hb:Below A.heap.size A C):aU C b v l:=own_below h hb
theorem dP.below {A C:World} {b:Nat} {v:Value} {out:List Pk} (h:dP A b v out) (hb:Below A.heap.size A C):dP C b v out:=by
 obtain⟨P,h,he⟩:=h
 exact⟨P,h.below hb,he⟩
set_option maxRecDepth 100000 in
theorem Bv (Ar Aa:Option Addr) (nr cr na ca:Nat) (R:List Rl) (mc mt mf wt st id req cnt ay au tick:Int) (E:List aH) (w:World) (B:Nat) (hB:B≤w.heap.size) (hR:aD w B Ar R) (hnr:nr=R.length) (hlr:nr≤1000000) (hE:aJ w B Aa E) (hna:na=E.length) (hla:na≤1000000) (hda: ∀e∈E,e.d.length≤400000000):
  Calls Tryz.prog 16 #[.agg #[.slice Ar nr cr,.int .i64 mc,.int .i64 mt,.int .i64 mf,.int .i64 wt],.agg #[.int .i64 st,.int .i64 id,.int .i64 req,.slice Aa na ca,.int .i64 cnt,.int .i64 ay,.int .i64 au],.int .i64 tick] w (U8 (mh ⟨R,mc,mt,mf,wt⟩ ⟨st,id,req,E.map aH.o,cnt,ay,au⟩ tick) w):=by
 have jr:=hid hda
 clear hda
 have HB:=hid hB
 have HR:=hid hR
 have gB:=hid hnr
 have HE:=hid hE
 have dz:=hid hna
 obtain⟨L,hL⟩: ∃L,E.map aH.o=L:=⟨_,rfl⟩
 have HL:=hid hL
 rw[hL]
 clear hB hR hnr hE hna hL
 by_cases h0:ay=0∨tick<ay
 ·have HT:=hid (show mh ⟨R,mc,mt,mf,wt⟩ ⟨st,id,req,L,cnt,ay,au⟩ tick=(⟨st,id,req,L,cnt,ay,au⟩,[],[]) from if_pos h0)
  rw[HT.out]
  by_cases h1:ay=0
  all_goals
   first|have h2:(ay==0)=true:=by simpa using h1
        |have h2:(ay==0)=false:=by simpa using h1
   first|have h3:tick<ay:=by omega
        |have h3:True:=trivial
   have HT0:=hid h1
   clear h0 h1
   go_enter Tryz.func16,Tryz.ntmps16
   go_upto_region 1 with(fail)
   refine bY (fun W=>W.heap[w.heap.size]? =some (.cells #[.slice Ar nr cr,.int .i64 mc,.int .i64 mt,.int .i64 mf,.int .i64 wt] 24 (0,0))∧W.heap[w.heap.size+1]? =some (.cells #[.int .i64 st,.int .i64 id,.int .i64 req,.slice Aa na ca,.int .i64 cnt,.int .i64 ay,.int .i64 au] 29 (0,0))∧W.heap[w.heap.size+1+1]? =some (.cells #[.int .i64 0,.int .i64 0,.int .i64 0,.slice none 0 0,.int .i64 0,.int .i64 0,.int .i64 0] 29 (0,0))∧Below w.heap.size w W) ⟨by exact hpa,by exact hpa,by exact hpa,by exact aA⟩ ?_
   rintro W2 ⟨h6,h7,h12,hbw⟩
   have aQ:=hid hbw
   have fC:=hid h12
   have hszW:=hbw.size
   have l6:=aj h6
   have l7:=aj h7
   have bn:=aj h12
   obtain⟨p0,p1,p2,p3,p4⟩:=cells5 h6
   obtain⟨q0,q1,q2,q3,q4,q5,q6⟩:=aG h7
   obtain⟨z0,z1,z2,z3,z4,z5,z6⟩:=aG h12
   have f0:=frees h12 0
   have f1:=frees h12 1
   have f2:=frees h12 2
   have f3:=frees h12 3
   have f4:=frees h12 4
   have f5:=frees h12 5
   have f6:=frees h12 6
   clear h6 h7 h12 hbw
   go_wp2_with fail
   refine(mD st id req cnt ay au Aa na ca E W2 B (by have:=HB.out;omega) (HE.out.keep (aQ.out.mono HB.out)) dz.out hla jr.out).mono ?_
   rintro x w1 ⟨v,rfl,E2,A2,n2,c2,rfl,he2,hn2,hc2,hb,ho⟩
   have HE2:=hid (show E2.map aH.o=L from he2.trans HL.out)
   have HO:=hid ho
   have HZ:=hid ((hb.block _ bn).trans fC.out)
   have jJ:=hid (aQ.out.trans (hb.mono hszW))
   obtain⟨xs,d,rfl⟩:=aB hb
   clear hb ho he2 hn2 hc2
   dsimp only
   go_wp2_with fail
   obtain⟨Wf,hWf⟩: ∃Wf,Wf=ext (((((((W2.setCell ⟨w.heap.size+1+1,0,none⟩ (.int .i64 st)).setCell ⟨w.heap.size+1+1,1,none⟩ (.int .i64 id)).setCell ⟨w.heap.size+1+1,2,none⟩ (.int .i64 req)).setCell ⟨w.heap.size+1+1,3,none⟩ (.slice A2 n2 c2)).setCell ⟨w.heap.size+1+1,4,none⟩ (.int .i64 cnt)).setCell ⟨w.heap.size+1+1,5,none⟩ (.int .i64 ay)).setCell ⟨w.heap.size+1+1,6,none⟩ (.int .i64 au)) xs d:=⟨_,rfl⟩
   rw[←hWf]
   have hrow:Wf.heap[w.heap.size+1+1]? =some (.cells #[.int .i64 st,.int .i64 id,.int .i64 req,.slice A2 n2 c2,.int .i64 cnt,.int .i64 ay,.int .i64 au] 29 (0,0)):=by rw[hWf];exact(aO _ _ _ _ (by simp;exact bn)).trans (gF fC.out rfl _ _ _ _ _ _ _)
   have hgr:(ext W2 xs d).grownBy Wf (some (w.heap.size+1+1)):=by rw[hWf];first|with_reducible exact bJ grn (by simp)|exact grn
   clear hWf f0 f1 f2 f3 f4 f5 f6 z0 z1 z2 z3 z4 z5 z6
   obtain⟨u0,u1,u2,u3,u4,u5,u6⟩:=aG hrow
   refine bodyPost_ret (v:=.tuple #[.agg #[.int .i64 st,.int .i64 id,.int .i64 req,.slice A2 n2 c2,.int .i64 cnt,.int .i64 ay,.int .i64 au],.slice none 0 0,.slice none 0 0]) (by simp[results,Tryz.results16,go_sem,u0,u1,u2,u3,u4,u5,u6]) rfl ?_
   exact⟨.slice A2 n2 c2,.slice none 0 0,.slice none 0 0,rfl,Below.grown jJ.out hgr (by simp[size_ext,grow];omega) (fun k hk=>by cases hk;omega),bA.base (aI.jZ ⟨E2,HO.out,HE2.out⟩ hgr HZ.out (by decide) (by decide)) hszW,⟨[],dM.nil _ _,rfl⟩,aU.nil _ _⟩
 ·have HT:=hid (show mh ⟨R,mc,mt,mf,wt⟩ ⟨st,id,req,L,cnt,ay,au⟩ tick=jo ⟨R,mc,mt,mf,wt⟩ ⟨st,id,req,L,cnt,ay,au⟩ (if 0<cnt then 5 else 6) ⟨0,0,[]⟩ ⟨0,0,[]⟩ tick from if_neg h0)
  have h2:(ay==0)=false:=by simp;omega
  have h3: ¬tick<ay:=by omega
  obtain⟨ev,hev⟩: ∃ev:Int,(if 0<cnt then 5 else 6)=ev:=⟨_,rfl⟩
  rw[hev] at HT
  obtain⟨⟨⟨s1,i1,r1,L1,c1,t1,k1⟩,o1,d1⟩,hr⟩: ∃r,jo ⟨R,mc,mt,mf,wt⟩ ⟨st,id,req,L,cnt,ay,au⟩ ev ⟨0,0,[]⟩ ⟨0,0,[]⟩ tick=r:=⟨_,rfl⟩
  have HR2:=hid hr
  rw[hr] at HT
  rw[HT.out]
  clear h0 hr
  have HF:=hid hev
  clear hev
  by_cases hc:0<cnt
  all_goals
   first|have HV:=hid (show ev=5 from HF.out.symm.trans (if_pos hc))
        |have HV:=hid (show ev=6 from HF.out.symm.trans (if_neg hc))
  all_goals
   go_enter Tryz.func16,Tryz.ntmps16
   go_upto_region 1 with(fail)
   refine bY (fun W=>W.heap[w.heap.size]? =some (.cells #[.slice Ar nr cr,.int .i64 mc,.int .i64 mt,.int .i64 mf,.int .i64 wt] 24 (0,0))∧W.heap[w.heap.size+1]? =some (.cells #[.int .i64 st,.int .i64 id,.int .i64 req,.slice Aa na ca,.int .i64 cnt,.int .i64 ay,.int .i64 au] 29 (0,0))∧W.heap[w.heap.size+1+1]? =some (.cells #[.int .i64 0,.int .i64 0,.int .i64 0,.slice none 0 0,.int .i64 0,.int .i64 0,.int .i64 0] 29 (0,0))∧Below w.heap.size w W) ⟨by exact hpa,by exact hpa,by exact hpa,by exact aA⟩ ?_
   rintro W2 ⟨h6,h7,h12,hbw⟩
   have aQ:=hid hbw
   have fC:=hid h12
   have hszW:=hbw.size
   have l6:=aj h6
   have l7:=aj h7
   have bn:=aj h12
   obtain⟨p0,p1,p2,p3,p4⟩:=cells5 h6
   obtain⟨q0,q1,q2,q3,q4,q5,q6⟩:=aG h7
   obtain⟨z0,z1,z2,z3,z4,z5,z6⟩:=aG h12
   have f0:=frees h12 0
   have f1:=frees h12 1
   have f2:=frees h12 2
   have f3:=frees h12 3
   have f4:=frees h12 4
   have f5:=frees h12 5
   have f6:=frees h12 6
   clear h6 h7 h12 hbw
   go_wp2_with fail
   have hev:=HV.out
   subst hev
   refine(yC Ar Aa none none nr cr na ca 0 0 0 0 R mc mt mf wt st id req cnt ay au _ 0 0 0 0 tick E [] [] W2 B (by have:=HB.out;omega) (HR.out.keep (aQ.out.mono HB.out)) gB.out hlr (HE.out.keep (aQ.out.mono HB.out)) dz.out hla jr.out (At.nil _ _ _) rfl (aaE _) (by simp) (At.nil _ _ _) rfl (aaE _) (by simp)).mono ?_
   rw[HL.out,HR2.out]
   rintro x w4 ⟨va,vo,vd,rfl,hb4,vR,yH,WE⟩
   have fu:=hid hb4
   have zQ:=hid yH
   have Kt:=hid WE
   have HZ:=hid ((hb4.block _ bn).trans fC.out)
   have jJ:=hid (aQ.out.trans (hb4.mono hszW))
   have Iy:=hb4.size
   have lz:w.heap.size+1+1<w4.heap.size:=by omega
   clear f0 f1 f2 f3 f4 f5 f6 p0 p1 p2 p3 p4 q0 q1 q2 q3 q4 q5 q6 z0 z1 z2 z3 z4 z5 z6 hb4 yH WE
   obtain⟨z0,z1,z2,z3,z4,z5,z6⟩:=aG HZ.out
   have f0:=frees HZ.out 0
   have f1:=frees HZ.out 1
   have f2:=frees HZ.out 2
   have f3:=frees HZ.out 3
   have f4:=frees HZ.out 4
   have f5:=frees HZ.out 5
   have f6:=frees HZ.out 6
   unfold vV
   have qR:=hid vR
   clear vR
   obtain⟨E4,Cw,EZ⟩:=qR.out
   obtain⟨A4,c4,rfl,-,-⟩:=ownsRow_form Cw.1
   go_wp2_with fail
   obtain⟨Wf,hWf⟩: ∃Wf,Wf=(((((((w4.setCell ⟨w.heap.size+1+1,0,none⟩ (.int .i64 s1)).setCell ⟨w.heap.size+1+1,1,none⟩ (.int .i64 i1)).setCell ⟨w.heap.size+1+1,2,none⟩ (.int .i64 r1)).setCell ⟨w.heap.size+1+1,3,none⟩ (.slice A4 E4.length c4)).setCell ⟨w.heap.size+1+1,4,none⟩ (.int .i64 c1)).setCell ⟨w.heap.size+1+1,5,none⟩ (.int .i64 t1)).setCell ⟨w.heap.size+1+1,6,none⟩ (.int .i64 k1)):=⟨_,rfl⟩
   rw[←hWf]
   have hrow:Wf.heap[w.heap.size+1+1]? =some (.cells #[.int .i64 s1,.int .i64 i1,.int .i64 r1,.slice A4 E4.length c4,.int .i64 c1,.int .i64 t1,.int .i64 k1] 29 (0,0)):=by rw[hWf];exact gF HZ.out rfl _ _ _ _ _ _ _
   have hgr:(w4).grownBy Wf (some (w.heap.size+1+1)):=by rw[hWf];first|with_reducible exact bJ grn (by simp)|exact grn
   clear hWf f0 f1 f2 f3 f4 f5 f6 z0 z1 z2 z3 z4 z5 z6
   obtain⟨u0,u1,u2,u3,u4,u5,u6⟩:=aG hrow
   refine bodyPost_ret (v:=.tuple #[.agg #[.int .i64 s1,.int .i64 i1,.int .i64 r1,.slice A4 E4.length c4,.int .i64 c1,.int .i64 t1,.int .i64 k1],vo,vd]) (by simp[results,Tryz.results16,go_sem,u0,u1,u2,u3,u4,u5,u6]) rfl ?_
   exact⟨.slice A4 E4.length c4,vo,vd,rfl,Below.grown jJ.out hgr (by omega) (fun k hk=>by cases hk;omega),bA.base (aI.jZ qR.out hgr HZ.out (by decide) (by decide)) hszW,dP.base (zQ.out.other hgr HZ.out (by decide) (by decide)) hszW,aU.base (Kt.out.other hgr HZ.out (by decide)) hszW⟩
end Go.Proofs.YtfkgmbknfnhjoaaGreat

set_option maxHeartbeats 4000000
namespace Go.Proofs.YtfkgmbknfnhjoaaGreat
open Lib (hid)
open Go.RowKit
open Ne (Rl aD bM)
end Go.Proofs.YtfkgmbknfnhjoaaGreat

set_option maxHeartbeats 8000000
namespace Go.Proofs.YtfkgmbknfnhjoaaGreat
open Lib (hid)
open Go.RowKit
open Ne (Rl bF aD bM dJ)
set_option maxRecDepth 100000 in
theorem Dj (Ar Aa:Option Addr) (nr cr na ca:Nat) (R:List Rl) (mc mt mf wt st id req cnt ay au:Int) (E:List aH) (L:List bF) (hL:E.map aH.o=L) (w:World) (B:Nat) (hB:B≤w.heap.size) (hR:aD w B Ar R) (hnr:nr=R.length) (hlr:nr≤1000000) (hE:aJ w B Aa E) (hna:na=E.length):
  Calls Tryz.prog 78 #[.agg #[.int .i64 st,.int .i64 id,.int .i64 req,.slice Aa na ca,.int .i64 cnt,.int .i64 ay,.int .i64 au],.agg #[.slice Ar nr cr,.int .i64 mc,.int .i64 mt,.int .i64 mf,.int .i64 wt]] w fun x w'=>x=.returned (.int .i64 (g_ ⟨R,mc,mt,mf,wt⟩ ⟨st,id,req,L,cnt,ay,au⟩))∧Below w.heap.size w w':=by
 have HB:=hid hB
 have HR:=hid hR
 have gB:=hid hnr
 have HE:=hid hE
 have dz:=hid hna
 have HL:=hid hL
 clear hB hR hnr hE hna hL
 cases h1:dA ⟨R,mc,mt,mf,wt⟩<;>cases h2:fA ⟨st,id,req,L,cnt,ay,au⟩
 all_goals
  have H1:=hid h1
  have H2:=hid h2
  clear h1 h2
  go_enter Tryz.func78,Tryz.ntmps78
  go_wp2_with (first|(go_at_call 13;go_must (refine(uH Ar nr cr R mc mt mf wt _ B (by have:=HB.out;first|omega|(simp[size_ext,grow];omega)) (by exact HR.out.keep (by have:=HB.out;exact aA)) gB.out hlr).mono ?_);rw[H1.out];rintro e w3 ⟨rfl,hb3⟩;obtain⟨mP,d3,rfl⟩:=aB hb3;clear hb3)|(go_at_call 24;go_must (refine(nQ st id req cnt ay au Aa na ca E L HL.out _ B (by have:=HB.out;first|omega|(simp[size_ext,grow];omega)) (by exact HE.out.keep (by have:=HB.out;exact aA)) dz.out).mono ?_);rw[H2.out];rintro e w4 ⟨rfl,hb4⟩;obtain⟨xO,d4,rfl⟩:=aB hb4;clear hb4))
  go_ret
  exact⟨by unfold g_;rw[H1.out,H2.out];rfl,by have:=HB.out;exact aA⟩
set_option maxRecDepth 100000 in
theorem Ed (mr mc mt mf wt ec lo:Int) (st id req cnt ay au own peer:Int) (Aa:Option Addr) (na ca:Nat) (E:List aH) (L:List bF) (hL:E.map aH.o=L) (w:World) (B:Nat) (hB:B≤w.heap.size) (hE:aJ w B Aa E) (hna:na=E.length) (hp:dJ peer):
  Calls Tryz.prog 36 #[.agg #[.int .i64 mr,.int .i64 mc,.int .i64 mt,.int .i64 mf,.int .i64 wt,.int .i64 ec,.int .i64 lo],.agg #[.int .i64 st,.int .i64 id,.int .i64 req,.slice Aa na ca,.int .i64 cnt,.int .i64 ay,.int .i64 au,.int .i64 own,.int .i64 peer]] w fun x w'=>x=.returned (.bool (rO mc mt mf wt ⟨st,id,req,L,cnt,ay,au⟩ own peer))∧Below w.heap.size w w':=by
 have HB:=hid hB
 have HE:=hid hE
 have dz:=hid hna
 have HP:=hid hp
 have HL:=hid hL
 clear hB hE hna hp hL
 by_cases a1:1≤own
 focus
  by_cases a2:own≤4294967295
 focus
  by_cases a3:1≤peer
 focus
  by_cases a4:peer≤4294967295
 focus
  have HA:=hid (show bC own 1 4294967295=true∧bC peer 1 4294967295=true by unfold bC;simp[a1,a2,a3,a4])
  by_cases h3:dA (vY mc mt mf wt peer)=true∧fA ⟨st,id,req,L,cnt,ay,au⟩=true
 focus
  have HV:=hid (show rO mc mt mf wt ⟨st,id,req,L,cnt,ay,au⟩ own peer=true by unfold rO;rw[HA.out.1,HA.out.2,h3.1,h3.2];rfl)
  have HK:=hid (show g_ ⟨[dX peer],mc,mt,mf,wt⟩ ⟨st,id,req,L,cnt,ay,au⟩=0 by unfold g_;exact if_pos h3)
  clear h3
 rotate_left
 focus
  have HV:=hid (show rO mc mt mf wt ⟨st,id,req,L,cnt,ay,au⟩ own peer=false by
   unfold rO
   rw[HA.out.1,HA.out.2]
   simpa using h3)
  have HK:=hid (show g_ ⟨[dX peer],mc,mt,mf,wt⟩ ⟨st,id,req,L,cnt,ay,au⟩=160 by unfold g_;exact if_neg h3)
  clear h3
 rotate_left
 focus
  have HV:=hid (show rO mc mt mf wt ⟨st,id,req,L,cnt,ay,au⟩ own peer=false by
   unfold rO bC
   simp_all<;>(intros;omega))
 rotate_left
 focus
  have HV:=hid (show rO mc mt mf wt ⟨st,id,req,L,cnt,ay,au⟩ own peer=false by
   unfold rO bC
   simp_all<;>(intros;omega))
 rotate_left
 focus
  have HV:=hid (show rO mc mt mf wt ⟨st,id,req,L,cnt,ay,au⟩ own peer=false by
   unfold rO bC
   simp_all<;>(intros;omega))
 rotate_left
 focus
  have HV:=hid (show rO mc mt mf wt ⟨st,id,req,L,cnt,ay,au⟩ own peer=false by
   unfold rO bC
   simp_all<;>(intros;omega))
 rotate_left
 all_goals
  go_enter Tryz.func36,Tryz.ntmps36
  go_upto_region 1 with(fail)
  refine bY (fun W=>W.heap[w.heap.size]? =some (.cells #[.int .i64 mr,.int .i64 mc,.int .i64 mt,.int .i64 mf,.int .i64 wt,.int .i64 ec,.int .i64 lo] 64 (0,0))∧W.heap[w.heap.size+1]? =some (.cells #[.int .i64 st,.int .i64 id,.int .i64 req,.slice Aa na ca,.int .i64 cnt,.int .i64 ay,.int .i64 au,.int .i64 own,.int .i64 peer] 60 (0,0))∧Below w.heap.size w W) ⟨by exact hpa,by exact hpa,by exact aA⟩ ?_
  rintro W1 ⟨hc,hn,hb⟩
  have HB1:=hid hb
  have hs1:=hb.size
  have lc:=aj hc
  have ln:=aj hn
  obtain⟨c0,c1,c2,c3,c4,c5,c6⟩:=aG hc
  obtain⟨n0,n1,n2,n3,n4,n5,n6,n7,n8⟩:=aL hn
  clear hc hn hb
 rotate_left
 rotate_left
 ·go_quiet (fail)
  all_goals
   go_wp2_with fail
   go_ret
   exact⟨by rw[HV.out];rfl,by have h:=HB1.out;exact aA⟩
 ·go_quiet (fail)
  all_goals
   go_wp2_with fail
   go_ret
   exact⟨by rw[HV.out];rfl,by have h:=HB1.out;exact aA⟩
 ·go_quiet (fail)
  all_goals
   go_wp2_with fail
   go_ret
   exact⟨by rw[HV.out];rfl,by have h:=HB1.out;exact aA⟩
 ·go_quiet (fail)
  all_goals
   go_wp2_with fail
   go_ret
   exact⟨by rw[HV.out];rfl,by have h:=HB1.out;exact aA⟩
 all_goals
  go_region_held3 (fun w'=>w'.cell? ⟨w.heap.size,0,none⟩=some (.int .i64 mr)∧w'.cell? ⟨w.heap.size,1,none⟩=some (.int .i64 mc)∧w'.cell? ⟨w.heap.size,2,none⟩=some (.int .i64 mt)∧w'.cell? ⟨w.heap.size,3,none⟩=some (.int .i64 mf)∧w'.cell? ⟨w.heap.size,4,none⟩=some (.int .i64 wt)∧w'.cell? ⟨w.heap.size,5,none⟩=some (.int .i64 ec)∧w'.cell? ⟨w.heap.size,6,none⟩=some (.int .i64 lo)∧w'.cell? ⟨w.heap.size+1,0,none⟩=some (.int .i64 st)∧w'.cell? ⟨w.heap.size+1,1,none⟩=some (.int .i64 id)∧w'.cell? ⟨w.heap.size+1,2,none⟩=some (.int .i64 req)∧w'.cell? ⟨w.heap.size+1,3,none⟩=some (.slice Aa na ca)∧w'.cell? ⟨w.heap.size+1,4,none⟩=some (.int .i64 cnt)∧w'.cell? ⟨w.heap.size+1,5,none⟩=some (.int .i64 ay)∧w'.cell? ⟨w.heap.size+1,6,none⟩=some (.int .i64 au)∧w'.cell? ⟨w.heap.size+1,7,none⟩=some (.int .i64 own)∧w'.cell? ⟨w.heap.size+1,8,none⟩=some (.int .i64 peer)) (first|(go_keep;done)|(go_simp;done)|(simp[go_sem];done)) (first|(go_at_call 42;go_must (refine(kr mr mc mt mf wt ec lo peer HP.out _).mono ?_);rintro e w8 ⟨A8,rfl,nO,su⟩;obtain⟨yZ,d8,rfl⟩:=aB nO;have xU:=hid su;clear nO su)|(go_at_call 78;go_must (refine(Dj A8 Aa 1 1 na ca [dX peer] mc mt mf wt st id req cnt ay au E L HL.out _ _ (aaE _) (by exact(xU.out.keep (by exact aA)).more (by simp[size_ext,grow])) rfl (by omega) (by exact(HE.out.keep (HB1.out.mono HB.out|>.trans (by have:=HB.out;exact aA))).more (by have:=HB.out;simp[size_ext,grow];omega)) dz.out).mono ?_);rw[HK.out];rintro e w7 ⟨rfl,lM⟩;obtain⟨Vu,d7,rfl⟩:=aB lM;clear lM))
  all_goals
   go_wp2_with fail
   go_ret
   exact⟨by rw[HV.out];rfl,by have:=HB1.out;exact aA⟩
def Ef (a b:Au) (o1 q1 o2 q2:Int):Bool:=jm a b&&(o1==o2&&q1==q2)
set_option maxRecDepth 100000 in
theorem Dw (s1 i1 r1 c1 t1 k1 o1 q1 s2 i2 r2 c2 t2 k2 o2 q2:Int) (A1 A2:Option Addr) (n1 n2 m1 m2:Nat) (E1 E2:List aH) (L1 L2:List bF) (hL1:E1.map aH.o=L1) (hL2:E2.map aH.o=L2) (w:World) (B:Nat) (hB:B≤w.heap.size) (hE1:aJ w B A1 E1) (hE2:aJ w B A2 E2) (hn1:n1=E1.length) (hn2:n2=E2.length) (hl:n1≤1000000):Calls Tryz.prog 39 #[.agg #[.int .i64 s1,.int .i64 i1,.int .i64 r1,.slice A1 n1 m1,.int .i64 c1,.int .i64 t1,.int .i64 k1,.int .i64 o1,.int .i64 q1],.agg #[.int .i64 s2,.int .i64 i2,.int .i64 r2,.slice A2 n2 m2,.int .i64 c2,.int .i64 t2,.int .i64 k2,.int .i64 o2,.int .i64 q2]] w fun x w'=>x=.returned (.bool (Ef ⟨s1,i1,r1,L1,c1,t1,k1⟩ ⟨s2,i2,r2,L2,c2,t2,k2⟩ o1 q1 o2 q2))∧Below w.heap.size w w':=by
 have HB:=hid hB
 have Ky:=hid hE1
 have HE2:=hid hE2
 have lD:=hid hn1
 have iA:=hid hn2
 have YB:=hid hL1
 have HL2:=hid hL2
 clear hB hE1 hE2 hn1 hn2 hL1 hL2
 cases hs:jm ⟨s1,i1,r1,L1,c1,t1,k1⟩ ⟨s2,i2,r2,L2,c2,t2,k2⟩<;>cases ho:(o1==o2)
 all_goals
  have HS:=hid hs
  have HO:=hid ho
  clear hs
  go_enter Tryz.func39,Tryz.ntmps39
  go_upto_region 1 with(fail)
  refine bY (fun W=>W.heap[w.heap.size]? =some (.cells #[.int .i64 s1,.int .i64 i1,.int .i64 r1,.slice A1 n1 m1,.int .i64 c1,.int .i64 t1,.int .i64 k1,.int .i64 o1,.int .i64 q1] 60 (0,0))∧W.heap[w.heap.size+1]? =some (.cells #[.int .i64 s2,.int .i64 i2,.int .i64 r2,.slice A2 n2 m2,.int .i64 c2,.int .i64 t2,.int .i64 k2,.int .i64 o2,.int .i64 q2] 60 (0,0))∧Below w.heap.size w W) ⟨by exact hpa,by exact hpa,by exact aA⟩ ?_
  rintro W1 ⟨hx,hy,hb⟩
  have HB1:=hid hb
  have hs1:=hb.size
  have lx:=aj hx
  have ly:=aj hy
  obtain⟨x0,x1,x2,x3,x4,x5,x6,x7,x8⟩:=aL hx
  obtain⟨y0,y1,y2,y3,y4,y5,y6,y7,y8⟩:=aL hy
  clear hx hy hb
  go_wp2_with (go_at_call 21;go_must (refine(vJ s1 i1 r1 c1 t1 k1 s2 i2 r2 c2 t2 k2 A1 A2 n1 n2 m1 m2 E1 E2 L1 L2 YB.out HL2.out W1 B (by have:=HB.out;omega) (Ky.out.keep (HB1.out.mono HB.out)) (HE2.out.keep (HB1.out.mono HB.out)) lD.out iA.out hl).mono ?_);rw[HS.out];rintro e w3 ⟨rfl,hb3⟩;obtain⟨mP,d3,rfl⟩:=aB hb3;clear hb3)
  go_ret
  exact⟨by unfold Ef;rw[HS.out,HO.out];rfl,by have:=HB1.out;exact aA⟩
theorem Dz (a:Au) (o q:Int):Ef a a o q o q=true:=by unfold Ef;rw[Dx];simp
end Go.Proofs.YtfkgmbknfnhjoaaGreat
