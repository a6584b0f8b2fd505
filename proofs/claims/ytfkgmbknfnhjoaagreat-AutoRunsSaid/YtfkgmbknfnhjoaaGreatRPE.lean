/- Bundle PE. -/
import Derived.Test.YtfkgmbknfnhjoaaGreatRPD
import Derived.Test.YtfkgmbknfnhjoaaGreatRPB
set_option maxHeartbeats 4000000
namespace Go.Proofs.YtfkgmbknfnhjoaaGreat
open Lib (hid)
open Go.RowKit
set_option linter.unusedSimpArgs false
set_option linter.unusedVariables false
set_option linter.ambiguousOpen false
open Ne (Rl Opt RulesAt areB)
open Fs (av hasB)
def PksV (w:World) (B:Nat) (v:Value) (out:List Pk):Prop:= ∃(A:Option Addr) (n c:Nat) (P:List Pe),v=.slice A n c∧PksAt w B A P∧n=P.length∧n≤c∧P.map Pe.o=out
theorem PksV.keep {w w':World} {B:Nat} {v:Value} {l:List Pk} (h:PksV w B v l) (hb:Below B w w'):PksV w' B v l:=by
 obtain⟨A,n,c,P,rfl,h1,h2,h3,h4⟩:=h;exact⟨A,n,c,P,rfl,h1.keep hb,h2,h3,h4⟩
theorem PksV.more {w:World} {B B':Nat} {v:Value} {l:List Pk} (h:PksV w B v l) (hb:B≤B'):PksV w B' v l:=by
 obtain⟨A,n,c,P,rfl,h1,h2,h3,h4⟩:=h;exact⟨A,n,c,P,rfl,h1.more hb,h2,h3,h4⟩
theorem PksO.v {w:World} {base:Nat} {v:Value} {out:List Pk} (h:PksO w base v out):PksV w w.heap.size v out:=by
 obtain⟨P,hP,he⟩:=h
 obtain⟨A,c,rfl,hc,-⟩:=ownsRow_form hP.1
 exact⟨A,_,c,P,rfl,hP.at,rfl,hc,he⟩
theorem sameA_self (a:Au):sameA a a=true:=by simp[sameA,Op.sameB]
set_option maxRecDepth 100000 in
theorem sameAll_true (A1 A2:Option Addr) (n1 n2 c1 c2:Nat) (P1 P2:List Pe) (w:World) (B:Nat) (hB:B≤w.heap.size) (h1:PksAt w B A1 P1) (h2:PksAt w B A2 P2) (hn1:n1=P1.length) (hn2:n2=P2.length) (he:P1.map Pe.o=P2.map Pe.o) (hl:n1≤1000000):
  Calls Tryz.prog 22 #[.slice A1 n1 c1,.slice A2 n2 c2] w fun x w'=>x=.returned (.bool true)∧Below w.heap.size w w':=by
 have HLL:=hid (show n2=n1 by have:=congrArg List.length he;simp only[List.length_map] at this;omega)
 have hll:=HLL.out
 subst hll
 have H1:=hid h1
 have H2:=hid h2
 have HN1:=hid hn1
 have HN2:=hid hn2
 have HE:=hid he
 have HB:=hid hB
 clear h1 h2 hn1 hn2 he hB HLL
 go_enter Tryz.func22,Tryz.ntmps22
 go_wp2_with fail
 go_loopw [5] (fun i wr=> ∃k:Nat,k≤n2∧i=.int .i64 k∧Below w.heap.size w wr) (fun i _=>n2-(intOf i).toNat)
 case atStart=>exact⟨0,Nat.zero_le _,rfl,Below.refl _ _⟩
 case round=>
  obtain⟨k,hk,rfl,hbl⟩:=hrel
  have HBL:=hid hbl
  have hszr:=hbl.size
  clear hbl
  by_cases hlt:k<n2
  ·have HK1:=hid (show k<P1.length by have:=HN1.out;omega)
   have HK2:=hid (show k<P2.length by have:=HN2.out;omega)
   obtain⟨b1,o1,rfl,hb1,x0,x1,x2⟩:=(H1.out.keep (HBL.out.mono HB.out)).get HK1.out
   obtain⟨b2,o2,rfl,hb2,y0,y1,y2⟩:=(H2.out.keep (HBL.out.mono HB.out)).get HK2.out
   have hat1:=H1.out.2 _ (List.getElem_mem HK1.out)
   have hat2:=H2.out.2 _ (List.getElem_mem HK2.out)
   have heq:(P1[k]'HK1.out).o=(P2[k]'HK2.out).o:=by
    have h3:(P1.map Pe.o)[k]? =(P2.map Pe.o)[k]?:=by rw[HE.out]
    rw[List.getElem?_map,List.getElem?_map,List.getElem?_eq_getElem HK1.out,List.getElem?_eq_getElem HK2.out] at h3
    simpa using h3
   obtain⟨⟨co,id,d,a,c⟩,he1⟩: ∃e,P1[k]'HK1.out=e:=⟨_,rfl⟩
   obtain⟨⟨co',id',d',a',c'⟩,he2⟩: ∃e,P2[k]'HK2.out=e:=⟨_,rfl⟩
   rw[he1] at x0 x1 x2 hat1 heq
   rw[he2] at y0 y1 y2 hat2 heq
   simp only[Pe.o,Pk.mk.injEq] at heq
   obtain⟨rfl,rfl,rfl⟩:=heq
   unfold Pe.v at x2 y2
   simp only at x0 x1 x2 y0 y1 y2 hat1 hat2
   have HA1:=hid hat1
   have HA2:=hid hat2
   clear hat1 hat2 he1 he2
   have z1:b1<wr.heap.size:=by have:=HB.out;omega
   have z2:b2<wr.heap.size:=by have:=HB.out;omega
   have kk0:(0:Int)≤(k:Int):=by omega
   have kk1:(k:Int)<(n2:Int):=by omega
   go_wp2_with fail
   go_region_held3 (fun w'=>w'.cell? ⟨b1,o1+k*3,none⟩=some (.int .i64 co)∧w'.cell? ⟨b1,o1+k*3+1,none⟩=some (.int .i64 id)∧w'.cell? ⟨b1,o1+k*3+2,none⟩=some (.slice a d.length c)∧w'.cell? ⟨b2,o2+k*3,none⟩=some (.int .i64 co)∧w'.cell? ⟨b2,o2+k*3+1,none⟩=some (.int .i64 id)∧w'.cell? ⟨b2,o2+k*3+2,none⟩=some (.slice a' d.length c')) (first|(go_keep;done)|(go_simp;done)|(simp[go_sem];done)) ((go_at_call 65;go_must (refine(Cp.same_true co id a a' d.length c c' d _ B (by have:=HB.out;first|omega|(simp;omega)) ((HA1.out.1.keep (HBL.out.mono HB.out)).keep (by exact bel)) ((HA2.out.1.keep (HBL.out.mono HB.out)).keep (by exact bel)) rfl).mono ?_);rintro e w2 ⟨rfl,hb⟩;obtain⟨xs2,d2,rfl⟩:=ext_of hb;clear hb))
   all_goals
    go_wp2_with fail
    go_roundw
    case rel=>exact⟨k+1,by omega,by go_num,by have:=HBL.out;exact bel⟩
    case measure=>simp[intOf];omega
  ·obtain rfl:k=n2:=by omega
   go_wp2_with fail
   go_ret
   exact⟨rfl,HBL.out⟩
end Go.Proofs.YtfkgmbknfnhjoaaGreat
namespace Go.Proofs.YtfkgmbknfnhjoaaGreat
open Lib (hid)
open Go.RowKit
set_option linter.unusedSimpArgs false
set_option linter.unusedVariables false
set_option linter.ambiguousOpen false
open Ne (Rl Opt RulesAt areB)
open Fs (av hasB)
def timO (c:Cf) (a:Au) (tick:Int):Au×List Pk×List Int:=
 if a.tim=0∨tick<a.tim then(a,[],[]) else doO c a (if 0<a.cnt then 5 else 6) ⟨0,0,[]⟩ ⟨0,0,[]⟩ tick
theorem OwnOpts.otherx {A C:World} {base X:Nat} {v:Value} {L:List Opt} {cur:Array Value} {e':TypeId} (h:OptsO A base v L) (hg:A.grownBy C (some X)) (hX:A.heap[X]? =some (.cells cur e' (0,0))) (h1:e'≠111) (h2:e'≠5):OptsO C base v L:=by
 obtain⟨E,h,he⟩:=h
 exact⟨E,h.other hg hX h1 h2,he⟩
theorem PksO.other {A C:World} {base X:Nat} {v:Value} {out:List Pk} {cur:Array Value} {e':TypeId} (h:PksO A base v out) (hg:A.grownBy C (some X)) (hX:A.heap[X]? =some (.cells cur e' (0,0))) (h1:e'≠32) (h2:e'≠5):PksO C base v out:=by
 obtain⟨P,h,he⟩:=h
 exact⟨P,⟨own_stays h.1 hg fun r e=>by cases e;exact .inr (.inr ⟨_,_,hX,h1⟩),fun x hx=>own_stays (h.2 x hx) hg fun r e=>by cases e;exact .inr (.inr ⟨_,_,hX,h2⟩)⟩,he⟩
theorem ActsO.other {A C:World} {base X:Nat} {v:Value} {l:List Int} {cur:Array Value} {e':TypeId} (h:ActsO A base v l) (hg:A.grownBy C (some X)) (hX:A.heap[X]? =some (.cells cur e' (0,0))) (h1:e'≠104):ActsO C base v l:=
 own_stays h hg fun r e=>by cases e;exact .inr (.inr ⟨_,_,hX,h1⟩)
theorem OptsO.base {A:World} {b b':Nat} {v:Value} {L:List Opt} (h:OptsO A b v L) (hb:b'≤b):OptsO A b' v L:=by
 obtain⟨E,h,he⟩:=h
 exact⟨E,h.base hb,he⟩
theorem PksO.base {A:World} {b b':Nat} {v:Value} {out:List Pk} (h:PksO A b v out) (hb:b'≤b):PksO A b' v out:=by
 obtain⟨P,h,he⟩:=h
 exact⟨P,h.base hb,he⟩
theorem ActsO.base {A:World} {b b':Nat} {v:Value} {l:List Int} (h:ActsO A b v l) (hb:b'≤b):ActsO A b' v l:=own_base h hb
theorem grown_exts {w w':World} {X:Nat} {xs:List Obj} {d d':Nat} (h:w.grownBy w' (some X)) (hs:w'.heap.size=w.heap.size):(ext w xs d).grownBy (ext w' xs d') (some X):=
 ⟨h.os,h.tape,h.output,by simp[size_ext,grow,hs],fun k hk hne=>by
  by_cases hkw:k<w.heap.size
  ·rw[ext_block w' xs d' k (by omega),ext_block w xs d k hkw];exact h.block k hkw hne
  ·exact ext_high w w' xs d d' k hs.symm (by omega)⟩
theorem OptsO.below {A C:World} {b:Nat} {v:Value} {L:List Opt} (h:OptsO A b v L) (hb:Below A.heap.size A C):OptsO C b v L:=by
 obtain⟨E,h,he⟩:=h
 exact⟨E,h.below hb,he⟩
theorem OptsO.v {A:World} {b:Nat} {v:Value} {L:List Opt} (h:OptsO A b v L):OptsV A A.heap.size v L:=by
 obtain⟨E,h,he⟩:=h
 obtain⟨Ao,c,rfl,hc,-⟩:=ownsRow_form h.1
 exact⟨Ao,_,c,E,rfl,h.at,rfl,hc,he⟩
theorem ActsO.below {A C:World} {b:Nat} {v:Value} {l:List Int} (h:ActsO A b v l) (hb:Below A.heap.size A C):ActsO C b v l:=own_below h hb
theorem PksO.below {A C:World} {b:Nat} {v:Value} {out:List Pk} (h:PksO A b v out) (hb:Below A.heap.size A C):PksO C b v out:=by
 obtain⟨P,h,he⟩:=h
 exact⟨P,h.below hb,he⟩
set_option maxRecDepth 100000 in
theorem timeout_any (Ar Aa:Option Addr) (nr cr na ca:Nat) (R:List Rl) (mc mt mf wt st id req cnt tim nak tick:Int) (E:List Ent) (w:World) (B:Nat) (hB:B≤w.heap.size) (hR:RulesAt w B Ar R) (hnr:nr=R.length) (hlr:nr≤1000000) (hE:OptsAt w B Aa E) (hna:na=E.length) (hla:na≤1000000) (hda: ∀e∈E,e.d.length≤400000000):
  Calls Tryz.prog 16 #[.agg #[.slice Ar nr cr,.int .i64 mc,.int .i64 mt,.int .i64 mf,.int .i64 wt],.agg #[.int .i64 st,.int .i64 id,.int .i64 req,.slice Aa na ca,.int .i64 cnt,.int .i64 tim,.int .i64 nak],.int .i64 tick] w (DoP (timO ⟨R,mc,mt,mf,wt⟩ ⟨st,id,req,E.map Ent.o,cnt,tim,nak⟩ tick) w):=by
 have HDA:=hid hda
 clear hda
 have HB:=hid hB
 have HR:=hid hR
 have HNR:=hid hnr
 have HE:=hid hE
 have HNA:=hid hna
 obtain⟨L,hL⟩: ∃L,E.map Ent.o=L:=⟨_,rfl⟩
 have HL:=hid hL
 rw[hL]
 clear hB hR hnr hE hna hL
 by_cases h0:tim=0∨tick<tim
 ·have HT:=hid (show timO ⟨R,mc,mt,mf,wt⟩ ⟨st,id,req,L,cnt,tim,nak⟩ tick=(⟨st,id,req,L,cnt,tim,nak⟩,[],[]) from if_pos h0)
  rw[HT.out]
  by_cases h1:tim=0
  all_goals
   first|have h2:(tim==0)=true:=by simpa using h1
        |have h2:(tim==0)=false:=by simpa using h1
   first|have h3:tick<tim:=by omega
        |have h3:True:=trivial
   have HT0:=hid h1
   clear h0 h1
   go_enter Tryz.func16,Tryz.ntmps16
   go_upto_region 1 with(fail)
   refine wp_w (fun W=>W.heap[w.heap.size]? =some (.cells #[.slice Ar nr cr,.int .i64 mc,.int .i64 mt,.int .i64 mf,.int .i64 wt] 24 (0,0))∧W.heap[w.heap.size+1]? =some (.cells #[.int .i64 st,.int .i64 id,.int .i64 req,.slice Aa na ca,.int .i64 cnt,.int .i64 tim,.int .i64 nak] 29 (0,0))∧W.heap[w.heap.size+1+1]? =some (.cells #[.int .i64 0,.int .i64 0,.int .i64 0,.slice none 0 0,.int .i64 0,.int .i64 0,.int .i64 0] 29 (0,0))∧Below w.heap.size w W) ⟨by exact hpa,by exact hpa,by exact hpa,by exact bel⟩ ?_
   rintro W2 ⟨h6,h7,h12,hbw⟩
   have HBW:=hid hbw
   have H12:=hid h12
   have hszW:=hbw.size
   have l6:=lt_blk h6
   have l7:=lt_blk h7
   have l12:=lt_blk h12
   obtain⟨p0,p1,p2,p3,p4⟩:=cells5 h6
   obtain⟨q0,q1,q2,q3,q4,q5,q6⟩:=cells7 h7
   obtain⟨z0,z1,z2,z3,z4,z5,z6⟩:=cells7 h12
   have f0:=frees h12 0
   have f1:=frees h12 1
   have f2:=frees h12 2
   have f3:=frees h12 3
   have f4:=frees h12 4
   have f5:=frees h12 5
   have f6:=frees h12 6
   clear h6 h7 h12 hbw
   go_wp2_with fail
   refine(as_any st id req cnt tim nak Aa na ca E W2 B (by have:=HB.out;omega) (HE.out.keep (HBW.out.mono HB.out)) HNA.out hla HDA.out).mono ?_
   rintro x w1 ⟨v,rfl,E2,A2,n2,c2,rfl,he2,hn2,hc2,hb,ho⟩
   have HE2:=hid (show E2.map Ent.o=L from he2.trans HL.out)
   have HO:=hid ho
   have HZ:=hid ((hb.block _ l12).trans H12.out)
   have HBW1:=hid (HBW.out.trans (hb.mono hszW))
   obtain⟨xs,d,rfl⟩:=ext_of hb
   clear hb ho he2 hn2 hc2
   dsimp only
   go_wp2_with fail
   obtain⟨Wf,hWf⟩: ∃Wf,Wf=ext (((((((W2.setCell ⟨w.heap.size+1+1,0,none⟩ (.int .i64 st)).setCell ⟨w.heap.size+1+1,1,none⟩ (.int .i64 id)).setCell ⟨w.heap.size+1+1,2,none⟩ (.int .i64 req)).setCell ⟨w.heap.size+1+1,3,none⟩ (.slice A2 n2 c2)).setCell ⟨w.heap.size+1+1,4,none⟩ (.int .i64 cnt)).setCell ⟨w.heap.size+1+1,5,none⟩ (.int .i64 tim)).setCell ⟨w.heap.size+1+1,6,none⟩ (.int .i64 nak)) xs d:=⟨_,rfl⟩
   rw[←hWf]
   have hrow:Wf.heap[w.heap.size+1+1]? =some (.cells #[.int .i64 st,.int .i64 id,.int .i64 req,.slice A2 n2 c2,.int .i64 cnt,.int .i64 tim,.int .i64 nak] 29 (0,0)):=by rw[hWf];exact(heap_ext _ _ _ _ (by simp;exact l12)).trans (row7 H12.out rfl _ _ _ _ _ _ _)
   have hgr:(ext W2 xs d).grownBy Wf (some (w.heap.size+1+1)):=by rw[hWf];first|with_reducible exact grown_exts grn (by simp)|exact grn
   clear hWf f0 f1 f2 f3 f4 f5 f6 z0 z1 z2 z3 z4 z5 z6
   obtain⟨u0,u1,u2,u3,u4,u5,u6⟩:=cells7 hrow
   refine bodyPost_ret (v:=.tuple #[.agg #[.int .i64 st,.int .i64 id,.int .i64 req,.slice A2 n2 c2,.int .i64 cnt,.int .i64 tim,.int .i64 nak],.slice none 0 0,.slice none 0 0]) (by simp[results,Tryz.results16,go_sem,u0,u1,u2,u3,u4,u5,u6]) rfl ?_
   exact⟨.slice A2 n2 c2,.slice none 0 0,.slice none 0 0,rfl,Below.grown HBW1.out hgr (by simp[size_ext,grow];omega) (fun k hk=>by cases hk;omega),OptsO.base (OwnOpts.otherx ⟨E2,HO.out,HE2.out⟩ hgr HZ.out (by decide) (by decide)) hszW,⟨[],OwnPks.nil _ _,rfl⟩,ActsO.nil _ _⟩
 ·have HT:=hid (show timO ⟨R,mc,mt,mf,wt⟩ ⟨st,id,req,L,cnt,tim,nak⟩ tick=doO ⟨R,mc,mt,mf,wt⟩ ⟨st,id,req,L,cnt,tim,nak⟩ (if 0<cnt then 5 else 6) ⟨0,0,[]⟩ ⟨0,0,[]⟩ tick from if_neg h0)
  have h2:(tim==0)=false:=by simp;omega
  have h3: ¬tick<tim:=by omega
  obtain⟨ev,hev⟩: ∃ev:Int,(if 0<cnt then 5 else 6)=ev:=⟨_,rfl⟩
  rw[hev] at HT
  obtain⟨⟨⟨s1,i1,r1,L1,c1,t1,k1⟩,o1,d1⟩,hr⟩: ∃r,doO ⟨R,mc,mt,mf,wt⟩ ⟨st,id,req,L,cnt,tim,nak⟩ ev ⟨0,0,[]⟩ ⟨0,0,[]⟩ tick=r:=⟨_,rfl⟩
  have HR2:=hid hr
  rw[hr] at HT
  rw[HT.out]
  clear h0 hr
  have HF:=hid hev
  clear hev
  by_cases hc:0<cnt
  all_goals
   first|have HV:=hid (show ev=5 from HF.out.symm.trans (if_pos hc))
        |have HV:=hid (show ev=6 from HF.out.symm.trans (if_neg hc))
  all_goals
   go_enter Tryz.func16,Tryz.ntmps16
   go_upto_region 1 with(fail)
   refine wp_w (fun W=>W.heap[w.heap.size]? =some (.cells #[.slice Ar nr cr,.int .i64 mc,.int .i64 mt,.int .i64 mf,.int .i64 wt] 24 (0,0))∧W.heap[w.heap.size+1]? =some (.cells #[.int .i64 st,.int .i64 id,.int .i64 req,.slice Aa na ca,.int .i64 cnt,.int .i64 tim,.int .i64 nak] 29 (0,0))∧W.heap[w.heap.size+1+1]? =some (.cells #[.int .i64 0,.int .i64 0,.int .i64 0,.slice none 0 0,.int .i64 0,.int .i64 0,.int .i64 0] 29 (0,0))∧Below w.heap.size w W) ⟨by exact hpa,by exact hpa,by exact hpa,by exact bel⟩ ?_
   rintro W2 ⟨h6,h7,h12,hbw⟩
   have HBW:=hid hbw
   have H12:=hid h12
   have hszW:=hbw.size
   have l6:=lt_blk h6
   have l7:=lt_blk h7
   have l12:=lt_blk h12
   obtain⟨p0,p1,p2,p3,p4⟩:=cells5 h6
   obtain⟨q0,q1,q2,q3,q4,q5,q6⟩:=cells7 h7
   obtain⟨z0,z1,z2,z3,z4,z5,z6⟩:=cells7 h12
   have f0:=frees h12 0
   have f1:=frees h12 1
   have f2:=frees h12 2
   have f3:=frees h12 3
   have f4:=frees h12 4
   have f5:=frees h12 5
   have f6:=frees h12 6
   clear h6 h7 h12 hbw
   go_wp2_with fail
   have hev:=HV.out
   subst hev
   refine(do_any Ar Aa none none nr cr na ca 0 0 0 0 R mc mt mf wt st id req cnt tim nak _ 0 0 0 0 tick E [] [] W2 B (by have:=HB.out;omega) (HR.out.keep (HBW.out.mono HB.out)) HNR.out hlr (HE.out.keep (HBW.out.mono HB.out)) HNA.out hla HDA.out (At.nil _ _ _) rfl (Nat.le_refl _) (by simp) (At.nil _ _ _) rfl (Nat.le_refl _) (by simp)).mono ?_
   rw[HL.out,HR2.out]
   rintro x w4 ⟨va,vo,vd,rfl,hb4,ho4,hp4,ha4⟩
   have HB4:=hid hb4
   have HP4:=hid hp4
   have HA4:=hid ha4
   have HZ:=hid ((hb4.block _ l12).trans H12.out)
   have HBW1:=hid (HBW.out.trans (hb4.mono hszW))
   have hsz4:=hb4.size
   have lz:w.heap.size+1+1<w4.heap.size:=by omega
   clear f0 f1 f2 f3 f4 f5 f6 p0 p1 p2 p3 p4 q0 q1 q2 q3 q4 q5 q6 z0 z1 z2 z3 z4 z5 z6 hb4 hp4 ha4
   obtain⟨z0,z1,z2,z3,z4,z5,z6⟩:=cells7 HZ.out
   have f0:=frees HZ.out 0
   have f1:=frees HZ.out 1
   have f2:=frees HZ.out 2
   have f3:=frees HZ.out 3
   have f4:=frees HZ.out 4
   have f5:=frees HZ.out 5
   have f6:=frees HZ.out 6
   unfold auV
   have HO4:=hid ho4
   clear ho4
   obtain⟨E4,hE4,hEL4⟩:=HO4.out
   obtain⟨A4,c4,rfl,-,-⟩:=ownsRow_form hE4.1
   go_wp2_with fail
   obtain⟨Wf,hWf⟩: ∃Wf,Wf=(((((((w4.setCell ⟨w.heap.size+1+1,0,none⟩ (.int .i64 s1)).setCell ⟨w.heap.size+1+1,1,none⟩ (.int .i64 i1)).setCell ⟨w.heap.size+1+1,2,none⟩ (.int .i64 r1)).setCell ⟨w.heap.size+1+1,3,none⟩ (.slice A4 E4.length c4)).setCell ⟨w.heap.size+1+1,4,none⟩ (.int .i64 c1)).setCell ⟨w.heap.size+1+1,5,none⟩ (.int .i64 t1)).setCell ⟨w.heap.size+1+1,6,none⟩ (.int .i64 k1)):=⟨_,rfl⟩
   rw[←hWf]
   have hrow:Wf.heap[w.heap.size+1+1]? =some (.cells #[.int .i64 s1,.int .i64 i1,.int .i64 r1,.slice A4 E4.length c4,.int .i64 c1,.int .i64 t1,.int .i64 k1] 29 (0,0)):=by rw[hWf];exact row7 HZ.out rfl _ _ _ _ _ _ _
   have hgr:(w4).grownBy Wf (some (w.heap.size+1+1)):=by rw[hWf];first|with_reducible exact grown_exts grn (by simp)|exact grn
   clear hWf f0 f1 f2 f3 f4 f5 f6 z0 z1 z2 z3 z4 z5 z6
   obtain⟨u0,u1,u2,u3,u4,u5,u6⟩:=cells7 hrow
   refine bodyPost_ret (v:=.tuple #[.agg #[.int .i64 s1,.int .i64 i1,.int .i64 r1,.slice A4 E4.length c4,.int .i64 c1,.int .i64 t1,.int .i64 k1],vo,vd]) (by simp[results,Tryz.results16,go_sem,u0,u1,u2,u3,u4,u5,u6]) rfl ?_
   exact⟨.slice A4 E4.length c4,vo,vd,rfl,Below.grown HBW1.out hgr (by omega) (fun k hk=>by cases hk;omega),OptsO.base (OwnOpts.otherx HO4.out hgr HZ.out (by decide) (by decide)) hszW,PksO.base (HP4.out.other hgr HZ.out (by decide) (by decide)) hszW,ActsO.base (HA4.out.other hgr HZ.out (by decide)) hszW⟩
end Go.Proofs.YtfkgmbknfnhjoaaGreat
