/- PR PT -/
import Derived.Test.YtfkgmbknfnhjoaaGreatSPO
import Derived.Test.YtfkgmbknfnhjoaaGreatSPP
import Derived.Test.YtfkgmbknfnhjoaaGreatSPQ
import Derived.Test.YtfkgmbknfnhjoaaGreatSPK
import Derived.Test.YtfkgmbknfnhjoaaGreatSZ40
import Derived.Lib.SmallJoins
set_option linter.all false
set_option linter.ambiguousOpen false
set_option maxHeartbeats 8000000
namespace Go.Proofs.YtfkgmbknfnhjoaaGreat
open Lib (hid)
open Go.RowKit
open Ne (Rl bF aD bM)
theorem vI (ic:Int) (h1:1≤ic) (h7:ic≤7) (Ar Aa Ai:Option Addr) (nr cr na ca ni ci:Nat) (R:List Rl) (mc mt mf wt st id req cnt ay au ii:Int) (E:List aH) (li:List UInt8) (w:World) (B:Nat) (hB:B≤w.heap.size) (hR:aD w B Ar R) (hnr:nr=R.length) (hlr:nr≤1000000) (hE:aJ w B Aa E) (hna:na=E.length) (hca:na≤ca) (hla:na≤1000000) (hI:At w B Ai (li.map bv)) (hni:ni=li.length) (hci:ni≤ci):
  Calls Tryz.prog 63 #[.agg #[.slice Ar nr cr,.int .i64 mc,.int .i64 mt,.int .i64 mf,.int .i64 wt],.agg #[.int .i64 st,.int .i64 id,.int .i64 req,.slice Aa na ca,.int .i64 cnt,.int .i64 ay,.int .i64 au],.agg #[.int .i64 ic,.int .i64 ii,.slice Ai ni ci]] w (jG (bK ⟨R,mc,mt,mf,wt⟩ ⟨st,id,req,E.map aH.o,cnt,ay,au⟩ ⟨ic,ii,li⟩) ⟨st,id,req,E.map aH.o,cnt,ay,au⟩ (.slice Aa na ca) w):=by
 have h:ic=1∨ic=2∨ic=3∨ic=4∨ic=5∨ic=6∨ic=7:=by omega
 rcases h with rfl|rfl|rfl|rfl|rfl|rfl|rfl
 ·exact JA Ar Aa Ai nr cr na ca ni ci R mc mt mf wt st id req cnt ay au ii E li w B hB hR hnr hlr hE hna hca hla hI hni hci
 ·exact JB Ar Aa Ai nr cr na ca ni ci R mc mt mf wt st id req cnt ay au ii E li w B hB hR hnr hlr hE hna hca hla hI hni hci
 ·exact xJ 3 (.inl rfl) Ar Aa Ai nr cr na ca ni ci R mc mt mf wt st id req cnt ay au ii E li w B hB hR hnr hlr hE hna hca hla hI hni hci
 ·exact xJ 4 (.inr rfl) Ar Aa Ai nr cr na ca ni ci R mc mt mf wt st id req cnt ay au ii E li w B hB hR hnr hlr hE hna hca hla hI hni hci
 ·exact JC Ar Aa Ai nr cr na ca ni ci R mc mt mf wt st id req cnt ay au ii E li w B hB hR hnr hlr hE hna hca hla hI hni hci
 ·exact JD Ar Aa Ai nr cr na ca ni ci R mc mt mf wt st id req cnt ay au ii E li w B hB hR hnr hlr hE hna hca hla hI hni hci
 ·exact JE Ar Aa Ai nr cr na ca ni ci R mc mt mf wt st id req cnt ay au ii E li w B hB hR hnr hlr hE hna hca hla hI hni hci
open Ne (Rl bF aD bM aS bN)
open Fs (av hasB)
def xW (r:(Au×List Pk×List Int)×Bool) (ua:Value) (L:List bF) (w:World) (x:Ending) (w':World):Prop:=
 ∃va vo vd,x=.returned (.tuple #[vV r.1.1 va,vo,vd,.bool r.2])∧Below w.heap.size w w'∧((va=ua∧r.1.1.ask=L)∨dQ w' w.heap.size va r.1.1.ask)∧fG w' w.heap.size vo r.1.2.1∧aU w' w.heap.size vd r.1.2.2
set_option maxRecDepth 100000 in
theorem Jw (Ar Aa Ai:Option Addr) (nr cr na ca ni ci:Nat) (R:List Rl) (mc mt mf wt st id req cnt ay au ic ii tick:Int) (E:List aH) (li:List UInt8) (w:World) (B:Nat) (hB:B≤w.heap.size) (hR:aD w B Ar R) (hnr:nr=R.length) (hlr:nr≤1000000) (hE:aJ w B Aa E) (hna:na=E.length) (hca:na≤ca) (hla:na≤1000000) (hI:At w B Ai (li.map bv)) (hni:ni=li.length) (hci:ni≤ci) (iF:ni≤400000000) (hno:bC ic 1 7=false∨(Cp.aV ic ii li.length≠0∨dn ⟨R,mc,mt,mf,wt⟩ ⟨st,id,req,E.map aH.o,cnt,ay,au⟩ tick=false)):Calls Tryz.prog 20 #[.agg #[.slice Ar nr cr,.int .i64 mc,.int .i64 mt,.int .i64 mf,.int .i64 wt],.agg #[.int .i64 st,.int .i64 id,.int .i64 req,.slice Aa na ca,.int .i64 cnt,.int .i64 ay,.int .i64 au],.agg #[.int .i64 ic,.int .i64 ii,.slice Ai ni ci],.int .i64 tick] w (xW (eP ⟨R,mc,mt,mf,wt⟩ ⟨st,id,req,E.map aH.o,cnt,ay,au⟩ ⟨ic,ii,li⟩ tick) (.slice Aa na ca) (E.map aH.o) w):=by
 obtain⟨ib,hib⟩: ∃ib,bC ic 1 7=ib:=⟨_,rfl⟩
 rw[hib] at hno
 have HB:=hid hB
 have HR:=hid hR
 have gB:=hid hnr
 have HE:=hid hE
 have dz:=hid hna
 have HI:=hid hI
 have gy:=hid hni
 obtain⟨L,hL⟩: ∃L,E.map aH.o=L:=⟨_,rfl⟩
 have HL:=hid hL
 rw[hL]
 clear hB hR hnr hE hna hL hI hni
 rw[HL.out] at hno
 cases ib
 ·have HO:=hid (show eP ⟨R,mc,mt,mf,wt⟩ ⟨st,id,req,L,cnt,ay,au⟩ ⟨ic,ii,li⟩ tick=((⟨st,id,req,L,cnt,ay,au⟩,[],[]),false) from if_pos hib)
  rw[HO.out]
  by_cases hl1:ic<1
  rotate_left
  focus
   have vZ:7<ic:=by simp[bC] at hib;omega
  rotate_left
  all_goals
   clear hib hno HO
   go_enter Tryz.func20,Tryz.ntmps20
   go_upto_region 1 with(fail)
   refine fE ?_
   rintro w2 ⟨h6,h7,h8,h12,hbw⟩
   have HB2:=hid hbw
   have qN:=hid h6
   have pW:=hid h7
   have qO:=hid h8
   have jq:=hid h12
   clear h6 h7 h8 h12 hbw
   have hs2:=HB2.out.size
   obtain⟨⟨l6,l7,l8,bn⟩,⟨p0,p1,p2,p3,p4⟩,⟨q0,q1,q2,q3,q4,q5,q6⟩,⟨r0,r1,r2⟩,⟨z0,z1,z2,z3,z4,z5,z6⟩,⟨f0,f1,f2,f3,f4,f5,f6⟩,k3⟩:=bG qN.out pW.out qO.out jq.out
   go_wp2_with fail
   obtain⟨Wf,hWf⟩: ∃Wf:World,Wf=(((((((w2.setCell ⟨w.heap.size+1+1+1,0,none⟩ (.int .i64 st)).setCell ⟨w.heap.size+1+1+1,1,none⟩ (.int .i64 id)).setCell ⟨w.heap.size+1+1+1,2,none⟩ (.int .i64 req)).setCell ⟨w.heap.size+1+1+1,3,none⟩ (.slice Aa na ca)).setCell ⟨w.heap.size+1+1+1,4,none⟩ (.int .i64 cnt)).setCell ⟨w.heap.size+1+1+1,5,none⟩ (.int .i64 ay)).setCell ⟨w.heap.size+1+1+1,6,none⟩ (.int .i64 au)):=⟨_,rfl⟩
   rw[←hWf]
   have hrow:Wf.heap[w.heap.size+1+1+1]? =some (.cells #[.int .i64 st,.int .i64 id,.int .i64 req,.slice Aa na ca,.int .i64 cnt,.int .i64 ay,.int .i64 au] 29 (0,0)):=by rw[hWf];exact gF jq.out rfl _ _ _ _ _ _ _
   have hgr:w2.grownBy Wf (some (w.heap.size+1+1+1)):=by rw[hWf];exact grn
   clear hWf
   clear p0 p1 p2 p3 p4 q0 q1 q2 q3 q4 q5 q6 r0 r1 r2 z0 z1 z2 z3 z4 z5 z6 f0 f1 f2 f3 f4 f5 f6 k3 l6 l7 l8 bn
   obtain⟨u0,u1,u2,u3,u4,u5,u6⟩:=aG hrow
   refine bodyPost_ret (v:=.tuple #[.agg #[.int .i64 st,.int .i64 id,.int .i64 req,.slice Aa na ca,.int .i64 cnt,.int .i64 ay,.int .i64 au],.slice none 0 0,.slice none 0 0,.bool false]) (by simp[results,Tryz.results20,go_sem,u0,u1,u2,u3,u4,u5,u6]) rfl ?_
   exact⟨.slice Aa na ca,.slice none 0 0,.slice none 0 0,rfl,Below.grown HB2.out hgr hs2 (fun k hk=>by cases hk;omega),.inl ⟨rfl,rfl⟩,fG.nil _ _,aU.nil _ _⟩
 focus
  have h2:Cp.aV ic ii li.length≠0∨dn ⟨R,mc,mt,mf,wt⟩ ⟨st,id,req,L,cnt,ay,au⟩ tick=false:=by rcases hno with h|h;cases h;exact h
  have HO:=hid (show eP ⟨R,mc,mt,mf,wt⟩ ⟨st,id,req,L,cnt,ay,au⟩ ⟨ic,ii,li⟩ tick=((⟨st,id,req,L,cnt,ay,au⟩,[],[]),true) by unfold eP;dsimp only;rw[hib,if_neg (by decide),if_pos h2])
  rw[HO.out]
  obtain⟨er,her⟩: ∃er,Cp.aV ic ii li.length=er:=⟨_,rfl⟩
  have jB:=hid her
  rw[her] at h2
  obtain⟨fb,sw⟩: ∃fb,dn ⟨R,mc,mt,mf,wt⟩ ⟨st,id,req,L,cnt,ay,au⟩ tick=fb:=⟨_,rfl⟩
  have HF:=hid sw
  rw[sw] at h2
  have hl1: ¬ic<1:=by simp[bC] at hib;omega
  have vZ: ¬7<ic:=by simp[bC] at hib;omega
  clear hib hno HO her sw
  cases fb
 rotate_left
 focus
  have h0':(er !=0)=true:=by simpa using h2
 rotate_left
 all_goals
  clear h2
  go_enter Tryz.func20,Tryz.ntmps20
  go_upto_region 1 with(fail)
  refine fE ?_
  rintro w2 ⟨h6,h7,h8,h12,hbw⟩
  have HB2:=hid hbw
  have qN:=hid h6
  have pW:=hid h7
  have qO:=hid h8
  have jq:=hid h12
  clear h6 h7 h8 h12 hbw
  have hs2:=HB2.out.size
  obtain⟨⟨l6,l7,l8,bn⟩,⟨p0,p1,p2,p3,p4⟩,⟨q0,q1,q2,q3,q4,q5,q6⟩,⟨r0,r1,r2⟩,⟨z0,z1,z2,z3,z4,z5,z6⟩,⟨f0,f1,f2,f3,f4,f5,f6⟩,k3⟩:=bG qN.out pW.out qO.out jq.out
  go_wp2_with fail
  refine(Cp.kT ic ii Ai ni ci li _ B (by have:=HB.out;omega) (HI.out.keep (HB2.out.mono HB.out)) gy.out (by omega)).mono ?_
  unfold Cp.gK
  rw[jB.out]
  rintro x w3 ⟨v3,rfl,hb3,-⟩
  have jv:=hid (show Below w2.heap.size w2 w3 from hb3)
  have HB3:=hid (HB2.out.trans (jv.out.mono hs2))
  have rW:=hid ((jv.out.block _ l6).trans qN.out)
  have mQ:=hid ((jv.out.block _ l7).trans pW.out)
  have m_:=hid ((jv.out.block _ l8).trans qO.out)
  have eU:=hid ((jv.out.block _ bn).trans jq.out)
  clear p0 p1 p2 p3 p4 q0 q1 q2 q3 q4 q5 q6 r0 r1 r2 z0 z1 z2 z3 z4 z5 z6 f0 f1 f2 f3 f4 f5 f6 k3 l6 l7 l8 bn
  have hs3:=HB3.out.size
  obtain⟨⟨l6,l7,l8,bn⟩,⟨p0,p1,p2,p3,p4⟩,⟨q0,q1,q2,q3,q4,q5,q6⟩,⟨r0,r1,r2⟩,⟨z0,z1,z2,z3,z4,z5,z6⟩,⟨f0,f1,f2,f3,f4,f5,f6⟩,k3⟩:=bG rW.out mQ.out m_.out eU.out
  clear hb3
  go_wp2_with fail
  refine(nL Ar nr cr R mc mt mf wt st id req cnt ay au Aa na ca E L HL.out tick _ B (by have:=HB.out;omega) (HR.out.keep (HB3.out.mono HB.out)) gB.out hlr (HE.out.keep (HB3.out.mono HB.out)) dz.out).mono ?_
  rw[HF.out]
  rintro x w4 ⟨rfl,hb4⟩
  have kE:=hid (show Below w3.heap.size w3 w4 from hb4)
  have fu:=hid (HB3.out.trans (kE.out.mono hs3))
  have vN:=hid ((kE.out.block _ l6).trans rW.out)
  have vO:=hid ((kE.out.block _ l7).trans mQ.out)
  have vP:=hid ((kE.out.block _ l8).trans m_.out)
  have jV:=hid ((kE.out.block _ bn).trans eU.out)
  clear p0 p1 p2 p3 p4 q0 q1 q2 q3 q4 q5 q6 r0 r1 r2 z0 z1 z2 z3 z4 z5 z6 f0 f1 f2 f3 f4 f5 f6 k3 l6 l7 l8 bn
  have hs4:=fu.out.size
  obtain⟨⟨l6,l7,l8,bn⟩,⟨p0,p1,p2,p3,p4⟩,⟨q0,q1,q2,q3,q4,q5,q6⟩,⟨r0,r1,r2⟩,⟨z0,z1,z2,z3,z4,z5,z6⟩,⟨f0,f1,f2,f3,f4,f5,f6⟩,k3⟩:=bG vN.out vO.out vP.out jV.out
  clear hb4
  go_wp2_with fail
  obtain⟨Wf,hWf⟩: ∃Wf:World,Wf=(((((((w4.setCell ⟨w.heap.size+1+1+1,0,none⟩ (.int .i64 st)).setCell ⟨w.heap.size+1+1+1,1,none⟩ (.int .i64 id)).setCell ⟨w.heap.size+1+1+1,2,none⟩ (.int .i64 req)).setCell ⟨w.heap.size+1+1+1,3,none⟩ (.slice Aa na ca)).setCell ⟨w.heap.size+1+1+1,4,none⟩ (.int .i64 cnt)).setCell ⟨w.heap.size+1+1+1,5,none⟩ (.int .i64 ay)).setCell ⟨w.heap.size+1+1+1,6,none⟩ (.int .i64 au)):=⟨_,rfl⟩
  rw[←hWf]
  have hrow:Wf.heap[w.heap.size+1+1+1]? =some (.cells #[.int .i64 st,.int .i64 id,.int .i64 req,.slice Aa na ca,.int .i64 cnt,.int .i64 ay,.int .i64 au] 29 (0,0)):=by rw[hWf];exact gF jV.out rfl _ _ _ _ _ _ _
  have hgr:w4.grownBy Wf (some (w.heap.size+1+1+1)):=by rw[hWf];exact grn
  clear hWf
  clear p0 p1 p2 p3 p4 q0 q1 q2 q3 q4 q5 q6 r0 r1 r2 z0 z1 z2 z3 z4 z5 z6 f0 f1 f2 f3 f4 f5 f6 k3 l6 l7 l8 bn
  obtain⟨u0,u1,u2,u3,u4,u5,u6⟩:=aG hrow
  refine bodyPost_ret (v:=.tuple #[.agg #[.int .i64 st,.int .i64 id,.int .i64 req,.slice Aa na ca,.int .i64 cnt,.int .i64 ay,.int .i64 au],.slice none 0 0,.slice none 0 0,.bool true]) (by simp[results,Tryz.results20,go_sem,u0,u1,u2,u3,u4,u5,u6]) rfl ?_
  exact⟨.slice Aa na ca,.slice none 0 0,.slice none 0 0,rfl,Below.grown fu.out hgr hs4 (fun k hk=>by cases hk;omega),.inl ⟨rfl,rfl⟩,fG.nil _ _,aU.nil _ _⟩
end Go.Proofs.YtfkgmbknfnhjoaaGreat

set_option maxHeartbeats 4000000
namespace Go.Proofs.YtfkgmbknfnhjoaaGreat
open Lib (hid)
open Go.RowKit
def aH.lit (e:aH):aH:=⟨e.t,e.d.take 260,e.a,e.c⟩
def mZ (E:List aH):List aH:=(E.take 70).map aH.lit
theorem Fu {E:List aH} {k:Nat} (hk:k<E.length):((E.take (k+1)).map aH.lit)=((E.take k).map aH.lit)++[E[k].lit]:=by
 rw[List.take_succ_eq_append_getElem hk,List.map_append];rfl
theorem wV (E:List aH) (e:aH):cellsE (E++[e.lit])=cellsE E++[.int .i64 e.t,.slice e.a (min 260 e.d.length) e.c]:=by
 rw[fJ];simp[aH.lit,aH.v]
open Ne (Rl bF aD bM)
open Fs (av hasB)
theorem lJ {w:World} {base:Nat} {v:Value} {l:List Int} (h:aU w base v l): ∃A c,v=.slice A l.length c:=by
 obtain⟨A,c,rfl,-,-⟩:=ownsRow_form h
 exact⟨A,c,rfl⟩
theorem dP.stays {A C:World} {base X:Nat} {v:Value} {out:List Pk} (h:dP A base v out) (hg:A.grownBy C (some X)) (hX:X<base):dP C base v out:=by
 obtain⟨P,hP,he⟩:=h
 exact⟨P,hP.stays hg (fun r e=>by cases e;exact hX),he⟩
theorem dS (W:World) (Z F:Obj):(W.alloc Z).grownBy (W.alloc F) (some W.heap.size):=
 ⟨rfl,rfl,rfl,by simp,fun k hk hne=>by
  have h1:k≠W.heap.size:=fun e=>hne (by rw[e])
  have h2:k<W.heap.size+1:=by simpa using hk
  rw[Below.heap_alloc W F k (by omega),Below.heap_alloc W Z k (by omega)]⟩
open Go.ChangeShapes Go.WideShapes Go.ChangeAt Go.RowKit Go.Joins Go.Deep
set_option maxRecDepth 100000
open Ne (Rl aD qW dJ)
theorem AQ {H:Type} {enc:TypeId×Value→H} {P:Program} {w:World} {base:Nat} {spare:Nat→Bool} {held:Bool} {r:Reach} {b0:Nat} {t:TypeId} {fs:Array Field} {v:Value} {d:DataW H} {p:List MemPlace}
  (hs:P.underlying t=some (.struct fs)) (hone:oneCellFields P fs=true) (hC:P.cellsOf t=fs.size) (hv:Value.okWide P w r b0 t v) (h:DataW.Trod enc P w base spare held t v d p):
  ∃(cs:Array Value) (n:Nat),v=.agg cs∧cs.size=fs.size∧ ∀(j:Nat) (f:Field),fs[j]? =some f→ ∃(u:Value) (y:DataW H×List MemPlace),cs[j]? =some u∧DataW.trod enc P w base spare held n f.type [u]=some y:=by
 obtain⟨cs,rfl,hsz⟩:=okWide_struct hs hv
 obtain⟨fuel,hf⟩:=h
 obtain⟨ys,n',hn',hy,hlen,hyl,J8⟩:=DataW.trod_struct hs hf
 refine⟨cs,n',rfl,hsz.trans hC,fun j f hj=>?_⟩
 obtain⟨ho,hk⟩:=hone_of hone j f hj
 have hjl:j<fs.size:=(Array.getElem?_eq_some_iff.1 hj).1
 have h1:=J8 j f hj
 rw[ho,hk] at h1
 have hjc:j<cs.toList.length:=by simpa using (by omega:j<cs.size)
 have hone':(cs.toList.drop j).take 1=[cs[j]'(by omega)]:=by
  rw[List.drop_eq_getElem_cons hjc]
  simp
 have h1:DataW.trod enc P w base spare held n' f.type ((cs.toList.drop j).take 1)=ys[j]?:=h1
 rw[hone'] at h1
 have hys:ys[j]? =some (ys[j]'(by omega)):=List.getElem?_eq_getElem (by omega)
 exact⟨cs[j]'(by omega),_,by simp,h1.trans hys⟩
theorem yP {H:Type} {enc:TypeId×Value→H} {W:World} {fuel:Nat} {v:Value} {x:DataW H×List MemPlace} (hf:DataW.trod enc Tryz.prog W 0 (fun _=>true) true fuel 25 [v]=some x):
  ∃(A:Option Addr) (n c:Nat) (E:List aH),v=.slice A n c∧aJ W W.heap.size A E∧n=E.length∧n≤c∧(n:Int)≤9223372036854775807∧ ∀e∈E,(e.d.length:Int)≤9223372036854775807:=by
 rcases open_slice_pairs Tryz.underlying25 Tryz.underlying111 (by kernel_rfl) rfl rfl (by kernel_rfl) (by kernel_rfl) hf with⟨hcs,-⟩|⟨a',len',cap',m,n,V0,V1,D0,D1,P0,P1,hcs,-,hl,hm,hmm,-,hi⟩
 ·simp only[List.cons.injEq,and_true] at hcs
  exact⟨none,0,0,[],hcs,⟨At.nil _ _ _,fun _ h=>by cases h⟩,rfl,aaE _,by omega,fun _ h=>by cases h⟩
 ·simp only[List.cons.injEq,and_true] at hcs
  subst hcs
  simp only[if_true] at hmm
  subst hmm
  unfold maxLen at hm
  have each: ∀i,i<m→ ∃e:aH,V0 i=.int .i64 e.t∧V1 i=e.v∧At W W.heap.size e.a (e.d.map bv)∧e.d.length≤e.c∧(e.d.length:Int)≤9223372036854775807:=by
   intro i him
   obtain⟨-,-,g0,g1⟩:=hi i him
   obtain⟨t,e0,-⟩:=DataW.trod_int Tryz.underlying3 g0
   obtain⟨A,l1,c,l,hcs,hA,hl1,hc,hb⟩:=pR g1
   simp at e0 hcs
   subst hl1
   exact⟨⟨t,l,A,c⟩,e0,hcs,hA,hc,hb⟩
  have:Inhabited aH:=⟨⟨0,[],none,0⟩⟩
  obtain⟨y,hy⟩:=choose_lt each
  rcases Nat.eq_zero_or_pos len' with h0|h0
  ·subst h0
   exact⟨_,0,m,[],rfl,⟨At.nil _ _ _,fun _ h=>by cases h⟩,rfl,Nat.zero_le _,by omega,fun _ h=>by cases h⟩
  ·have hc0:=(hi 0 (by omega)).1
   obtain⟨b,off,spot⟩:=a'
   have hspot:spot=none:=by simpa[Addr.add] using World.cell?_spot hc0
   subst hspot
   have hlt:b<W.heap.size:=by
    have:=World.block_lt_of_cell? W _ hc0
    simpa[Addr.add] using this
   refine⟨some ⟨b,off,none⟩,len',m,(List.range len').map y,rfl,aJ.mk hlt (fun k hk=>?_) (fun e he=>?_),by simp,hl,by omega,fun e he=>?_⟩
   ·have hk':k<m:=by simp at hk;omega
    obtain⟨c0,c1,-,-⟩:=hi k hk'
    obtain⟨e0,e1,-⟩:=hy k hk'
    rw[zV] at c0 c1
    simp only[List.getElem_map,List.getElem_range]
    rw[c0,←Nat.add_assoc] at*
    exact⟨by rw[e0],by rw[c1,e1]⟩
   ·simp only[List.mem_map,List.mem_range] at he
    obtain⟨k,hk,rfl⟩:=he
    exact⟨(hy k (by omega)).2.2.1,(hy k (by omega)).2.2.2.1⟩
   ·simp only[List.mem_map,List.mem_range] at he
    obtain⟨k,hk,rfl⟩:=he
    exact(hy k (by omega)).2.2.2.2
theorem YU {cs:Array Value} (h:cs.size=7) {a b c d e f g:Value} (h0:cs[0]? =some a) (h1:cs[1]? =some b) (h2:cs[2]? =some c) (h3:cs[3]? =some d) (h4:cs[4]? =some e) (h5:cs[5]? =some f) (h6:cs[6]? =some g):cs=#[a,b,c,d,e,f,g]:=by
 obtain⟨l⟩:=cs
 match l,h with
 |[x0,x1,x2,x3,x4,x5,x6],_=>simp at h0 h1 h2 h3 h4 h5 h6;subst h0 h1 h2 h3 h4 h5 h6;rfl
def JI (l:List Int):Bool:=l.any fun x=>x==6||(x==7||x==10)
theorem KU (c:Cf) (inn ans:Pk) (tick:Int) (acts:List Int) (a:Au) (x:Int):(fK c inn ans tick acts a x).1.ay=if (x==6||(x==7||x==10))=true then tick+c.wt else a.ay:=by
 unfold fK
 by_cases h5:x=5
 ·subst h5;rfl
 rw[if_neg h5]
 by_cases h6:x=6
 ·subst h6;rfl
 rw[if_neg h6]
 by_cases h7:x=7
 ·subst h7;rfl
 rw[if_neg h7]
 by_cases h8:x=8
 ·subst h8;rfl
 rw[if_neg h8]
 by_cases h9:x=9
 ·subst h9;rfl
 rw[if_neg h9]
 by_cases h10:x=10
 ·subst h10;rfl
 rw[if_neg h10]
 have hf:(x==6||(x==7||x==10))=false:=by simp[h6,h7,h10]
 rw[hf]
 split
 ·rfl
 ·split
  ·rfl
  ·split<;>rfl
theorem TH (c:Cf) (inn ans:Pk) (tick:Int) (acts:List Int) (a:Au) (x:Int):(fK c inn ans tick acts a x).1.st=a.st:=by
 unfold fK
 repeat' split
 all_goals rfl
theorem Ee (c:Cf) (inn ans:Pk) (tick:Int) (acts:List Int): ∀(l:List Int) (s:Au×List Pk),(fO c inn ans tick acts s l).1.st=s.1.st
 |[],_=>rfl
 |x::l,s=>by
  unfold fO
  rw[List.foldl_cons]
  exact(Ee c inn ans tick acts l _).trans (TH ..)
theorem Bf (c:Cf) (inn ans:Pk) (tick:Int) (acts:List Int): ∀(l:List Int) (s:Au×List Pk),(fO c inn ans tick acts s l).1.ay=if JI l=true then tick+c.wt else s.1.ay
 |[],_=>rfl
 |x::l,s=>by
  have h:=Bf c inn ans tick acts l ((fK c inn ans tick acts s.1 x).1,s.2++(fK c inn ans tick acts s.1 x).2)
  have h2:fO c inn ans tick acts s (x::l)=fO c inn ans tick acts ((fK c inn ans tick acts s.1 x).1,s.2++(fK c inn ans tick acts s.1 x).2) l:=by
   unfold fO;rw[List.foldl_cons]
  rw[h2,h]
  dsimp only
  rw[KU]
  unfold JI
  rw[List.any_cons]
  cases (x==6||(x==7||x==10))<;>simp
theorem JN (s e:Int) (h:Fs.bP s e=0):Fs.iw (Fs.aZ e s)=true→Fs.iw s=true∨JI (Fs.aT e s)=true:=by
 unfold Fs.bP at h
 split at h
 ·rename_i hi
  simp only[Fs.jw,decide_eq_true_eq] at hi
  obtain⟨h1,h2,h3,h4⟩:=hi
  revert h
  rcases Fs.sixteen h1 h2 with rfl|rfl|rfl|rfl|rfl|rfl|rfl|rfl|rfl|rfl|rfl|rfl|rfl|rfl|rfl|rfl<;>rcases Fs.ten h3 h4 with rfl|rfl|rfl|rfl|rfl|rfl|rfl|rfl|rfl|rfl<;>decide
 ·omega
theorem rM {a:Au} (h:fA a=true):(0≤a.st∧a.st≤9)∧(0≤a.id∧a.id≤255)∧(0≤a.req∧a.req≤255)∧(0≤a.cnt∧a.cnt≤1000)∧(0≤a.au∧a.au≤1000)∧(Op.encR a.ask).2=0∧oN a=true:=by
 unfold fA fF bC at h
 simp only[Bool.and_eq_true,decide_eq_true_eq,beq_iff_eq] at h
 obtain⟨⟨h1,h2,h3,h4,h5⟩,h6,h7⟩:=h
 exact⟨h1,h2,h3,h4,h5,h6,h7⟩
theorem CQ {a:Au} (h:(0≤a.st∧a.st≤9)∧(0≤a.id∧a.id≤255)∧(0≤a.req∧a.req≤255)∧(0≤a.cnt∧a.cnt≤1000)∧(0≤a.au∧a.au≤1000)∧(Op.encR a.ask).2=0∧oN a=true):fA a=true:=by
 unfold fA fF bC
 simp only[Bool.and_eq_true,decide_eq_true_eq,beq_iff_eq]
 obtain⟨h1,h2,h3,h4,h5,h6,h7⟩:=h
 exact⟨⟨h1,h2,h3,h4,h5⟩,h6,h7⟩
theorem Ll {a:Au} {L:List bF} (h:fA a=true) (hL:(Op.encR L).2=0):fA {a with ask:=L}=true:=by
 obtain⟨h1,h2,h3,h4,h5,h6,h7⟩:=rM h
 exact CQ ⟨h1,h2,h3,h4,h5,hL,h7⟩
theorem uL {c:Cf} {a:Au} {tick:Int} (ha:fA a=true) (e:Int) (inn ans:Pk):fA (jo c a e inn ans tick).1=true:=by
 obtain⟨h1,h2,h3,h4,h5,h6,h7⟩:=rM ha
 unfold jo
 split
 ·rename_i hf
  have hN:=tN c inn ans tick (Fs.aT e a.st) (Fs.aT e a.st) ({a with st:=Fs.aZ e a.st},[]) ((gN.yO hf.1).state _)
  have hst:=Ee c inn ans tick (Fs.aT e a.st) (Fs.aT e a.st) ({a with st:=Fs.aZ e a.st},[])
  have yF:=jQ c inn ans tick (Fs.aT e a.st) (Fs.aT e a.st) ({a with st:=Fs.aZ e a.st},[])
  have Ub:=Bf c inn ans tick (Fs.aT e a.st) (Fs.aT e a.st) ({a with st:=Fs.aZ e a.st},[])
  have h9:=(Fs.Y7 a.st e hf.2).1
  have hset:=JN a.st e hf.2
  obtain⟨r,hr⟩: ∃r,(fO c inn ans tick (Fs.aT e a.st) ({a with st:=Fs.aZ e a.st},[]) (Fs.aT e a.st)).1=r:=⟨_,rfl⟩
  rw[hr] at hN hst yF Ub
  rw[hr]
  dsimp only at hst yF Ub ⊢
  clear hr
  obtain⟨t0,t1,w0,w1,m0,m1,n0,n1,c0,c1,i0,i1,r0,r1,k0,k1⟩:=hN
  by_cases ht:Fs.iw (Fs.aZ e a.st)=true
  ·rw[if_pos ht]
   refine CQ ⟨by rw[hst];exact h9,⟨i0,i1⟩,⟨r0,r1⟩,⟨c0,c1⟩,⟨k0,k1⟩,by rw[yF];exact h6,?_⟩
   unfold oN
   rw[hst,if_pos ht,Ub]
   rcases hset ht with hs|hs
   ·split
    ·simp[bC];omega
    ·unfold oN at h7
     rw[if_pos hs] at h7
     exact h7
   ·rw[if_pos hs]
    simp[bC];omega
  ·rw[if_neg ht]
   refine CQ ⟨by dsimp only;rw[hst];exact h9,⟨i0,i1⟩,⟨r0,r1⟩,⟨c0,c1⟩,⟨k0,k1⟩,by dsimp only;rw[yF];exact h6,?_⟩
   unfold oN
   dsimp only
   rw[hst,if_neg ht]
   rfl
 ·exact ha
theorem OA {c:Cf} {a:Au} {tick:Int} (ha:fA a=true):fA (mh c a tick).1=true:=by
 unfold mh
 split
 ·exact ha
 ·exact uL ha _ _ _
end Go.Proofs.YtfkgmbknfnhjoaaGreat
