/- Z45 -/
import Derived.Test.YtfkgmbknfnhjoaaGreatSZ42
set_option linter.all false
set_option linter.ambiguousOpen false
set_option maxHeartbeats 16000000
namespace Go.Proofs.YtfkgmbknfnhjoaaGreat
open Go.RowKit
open Ne (Rl bF aD bM dJ)
open Fs (av hasB)
set_option maxRecDepth 100000 in
theorem vD (mr mc mt mf wt ec lo:Int) (st id req cnt ay au own peer:Int) (Aa:Option Addr) (na ca:Nat) (tick:Int) (Ai:Option Addr) (ni ci:Nat) (ic ii:Int) (li:List UInt8) (E:List aH) (L:List bF) (hL:E.map aH.o=L) (w:World) (B:Nat) (hB:B≤w.heap.size) (hE:aJ w B Aa E) (hna:na=E.length) (hca:na≤ca) (hla:na≤1000000) (hp:dJ peer) (hI:At w B Ai (li.map bv)) (hni:ni=li.length) (hci:ni≤ci) (iF:ni≤400000000):
  Calls Tryz.prog 76 #[.agg #[.int .i64 mr,.int .i64 mc,.int .i64 mt,.int .i64 mf,.int .i64 wt,.int .i64 ec,.int .i64 lo],.agg #[.int .i64 st,.int .i64 id,.int .i64 req,.slice Aa na ca,.int .i64 cnt,.int .i64 ay,.int .i64 au,.int .i64 own,.int .i64 peer],.agg #[.int .i64 ic,.int .i64 ii,.slice Ai ni ci],.int .i64 tick] w (j3 (b_ mc mt mf wt ⟨st,id,req,L,cnt,ay,au⟩ own peer ⟨ic,ii,li⟩ tick) own peer w):=by
 have Tp:=Lib.hid hI
 have gy:=Lib.hid hni
 clear hI hni
 have HB:=Lib.hid hB
 have HE:=Lib.hid hE
 have dz:=Lib.hid hna
 have HP:=Lib.hid hp
 have HL:=Lib.hid hL
 clear hB hE hna hp hL
 obtain⟨ke,hke⟩: ∃k,Cp.aV ic ii li.length=k:=⟨_,rfl⟩
 have jB:=Lib.hid hke
 cases hf:iD mc mt mf wt ⟨st,id,req,L,cnt,ay,au⟩ own peer tick
 focus
  have HF:=Lib.hid hf
  have OW:=Lib.hid (show b_ mc mt mf wt ⟨st,id,req,L,cnt,ay,au⟩ own peer ⟨ic,ii,li⟩ tick=(⟨st,id,req,L,cnt,ay,au⟩,[],[]) by unfold b_;rw[if_neg (by rw[hf];simp)])
  clear hf hke
 rotate_left
 focus
  have HF:=Lib.hid hf
  by_cases hk0:ke=0
 focus
  have Kw:=Lib.hid (show iD mc mt mf wt ⟨st,id,req,L,cnt,ay,au⟩ own peer tick=true∧Cp.aV ic ii li.length=0 from ⟨hf,by rw[hke,hk0]⟩)
  subst hk0
  clear hf hke
  by_cases h3:ic=3
 focus
  have e3:(ic==3)=true:=by simpa using h3
  by_cases hid:ii=req
 focus
  obtain⟨⟨a1,o1,d1⟩,hr⟩: ∃r,jo ⟨[dX peer],mc,mt,mf,wt⟩ ⟨st,id,req,L,cnt,ay,au⟩ 10 ⟨ic,ii,li⟩ ⟨0,0,[]⟩ tick=r:=⟨_,rfl⟩
  have HV:=Lib.hid hr
  have HR1:=Lib.hid (show b_ mc mt mf wt ⟨st,id,req,L,cnt,ay,au⟩ own peer ⟨ic,ii,li⟩ tick=(a1,o1,d1) by unfold b_;rw[if_pos Kw.out,if_pos h3,if_pos hid];exact hr)
  have BP:=Lib.hid (show a1.ask=L by have h:=fU ⟨[dX peer],mc,mt,mf,wt⟩ ⟨st,id,req,L,cnt,ay,au⟩ 10 ⟨ic,ii,li⟩ ⟨0,0,[]⟩ tick;rw[hr] at h;exact h)
  have e1:(ii !=req)=false:=by simp[hid]
  have f1:(ii==req)=true:=by simp[hid]
  clear hr hid h3
 rotate_left
 focus
  have OW:=Lib.hid (show b_ mc mt mf wt ⟨st,id,req,L,cnt,ay,au⟩ own peer ⟨ic,ii,li⟩ tick=(⟨st,id,req,L,cnt,ay,au⟩,[],[]) by unfold b_;rw[if_pos Kw.out,if_pos h3,if_neg hid])
  have e1:(ii !=req)=true:=by simpa using hid
  have f1:(ii==req)=false:=by simpa using hid
  clear hid h3
 rotate_left
 focus
  have e3:(ic==3)=false:=by simpa using h3
  by_cases h7:bC ic 1 7=true
 focus
  obtain⟨⟨⟨a1,o1,d1⟩,k1⟩,hr⟩: ∃r,eP ⟨[dX peer],mc,mt,mf,wt⟩ ⟨st,id,req,L,cnt,ay,au⟩ ⟨ic,ii,li⟩ tick=r:=⟨_,rfl⟩
  have HV:=Lib.hid hr
  have HR1:=Lib.hid (show b_ mc mt mf wt ⟨st,id,req,L,cnt,ay,au⟩ own peer ⟨ic,ii,li⟩ tick=(a1,o1,d1) by unfold b_;rw[if_pos Kw.out,if_neg h3,if_pos h7];exact congrArg Prod.fst hr)
  have Vq:=rG h7
  have g1:1≤ic:=Vq.1
  have g7:ic≤7:=Vq.2
  clear hr h7 Vq h3
 rotate_left
 ·obtain⟨⟨a1,o1,d1⟩,hr⟩: ∃r,jo ⟨[dX peer],mc,mt,mf,wt⟩ ⟨st,id,req,L,cnt,ay,au⟩ 13 ⟨ic,ii,li⟩ ⟨0,0,[]⟩ tick=r:=⟨_,rfl⟩
  have HV:=Lib.hid hr
  have HR1:=Lib.hid (show b_ mc mt mf wt ⟨st,id,req,L,cnt,ay,au⟩ own peer ⟨ic,ii,li⟩ tick=(a1,o1,d1) by unfold b_;rw[if_pos Kw.out,if_neg h3,if_neg h7];exact hr)
  have BP:=Lib.hid (show a1.ask=L by have h:=fU ⟨[dX peer],mc,mt,mf,wt⟩ ⟨st,id,req,L,cnt,ay,au⟩ 13 ⟨ic,ii,li⟩ ⟨0,0,[]⟩ tick;rw[hr] at h;exact h)
  have hg:ic<1∨(1≤ic∧7<ic):=by
   unfold bC at h7
   simp at h7
   omega
  clear hr h7 h3
  rcases hg with g1|⟨g1,g7⟩
  all_goals
   go_enter Tryz.func76,Tryz.ntmps76
   go_upto_region 1 with(fail)
   refine bY (fun W=>W.heap[w.heap.size]? =some (.cells #[.int .i64 mr,.int .i64 mc,.int .i64 mt,.int .i64 mf,.int .i64 wt,.int .i64 ec,.int .i64 lo] 64 (0,0))∧W.heap[w.heap.size+1]? =some (.cells #[.int .i64 st,.int .i64 id,.int .i64 req,.slice Aa na ca,.int .i64 cnt,.int .i64 ay,.int .i64 au,.int .i64 own,.int .i64 peer] 60 (0,0))∧W.heap[w.heap.size+1+1+1]? =some (.cells #[.int .i64 0,.int .i64 0,.int .i64 0,.slice none 0 0,.int .i64 0,.int .i64 0,.int .i64 0,.int .i64 0,.int .i64 0] 60 (0,0))∧Below w.heap.size w W∧W.heap[w.heap.size+1+1]? =some (.cells #[.int .i64 ic,.int .i64 ii,.slice Ai ni ci] 32 (0,0))) ⟨by exact hpa,by exact hpa,by exact hpa,by exact aA,by exact hpa⟩ ?_
   rintro W1 ⟨hc,hn,hz,hb,hi⟩
   have hzz:w.heap.size+1+1+1<W1.heap.size:=aj hz
   have HC:=Lib.hid hc
   have HN:=Lib.hid hn
   have HZ:=Lib.hid hz
   have aQ:=Lib.hid hb
   have hsw:=hb.size
   have lc:=aj hc
   have ln:=aj hn
   have lz:=aj hz
   obtain⟨c0,c1,c2,c3,c4,c5,c6⟩:=aG hc
   obtain⟨n0,n1,n2,n3,n4,n5,n6,n7,n8⟩:=aL hn
   obtain⟨z0,z1,z2,z3,z4,z5,z6,z7,z8⟩:=aL hz
   have fz:=frees hz
   have HI:=Lib.hid hi
   have pO:=aj hi
   obtain⟨i0,i1,i2⟩:=cells3 hi
   clear hc hn hz hb hi
   go_wp2_with fail
   refine(Cp.kT ic ii Ai ni ci li W1 B (by have:=HB.out;omega) (Tp.out.keep (aQ.out.mono HB.out)) gy.out (by omega)).mono ?_
   unfold Cp.gK
   rw[jB.out]
   rintro x W2 ⟨v3,rfl,hb,ho3⟩
   obtain⟨A3,k3,rfl,-,-⟩:=ownsRow_form ho3
   clear ho3
   have hc:=(hb.block _ lc).trans HC.out
   have hn:=(hb.block _ ln).trans HN.out
   have hz:=(hb.block _ lz).trans HZ.out
   have hi:=(hb.block _ pO).trans HI.out
   replace hb:=aQ.out.trans (hb.mono hsw)
   clear c0 c1 c2 c3 c4 c5 c6 n0 n1 n2 n3 n4 n5 n6 n7 n8 z0 z1 z2 z3 z4 z5 z6 z7 z8 fz lc ln lz i0 i1 i2 pO HI HC HN HZ aQ hsw
   have HC:=Lib.hid hc
   have HN:=Lib.hid hn
   have HZ:=Lib.hid hz
   have aQ:=Lib.hid hb
   have hsw:=hb.size
   have lc:=aj hc
   have ln:=aj hn
   have lz:=aj hz
   obtain⟨c0,c1,c2,c3,c4,c5,c6⟩:=aG hc
   obtain⟨n0,n1,n2,n3,n4,n5,n6,n7,n8⟩:=aL hn
   obtain⟨z0,z1,z2,z3,z4,z5,z6,z7,z8⟩:=aL hz
   have fz:=frees hz
   have HI:=Lib.hid hi
   have pO:=aj hi
   obtain⟨i0,i1,i2⟩:=cells3 hi
   clear hc hn hz hb hi
   go_wp2_with fail
   refine(nU mr mc mt mf wt ec lo st id req cnt ay au own peer Aa na ca tick E L HL.out W2 B (by have:=HB.out;omega) (HE.out.keep (aQ.out.mono HB.out)) dz.out HP.out).mono ?_
   rw[HF.out]
   rintro x W3 ⟨rfl,hb⟩
   have hc:=(hb.block _ lc).trans HC.out
   have hn:=(hb.block _ ln).trans HN.out
   have hz:=(hb.block _ lz).trans HZ.out
   have hi:=(hb.block _ pO).trans HI.out
   replace hb:=aQ.out.trans (hb.mono hsw)
   clear c0 c1 c2 c3 c4 c5 c6 n0 n1 n2 n3 n4 n5 n6 n7 n8 z0 z1 z2 z3 z4 z5 z6 z7 z8 fz lc ln lz i0 i1 i2 pO HI HC HN HZ aQ hsw
   have HC:=Lib.hid hc
   have HN:=Lib.hid hn
   have HZ:=Lib.hid hz
   have aQ:=Lib.hid hb
   have hsw:=hb.size
   have lc:=aj hc
   have ln:=aj hn
   have lz:=aj hz
   obtain⟨c0,c1,c2,c3,c4,c5,c6⟩:=aG hc
   obtain⟨n0,n1,n2,n3,n4,n5,n6,n7,n8⟩:=aL hn
   obtain⟨z0,z1,z2,z3,z4,z5,z6,z7,z8⟩:=aL hz
   have fz:=frees hz
   have HI:=Lib.hid hi
   have pO:=aj hi
   obtain⟨i0,i1,i2⟩:=cells3 hi
   clear hc hn hz hb hi
   go_upto_region 13 with(fail)
   go_cut [18,19,20] (fun s1 s2 s3 wx=> ∃(P:Nat) (A4 Ao Ad:Option Addr) (nx cx no co nd cd:Nat) (W:World),W=wx∧s1=.pointer (some ⟨P,0,none⟩)∧s2=.slice Ao no co∧s3=.slice Ad nd cd∧W.heap[P]? =some (.cells #[.int .i64 a1.st,.int .i64 a1.id,.int .i64 a1.req,.slice A4 nx cx,.int .i64 a1.cnt,.int .i64 a1.ay,.int .i64 a1.au] 29 (0,0))∧Below W3.heap.size W3 W∧(∃z,fG W z (.slice Ao no co) o1)∧(∃z,aU W z (.slice Ad nd cd) d1)∧((∃z,dQ W z (.slice A4 nx cx) a1.ask)∨(Value.slice A4 nx cx=.slice Aa na ca∧a1.ask=L)))
   case first=>
    have zq:=Lib.hid (show∀w':World,Below W3.heap.size W3 w'→(w'.cell? ⟨w.heap.size,0,none⟩=some (.int .i64 mr)∧w'.cell? ⟨w.heap.size,1,none⟩=some (.int .i64 mc)∧w'.cell? ⟨w.heap.size,2,none⟩=some (.int .i64 mt)∧w'.cell? ⟨w.heap.size,3,none⟩=some (.int .i64 mf)∧w'.cell? ⟨w.heap.size,4,none⟩=some (.int .i64 wt)∧w'.cell? ⟨w.heap.size,5,none⟩=some (.int .i64 ec)∧w'.cell? ⟨w.heap.size,6,none⟩=some (.int .i64 lo)∧w'.cell? ⟨w.heap.size+1,0,none⟩=some (.int .i64 st)∧w'.cell? ⟨w.heap.size+1,1,none⟩=some (.int .i64 id)∧w'.cell? ⟨w.heap.size+1,2,none⟩=some (.int .i64 req)∧w'.cell? ⟨w.heap.size+1,3,none⟩=some (.slice Aa na ca)∧w'.cell? ⟨w.heap.size+1,4,none⟩=some (.int .i64 cnt)∧w'.cell? ⟨w.heap.size+1,5,none⟩=some (.int .i64 ay)∧w'.cell? ⟨w.heap.size+1,6,none⟩=some (.int .i64 au)∧w'.cell? ⟨w.heap.size+1,7,none⟩=some (.int .i64 own)∧w'.cell? ⟨w.heap.size+1,8,none⟩=some (.int .i64 peer)∧w'.cell? ⟨w.heap.size+1+1,0,none⟩=some (.int .i64 ic)∧w'.cell? ⟨w.heap.size+1+1,1,none⟩=some (.int .i64 ii)∧w'.cell? ⟨w.heap.size+1+1,2,none⟩=some (.slice Ai ni ci)) from fun w' hb=>⟨(hb.cell (p:=⟨w.heap.size,_,none⟩) lc).trans c0,(hb.cell (p:=⟨w.heap.size,_,none⟩) lc).trans c1,(hb.cell (p:=⟨w.heap.size,_,none⟩) lc).trans c2,(hb.cell (p:=⟨w.heap.size,_,none⟩) lc).trans c3,(hb.cell (p:=⟨w.heap.size,_,none⟩) lc).trans c4,(hb.cell (p:=⟨w.heap.size,_,none⟩) lc).trans c5,(hb.cell (p:=⟨w.heap.size,_,none⟩) lc).trans c6,(hb.cell (p:=⟨w.heap.size+1,_,none⟩) ln).trans n0,(hb.cell (p:=⟨w.heap.size+1,_,none⟩) ln).trans n1,(hb.cell (p:=⟨w.heap.size+1,_,none⟩) ln).trans n2,(hb.cell (p:=⟨w.heap.size+1,_,none⟩) ln).trans n3,(hb.cell (p:=⟨w.heap.size+1,_,none⟩) ln).trans n4,(hb.cell (p:=⟨w.heap.size+1,_,none⟩) ln).trans n5,(hb.cell (p:=⟨w.heap.size+1,_,none⟩) ln).trans n6,(hb.cell (p:=⟨w.heap.size+1,_,none⟩) ln).trans n7,(hb.cell (p:=⟨w.heap.size+1,_,none⟩) ln).trans n8,(hb.cell (p:=⟨w.heap.size+1+1,_,none⟩) pO).trans i0,(hb.cell (p:=⟨w.heap.size+1+1,_,none⟩) pO).trans i1,(hb.cell (p:=⟨w.heap.size+1+1,_,none⟩) pO).trans i2⟩)
    go_region_held3 (fun w'=>w'.cell? ⟨w.heap.size,0,none⟩=some (.int .i64 mr)∧w'.cell? ⟨w.heap.size,1,none⟩=some (.int .i64 mc)∧w'.cell? ⟨w.heap.size,2,none⟩=some (.int .i64 mt)∧w'.cell? ⟨w.heap.size,3,none⟩=some (.int .i64 mf)∧w'.cell? ⟨w.heap.size,4,none⟩=some (.int .i64 wt)∧w'.cell? ⟨w.heap.size,5,none⟩=some (.int .i64 ec)∧w'.cell? ⟨w.heap.size,6,none⟩=some (.int .i64 lo)∧w'.cell? ⟨w.heap.size+1,0,none⟩=some (.int .i64 st)∧w'.cell? ⟨w.heap.size+1,1,none⟩=some (.int .i64 id)∧w'.cell? ⟨w.heap.size+1,2,none⟩=some (.int .i64 req)∧w'.cell? ⟨w.heap.size+1,3,none⟩=some (.slice Aa na ca)∧w'.cell? ⟨w.heap.size+1,4,none⟩=some (.int .i64 cnt)∧w'.cell? ⟨w.heap.size+1,5,none⟩=some (.int .i64 ay)∧w'.cell? ⟨w.heap.size+1,6,none⟩=some (.int .i64 au)∧w'.cell? ⟨w.heap.size+1,7,none⟩=some (.int .i64 own)∧w'.cell? ⟨w.heap.size+1,8,none⟩=some (.int .i64 peer)∧w'.cell? ⟨w.heap.size+1+1,0,none⟩=some (.int .i64 ic)∧w'.cell? ⟨w.heap.size+1+1,1,none⟩=some (.int .i64 ii)∧w'.cell? ⟨w.heap.size+1+1,2,none⟩=some (.slice Ai ni ci)) (exact zq.out _ (by exact aA)) (first|(go_at_call 42;go_must (refine(kr mr mc mt mf wt ec lo peer HP.out _).mono ?_);rintro e w8 ⟨A8,rfl,nO,su⟩;obtain⟨yZ,d8,rfl⟩:=aB nO;have xU:=Lib.hid su;clear nO su)|(go_at_call 15;go_must (refine(qF A8 Aa Ai none 1 1 na ca ni ci 0 0 [dX peer] mc mt mf wt st id req cnt ay au 13 ic ii 0 0 tick E li [] _ _ (aaE _) (by exact(xU.out.keep (by exact aA)).more (by simp[size_ext,grow])) rfl (by omega) (by exact(HE.out.keep (aQ.out.mono HB.out|>.trans (by have:=HB.out;exact aA))).more (by have:=HB.out;simp[size_ext,grow];omega)) dz.out (by exact(Tp.out.keep (aQ.out.mono HB.out|>.trans (by have:=HB.out;exact aA))).more (by have:=HB.out;simp[size_ext,grow];omega)) gy.out hci iF (At.nil _ _ _) rfl (aaE _) (by omega)).mono ?_);rw[HL.out,HV.out];unfold zT vV;(try dsimp only);rintro e w6 ⟨vo,vd,rfl,hb6,hP,hA⟩;have wN:=Lib.hid hP;have DK:=Lib.hid hA;obtain⟨Xq,d6,rfl⟩:=aB hb6;clear hb6 hP hA))
    all_goals
     go_wp2_with fail
     obtain⟨Ao,co,rfl⟩:=kL wN.out
     obtain⟨Ad,cd,rfl⟩:=lJ DK.out
     go_meet
     refine⟨_,Aa,Ao,Ad,na,ca,_,co,_,cd,_,rfl,rfl,rfl,rfl,?_,by exact aA,?_,?_,?_⟩
     ·repeat(first|(with_reducible refine aF _ _ _ ?_;((first|(simp[size_ext,grow];done)|(simp[size_ext,grow];omega))))|(with_reducible refine(aO _ _ _ _ ?_).trans ?_;(focus ((first|(simp[size_ext,grow];done)|(simp[size_ext,grow];omega)))))|(with_reducible refine(aC _ _ _ ?_).trans ?_;(focus ((first|(simp[size_ext,grow];done)|(simp[size_ext,grow];omega))))))
     ·have h5:=wN.out
      first|exact⟨_,fG.below h5 (Below.alloc (Below.refl _ _) (aaE _) _)⟩|(apply Exists.intro;refine fG.swap (X:=?_) h5 ?_ ?_;rotate_left;(repeat(first|with_reducible exact dS _ _ _|with_reducible refine bJ ?_ (by simp[size_ext,grow])|with_reducible refine dL ?_ (by simp[size_ext,grow])));all_goals(repeat(first|(with_reducible refine aF _ _ _ ?_;((first|(simp[size_ext,grow];done)|(simp[size_ext,grow];omega))))|(with_reducible refine(aO _ _ _ _ ?_).trans ?_;(focus ((first|(simp[size_ext,grow];done)|(simp[size_ext,grow];omega)))))|(with_reducible refine(aC _ _ _ ?_).trans ?_;(focus ((first|(simp[size_ext,grow];done)|(simp[size_ext,grow];omega))))))))
     ·have h5:=DK.out
      first|exact⟨_,aU.zX h5 (Below.alloc (Below.refl _ _) (aaE _) _)⟩|(apply Exists.intro;refine aU.swap (X:=?_) h5 ?_ ?_;rotate_left;(repeat(first|with_reducible exact dS _ _ _|with_reducible refine bJ ?_ (by simp[size_ext,grow])|with_reducible refine dL ?_ (by simp[size_ext,grow])));all_goals(repeat(first|(with_reducible refine aF _ _ _ ?_;((first|(simp[size_ext,grow];done)|(simp[size_ext,grow];omega))))|(with_reducible refine(aO _ _ _ _ ?_).trans ?_;(focus ((first|(simp[size_ext,grow];done)|(simp[size_ext,grow];omega)))))|(with_reducible refine(aC _ _ _ ?_).trans ?_;(focus ((first|(simp[size_ext,grow];done)|(simp[size_ext,grow];omega))))))))
     ·exact .inr ⟨rfl,BP.out⟩
   case rest=>
    obtain⟨P,A4,Ao,Ad,nx,cx,no,co,nd,cd,W3,rfl,rfl,rfl,rfl,hrow,hb,hP,hA,hO⟩:=hcut
    have fD:=Lib.hid hP
    have BO:=Lib.hid hA
    have gZ:=Lib.hid hO
    have Ev:=Lib.hid hrow
    obtain⟨t0,t1,t2,t3,t4,t5,t6⟩:=aG hrow
    have lP:=aj hrow
    clear hP hA hO hrow
    have hc:=(hb.block _ lc).trans HC.out
    have hn:=(hb.block _ ln).trans HN.out
    have hz:=(hb.block _ lz).trans HZ.out
    have hi:=(hb.block _ pO).trans HI.out
    replace hb:=aQ.out.trans (hb.mono hsw)
    clear c0 c1 c2 c3 c4 c5 c6 n0 n1 n2 n3 n4 n5 n6 n7 n8 z0 z1 z2 z3 z4 z5 z6 z7 z8 fz lc ln lz i0 i1 i2 pO HI HC HN HZ aQ hsw
    have HC:=Lib.hid hc
    have HN:=Lib.hid hn
    have HZ:=Lib.hid hz
    have aQ:=Lib.hid hb
    have hsw:=hb.size
    have lc:=aj hc
    have ln:=aj hn
    have lz:=aj hz
    obtain⟨c0,c1,c2,c3,c4,c5,c6⟩:=aG hc
    obtain⟨n0,n1,n2,n3,n4,n5,n6,n7,n8⟩:=aL hn
    obtain⟨z0,z1,z2,z3,z4,z5,z6,z7,z8⟩:=aL hz
    have fz:=frees hz
    have HI:=Lib.hid hi
    have pO:=aj hi
    obtain⟨i0,i1,i2⟩:=cells3 hi
    clear hc hn hz hb hi
    have ji:=HN.out
    have fn:=frees ji
    clear ji
    go_upto_region 15 with(fail)
    generalize hWs:World.setCell _ _ _=W4
    have hst:sJ W3 (w.heap.size+1) a1 (.slice A4 nx cx)=W4:=hWs
    have hg4:=iU W3 (w.heap.size+1) a1 (.slice A4 nx cx)
    have hr4:=ku HN.out a1 (.slice A4 nx cx)
    rw[hst] at hg4 hr4
    have BF:=Lib.hid hg4
    clear hst hWs
    have pU:=(hg4.block (w.heap.size+1+1+1) lz (fun e=>by have:=Option.some.inj e;omega)).trans HZ.out
    clear c0 c1 c2 c3 c4 c5 c6 n0 n1 n2 n3 n4 n5 n6 n7 n8 z0 z1 z2 z3 z4 z5 z6 z7 z8 fz lc ln lz t0 t1 t2 t3 t4 t5 t6 lP fn
    have lz:=aj pU
    have ln:=aj hr4
    obtain⟨n0,n1,n2,n3,n4,n5,n6,n7,n8⟩:=aL hr4
    obtain⟨z0,z1,z2,z3,z4,z5,z6,z7,z8⟩:=aL pU
    have fz:=frees pU
    have xV:=Lib.hid pU
    clear hg4 hr4 pU
    go_wp2_with fail
    generalize hWf:World.setCell _ _ _=Wf
    have hst:oV W4 (w.heap.size+1+1+1) a1 (.slice A4 nx cx) own peer=Wf:=hWf
    have hg:=gJ W4 (w.heap.size+1+1+1) a1 (.slice A4 nx cx) own peer
    have hr:=iV xV.out a1 (.slice A4 nx cx) own peer
    rw[hst] at hg hr
    clear n0 n1 n2 n3 n4 n5 n6 n7 n8 z0 z1 z2 z3 z4 z5 z6 z7 z8 fz
    obtain⟨u0,u1,u2,u3,u4,u5,u6,u7,u8⟩:=aL hr
    refine bodyPost_ret (v:=.tuple #[iH a1 (.slice A4 nx cx) own peer,.slice Ao no co,.slice Ad nd cd]) (by unfold iH;simp[results,Tryz.results76,go_sem,u0,u1,u2,u3,u4,u5,u6,u7,u8]) rfl ?_
    rw[HR1.out]
    exact j3.fin (a0:=⟨st,id,req,L,cnt,ay,au⟩) HB.out aQ.out HN.out (by omega) HZ.out (by omega) (by omega) fD.out BO.out gZ.out HE.out dz.out hca HL.out BF.out hg
 focus
  have OW:=Lib.hid (show b_ mc mt mf wt ⟨st,id,req,L,cnt,ay,au⟩ own peer ⟨ic,ii,li⟩ tick=(⟨st,id,req,L,cnt,ay,au⟩,[],[]) by unfold b_;rw[if_neg (by dsimp only;rw[hke];simp[hk0])])
  have e0:(ke !=0)=true:=by simpa using hk0
  have f0:(ke==0)=false:=by simpa using hk0
  clear hf hke hk0
 rotate_left
 all_goals
  go_enter Tryz.func76,Tryz.ntmps76
  go_upto_region 1 with(fail)
  refine bY (fun W=>W.heap[w.heap.size]? =some (.cells #[.int .i64 mr,.int .i64 mc,.int .i64 mt,.int .i64 mf,.int .i64 wt,.int .i64 ec,.int .i64 lo] 64 (0,0))∧W.heap[w.heap.size+1]? =some (.cells #[.int .i64 st,.int .i64 id,.int .i64 req,.slice Aa na ca,.int .i64 cnt,.int .i64 ay,.int .i64 au,.int .i64 own,.int .i64 peer] 60 (0,0))∧W.heap[w.heap.size+1+1+1]? =some (.cells #[.int .i64 0,.int .i64 0,.int .i64 0,.slice none 0 0,.int .i64 0,.int .i64 0,.int .i64 0,.int .i64 0,.int .i64 0] 60 (0,0))∧Below w.heap.size w W∧W.heap[w.heap.size+1+1]? =some (.cells #[.int .i64 ic,.int .i64 ii,.slice Ai ni ci] 32 (0,0))) ⟨by exact hpa,by exact hpa,by exact hpa,by exact aA,by exact hpa⟩ ?_
  rintro W1 ⟨hc,hn,hz,hb,hi⟩
  have hzz:w.heap.size+1+1+1<W1.heap.size:=aj hz
  have HC:=Lib.hid hc
  have HN:=Lib.hid hn
  have HZ:=Lib.hid hz
  have aQ:=Lib.hid hb
  have hsw:=hb.size
  have lc:=aj hc
  have ln:=aj hn
  have lz:=aj hz
  obtain⟨c0,c1,c2,c3,c4,c5,c6⟩:=aG hc
  obtain⟨n0,n1,n2,n3,n4,n5,n6,n7,n8⟩:=aL hn
  obtain⟨z0,z1,z2,z3,z4,z5,z6,z7,z8⟩:=aL hz
  have fz:=frees hz
  have HI:=Lib.hid hi
  have pO:=aj hi
  obtain⟨i0,i1,i2⟩:=cells3 hi
  clear hc hn hz hb hi
  go_wp2_with fail
  refine(Cp.kT ic ii Ai ni ci li W1 B (by have:=HB.out;omega) (Tp.out.keep (aQ.out.mono HB.out)) gy.out (by omega)).mono ?_
  unfold Cp.gK
  rw[jB.out]
  rintro x W2 ⟨v3,rfl,hb,ho3⟩
  obtain⟨A3,k3,rfl,-,-⟩:=ownsRow_form ho3
  clear ho3
  have hc:=(hb.block _ lc).trans HC.out
  have hn:=(hb.block _ ln).trans HN.out
  have hz:=(hb.block _ lz).trans HZ.out
  have hi:=(hb.block _ pO).trans HI.out
  replace hb:=aQ.out.trans (hb.mono hsw)
  clear c0 c1 c2 c3 c4 c5 c6 n0 n1 n2 n3 n4 n5 n6 n7 n8 z0 z1 z2 z3 z4 z5 z6 z7 z8 fz lc ln lz i0 i1 i2 pO HI HC HN HZ aQ hsw
  have HC:=Lib.hid hc
  have HN:=Lib.hid hn
  have HZ:=Lib.hid hz
  have aQ:=Lib.hid hb
  have hsw:=hb.size
  have lc:=aj hc
  have ln:=aj hn
  have lz:=aj hz
  obtain⟨c0,c1,c2,c3,c4,c5,c6⟩:=aG hc
  obtain⟨n0,n1,n2,n3,n4,n5,n6,n7,n8⟩:=aL hn
  obtain⟨z0,z1,z2,z3,z4,z5,z6,z7,z8⟩:=aL hz
  have fz:=frees hz
  have HI:=Lib.hid hi
  have pO:=aj hi
  obtain⟨i0,i1,i2⟩:=cells3 hi
  clear hc hn hz hb hi
  go_wp2_with fail
  refine(nU mr mc mt mf wt ec lo st id req cnt ay au own peer Aa na ca tick E L HL.out W2 B (by have:=HB.out;omega) (HE.out.keep (aQ.out.mono HB.out)) dz.out HP.out).mono ?_
  rw[HF.out]
  rintro x W3 ⟨rfl,hb⟩
  have hc:=(hb.block _ lc).trans HC.out
  have hn:=(hb.block _ ln).trans HN.out
  have hz:=(hb.block _ lz).trans HZ.out
  have hi:=(hb.block _ pO).trans HI.out
  replace hb:=aQ.out.trans (hb.mono hsw)
  clear c0 c1 c2 c3 c4 c5 c6 n0 n1 n2 n3 n4 n5 n6 n7 n8 z0 z1 z2 z3 z4 z5 z6 z7 z8 fz lc ln lz i0 i1 i2 pO HI HC HN HZ aQ hsw
  have HC:=Lib.hid hc
  have HN:=Lib.hid hn
  have HZ:=Lib.hid hz
  have aQ:=Lib.hid hb
  have hsw:=hb.size
  have lc:=aj hc
  have ln:=aj hn
  have lz:=aj hz
  obtain⟨c0,c1,c2,c3,c4,c5,c6⟩:=aG hc
  obtain⟨n0,n1,n2,n3,n4,n5,n6,n7,n8⟩:=aL hn
  obtain⟨z0,z1,z2,z3,z4,z5,z6,z7,z8⟩:=aL hz
  have fz:=frees hz
  have HI:=Lib.hid hi
  have pO:=aj hi
  obtain⟨i0,i1,i2⟩:=cells3 hi
  clear hc hn hz hb hi
 rotate_left
 ·go_upto_region 13 with(fail)
  go_cut [18,19,20] (fun s1 s2 s3 wx=> ∃(P:Nat) (A4 Ao Ad:Option Addr) (nx cx no co nd cd:Nat) (W:World),W=wx∧s1=.pointer (some ⟨P,0,none⟩)∧s2=.slice Ao no co∧s3=.slice Ad nd cd∧W.heap[P]? =some (.cells #[.int .i64 a1.st,.int .i64 a1.id,.int .i64 a1.req,.slice A4 nx cx,.int .i64 a1.cnt,.int .i64 a1.ay,.int .i64 a1.au] 29 (0,0))∧Below W3.heap.size W3 W∧(∃z,fG W z (.slice Ao no co) o1)∧(∃z,aU W z (.slice Ad nd cd) d1)∧((∃z,dQ W z (.slice A4 nx cx) a1.ask)∨(Value.slice A4 nx cx=.slice Aa na ca∧a1.ask=L)))
  case first=>
   have zq:=Lib.hid (show∀w':World,Below W3.heap.size W3 w'→(w'.cell? ⟨w.heap.size,0,none⟩=some (.int .i64 mr)∧w'.cell? ⟨w.heap.size,1,none⟩=some (.int .i64 mc)∧w'.cell? ⟨w.heap.size,2,none⟩=some (.int .i64 mt)∧w'.cell? ⟨w.heap.size,3,none⟩=some (.int .i64 mf)∧w'.cell? ⟨w.heap.size,4,none⟩=some (.int .i64 wt)∧w'.cell? ⟨w.heap.size,5,none⟩=some (.int .i64 ec)∧w'.cell? ⟨w.heap.size,6,none⟩=some (.int .i64 lo)∧w'.cell? ⟨w.heap.size+1,0,none⟩=some (.int .i64 st)∧w'.cell? ⟨w.heap.size+1,1,none⟩=some (.int .i64 id)∧w'.cell? ⟨w.heap.size+1,2,none⟩=some (.int .i64 req)∧w'.cell? ⟨w.heap.size+1,3,none⟩=some (.slice Aa na ca)∧w'.cell? ⟨w.heap.size+1,4,none⟩=some (.int .i64 cnt)∧w'.cell? ⟨w.heap.size+1,5,none⟩=some (.int .i64 ay)∧w'.cell? ⟨w.heap.size+1,6,none⟩=some (.int .i64 au)∧w'.cell? ⟨w.heap.size+1,7,none⟩=some (.int .i64 own)∧w'.cell? ⟨w.heap.size+1,8,none⟩=some (.int .i64 peer)∧w'.cell? ⟨w.heap.size+1+1,0,none⟩=some (.int .i64 ic)∧w'.cell? ⟨w.heap.size+1+1,1,none⟩=some (.int .i64 ii)∧w'.cell? ⟨w.heap.size+1+1,2,none⟩=some (.slice Ai ni ci)) from fun w' hb=>⟨(hb.cell (p:=⟨w.heap.size,_,none⟩) lc).trans c0,(hb.cell (p:=⟨w.heap.size,_,none⟩) lc).trans c1,(hb.cell (p:=⟨w.heap.size,_,none⟩) lc).trans c2,(hb.cell (p:=⟨w.heap.size,_,none⟩) lc).trans c3,(hb.cell (p:=⟨w.heap.size,_,none⟩) lc).trans c4,(hb.cell (p:=⟨w.heap.size,_,none⟩) lc).trans c5,(hb.cell (p:=⟨w.heap.size,_,none⟩) lc).trans c6,(hb.cell (p:=⟨w.heap.size+1,_,none⟩) ln).trans n0,(hb.cell (p:=⟨w.heap.size+1,_,none⟩) ln).trans n1,(hb.cell (p:=⟨w.heap.size+1,_,none⟩) ln).trans n2,(hb.cell (p:=⟨w.heap.size+1,_,none⟩) ln).trans n3,(hb.cell (p:=⟨w.heap.size+1,_,none⟩) ln).trans n4,(hb.cell (p:=⟨w.heap.size+1,_,none⟩) ln).trans n5,(hb.cell (p:=⟨w.heap.size+1,_,none⟩) ln).trans n6,(hb.cell (p:=⟨w.heap.size+1,_,none⟩) ln).trans n7,(hb.cell (p:=⟨w.heap.size+1,_,none⟩) ln).trans n8,(hb.cell (p:=⟨w.heap.size+1+1,_,none⟩) pO).trans i0,(hb.cell (p:=⟨w.heap.size+1+1,_,none⟩) pO).trans i1,(hb.cell (p:=⟨w.heap.size+1+1,_,none⟩) pO).trans i2⟩)
   go_region_held3 (fun w'=>w'.cell? ⟨w.heap.size,0,none⟩=some (.int .i64 mr)∧w'.cell? ⟨w.heap.size,1,none⟩=some (.int .i64 mc)∧w'.cell? ⟨w.heap.size,2,none⟩=some (.int .i64 mt)∧w'.cell? ⟨w.heap.size,3,none⟩=some (.int .i64 mf)∧w'.cell? ⟨w.heap.size,4,none⟩=some (.int .i64 wt)∧w'.cell? ⟨w.heap.size,5,none⟩=some (.int .i64 ec)∧w'.cell? ⟨w.heap.size,6,none⟩=some (.int .i64 lo)∧w'.cell? ⟨w.heap.size+1,0,none⟩=some (.int .i64 st)∧w'.cell? ⟨w.heap.size+1,1,none⟩=some (.int .i64 id)∧w'.cell? ⟨w.heap.size+1,2,none⟩=some (.int .i64 req)∧w'.cell? ⟨w.heap.size+1,3,none⟩=some (.slice Aa na ca)∧w'.cell? ⟨w.heap.size+1,4,none⟩=some (.int .i64 cnt)∧w'.cell? ⟨w.heap.size+1,5,none⟩=some (.int .i64 ay)∧w'.cell? ⟨w.heap.size+1,6,none⟩=some (.int .i64 au)∧w'.cell? ⟨w.heap.size+1,7,none⟩=some (.int .i64 own)∧w'.cell? ⟨w.heap.size+1,8,none⟩=some (.int .i64 peer)∧w'.cell? ⟨w.heap.size+1+1,0,none⟩=some (.int .i64 ic)∧w'.cell? ⟨w.heap.size+1+1,1,none⟩=some (.int .i64 ii)∧w'.cell? ⟨w.heap.size+1+1,2,none⟩=some (.slice Ai ni ci)) (exact zq.out _ (by exact aA)) (first|(go_at_call 42;go_must (refine(kr mr mc mt mf wt ec lo peer HP.out _).mono ?_);rintro e w8 ⟨A8,rfl,nO,su⟩;obtain⟨yZ,d8,rfl⟩:=aB nO;have xU:=Lib.hid su;clear nO su)|(go_at_call 15;go_must (refine(qF A8 Aa Ai none 1 1 na ca ni ci 0 0 [dX peer] mc mt mf wt st id req cnt ay au 10 ic ii 0 0 tick E li [] _ _ (aaE _) (by exact(xU.out.keep (by exact aA)).more (by simp[size_ext,grow])) rfl (by omega) (by exact(HE.out.keep (aQ.out.mono HB.out|>.trans (by have:=HB.out;exact aA))).more (by have:=HB.out;simp[size_ext,grow];omega)) dz.out (by exact(Tp.out.keep (aQ.out.mono HB.out|>.trans (by have:=HB.out;exact aA))).more (by have:=HB.out;simp[size_ext,grow];omega)) gy.out hci iF (At.nil _ _ _) rfl (aaE _) (by omega)).mono ?_);rw[HL.out,HV.out];unfold zT vV;(try dsimp only);rintro e w6 ⟨vo,vd,rfl,hb6,hP,hA⟩;have wN:=Lib.hid hP;have DK:=Lib.hid hA;obtain⟨Xq,d6,rfl⟩:=aB hb6;clear hb6 hP hA))
   all_goals
    go_wp2_with fail
    obtain⟨Ao,co,rfl⟩:=kL wN.out
    obtain⟨Ad,cd,rfl⟩:=lJ DK.out
    go_meet
    refine⟨_,Aa,Ao,Ad,na,ca,_,co,_,cd,_,rfl,rfl,rfl,rfl,?_,by exact aA,?_,?_,?_⟩
    ·repeat(first|(with_reducible refine aF _ _ _ ?_;((first|(simp[size_ext,grow];done)|(simp[size_ext,grow];omega))))|(with_reducible refine(aO _ _ _ _ ?_).trans ?_;(focus ((first|(simp[size_ext,grow];done)|(simp[size_ext,grow];omega)))))|(with_reducible refine(aC _ _ _ ?_).trans ?_;(focus ((first|(simp[size_ext,grow];done)|(simp[size_ext,grow];omega))))))
    ·have h5:=wN.out
     first|exact⟨_,fG.below h5 (Below.alloc (Below.refl _ _) (aaE _) _)⟩|(apply Exists.intro;refine fG.swap (X:=?_) h5 ?_ ?_;rotate_left;(repeat(first|with_reducible exact dS _ _ _|with_reducible refine bJ ?_ (by simp[size_ext,grow])|with_reducible refine dL ?_ (by simp[size_ext,grow])));all_goals(repeat(first|(with_reducible refine aF _ _ _ ?_;((first|(simp[size_ext,grow];done)|(simp[size_ext,grow];omega))))|(with_reducible refine(aO _ _ _ _ ?_).trans ?_;(focus ((first|(simp[size_ext,grow];done)|(simp[size_ext,grow];omega)))))|(with_reducible refine(aC _ _ _ ?_).trans ?_;(focus ((first|(simp[size_ext,grow];done)|(simp[size_ext,grow];omega))))))))
    ·have h5:=DK.out
     first|exact⟨_,aU.zX h5 (Below.alloc (Below.refl _ _) (aaE _) _)⟩|(apply Exists.intro;refine aU.swap (X:=?_) h5 ?_ ?_;rotate_left;(repeat(first|with_reducible exact dS _ _ _|with_reducible refine bJ ?_ (by simp[size_ext,grow])|with_reducible refine dL ?_ (by simp[size_ext,grow])));all_goals(repeat(first|(with_reducible refine aF _ _ _ ?_;((first|(simp[size_ext,grow];done)|(simp[size_ext,grow];omega))))|(with_reducible refine(aO _ _ _ _ ?_).trans ?_;(focus ((first|(simp[size_ext,grow];done)|(simp[size_ext,grow];omega)))))|(with_reducible refine(aC _ _ _ ?_).trans ?_;(focus ((first|(simp[size_ext,grow];done)|(simp[size_ext,grow];omega))))))))
    ·exact .inr ⟨rfl,BP.out⟩
  case rest=>
   obtain⟨P,A4,Ao,Ad,nx,cx,no,co,nd,cd,W3,rfl,rfl,rfl,rfl,hrow,hb,hP,hA,hO⟩:=hcut
   have fD:=Lib.hid hP
   have BO:=Lib.hid hA
   have gZ:=Lib.hid hO
   have Ev:=Lib.hid hrow
   obtain⟨t0,t1,t2,t3,t4,t5,t6⟩:=aG hrow
   have lP:=aj hrow
   clear hP hA hO hrow
   have hc:=(hb.block _ lc).trans HC.out
   have hn:=(hb.block _ ln).trans HN.out
   have hz:=(hb.block _ lz).trans HZ.out
   have hi:=(hb.block _ pO).trans HI.out
   replace hb:=aQ.out.trans (hb.mono hsw)
   clear c0 c1 c2 c3 c4 c5 c6 n0 n1 n2 n3 n4 n5 n6 n7 n8 z0 z1 z2 z3 z4 z5 z6 z7 z8 fz lc ln lz i0 i1 i2 pO HI HC HN HZ aQ hsw
   have HC:=Lib.hid hc
   have HN:=Lib.hid hn
   have HZ:=Lib.hid hz
   have aQ:=Lib.hid hb
   have hsw:=hb.size
   have lc:=aj hc
   have ln:=aj hn
   have lz:=aj hz
   obtain⟨c0,c1,c2,c3,c4,c5,c6⟩:=aG hc
   obtain⟨n0,n1,n2,n3,n4,n5,n6,n7,n8⟩:=aL hn
   obtain⟨z0,z1,z2,z3,z4,z5,z6,z7,z8⟩:=aL hz
   have fz:=frees hz
   have HI:=Lib.hid hi
   have pO:=aj hi
   obtain⟨i0,i1,i2⟩:=cells3 hi
   clear hc hn hz hb hi
   have ji:=HN.out
   have fn:=frees ji
   clear ji
   go_upto_region 15 with(fail)
   generalize hWs:World.setCell _ _ _=W4
   have hst:sJ W3 (w.heap.size+1) a1 (.slice A4 nx cx)=W4:=hWs
   have hg4:=iU W3 (w.heap.size+1) a1 (.slice A4 nx cx)
   have hr4:=ku HN.out a1 (.slice A4 nx cx)
   rw[hst] at hg4 hr4
   have BF:=Lib.hid hg4
   clear hst hWs
   have pU:=(hg4.block (w.heap.size+1+1+1) lz (fun e=>by have:=Option.some.inj e;omega)).trans HZ.out
   clear c0 c1 c2 c3 c4 c5 c6 n0 n1 n2 n3 n4 n5 n6 n7 n8 z0 z1 z2 z3 z4 z5 z6 z7 z8 fz lc ln lz t0 t1 t2 t3 t4 t5 t6 lP fn
   have lz:=aj pU
   have ln:=aj hr4
   obtain⟨n0,n1,n2,n3,n4,n5,n6,n7,n8⟩:=aL hr4
   obtain⟨z0,z1,z2,z3,z4,z5,z6,z7,z8⟩:=aL pU
   have fz:=frees pU
   have xV:=Lib.hid pU
   clear hg4 hr4 pU
   go_wp2_with fail
   generalize hWf:World.setCell _ _ _=Wf
   have hst:oV W4 (w.heap.size+1+1+1) a1 (.slice A4 nx cx) own peer=Wf:=hWf
   have hg:=gJ W4 (w.heap.size+1+1+1) a1 (.slice A4 nx cx) own peer
   have hr:=iV xV.out a1 (.slice A4 nx cx) own peer
   rw[hst] at hg hr
   clear n0 n1 n2 n3 n4 n5 n6 n7 n8 z0 z1 z2 z3 z4 z5 z6 z7 z8 fz
   obtain⟨u0,u1,u2,u3,u4,u5,u6,u7,u8⟩:=aL hr
   refine bodyPost_ret (v:=.tuple #[iH a1 (.slice A4 nx cx) own peer,.slice Ao no co,.slice Ad nd cd]) (by unfold iH;simp[results,Tryz.results76,go_sem,u0,u1,u2,u3,u4,u5,u6,u7,u8]) rfl ?_
   rw[HR1.out]
   exact j3.fin (a0:=⟨st,id,req,L,cnt,ay,au⟩) HB.out aQ.out HN.out (by omega) HZ.out (by omega) (by omega) fD.out BO.out gZ.out HE.out dz.out hca HL.out BF.out hg
 rotate_left
 ·go_upto_region 10 with(fail)
  go_cut [14,15,16] (fun s1 s2 s3 wx=> ∃(P:Nat) (A4 Ao Ad:Option Addr) (nx cx no co nd cd:Nat) (W:World),W=wx∧s1=.pointer (some ⟨P,0,none⟩)∧s2=.slice Ao no co∧s3=.slice Ad nd cd∧W.heap[P]? =some (.cells #[.int .i64 a1.st,.int .i64 a1.id,.int .i64 a1.req,.slice A4 nx cx,.int .i64 a1.cnt,.int .i64 a1.ay,.int .i64 a1.au] 29 (0,0))∧Below W3.heap.size W3 W∧(∃z,fG W z (.slice Ao no co) o1)∧(∃z,aU W z (.slice Ad nd cd) d1)∧((∃z,dQ W z (.slice A4 nx cx) a1.ask)∨(Value.slice A4 nx cx=.slice Aa na ca∧a1.ask=L)))
  case first=>
   have zq:=Lib.hid (show∀w':World,Below W3.heap.size W3 w'→(w'.cell? ⟨w.heap.size,0,none⟩=some (.int .i64 mr)∧w'.cell? ⟨w.heap.size,1,none⟩=some (.int .i64 mc)∧w'.cell? ⟨w.heap.size,2,none⟩=some (.int .i64 mt)∧w'.cell? ⟨w.heap.size,3,none⟩=some (.int .i64 mf)∧w'.cell? ⟨w.heap.size,4,none⟩=some (.int .i64 wt)∧w'.cell? ⟨w.heap.size,5,none⟩=some (.int .i64 ec)∧w'.cell? ⟨w.heap.size,6,none⟩=some (.int .i64 lo)∧w'.cell? ⟨w.heap.size+1,0,none⟩=some (.int .i64 st)∧w'.cell? ⟨w.heap.size+1,1,none⟩=some (.int .i64 id)∧w'.cell? ⟨w.heap.size+1,2,none⟩=some (.int .i64 req)∧w'.cell? ⟨w.heap.size+1,3,none⟩=some (.slice Aa na ca)∧w'.cell? ⟨w.heap.size+1,4,none⟩=some (.int .i64 cnt)∧w'.cell? ⟨w.heap.size+1,5,none⟩=some (.int .i64 ay)∧w'.cell? ⟨w.heap.size+1,6,none⟩=some (.int .i64 au)∧w'.cell? ⟨w.heap.size+1,7,none⟩=some (.int .i64 own)∧w'.cell? ⟨w.heap.size+1,8,none⟩=some (.int .i64 peer)∧w'.cell? ⟨w.heap.size+1+1,0,none⟩=some (.int .i64 ic)∧w'.cell? ⟨w.heap.size+1+1,1,none⟩=some (.int .i64 ii)∧w'.cell? ⟨w.heap.size+1+1,2,none⟩=some (.slice Ai ni ci)) from fun w' hb=>⟨(hb.cell (p:=⟨w.heap.size,_,none⟩) lc).trans c0,(hb.cell (p:=⟨w.heap.size,_,none⟩) lc).trans c1,(hb.cell (p:=⟨w.heap.size,_,none⟩) lc).trans c2,(hb.cell (p:=⟨w.heap.size,_,none⟩) lc).trans c3,(hb.cell (p:=⟨w.heap.size,_,none⟩) lc).trans c4,(hb.cell (p:=⟨w.heap.size,_,none⟩) lc).trans c5,(hb.cell (p:=⟨w.heap.size,_,none⟩) lc).trans c6,(hb.cell (p:=⟨w.heap.size+1,_,none⟩) ln).trans n0,(hb.cell (p:=⟨w.heap.size+1,_,none⟩) ln).trans n1,(hb.cell (p:=⟨w.heap.size+1,_,none⟩) ln).trans n2,(hb.cell (p:=⟨w.heap.size+1,_,none⟩) ln).trans n3,(hb.cell (p:=⟨w.heap.size+1,_,none⟩) ln).trans n4,(hb.cell (p:=⟨w.heap.size+1,_,none⟩) ln).trans n5,(hb.cell (p:=⟨w.heap.size+1,_,none⟩) ln).trans n6,(hb.cell (p:=⟨w.heap.size+1,_,none⟩) ln).trans n7,(hb.cell (p:=⟨w.heap.size+1,_,none⟩) ln).trans n8,(hb.cell (p:=⟨w.heap.size+1+1,_,none⟩) pO).trans i0,(hb.cell (p:=⟨w.heap.size+1+1,_,none⟩) pO).trans i1,(hb.cell (p:=⟨w.heap.size+1+1,_,none⟩) pO).trans i2⟩)
   go_region_held3 (fun w'=>w'.cell? ⟨w.heap.size,0,none⟩=some (.int .i64 mr)∧w'.cell? ⟨w.heap.size,1,none⟩=some (.int .i64 mc)∧w'.cell? ⟨w.heap.size,2,none⟩=some (.int .i64 mt)∧w'.cell? ⟨w.heap.size,3,none⟩=some (.int .i64 mf)∧w'.cell? ⟨w.heap.size,4,none⟩=some (.int .i64 wt)∧w'.cell? ⟨w.heap.size,5,none⟩=some (.int .i64 ec)∧w'.cell? ⟨w.heap.size,6,none⟩=some (.int .i64 lo)∧w'.cell? ⟨w.heap.size+1,0,none⟩=some (.int .i64 st)∧w'.cell? ⟨w.heap.size+1,1,none⟩=some (.int .i64 id)∧w'.cell? ⟨w.heap.size+1,2,none⟩=some (.int .i64 req)∧w'.cell? ⟨w.heap.size+1,3,none⟩=some (.slice Aa na ca)∧w'.cell? ⟨w.heap.size+1,4,none⟩=some (.int .i64 cnt)∧w'.cell? ⟨w.heap.size+1,5,none⟩=some (.int .i64 ay)∧w'.cell? ⟨w.heap.size+1,6,none⟩=some (.int .i64 au)∧w'.cell? ⟨w.heap.size+1,7,none⟩=some (.int .i64 own)∧w'.cell? ⟨w.heap.size+1,8,none⟩=some (.int .i64 peer)∧w'.cell? ⟨w.heap.size+1+1,0,none⟩=some (.int .i64 ic)∧w'.cell? ⟨w.heap.size+1+1,1,none⟩=some (.int .i64 ii)∧w'.cell? ⟨w.heap.size+1+1,2,none⟩=some (.slice Ai ni ci)) (exact zq.out _ (by exact aA)) (first|(go_at_call 42;go_must (refine(kr mr mc mt mf wt ec lo peer HP.out _).mono ?_);rintro e w8 ⟨A8,rfl,nO,su⟩;obtain⟨yZ,d8,rfl⟩:=aB nO;have xU:=Lib.hid su;clear nO su)|(go_at_call 20;go_must (refine(FZ A8 Aa Ai 1 1 na ca ni ci [dX peer] mc mt mf wt st id req cnt ay au ic ii tick E li _ _ (aaE _) (by exact(xU.out.keep (by exact aA)).more (by simp[size_ext,grow])) rfl (by omega) (by exact(HE.out.keep (aQ.out.mono HB.out|>.trans (by have:=HB.out;exact aA))).more (by have:=HB.out;simp[size_ext,grow];omega)) dz.out hca hla (by exact(Tp.out.keep (aQ.out.mono HB.out|>.trans (by have:=HB.out;exact aA))).more (by have:=HB.out;simp[size_ext,grow];omega)) gy.out hci iF).mono ?_);rw[HL.out,HV.out];unfold xW vV;(try dsimp only);rintro e w6 ⟨va,vo,vd,rfl,hb6,hO,hP,hA⟩;obtain⟨A4,nx,cx,rfl⟩: ∃A n c,va=.slice A n c:=hO.elim (fun h=>⟨_,_,_,h.1⟩) (fun h=>h.Ww);have KH:=Lib.hid hO;have wN:=Lib.hid hP;have DK:=Lib.hid hA;obtain⟨Xq,d6,rfl⟩:=aB hb6;clear hb6 hO hP hA))
   all_goals
    go_wp2_with fail
    obtain⟨Ao,co,rfl⟩:=kL wN.out
    obtain⟨Ad,cd,rfl⟩:=lJ DK.out
    go_meet
    refine⟨_,A4,Ao,Ad,nx,cx,_,co,_,cd,_,rfl,rfl,rfl,rfl,?_,by exact aA,?_,?_,?_⟩
    ·repeat(first|(with_reducible refine aF _ _ _ ?_;((first|(simp[size_ext,grow];done)|(simp[size_ext,grow];omega))))|(with_reducible refine(aO _ _ _ _ ?_).trans ?_;(focus ((first|(simp[size_ext,grow];done)|(simp[size_ext,grow];omega)))))|(with_reducible refine(aC _ _ _ ?_).trans ?_;(focus ((first|(simp[size_ext,grow];done)|(simp[size_ext,grow];omega))))))
    ·have h5:=wN.out
     first|exact⟨_,fG.below h5 (Below.alloc (Below.refl _ _) (aaE _) _)⟩|(apply Exists.intro;refine fG.swap (X:=?_) h5 ?_ ?_;rotate_left;(repeat(first|with_reducible exact dS _ _ _|with_reducible refine bJ ?_ (by simp[size_ext,grow])|with_reducible refine dL ?_ (by simp[size_ext,grow])));all_goals(repeat(first|(with_reducible refine aF _ _ _ ?_;((first|(simp[size_ext,grow];done)|(simp[size_ext,grow];omega))))|(with_reducible refine(aO _ _ _ _ ?_).trans ?_;(focus ((first|(simp[size_ext,grow];done)|(simp[size_ext,grow];omega)))))|(with_reducible refine(aC _ _ _ ?_).trans ?_;(focus ((first|(simp[size_ext,grow];done)|(simp[size_ext,grow];omega))))))))
    ·have h5:=DK.out
     first|exact⟨_,aU.zX h5 (Below.alloc (Below.refl _ _) (aaE _) _)⟩|(apply Exists.intro;refine aU.swap (X:=?_) h5 ?_ ?_;rotate_left;(repeat(first|with_reducible exact dS _ _ _|with_reducible refine bJ ?_ (by simp[size_ext,grow])|with_reducible refine dL ?_ (by simp[size_ext,grow])));all_goals(repeat(first|(with_reducible refine aF _ _ _ ?_;((first|(simp[size_ext,grow];done)|(simp[size_ext,grow];omega))))|(with_reducible refine(aO _ _ _ _ ?_).trans ?_;(focus ((first|(simp[size_ext,grow];done)|(simp[size_ext,grow];omega)))))|(with_reducible refine(aC _ _ _ ?_).trans ?_;(focus ((first|(simp[size_ext,grow];done)|(simp[size_ext,grow];omega))))))))
    ·rcases KH.out with h5|h5
     ·exact .inr ⟨h5.1,h5.2⟩
     ·refine .inl ?_
      first|exact⟨_,dQ.below h5 (Below.alloc (Below.refl _ _) (aaE _) _)⟩|(apply Exists.intro;refine dQ.swap (X:=?_) h5 ?_ ?_;rotate_left;(repeat(first|with_reducible exact dS _ _ _|with_reducible refine bJ ?_ (by simp[size_ext,grow])|with_reducible refine dL ?_ (by simp[size_ext,grow])));all_goals(repeat(first|(with_reducible refine aF _ _ _ ?_;((first|(simp[size_ext,grow];done)|(simp[size_ext,grow];omega))))|(with_reducible refine(aO _ _ _ _ ?_).trans ?_;(focus ((first|(simp[size_ext,grow];done)|(simp[size_ext,grow];omega)))))|(with_reducible refine(aC _ _ _ ?_).trans ?_;(focus ((first|(simp[size_ext,grow];done)|(simp[size_ext,grow];omega))))))))
  case rest=>
   obtain⟨P,A4,Ao,Ad,nx,cx,no,co,nd,cd,W3,rfl,rfl,rfl,rfl,hrow,hb,hP,hA,hO⟩:=hcut
   have fD:=Lib.hid hP
   have BO:=Lib.hid hA
   have gZ:=Lib.hid hO
   have Ev:=Lib.hid hrow
   obtain⟨t0,t1,t2,t3,t4,t5,t6⟩:=aG hrow
   have lP:=aj hrow
   clear hP hA hO hrow
   have hc:=(hb.block _ lc).trans HC.out
   have hn:=(hb.block _ ln).trans HN.out
   have hz:=(hb.block _ lz).trans HZ.out
   have hi:=(hb.block _ pO).trans HI.out
   replace hb:=aQ.out.trans (hb.mono hsw)
   clear c0 c1 c2 c3 c4 c5 c6 n0 n1 n2 n3 n4 n5 n6 n7 n8 z0 z1 z2 z3 z4 z5 z6 z7 z8 fz lc ln lz i0 i1 i2 pO HI HC HN HZ aQ hsw
   have HC:=Lib.hid hc
   have HN:=Lib.hid hn
   have HZ:=Lib.hid hz
   have aQ:=Lib.hid hb
   have hsw:=hb.size
   have lc:=aj hc
   have ln:=aj hn
   have lz:=aj hz
   obtain⟨c0,c1,c2,c3,c4,c5,c6⟩:=aG hc
   obtain⟨n0,n1,n2,n3,n4,n5,n6,n7,n8⟩:=aL hn
   obtain⟨z0,z1,z2,z3,z4,z5,z6,z7,z8⟩:=aL hz
   have fz:=frees hz
   have HI:=Lib.hid hi
   have pO:=aj hi
   obtain⟨i0,i1,i2⟩:=cells3 hi
   clear hc hn hz hb hi
   have ji:=HN.out
   have fn:=frees ji
   clear ji
   go_upto_region 12 with(fail)
   generalize hWs:World.setCell _ _ _=W4
   have hst:sJ W3 (w.heap.size+1) a1 (.slice A4 nx cx)=W4:=hWs
   have hg4:=iU W3 (w.heap.size+1) a1 (.slice A4 nx cx)
   have hr4:=ku HN.out a1 (.slice A4 nx cx)
   rw[hst] at hg4 hr4
   have BF:=Lib.hid hg4
   clear hst hWs
   have pU:=(hg4.block (w.heap.size+1+1+1) lz (fun e=>by have:=Option.some.inj e;omega)).trans HZ.out
   clear c0 c1 c2 c3 c4 c5 c6 n0 n1 n2 n3 n4 n5 n6 n7 n8 z0 z1 z2 z3 z4 z5 z6 z7 z8 fz lc ln lz t0 t1 t2 t3 t4 t5 t6 lP fn
   have lz:=aj pU
   have ln:=aj hr4
   obtain⟨n0,n1,n2,n3,n4,n5,n6,n7,n8⟩:=aL hr4
   obtain⟨z0,z1,z2,z3,z4,z5,z6,z7,z8⟩:=aL pU
   have fz:=frees pU
   have xV:=Lib.hid pU
   clear hg4 hr4 pU
   go_wp2_with fail
   generalize hWf:World.setCell _ _ _=Wf
   have hst:oV W4 (w.heap.size+1+1+1) a1 (.slice A4 nx cx) own peer=Wf:=hWf
   have hg:=gJ W4 (w.heap.size+1+1+1) a1 (.slice A4 nx cx) own peer
   have hr:=iV xV.out a1 (.slice A4 nx cx) own peer
   rw[hst] at hg hr
   clear n0 n1 n2 n3 n4 n5 n6 n7 n8 z0 z1 z2 z3 z4 z5 z6 z7 z8 fz
   obtain⟨u0,u1,u2,u3,u4,u5,u6,u7,u8⟩:=aL hr
   refine bodyPost_ret (v:=.tuple #[iH a1 (.slice A4 nx cx) own peer,.slice Ao no co,.slice Ad nd cd]) (by unfold iH;simp[results,Tryz.results76,go_sem,u0,u1,u2,u3,u4,u5,u6,u7,u8]) rfl ?_
   rw[HR1.out]
   exact j3.fin (a0:=⟨st,id,req,L,cnt,ay,au⟩) HB.out aQ.out HN.out (by omega) HZ.out (by omega) (by omega) fD.out BO.out gZ.out HE.out dz.out hca HL.out BF.out hg
 rotate_left
 all_goals
  go_wp2_with fail
  generalize hWf:World.setCell _ _ _=Wf
  have hst:oV W3 (w.heap.size+1+1+1) ⟨st,id,req,L,cnt,ay,au⟩ (.slice Aa na ca) own peer=Wf:=hWf
  have hg:=gJ W3 (w.heap.size+1+1+1) ⟨st,id,req,L,cnt,ay,au⟩ (.slice Aa na ca) own peer
  have hr:=iV HZ.out ⟨st,id,req,L,cnt,ay,au⟩ (.slice Aa na ca) own peer
  rw[hst] at hg hr
  clear c0 c1 c2 c3 c4 c5 c6 n0 n1 n2 n3 n4 n5 n6 n7 n8 z0 z1 z2 z3 z4 z5 z6 z7 z8 fz lc ln lz
  obtain⟨u0,u1,u2,u3,u4,u5,u6,u7,u8⟩:=aL hr
  refine bodyPost_ret (v:=.tuple #[.agg #[.int .i64 st,.int .i64 id,.int .i64 req,.slice Aa na ca,.int .i64 cnt,.int .i64 ay,.int .i64 au,.int .i64 own,.int .i64 peer],.slice none 0 0,.slice none 0 0]) (by simp[results,Tryz.results76,go_sem,u0,u1,u2,u3,u4,u5,u6,u7,u8]) rfl ?_
  rw[OW.out]
  exact j3.no HB.out aQ.out (by omega) HE.out dz.out hca HL.out hg
end Go.Proofs.YtfkgmbknfnhjoaaGreat
