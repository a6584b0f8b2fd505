/- Z50 -/
import Derived.Test.YtfkgmbknfnhjoaaGreatSZ45
import Derived.Test.YtfkgmbknfnhjoaaGreatSZ9
import Derived.Test.YtfkgmbknfnhjoaaGreatSZ25
import Derived.Test.YtfkgmbknfnhjoaaGreatSZ6
set_option linter.all false
set_option linter.ambiguousOpen false
set_option maxHeartbeats 16000000
namespace Go.Proofs.YtfkgmbknfnhjoaaGreat
open Lib (hid)
open Go.RowKit
open Ne (Rl bF aD bM dJ)
open Fs (av hasB)
theorem rV {W w w':World} (hb:Below w.heap.size w w') (h:Below W.heap.size W w):Below W.heap.size W w':=h.trans (hb.mono h.size)
theorem Xi {w:World} {X:Nat} {cs:Array Value} {T:TypeId} (h:w.heap[X]? =some (.cells cs T (0,0))) (hc:cs.size=3) (a b c:Value):
  (((w.setCell ⟨X,0,none⟩ a).setCell ⟨X,1,none⟩ b).setCell ⟨X,2,none⟩ c).heap[X]? =some (.cells #[a,b,c] T (0,0)):=SK h hc a b c
def j4 (mc mt mf wt:Int) (a:Au) (own peer:Int) (d:Nat) (e kc ki:Int) (li:List UInt8) (tick:Int):Au×List Pk×List Int:=
 if d%4=0 then iQ mc mt mf wt a own peer e tick else if d%4=2 then fM mc mt mf wt a own peer tick
 else if d%4=3 then b_ mc mt mf wt a own peer ⟨kc,a.req,(Op.encR a.ask).1⟩ tick else b_ mc mt mf wt a own peer ⟨kc,ki,li.take 1500⟩ tick
theorem xu (mc mt mf wt:Int) (a:Au) (own peer e tick:Int):(iQ mc mt mf wt a own peer e tick).2.1.length≤13∧(iQ mc mt mf wt a own peer e tick).2.2.length≤3:=by
 unfold iQ
 split
 ·exact nI ..
 ·simp
theorem DJ (c:Cf) (a:Au) (tick:Int):(mh c a tick).2.1.length≤13∧(mh c a tick).2.2.length≤3:=by
 unfold mh
 split
 ·simp
 ·exact nI ..
theorem sF (mc mt mf wt:Int) (a:Au) (own peer tick:Int):(fM mc mt mf wt a own peer tick).2.1.length≤13∧(fM mc mt mf wt a own peer tick).2.2.length≤3:=by
 unfold fM
 split
 ·exact DJ ..
 ·simp
theorem kU (mc mt mf wt:Int) (a:Au) (own peer:Int) (i:Pk) (tick:Int) (h:a.ask.length≤1000):(b_ mc mt mf wt a own peer i tick).2.1.length≤13∧(b_ mc mt mf wt a own peer i tick).2.2.length≤3:=by
 unfold b_
 split
 ·split
  ·split
   ·exact nI ..
   ·simp
  ·split
   ·exact(vB _ _ _ _ h).2
   ·exact nI ..
 ·simp
theorem IE (mc mt mf wt:Int) (a:Au) (own peer e tick:Int) (h:a.ask.length≤1000):(iQ mc mt mf wt a own peer e tick).1.ask.length≤1000:=by
 unfold iQ
 split
 ·rw[fU];exact h
 ·exact h
theorem CO (mc mt mf wt:Int) (a:Au) (own peer tick:Int) (h:a.ask.length≤1000):(fM mc mt mf wt a own peer tick).1.ask.length≤1000:=by
 unfold fM
 split
 ·rw[Bu];exact h
 ·exact h
theorem uV (mc mt mf wt:Int) (a:Au) (own peer:Int) (i:Pk) (tick:Int) (h:a.ask.length≤1000):(b_ mc mt mf wt a own peer i tick).1.ask.length≤1000:=by
 unfold b_
 split
 ·split
  ·split
   ·rw[fU];exact h
   ·exact h
  ·split
   ·exact(vB _ _ _ _ h).1
   ·rw[fU];exact h
 ·exact h
theorem kR {W:World} {X:Nat} {a b c d e f:Value} {T:TypeId} (H:W.heap[X]? =some (.cells #[a,b,c,d,e,f] T (0,0))):W.cell? ⟨X,0,none⟩=some a∧W.cell? ⟨X,1,none⟩=some b∧W.cell? ⟨X,2,none⟩=some c∧W.cell? ⟨X,3,none⟩=some d∧W.cell? ⟨X,4,none⟩=some e∧W.cell? ⟨X,5,none⟩=some f:=
 ⟨dU H 0 rfl,dU H 1 rfl,dU H 2 rfl,dU H 3 rfl,dU H 4 rfl,dU H 5 rfl⟩
def Gx (r:Au×List Pk×List Int) (own peer:Int) (w:World) (x:Ending) (w':World):Prop:=
 ∃va vo,x=.returned (.tuple #[iH r.1 va own peer,vo,.bool true])∧Below w.heap.size w w'∧bA w' w.heap.size va r.1.ask∧dP w' w.heap.size vo r.2.1
set_option maxRecDepth 100000 in
theorem Ah (mr mc mt mf wt ec lo:Int) (st id req cnt ay au own peer:Int) (Aa:Option Addr) (na ca:Nat) (d later:Nat) (e kc ki:Int) (Ai:Option Addr) (ni ci:Nat) (li:List UInt8) (tick:Int) (E:List aH) (L:List bF) (hL:E.map aH.o=L) (w:World) (B:Nat) (hB:B≤w.heap.size) (hE:aJ w B Aa E) (hna:na=E.length) (hca:na≤ca) (hla:na≤1000) (hda: ∀e∈E,e.d.length≤1000) (hp:dJ peer) (hd:d<256) (hI:At w B Ai (li.map bv)) (hni:ni=li.length) (hci:ni≤ci) (iF:(ni:Int)≤9223372036854775807):
  Calls Tryz.prog 34 #[.agg #[.int .i64 mr,.int .i64 mc,.int .i64 mt,.int .i64 mf,.int .i64 wt,.int .i64 ec,.int .i64 lo],.agg #[.int .i64 st,.int .i64 id,.int .i64 req,.slice Aa na ca,.int .i64 cnt,.int .i64 ay,.int .i64 au,.int .i64 own,.int .i64 peer],.agg #[.int .u8 (d:Int),.int .i64 e,.int .i64 kc,.int .i64 ki,.slice Ai ni ci,.int .u8 (later:Int)],.int .i64 tick] w (Gx (j4 mc mt mf wt ⟨st,id,req,L,cnt,ay,au⟩ own peer d e kc ki li tick) own peer w):=by
 have Tp:=hid hI
 have gy:=hid hni
 have HB:=hid hB
 have HE:=hid hE
 have dz:=hid hna
 have HP:=hid hp
 have HL:=hid hL
 have jr:=hid hda
 have Gh:=hid (show L.length≤1000 by rw[←hL,List.length_map];omega)
 clear hI hni hB hE hna hp hL hda
 have hd0:(0:Int)≤(d:Int):=by omega
 obtain⟨dq,hdq⟩: ∃r,d%4=r:=⟨_,rfl⟩
 have Xy:=hid hdq
 have aao:dq<4:=by omega
 have hrm:(d:Int).tmod 4=(dq:Int):=by rw[Int.tmod_eq_emod_of_nonneg (by omega)];omega
 have hem:(d:Int)%4=(dq:Int):=by omega
 have hwr:IntKind.u8.wrap (dq:Int)=(dq:Int):=IntWalk.u8_in _ (by omega)
 obtain⟨m,hm⟩: ∃m,min ni 1500=m:=⟨_,rfl⟩
 have HM:=hid (show m=(li.take 1500).length by have:=gy.out;rw[List.length_take];omega)
 have hmc:m≤ci:=by omega
 have aap:m≤1500:=by omega
 have HMM:=hid hm
 clear hm hdq
 go_enter Tryz.func34,Tryz.ntmps34
 go_upto_region 1 with(fail)
 refine bY (fun W=>W.heap[w.heap.size]? =some (.cells #[.int .i64 mr,.int .i64 mc,.int .i64 mt,.int .i64 mf,.int .i64 wt,.int .i64 ec,.int .i64 lo] 64 (0,0))∧W.heap[w.heap.size+1]? =some (.cells #[.int .i64 st,.int .i64 id,.int .i64 req,.slice Aa na ca,.int .i64 cnt,.int .i64 ay,.int .i64 au,.int .i64 own,.int .i64 peer] 60 (0,0))∧W.heap[w.heap.size+1+1]? =some (.cells #[.int .u8 (d:Int),.int .i64 e,.int .i64 kc,.int .i64 ki,.slice Ai ni ci,.int .u8 (later:Int)] 79 (0,0))∧W.heap[w.heap.size+1+1+1]? =some (.cells #[.int .i64 0,.int .i64 0,.int .i64 0,.slice none 0 0,.int .i64 0,.int .i64 0,.int .i64 0,.int .i64 0,.int .i64 0] 60 (0,0))∧Below w.heap.size w W) ⟨by exact hpa,by exact hpa,by exact hpa,by exact hpa,by exact aA⟩ ?_
 rintro W1 ⟨hc,hn,ho,hz,hb⟩
 have HC:=hid hc
 have HN:=hid hn
 have HO:=hid ho
 have HZ:=hid hz
 have aQ:=hid hb
 have hsw:=hb.size
 have hz1:w.heap.size+1+1+1+1≤W1.heap.size:=by have:=aj hz;omega
 clear hc hn ho hz hb
 obtain⟨CY,CZ,C8,C9,C_,Da,Db,Dc,Df⟩:=aL HN.out
 have CW:=aj HN.out
 obtain⟨FC,FD,FE,FH,FI,FJ⟩:=kR HO.out
 have Fw:=aj HO.out
 go_wp2_with fail
 refine(sG Aa Ai na ca ni ci st id req cnt ay au own peer kc ki E W1 B (by have:=HB.out;omega) (HE.out.keep (aQ.out.mono HB.out)) dz.out (by omega) (fun e he=>by have:=jr.out e he;omega) hci iF).mono ?_
 rw[HMM.out]
 unfold uo
 rintro x W2 ⟨A2,n2,c2,rfl,hb,-,-⟩
 clear CY CZ C8 C9 C_ Da Db Dc Df CW FC FD FE FH FI FJ Fw
 replace HC:=hid ((hb.block _ (aj HC.out)).trans HC.out)
 replace HN:=hid ((hb.block _ (aj HN.out)).trans HN.out)
 replace HO:=hid ((hb.block _ (aj HO.out)).trans HO.out)
 replace HZ:=hid ((hb.block _ (aj HZ.out)).trans HZ.out)
 replace aQ:=hid (aQ.out.trans (hb.mono hsw))
 replace hsw:=aQ.out.size
 clear hb
 go_upto_region 2 with(fail)
 obtain⟨I,hI⟩: ∃I,I=W2.heap.size+1:=⟨_,rfl⟩
 rw[←hI]
 refine bY (fun W=>W.heap[I]? =some (.cells #[.int .i64 kc,.int .i64 ki,.slice Ai m ci] 32 (0,0))∧Below W2.heap.size W2 W) ⟨by rw[hI];exact aF _ _ _ (by simp),by exact aA⟩ ?_
 rintro W3 ⟨hi,hb⟩
 have hIw:w.heap.size+1+1+1<I:=by have:=aj HZ.out;omega
 clear hI
 have HI:=hid hi
 replace HC:=hid ((hb.block _ (aj HC.out)).trans HC.out)
 replace HN:=hid ((hb.block _ (aj HN.out)).trans HN.out)
 replace HO:=hid ((hb.block _ (aj HO.out)).trans HO.out)
 replace HZ:=hid ((hb.block _ (aj HZ.out)).trans HZ.out)
 replace aQ:=hid (aQ.out.trans (hb.mono hsw))
 replace hsw:=aQ.out.size
 clear hb hi
 by_cases h0:dq=0
 focus
  subst h0
  obtain⟨⟨a1,o1,d1⟩,hr⟩: ∃r,iQ mc mt mf wt ⟨st,id,req,L,cnt,ay,au⟩ own peer e tick=r:=⟨_,rfl⟩
  have HRR:=hid hr
  have Xx:=hid (show j4 mc mt mf wt ⟨st,id,req,L,cnt,ay,au⟩ own peer d e kc ki li tick=(a1,o1,d1) by unfold j4;have:=Xy.out;rw[if_pos (by omega)];exact hr)
  have qc:=hid (show a1.ask.length≤1000∧o1.length≤13∧d1.length≤3 by
   refine⟨?_,?_⟩
   ·have h:=IE mc mt mf wt ⟨st,id,req,L,cnt,ay,au⟩ own peer e tick Gh.out
    rw[hr] at h
    exact h
   ·have h:=xu mc mt mf wt ⟨st,id,req,L,cnt,ay,au⟩ own peer e tick
    rw[hr] at h
    exact h)
  clear hr
  obtain⟨FC,FD,FE,FH,FI,FJ⟩:=kR HO.out
  have Fw:=aj HO.out
  go_upto_region 4 with(fail)
  clear FC FD FE FH FI FJ Fw
  obtain⟨Ch,BJ,Ci,Cj,Ck,Cm,Cn⟩:=aG HC.out
  have Gp:=aj HC.out
 rotate_left
 focus
  by_cases h2:dq=2
 focus
  subst h2
  obtain⟨⟨a1,o1,d1⟩,hr⟩: ∃r,fM mc mt mf wt ⟨st,id,req,L,cnt,ay,au⟩ own peer tick=r:=⟨_,rfl⟩
  have HRR:=hid hr
  have Xx:=hid (show j4 mc mt mf wt ⟨st,id,req,L,cnt,ay,au⟩ own peer d e kc ki li tick=(a1,o1,d1) by unfold j4;have:=Xy.out;rw[if_neg (by omega),if_pos (by omega)];exact hr)
  have qc:=hid (show a1.ask.length≤1000∧o1.length≤13∧d1.length≤3 by
   refine⟨?_,?_⟩
   ·have h:=CO mc mt mf wt ⟨st,id,req,L,cnt,ay,au⟩ own peer tick Gh.out
    rw[hr] at h
    exact h
   ·have h:=sF mc mt mf wt ⟨st,id,req,L,cnt,ay,au⟩ own peer tick
    rw[hr] at h
    exact h)
  clear hr
  obtain⟨FC,FD,FE,FH,FI,FJ⟩:=kR HO.out
  have Fw:=aj HO.out
  go_upto_region 8 with(fail)
  clear FC FD FE FH FI FJ Fw
  obtain⟨Ch,BJ,Ci,Cj,Ck,Cm,Cn⟩:=aG HC.out
  have Gp:=aj HC.out
 rotate_left
 focus
  by_cases h3:dq=3
 focus
  subst h3
  obtain⟨FC,FD,FE,FH,FI,FJ⟩:=kR HO.out
  have Fw:=aj HO.out
  go_upto_region 12 with(fail)
  clear FC FD FE FH FI FJ Fw
 rotate_left
 focus
  obtain rfl:dq=1:=by omega
  have HAT:=hid (show At w B Ai ((li.take 1500).map bv) by rw[List.map_take];exact Tp.out.take 1500)
  obtain⟨⟨a1,o1,d1⟩,hr⟩: ∃r,b_ mc mt mf wt ⟨st,id,req,L,cnt,ay,au⟩ own peer ⟨kc,ki,li.take 1500⟩ tick=r:=⟨_,rfl⟩
  have HRR:=hid hr
  have Xx:=hid (show j4 mc mt mf wt ⟨st,id,req,L,cnt,ay,au⟩ own peer d e kc ki li tick=(a1,o1,d1) by unfold j4;have:=Xy.out;rw[if_neg (by omega),if_neg (by omega),if_neg (by omega)];exact hr)
  have qc:=hid (show a1.ask.length≤1000∧o1.length≤13∧d1.length≤3 by
   refine⟨?_,?_⟩
   ·have h:=uV mc mt mf wt ⟨st,id,req,L,cnt,ay,au⟩ own peer ⟨kc,ki,li.take 1500⟩ tick Gh.out
    rw[hr] at h
    exact h
   ·have h:=kU mc mt mf wt ⟨st,id,req,L,cnt,ay,au⟩ own peer ⟨kc,ki,li.take 1500⟩ tick Gh.out
    rw[hr] at h
    exact h)
  clear hr
  obtain⟨FC,FD,FE,FH,FI,FJ⟩:=kR HO.out
  have Fw:=aj HO.out
  go_upto_region 14 with(fail)
  clear FC FD FE FH FI FJ Fw
  obtain⟨Ch,BJ,Ci,Cj,Ck,Cm,Cn⟩:=aG HC.out
  have Gp:=aj HC.out
 rotate_left
 all_goals
  obtain⟨CY,CZ,C8,C9,C_,Da,Db,Dc,Df⟩:=aL HN.out
  have CW:=aj HN.out
 focus
  obtain⟨FC,FD,FE,FH,FI,FJ⟩:=kR HO.out
  have Fw:=aj HO.out
  go_wp2_with fail
  refine(yJ mr mc mt mf wt ec lo st id req cnt ay au own peer Aa na ca e tick E L HL.out _ B (by have:=HB.out;omega) (HE.out.keep (aQ.out.mono HB.out)) dz.out (by omega) (fun e he=>by have:=jr.out e he;omega) HP.out).mono ?_
  rw[HRR.out]
  unfold lg iH
  dsimp only
  rintro x W4 ⟨va,vo,vd,rfl,hb,ho,hp,ha⟩
  obtain⟨A4,m4,k4,rfl⟩:=ho.form'
  obtain⟨A5,m5,k5,rfl⟩:=hp.form'
  obtain⟨A6,m6,k6,rfl⟩:=ha.form'
  have DN:=hid (ho.yg hsw)
  have DT:=hid (hp.yg hsw)
  have J2:=hid ha
  clear ho hp ha
  clear Ch BJ Ci Cj Ck Cm Cn Gp CY CZ C8 C9 C_ Da Db Dc Df CW FC FD FE FH FI FJ Fw
 rotate_left
 focus
  go_wp2_with fail
  refine(Fh mr mc mt mf wt ec lo st id req cnt ay au own peer Aa na ca tick E L HL.out _ B (by have:=HB.out;omega) (HE.out.keep (aQ.out.mono HB.out)) dz.out (by omega) (fun e he=>by have:=jr.out e he;omega) HP.out).mono ?_
  rw[HRR.out]
  unfold lg iH
  dsimp only
  rintro x W4 ⟨va,vo,vd,rfl,hb,ho,hp,ha⟩
  obtain⟨A4,m4,k4,rfl⟩:=ho.form'
  obtain⟨A5,m5,k5,rfl⟩:=hp.form'
  obtain⟨A6,m6,k6,rfl⟩:=ha.form'
  have DN:=hid (ho.yg hsw)
  have DT:=hid (hp.yg hsw)
  have J2:=hid ha
  clear ho hp ha
  clear Ch BJ Ci Cj Ck Cm Cn Gp CY CZ C8 C9 C_ Da Db Dc Df CW
 rotate_left
 focus
  go_wp2_with fail
  refine(Op.jP Aa na ca E _ B (by have:=HB.out;omega) (HE.out.keep (aQ.out.mono HB.out)) dz.out).mono ?_
  rw[HL.out]
  unfold Op.gK
  obtain⟨⟨eb,ee⟩,hee⟩: ∃r,Op.encR L=r:=⟨_,rfl⟩
  rw[hee]
  dsimp only
  rintro x Wb ⟨vb,rfl,hb,hown⟩
  obtain⟨Ab,kb,rfl,hcb,-⟩:=ownsRow_form hown
  have zm:=hid hee
  have hel:eb.length≤1488:=by have h:=qy L;rw[hee] at h;exact h
  have XF:=hid hown
  have hbI:I<W3.heap.size:=aj HI.out
  clear CY CZ C8 C9 C_ Da Db Dc Df CW
 rotate_left
 focus
  obtain⟨Lf,Lg,Lh⟩:=cells3 HI.out
  have MK:=aj HI.out
  go_wp2_with fail
  refine(rJ mr mc mt mf wt ec lo st id req cnt ay au own peer Aa na ca tick Ai m ci kc ki (li.take 1500) E L HL.out _ B (by have:=HB.out;omega) (HE.out.keep (aQ.out.mono HB.out)) dz.out (by omega) (fun e he=>by have:=jr.out e he;omega) HP.out (HAT.out.keep (aQ.out.mono HB.out)) HM.out hmc (by omega)).mono ?_
  rw[HRR.out]
  unfold lg iH
  dsimp only
  rintro x W4 ⟨va,vo,vd,rfl,hb,ho,hp,ha⟩
  obtain⟨A4,m4,k4,rfl⟩:=ho.form'
  obtain⟨A5,m5,k5,rfl⟩:=hp.form'
  obtain⟨A6,m6,k6,rfl⟩:=ha.form'
  have DN:=hid (ho.yg hsw)
  have DT:=hid (hp.yg hsw)
  have J2:=hid ha
  clear ho hp ha
  clear Ch BJ Ci Cj Ck Cm Cn Gp CY CZ C8 C9 C_ Da Db Dc Df CW Lf Lg Lh MK
 rotate_left
 all_goals
  replace HC:=hid ((hb.block _ (aj HC.out)).trans HC.out)
  replace HN:=hid ((hb.block _ (aj HN.out)).trans HN.out)
  replace HO:=hid ((hb.block _ (aj HO.out)).trans HO.out)
  replace HZ:=hid ((hb.block _ (aj HZ.out)).trans HZ.out)
  replace HI:=hid ((hb.block _ (aj HI.out)).trans HI.out)
  replace aQ:=hid (aQ.out.trans (hb.mono hsw))
  replace hsw:=aQ.out.size
 focus
  clear hb
  go_upto_region 5 with(fail)
 rotate_left
 focus
  clear hb
  go_upto_region 9 with(fail)
 rotate_left
 focus
  clear hb hown hee
  obtain⟨CY,CZ,C8,C9,C_,Da,Db,Dc,Df⟩:=aL HN.out
  have CW:=aj HN.out
  obtain⟨Lf,Lg,Lh⟩:=cells3 HI.out
  have MK:=aj HI.out
  have hi9:=HI.out
  have fi:=frees hi9
  clear hi9
  go_upto_region 14 with(fail)
  obtain⟨Wc,hWc⟩: ∃Wc,Wc=((Wb.setCell ⟨I,0,none⟩ (.int .i64 kc)).setCell ⟨I,1,none⟩ (.int .i64 req)).setCell ⟨I,2,none⟩ (.slice Ab eb.length kb):=⟨_,rfl⟩
  have hg:Wb.grownBy Wc (some I):=by rw[hWc];exact aM (aM (bV _ _ _ _) _ _) _ _
  have hrI:Wc.heap[I]? =some (.cells #[.int .i64 kc,.int .i64 req,.slice Ab eb.length kb] 32 (0,0)):=by rw[hWc];exact Xi HI.out rfl _ _ _
  rw[←hWc]
  clear hWc fi
  clear CY CZ C8 C9 C_ Da Db Dc Df CW Lf Lg Lh MK
  replace HI:=hid hrI
  replace HC:=hid ((hg.block _ (aj HC.out) (fun e=>by have:=Option.some.inj e;omega)).trans HC.out)
  replace HN:=hid ((hg.block _ (aj HN.out) (fun e=>by have:=Option.some.inj e;omega)).trans HN.out)
  replace HO:=hid ((hg.block _ (aj HO.out) (fun e=>by have:=Option.some.inj e;omega)).trans HO.out)
  replace HZ:=hid ((hg.block _ (aj HZ.out) (fun e=>by have:=Option.some.inj e;omega)).trans HZ.out)
  replace aQ:=hid (Below.grown aQ.out hg hsw (fun k hk=>by have:=Option.some.inj hk;omega))
  replace hsw:=aQ.out.size
  have HAT:=hid (At.bq (dx XF.out (fun k hk=>hg.block k (eY XF.out hk) (fun e=>by have h1:=Option.some.inj e;have:=eu XF.out hk;omega))))
  clear hg hrI XF
  obtain⟨⟨a1,o1,d1⟩,hr⟩: ∃r,b_ mc mt mf wt ⟨st,id,req,L,cnt,ay,au⟩ own peer ⟨kc,req,eb⟩ tick=r:=⟨_,rfl⟩
  have HRR:=hid hr
  have Xx:=hid (show j4 mc mt mf wt ⟨st,id,req,L,cnt,ay,au⟩ own peer d e kc ki li tick=(a1,o1,d1) by unfold j4;have:=Xy.out;rw[if_neg (by omega),if_neg (by omega),if_pos (by omega)];dsimp only;rw[zm.out];exact hr)
  have qc:=hid (show a1.ask.length≤1000∧o1.length≤13∧d1.length≤3 by
   refine⟨?_,?_⟩
   ·have h:=uV mc mt mf wt ⟨st,id,req,L,cnt,ay,au⟩ own peer ⟨kc,req,eb⟩ tick Gh.out
    rw[hr] at h
    exact h
   ·have h:=kU mc mt mf wt ⟨st,id,req,L,cnt,ay,au⟩ own peer ⟨kc,req,eb⟩ tick Gh.out
    rw[hr] at h
    exact h)
  clear hr
  obtain⟨Ch,BJ,Ci,Cj,Ck,Cm,Cn⟩:=aG HC.out
  have Gp:=aj HC.out
  obtain⟨CY,CZ,C8,C9,C_,Da,Db,Dc,Df⟩:=aL HN.out
  have CW:=aj HN.out
  obtain⟨Lf,Lg,Lh⟩:=cells3 HI.out
  have MK:=aj HI.out
  go_wp2_with fail
  refine(rJ mr mc mt mf wt ec lo st id req cnt ay au own peer Aa na ca tick Ab eb.length kb kc req eb E L HL.out Wc Wc.heap.size (aaE _) ((HE.out.keep (aQ.out.mono HB.out)).more (by have:=HB.out;omega)) dz.out (by omega) (fun e he=>by have:=jr.out e he;omega) HP.out HAT.out rfl hcb (by omega)).mono ?_
  rw[HRR.out]
  unfold lg iH
  dsimp only
  rintro x W4 ⟨va,vo,vd,rfl,hb,ho,hp,ha⟩
  obtain⟨A4,m4,k4,rfl⟩:=ho.form'
  obtain⟨A5,m5,k5,rfl⟩:=hp.form'
  obtain⟨A6,m6,k6,rfl⟩:=ha.form'
  have DN:=hid (ho.yg hsw)
  have DT:=hid (hp.yg hsw)
  have J2:=hid ha
  clear ho hp ha
  clear Ch BJ Ci Cj Ck Cm Cn Gp CY CZ C8 C9 C_ Da Db Dc Df CW Lf Lg Lh MK
  replace HC:=hid ((hb.block _ (aj HC.out)).trans HC.out)
  replace HN:=hid ((hb.block _ (aj HN.out)).trans HN.out)
  replace HO:=hid ((hb.block _ (aj HO.out)).trans HO.out)
  replace HZ:=hid ((hb.block _ (aj HZ.out)).trans HZ.out)
  replace HI:=hid ((hb.block _ (aj HI.out)).trans HI.out)
  replace aQ:=hid (aQ.out.trans (hb.mono hsw))
  replace hsw:=aQ.out.size
  replace HAT:=hid ((HAT.out.keep hb).more hb.size)
  clear hb
  go_upto_region 15 with(fail)
 rotate_left
 focus
  clear hb
  go_upto_region 15 with(fail)
 rotate_left
 all_goals
  obtain⟨X,hX⟩: ∃X,X=W4.heap.size:=⟨_,rfl⟩
  rw[←hX]
  refine bY (fun W=>W.heap[X]? =some (.cells #[.int .i64 a1.st,.int .i64 a1.id,.int .i64 a1.req,.slice A4 m4 k4,.int .i64 a1.cnt,.int .i64 a1.ay,.int .i64 a1.au,.int .i64 own,.int .i64 peer] 60 (0,0))∧Below W4.heap.size W4 W) ⟨by rw[hX];exact heap_alloc_new _ _,by exact aA⟩ ?_
  rintro W5 ⟨hx,hb⟩
  have hXw:w.heap.size≤X:=by omega
  have hXI:I<X:=by have:=aj HI.out;omega
  have hXZ:w.heap.size+1+1+1<X:=by have:=aj HZ.out;omega
  clear hX
  have HX:=hid hx
  replace DN:=hid (DN.out.vW hb)
  replace DT:=hid (DT.out.vW hb)
  replace J2:=hid (aU.zX J2.out hb)
  replace HC:=hid ((hb.block _ (aj HC.out)).trans HC.out)
  replace HN:=hid ((hb.block _ (aj HN.out)).trans HN.out)
  replace HO:=hid ((hb.block _ (aj HO.out)).trans HO.out)
  replace HZ:=hid ((hb.block _ (aj HZ.out)).trans HZ.out)
  replace HI:=hid ((hb.block _ (aj HI.out)).trans HI.out)
  replace aQ:=hid (aQ.out.trans (hb.mono hsw))
  replace hsw:=aQ.out.size
 rotate_left
 rotate_left
 focus
  replace HAT:=hid ((HAT.out.keep hb).more hb.size)
 rotate_left
 rotate_left
 all_goals
  clear hb hx
  obtain⟨Ch,BJ,Ci,Cj,Ck,Cm,Cn⟩:=aG HC.out
  have Gp:=aj HC.out
  obtain⟨CY,CZ,C8,C9,C_,Da,Db,Dc,Df⟩:=aL HN.out
  have CW:=aj HN.out
 focus
  obtain⟨FC,FD,FE,FH,FI,FJ⟩:=kR HO.out
  have Fw:=aj HO.out
  go_wp2_with fail
  refine(Jc mr mc mt mf wt ec lo st id req cnt ay au own peer Aa na ca e tick E L HL.out _ B (by have:=HB.out;omega) (HE.out.keep (aQ.out.mono HB.out)) dz.out hca (by omega) HP.out).mono ?_
 rotate_left
 focus
  go_wp2_with fail
  refine(Dm mr mc mt mf wt ec lo st id req cnt ay au own peer Aa na ca tick E L HL.out _ B (by have:=HB.out;omega) (HE.out.keep (aQ.out.mono HB.out)) dz.out hca (by omega) HP.out).mono ?_
 rotate_left
 focus
  obtain⟨Lf,Lg,Lh⟩:=cells3 HI.out
  have MK:=aj HI.out
  go_wp2_with fail
  refine(vD mr mc mt mf wt ec lo st id req cnt ay au own peer Aa na ca tick Ab eb.length kb kc req eb E L HL.out W5 W5.heap.size (aaE _) ((HE.out.keep (aQ.out.mono HB.out)).more (by have:=HB.out;omega)) dz.out hca (by omega) HP.out HAT.out rfl hcb (by omega)).mono ?_
 rotate_left
 focus
  obtain⟨Lf,Lg,Lh⟩:=cells3 HI.out
  have MK:=aj HI.out
  go_wp2_with fail
  refine(vD mr mc mt mf wt ec lo st id req cnt ay au own peer Aa na ca tick Ai m ci kc ki (li.take 1500) E L HL.out _ B (by have:=HB.out;omega) (HE.out.keep (aQ.out.mono HB.out)) dz.out hca (by omega) HP.out (HAT.out.keep (aQ.out.mono HB.out)) HM.out hmc (by omega)).mono ?_
 rotate_left
 all_goals
  rw[HRR.out]
  unfold j3 iH
  dsimp only
  rintro x W6 ⟨va,vo,vd,rfl,hb,⟨A7,m7,k7,E7,rfl,p7,q7,r7,e7⟩,⟨A8,m8,k8,P8,rfl,p8,q8,r8,e8⟩,⟨A9,m9,k9,rfl,p9,q9,r9⟩⟩
 focus
  clear Ch BJ Ci Cj Ck Cm Cn Gp CY CZ C8 C9 C_ Da Db Dc Df CW FC FD FE FH FI FJ Fw
 rotate_left
 focus
  clear Ch BJ Ci Cj Ck Cm Cn Gp CY CZ C8 C9 C_ Da Db Dc Df CW
 rotate_left
 focus
  clear Ch BJ Ci Cj Ck Cm Cn Gp CY CZ C8 C9 C_ Da Db Dc Df CW Lf Lg Lh MK
 rotate_left
 focus
  clear Ch BJ Ci Cj Ck Cm Cn Gp CY CZ C8 C9 C_ Da Db Dc Df CW Lf Lg Lh MK
 rotate_left
 all_goals
  replace HX:=hid ((hb.block _ (aj HX.out)).trans HX.out)
  replace DN:=hid (DN.out.vW hb)
  replace DT:=hid (DT.out.vW hb)
  replace J2:=hid (aU.zX J2.out hb)
  replace HC:=hid ((hb.block _ (aj HC.out)).trans HC.out)
  replace HN:=hid ((hb.block _ (aj HN.out)).trans HN.out)
  replace HO:=hid ((hb.block _ (aj HO.out)).trans HO.out)
  replace HZ:=hid ((hb.block _ (aj HZ.out)).trans HZ.out)
  replace HI:=hid ((hb.block _ (aj HI.out)).trans HI.out)
  replace aQ:=hid (aQ.out.trans (hb.mono hsw))
  replace hsw:=aQ.out.size
  have Kz:=hid p7
  have HN7:=hid q7
  have HK7:=hid e7
  have YJ:=hid (show sU W6 W6.heap.size (.slice A8 m8 k8) o1 from ⟨A8,m8,k8,P8,rfl,p8,q8,r8,e8⟩)
  have Yj:=hid (show lG W6 W6.heap.size (.slice A9 m9 k9) d1 from ⟨A9,m9,k9,rfl,p9,q9,r9⟩)
  clear hb p7 q7 r7 e7 p8 q8 r8 e8 p9 q9 r9
 focus
  go_upto_region 6 with(fail)
 rotate_left
 focus
  go_upto_region 10 with(fail)
 rotate_left
 focus
  go_upto_region 16 with(fail)
 rotate_left
 focus
  go_upto_region 16 with(fail)
 rotate_left
 all_goals
  obtain⟨Y,hY⟩: ∃Y,Y=W6.heap.size:=⟨_,rfl⟩
  rw[←hY]
  refine bY (fun W=>W.heap[Y]? =some (.cells #[.int .i64 a1.st,.int .i64 a1.id,.int .i64 a1.req,.slice A7 m7 k7,.int .i64 a1.cnt,.int .i64 a1.ay,.int .i64 a1.au,.int .i64 own,.int .i64 peer] 60 (0,0))∧Below W6.heap.size W6 W) ⟨by rw[hY];exact heap_alloc_new _ _,by exact aA⟩ ?_
  rintro W7 ⟨hy,hb⟩
  have hYw:w.heap.size+1+1+1<Y:=by have:=aj HZ.out;omega
  clear hY
  have HY:=hid hy
  replace HX:=hid ((hb.block _ (aj HX.out)).trans HX.out)
  replace HZ:=hid ((hb.block _ (aj HZ.out)).trans HZ.out)
  have zG:=hid (aQ.out.trans (hb.mono hsw))
  replace DN:=hid (DN.out.vW hb)
  replace DT:=hid (DT.out.vW hb)
  replace J2:=hid (aU.zX J2.out hb)
  replace Kz:=hid ((Kz.out.keep hb).more hb.size)
  replace YJ:=hid ((YJ.out.keep hb).more hb.size)
  replace Yj:=hid ((Yj.out.keep hb).more hb.size)
  clear hb hy hsw aQ HC HN HO HI
  obtain⟨E4,Cw,xg,hc4,uS⟩:=DN.out.opened
  have rX:=hid Cw
  have wL:=hid xg
  have YA:=hid uS
  have HSS:=hid (Dz a1 own peer)
  have hs7:=zG.out.size
  have h4k:m4≤1000000:=by have h:=congrArg List.length uS;rw[List.length_map] at h;have:=qc.out;omega
  clear Cw xg hc4 uS
  obtain⟨x0,x1,x2,x3,x4,x5,x6,x7,x8⟩:=aL HX.out
  obtain⟨y0,y1,y2,y3,y4,y5,y6,y7,y8⟩:=aL HY.out
  have lx:=aj HX.out
  have ly:=aj HY.out
  have lz:=aj HZ.out
  have zq:=hid (show∀w':World,Below W7.heap.size W7 w'→(w'.cell? ⟨X,0,none⟩=some (.int .i64 a1.st)∧w'.cell? ⟨X,1,none⟩=some (.int .i64 a1.id)∧w'.cell? ⟨X,2,none⟩=some (.int .i64 a1.req)∧w'.cell? ⟨X,3,none⟩=some (.slice A4 m4 k4)∧w'.cell? ⟨X,4,none⟩=some (.int .i64 a1.cnt)∧w'.cell? ⟨X,5,none⟩=some (.int .i64 a1.ay)∧w'.cell? ⟨X,6,none⟩=some (.int .i64 a1.au)∧w'.cell? ⟨X,7,none⟩=some (.int .i64 own)∧w'.cell? ⟨X,8,none⟩=some (.int .i64 peer)∧w'.cell? ⟨Y,0,none⟩=some (.int .i64 a1.st)∧w'.cell? ⟨Y,1,none⟩=some (.int .i64 a1.id)∧w'.cell? ⟨Y,2,none⟩=some (.int .i64 a1.req)∧w'.cell? ⟨Y,3,none⟩=some (.slice A7 m7 k7)∧w'.cell? ⟨Y,4,none⟩=some (.int .i64 a1.cnt)∧w'.cell? ⟨Y,5,none⟩=some (.int .i64 a1.ay)∧w'.cell? ⟨Y,6,none⟩=some (.int .i64 a1.au)∧w'.cell? ⟨Y,7,none⟩=some (.int .i64 own)∧w'.cell? ⟨Y,8,none⟩=some (.int .i64 peer)) from fun w' hb=>⟨(hb.cell (p:=⟨X,_,none⟩) lx).trans x0,(hb.cell (p:=⟨X,_,none⟩) lx).trans x1,(hb.cell (p:=⟨X,_,none⟩) lx).trans x2,(hb.cell (p:=⟨X,_,none⟩) lx).trans x3,(hb.cell (p:=⟨X,_,none⟩) lx).trans x4,(hb.cell (p:=⟨X,_,none⟩) lx).trans x5,(hb.cell (p:=⟨X,_,none⟩) lx).trans x6,(hb.cell (p:=⟨X,_,none⟩) lx).trans x7,(hb.cell (p:=⟨X,_,none⟩) lx).trans x8,(hb.cell (p:=⟨Y,_,none⟩) ly).trans y0,(hb.cell (p:=⟨Y,_,none⟩) ly).trans y1,(hb.cell (p:=⟨Y,_,none⟩) ly).trans y2,(hb.cell (p:=⟨Y,_,none⟩) ly).trans y3,(hb.cell (p:=⟨Y,_,none⟩) ly).trans y4,(hb.cell (p:=⟨Y,_,none⟩) ly).trans y5,(hb.cell (p:=⟨Y,_,none⟩) ly).trans y6,(hb.cell (p:=⟨Y,_,none⟩) ly).trans y7,(hb.cell (p:=⟨Y,_,none⟩) ly).trans y8⟩)
  go_cut [9,10] (fun s9 s10 wx=> ∃W,W=wx∧s9=.slice A5 m5 k5∧s10=.bool true∧W.heap[w.heap.size+1+1+1]? =some (.cells #[.int .i64 a1.st,.int .i64 a1.id,.int .i64 a1.req,.slice A4 m4 k4,.int .i64 a1.cnt,.int .i64 a1.ay,.int .i64 a1.au,.int .i64 own,.int .i64 peer] 60 (0,0))∧Below w.heap.size w W∧bA W w.heap.size (.slice A4 m4 k4) a1.ask∧dP W w.heap.size (.slice A5 m5 k5) o1)
  case first=>
   refine kY 15 (fun w'=>w'.cell? ⟨X,0,none⟩=some (.int .i64 a1.st)∧w'.cell? ⟨X,1,none⟩=some (.int .i64 a1.id)∧w'.cell? ⟨X,2,none⟩=some (.int .i64 a1.req)∧w'.cell? ⟨X,3,none⟩=some (.slice A4 m4 k4)∧w'.cell? ⟨X,4,none⟩=some (.int .i64 a1.cnt)∧w'.cell? ⟨X,5,none⟩=some (.int .i64 a1.ay)∧w'.cell? ⟨X,6,none⟩=some (.int .i64 a1.au)∧w'.cell? ⟨X,7,none⟩=some (.int .i64 own)∧w'.cell? ⟨X,8,none⟩=some (.int .i64 peer)∧w'.cell? ⟨Y,0,none⟩=some (.int .i64 a1.st)∧w'.cell? ⟨Y,1,none⟩=some (.int .i64 a1.id)∧w'.cell? ⟨Y,2,none⟩=some (.int .i64 a1.req)∧w'.cell? ⟨Y,3,none⟩=some (.slice A7 m7 k7)∧w'.cell? ⟨Y,4,none⟩=some (.int .i64 a1.cnt)∧w'.cell? ⟨Y,5,none⟩=some (.int .i64 a1.ay)∧w'.cell? ⟨Y,6,none⟩=some (.int .i64 a1.au)∧w'.cell? ⟨Y,7,none⟩=some (.int .i64 own)∧w'.cell? ⟨Y,8,none⟩=some (.int .i64 peer)) (by kernel_rfl) (by(try dsimp only);(exact zq.out _ (by exact aA))) (fun hHeld=>?_)
   refine Ko 0 (v:=?_) hHeld ?_ ?_
   rotate_left
   ·(intro w h;(try dsimp only at h);go_simp;try with_reducible rfl)
   try simp only[Act.put,aaB,aaC,aaD]
   refine gU 1 (v:=?_) (dK hHeld) ?_ ?_
   rotate_left
   ·(intro w;go_simp;try with_reducible rfl)
   try simp only[Act.put,aaB,aaC,aaD]
   refine tkT 2 [15,13,10,9,5,4] (v:=?_) hHeld ?_ ?_
   rotate_left
   ·(intro w h;(try dsimp only at h);go_simp;try with_reducible rfl)
   try simp only[Act.put,aaB,aaC,aaD]
   refine tkT 3 [15,13,10,9,5,4] (v:=?_) hHeld ?_ ?_
   rotate_left
   ·(intro w h;(try dsimp only at h);go_simp;try with_reducible rfl)
   try simp only[Act.put,aaB,aaC,aaD]
   refine JL (i:=4) (o:=_) rfl (by as_aux_lemma=>kernel_rfl) (fun K hK=>?_)
   (go_simp;go_at_call 39;go_must (refine(Dw a1.st a1.id a1.req a1.cnt a1.ay a1.au own peer a1.st a1.id a1.req a1.cnt a1.ay a1.au own peer A4 A7 m4 m7 k4 k7 E4 E7 a1.ask a1.ask YA.out HK7.out _ W7.heap.size (by first|exact aaE _|(simp;done)) (by exact rX.out.keep (by exact aA)) (by exact Kz.out.keep (by exact aA)) wL.out HN7.out h4k).mono ?_);rw[HSS.out];rintro e w91 ⟨rfl,jf⟩;have J6:=hid (rV (W:=W7) jf (by exact aA));clear jf)
   refine hK.out _ _ ?_ (fun hH=>?_)
   ·try dsimp only
    exact zq.out _ (by have h:=J6.out;exact aA)
   clear hK K hHeld
   have hHeld:=hH
   clear hH
   try simp only[Act.put,aaB,aaC,aaD]
   refine gU 5 (v:=?_) (dK hHeld) ?_ ?_
   rotate_left
   ·(intro w;go_simp;try with_reducible rfl)
   try simp only[Act.put,aaB,aaC,aaD]
   refine gU 6 (v:=?_) (dK hHeld) ?_ ?_
   rotate_left
   ·(intro w;go_simp;try with_reducible rfl)
   try simp only[Act.put,aaB,aaC,aaD]
   refine gU 7 (v:=?_) (dK hHeld) ?_ ?_
   rotate_left
   ·(intro w;go_simp;try with_reducible rfl)
   try simp only[Act.put,aaB,aaC,aaD]
   refine JL (i:=8) (o:=_) rfl (by as_aux_lemma=>kernel_rfl) (fun K hK=>?_)
   (go_simp;go_at_call 22;go_must (refine(F8 (.slice A5 m5 k5) (.slice A8 m8 k8) o1 _ W7.heap.size (by have h:=J6.out.size;first|exact h|(simp;omega)) (by have h:=J6.out;exact DT.out.v.keep (by exact aA)) (by have h:=J6.out;exact YJ.out.keep (by exact aA)) (by have:=qc.out;omega)).mono ?_);rintro e w92 ⟨rfl,jf⟩;have VY:=hid (rV (W:=W7) jf (by have h:=J6.out;exact aA));clear jf)
   refine hK.out _ _ ?_ (fun hH=>?_)
   ·try dsimp only
    exact zq.out _ (by have h:=VY.out;exact aA)
   clear hK K hHeld
   have hHeld:=hH
   clear hH
   try simp only[Act.put,aaB,aaC,aaD]
   refine gU 9 (v:=?_) (dK hHeld) ?_ ?_
   rotate_left
   ·(intro w;go_simp;try with_reducible rfl)
   try simp only[Act.put,aaB,aaC,aaD]
   refine gU 10 (v:=?_) (dK hHeld) ?_ ?_
   rotate_left
   ·(intro w;go_simp;try with_reducible rfl)
   try simp only[Act.put,aaB,aaC,aaD]
   refine gU 11 (v:=?_) (dK hHeld) ?_ ?_
   rotate_left
   ·(intro w;go_simp;try with_reducible rfl)
   try simp only[Act.put,aaB,aaC,aaD]
   refine gU 12 (v:=?_) (dK hHeld) ?_ ?_
   rotate_left
   ·(intro w;go_simp;try with_reducible rfl)
   try simp only[Act.put,aaB,aaC,aaD]
   refine JL (i:=13) (o:=_) rfl (by as_aux_lemma=>kernel_rfl) (fun K hK=>?_)
   (go_simp;go_at_call 23;go_must (refine(Dy (.slice A6 m6 k6) (.slice A9 m9 k9) d1 _ W7.heap.size (by have h:=VY.out.size;first|exact h|(simp;omega)) (by have h:=VY.out;exact J2.out.v.keep (by exact aA)) (by have h:=VY.out;exact Yj.out.keep (by exact aA)) (by have:=qc.out;omega)).mono ?_);rintro e w93 ⟨rfl,jf⟩;have jv:=hid (rV (W:=W7) jf (by have h:=VY.out;exact aA));clear jf;have hz3:=(jv.out.block _ lz).trans HZ.out;obtain⟨z0,z1,z2,z3,z4,z5,z6,z7,z8⟩:=aL hz3;have fz:=frees hz3;have lz3:=aj hz3;clear hz3)
   refine hK.out _ _ ?_ (fun hH=>?_)
   ·try dsimp only
    exact zq.out _ (by have h:=jv.out;exact aA)
   clear hK K hHeld
   have hHeld:=hH
   clear hH
   try simp only[Act.put,aaB,aaC,aaD]
   refine gU 14 (v:=?_) (dK hHeld) ?_ ?_
   rotate_left
   ·(intro w;go_simp;try with_reducible rfl)
   try simp only[Act.put,aaB,aaC,aaD]
   refine lZ (i:=15) (o:=_) rfl (by as_aux_lemma=>kernel_rfl) (by as_aux_lemma=>kernel_rfl) (fun K hK=>?_)
   go_simp
   refine hK.out _ _ ?_
   clear hK K
   try simp only[Act.put,aaB,aaC,aaD]
   refine gU 16 (v:=?_) (bU (by kernel_rfl)) ?_ ?_
   rotate_left
   ·(intro w;go_simp;try with_reducible rfl)
   try simp only[Act.put,aaB,aaC,aaD]
   refine gU 17 (v:=?_) (bU (by kernel_rfl)) ?_ ?_
   rotate_left
   ·(intro w;go_simp;try with_reducible rfl)
   try simp only[Act.put,aaB,aaC,aaD]
   try simp only[Act.put,List.getElem_toArray,List.getElem_cons_zero,List.getElem_cons_succ,aaB,aaC,aaD]
   refine DW (by kernel_rfl) ?_ _
   clear x0 x1 x2 x3 x4 x5 x6 x7 x8 y0 y1 y2 y3 y4 y5 y6 y7 y8 z0 z1 z2 z3 z4 z5 z6 z7 z8 fz lz3 hHeld
   go_wp2_with fail
   go_meet
   have hb3:=jv.out
   have oK:=hb3.size
   refine⟨_,rfl,rfl,rfl,?_,?_,?_,?_⟩
   ·exact rR (cs:=#[.int .i64 0,.int .i64 0,.int .i64 0,.slice none 0 0,.int .i64 0,.int .i64 0,.int .i64 0,.int .i64 0,.int .i64 0]) ((Below.block (B:=W7.heap.size) (w:=W7) (by exact aA) _ lz).trans HZ.out) rfl _ _ _ _ _ _ _ _ _
   ·have h7:=zG.out
    refine Below.grown (h7.trans (hb3.mono hs7)) (aM (aM (aM (aM (aM (aM (aM (aM (bV _ _ _ _) _ _) _ _) _ _) _ _) _ _) _ _) _ _) _ _) ?_ ?_
    ·omega
    ·intro k hk
     have:=Option.some.inj hk
     omega
   ·exact(DN.out.vW hb3).zx (aM (aM (aM (aM (aM (aM (aM (aM (bV _ _ _ _) _ _) _ _) _ _) _ _) _ _) _ _) _ _) _ _) ((hb3.block _ lz).trans HZ.out) (by decide) (by decide)
   ·exact(DT.out.vW hb3).zx (aM (aM (aM (aM (aM (aM (aM (aM (bV _ _ _ _) _ _) _ _) _ _) _ _) _ _) _ _) _ _) _ _) ((hb3.block _ lz).trans HZ.out) (by decide) (by decide)
  case rest=>
   obtain⟨W8,rfl,rfl,rfl,hr,hb,hO,hP⟩:=hcut
   obtain⟨u0,u1,u2,u3,u4,u5,u6,u7,u8⟩:=aL hr
   go_wp2_with fail
   refine bodyPost_ret (v:=.tuple #[iH a1 (.slice A4 m4 k4) own peer,.slice A5 m5 k5,.bool true]) (by unfold iH;simp[results,Tryz.results34,go_sem,u0,u1,u2,u3,u4,u5,u6,u7,u8]) rfl ?_
   rw[Xx.out]
   exact⟨_,_,rfl,hb,hO,hP⟩
end Go.Proofs.YtfkgmbknfnhjoaaGreat
