/- PA -/
import Derived.Test.YtfkgmbknfnhjoaaGreatSA
import Derived.Test.YtfkgmbknfnhjoaaGreatSH
import Derived.Test.YtfkgmbknfnhjoaaGreatSG2
import Derived.Test.YtfkgmbknfnhjoaaGreatSN2
set_option linter.all false
set_option linter.ambiguousOpen false
set_option maxHeartbeats 4000000
namespace Go.Proofs.YtfkgmbknfnhjoaaGreat
open Lib (hid)
open Go.RowKit
open Ne (Rl bF aD bM)
theorem hpa {w:World} {g:Nat} {o:Obj} (h:w.heap[g]? =some o:=by(repeat(first|((refine aF _ _ _ ?_);(simp[go_sem];done))|((refine(aO _ _ _ _ ?_).trans ?_);(focus (simp[go_sem];done)))|((refine(aC _ _ _ ?_).trans ?_);(focus (simp[go_sem];done)))))):w.heap[g]? =some o:=h
structure Au where
 st:Int
 id:Int
 req:Int
 ask:List bF
 cnt:Int
 ay:Int
 au:Int
structure Cf where
 rules:List Rl
 mc:Int
 mt:Int
 mf:Int
 wt:Int
structure Pk where
 code:Int
 id:Int
 data:List UInt8
def dA (c:Cf):Bool:=bM c.rules&&(bC c.mc 1 1000&&(bC c.mt 1 1000&&(bC c.mf 0 1000&&bC c.wt 1 1048576)))
def fF (a:Au):Bool:=bC a.st 0 9&&(bC a.id 0 255&&(bC a.req 0 255&&(bC a.cnt 0 1000&&bC a.au 0 1000)))
def oN (a:Au):Bool:=if Fs.iw a.st=true then bC a.ay 1 1099512676352 else a.ay==0
def fA (a:Au):Bool:=fF a&&((Op.encR a.ask).2==0&&oN a)
def dn (c:Cf) (a:Au) (tick:Int):Bool:=dA c&&(fA a&&bC tick 0 1099511627776)
theorem sO (n lo hi:Int) (w:World):Calls Tryz.prog 59 #[.int .i64 n,.int .i64 lo,.int .i64 hi] w fun e w'=>e=.returned (.bool (bC n lo hi))∧w=w':=by
 by_cases h1:lo≤n<;>by_cases h2:n≤hi
 all_goals
  go_enter Tryz.func59,Tryz.ntmps59
  go_wp2
  go_ret
  exact⟨by simp[bC,h1,h2],rfl⟩
theorem eB (n lo hi:Int) (w:World) (h:bC n lo hi=true):Calls Tryz.prog 59 #[.int .i64 n,.int .i64 lo,.int .i64 hi] w fun e w'=>e=.returned (.bool true)∧w=w':=by
 have:=sO n lo hi w
 rwa [h] at this
theorem gP (n lo hi:Int) (w:World) (h:bC n lo hi=false):Calls Tryz.prog 59 #[.int .i64 n,.int .i64 lo,.int .i64 hi] w fun e w'=>e=.returned (.bool false)∧w=w':=by
 have:=sO n lo hi w
 rwa [h] at this
theorem aI.swap {w w':World} {xs:List Obj} {d d' base:Nat} {v:Value} {E:List aH} (h:aI (ext w xs d) base v E) (hs:w.heap.size=w'.heap.size) (hb:w.heap.size≤base):aI (ext w' xs d') base v E:=
 ⟨dI h.1 hs hb,fun e he=>dI (h.2 e he) hs hb⟩
def Yg (n:Nat) (L:List bF) (w:World) (x:Ending) (w':World):Prop:=
 ∃(E:List aH) (A:Option Addr) (c:Nat),x=.returned (.slice A n c)∧E.map aH.o=L∧n=E.length∧n≤c∧Below w.heap.size w w'∧aI w' w.heap.size (.slice A n c) E
set_option maxRecDepth 100000 in
theorem uJ (A:Option Addr) (n c:Nat) (E:List aH) (w:World) (B:Nat) (hB:B≤w.heap.size) (hA:aJ w B A E) (hn:n=E.length) (hl:n≤1000000) (hd: ∀e∈E,e.d.length≤400000000):
  Calls Tryz.prog 46 #[.slice A n c] w (Yg n (E.map aH.o) w):=by
 have HA:=hid hA
 have HN:=hid hn
 have HB:=hid hB
 have HD:=hid hd
 clear hA hn hB hd
 go_enter Tryz.func46,Tryz.ntmps46
 go_wp2_with fail
 go_loopw [8,3] (fun i v wr=> ∃(k c2:Nat) (A2:Option Addr) (E2:List aH),k≤n∧i=.int .i64 k∧v=.slice A2 k c2∧k≤c2∧E2.map aH.o=(E.take k).map aH.o∧Below w.heap.size w wr∧aI wr w.heap.size (.slice A2 k c2) E2) (fun i _ _=>n-(intOf i).toNat)
 case atStart=>exact⟨0,0,none,[],Nat.zero_le _,rfl,rfl,aaE _,rfl,Below.refl _ _,aI.nil _ _⟩
 case round=>
  obtain⟨k,c2,A2,E2,hk,rfl,rfl,hkc,hE2,hbl,hown⟩:=hrel
  have HE2:=hid hE2
  have HKC:=hid hkc
  have cu:=hid hbl
  have HOW:=hid hown
  have Av:=hbl.size
  have HL2:=hid (show E2.length=k by have:=congrArg List.length hE2;simp at this;have h2:=HN.out;omega)
  clear hE2 hbl hown hkc
  by_cases hlt:k<n
  ·have HK:=hid (show k<E.length by have:=HN.out;omega)
   obtain⟨b,o,rfl,tL,hx,hy⟩:=(HA.out.keep (cu.out.mono HB.out)).get HK.out
   have qV:=hid (Ne.uM HK.out)
   obtain⟨e0,he0,hmem⟩: ∃e0,E[k]'HK.out=e0∧e0∈E:=⟨_,rfl,List.getElem_mem _⟩
   rw[he0] at hx hy qV
   have hat:=(HA.out.keep (cu.out.mono HB.out)).2 e0 hmem
   have hdl:=HD.out e0 hmem
   obtain⟨t,d,a,ce⟩:=e0
   have hbz:b<wr.heap.size:=by have:=HB.out;omega
   have CS:(0:Int)≤(k:Int):=by omega
   have Fj:(k:Int)<(n:Int):=by omega
   have HAT:=hid hat
   unfold aH.v at hy
   simp only at hx hy hdl hat
   clear hat he0 hmem
   go_upto_region 5 with(fail)
   obtain⟨wz,hwz⟩: ∃wz,wz=wr.alloc (.cells #[.int .i64 t,.slice a d.length ce] 111):=⟨_,rfl⟩
   rw[←hwz]
   obtain⟨T,hT⟩: ∃T,T=wr.heap.size:=⟨_,rfl⟩
   rw[←hT]
   have Iq:T<wz.heap.size:=by rw[hwz,hT];simp
   have z0:wz.cell? ⟨T,0,none⟩=some (.int .i64 t):=by rw[hwz,hT,cell_of_row _ _ 0 _ _ (0,0) (heap_alloc_new wr _)];rfl
   have z1:wz.cell? ⟨T,1,none⟩=some (.slice a d.length ce):=by rw[hwz,hT,cell_of_row _ _ 1 _ _ (0,0) (heap_alloc_new wr _)];rfl
   have zH:=hid (show Below w.heap.size w wz by rw[hwz];exact cu.out.alloc Av _)
   have Ku:=hid (show Below wr.heap.size wr wz by rw[hwz];exact(Below.refl _ _).alloc (aaE _) _)
   have hszz:=zH.out.size
   have IB:=Ku.out.size
   have KN:=hid (show wz.heap[T]? =some (.cells #[.int .i64 t,.slice a d.length ce] 111 (0,0)) by rw[hwz,hT];exact heap_alloc_new wr _)
   have O7:=hid Iq
   have XE:=hid (show∀g,(Value.slice A2 k c2).ownBlock=some g→g<T from fun g e=>by rw[hT];exact eY HOW.out.1 e)
   clear hwz hT
   have jU:=hid (show wr.ownsRow w.heap.size 111 2 (.slice A2 k c2) k (cellsE E2) by have h:=HOW.out.1;rwa [HL2.out] at h)
   go_region_held3 (fun w'=>w'.cell? ⟨T,0,none⟩=some (.int .i64 t)∧w'.cell? ⟨T,1,none⟩=some (.slice a d.length ce)) (first|(go_keep;done)|(go_simp;done)|(simp[go_sem];done)) (first|((go_at_call 82;go_must (refine(Ne.jD a d.length ce d _ B (by have:=HB.out;simp[size_ext,grow];omega) (by exact HAT.out.1.keep (by have:=HB.out;have:=Ku.out.mono (show B≤wr.heap.size by omega);exact aA)) rfl hdl HAT.out.2).mono ?_);rintro e w2 ⟨v,rfl,hb,ho⟩;obtain⟨A3,c3,rfl,-,-⟩:=ownsRow_form ho;have HB2:=hid (show Below wz.heap.size wz w2 from Below.trans (by exact aA) (hb.mono (by simp)));have j_:=hid (aK (base':=w.heap.size) ho (by simp;omega));have hsz2:=HB2.out.size;have q0:w2.cell? ⟨T,0,none⟩=some (.int .i64 t):=(HB2.out.cell (p:=⟨T,_,none⟩) Iq).trans z0;have q1:w2.cell? ⟨T,1,none⟩=some (.slice a d.length ce):=(HB2.out.cell (p:=⟨T,_,none⟩) Iq).trans z1;clear hb ho))|((refine gT w rfl (.tmp 12) (.tmp 19) 25 rfl 111 Tryz.underlying25 (.agg #[.int .i64 0,.slice none 0 0]) 2 32 dV rfl (by decide) (by decide) (.slice A2 k c2) k (cellsE E2) rfl (by exact own_below jU.out (by have:=HB2.out;have:=Ku.out;exact aA)) (w2.heap.size+1) (some ⟨w2.heap.size,0,none⟩) 1 1 [.int .i64 t,.slice A3 d.length c3] rfl rfl (by omega) (by exact At.gW _ _ _ _ _ rfl rfl) (by intro u hu;simp at hu;rcases hu with rfl|rfl<;>rfl) (by have h1:=zH.out;have h2:=HB2.out;exact aA) ?_);intro A4 c4 w3 ho3 hc3 hb3 hg3;have gZ:=hid ho3;have HB3:=hid hb3;have sQ:=hid hg3;have zk:=hid hc3;have HT3:=hid (show w3.heap[T]? =some (.cells #[.int .i64 t,.slice a d.length ce] 111 (0,0)) from(hg3.block T (by have:=O7.out;simp;omega) (fun e=>by have:=XE.out T e.symm;omega)).trans ((Below.heap_alloc w2 _ T (by have:=O7.out;omega)).trans ((HB2.out.block T O7.out).trans KN.out)));have q0:w3.cell? ⟨T,0,none⟩=some (.int .i64 t):=(cell_of_row _ _ 0 _ _ (0,0) HT3.out).trans rfl;have q1:w3.cell? ⟨T,1,none⟩=some (.slice a d.length ce):=(cell_of_row _ _ 1 _ _ (0,0) HT3.out).trans rfl;clear ho3 hc3 hb3 hg3))
   all_goals
    have uf:=hid (aI.pushed (tt:=t) (dd:=d) (A2:=A3) (c2:=c3) (HOW.out.below (Ku.out.trans (HB2.out.mono IB|>.trans (Below.alloc (Below.refl _ w2) (by omega) _)))) (own_below j_.out (Below.alloc (Below.refl _ w2) (aaE _) _)) (by rw[HL2.out];exact gZ.out) sQ.out)
    go_wp2_with fail
    go_roundw
    case rel=>exact⟨k+1,c4,A4,_,by omega,by go_num,rfl,zk.out,by rw[List.map_append,HE2.out,qV.out];rfl,HB3.out,uf.out⟩
    case measure=>simp[intOf];omega
  ·obtain rfl:k=n:=by omega
   go_wp2_with fail
   go_ret
   have h:=HE2.out
   rw[HN.out,List.take_length] at h
   exact⟨E2,A2,c2,rfl,h,HL2.out.symm,HKC.out,cu.out,HOW.out⟩
def Vv (a:Au) (base:Nat) (w w':World) (v:Value):Prop:=
 ∃(E:List aH) (A:Option Addr) (n c:Nat),v=.agg #[.int .i64 a.st,.int .i64 a.id,.int .i64 a.req,.slice A n c,.int .i64 a.cnt,.int .i64 a.ay,.int .i64 a.au]∧E.map aH.o=a.ask∧n=E.length∧n≤c∧Below w.heap.size w w'∧aI w' base (.slice A n c) E
theorem mD (st id req cnt ay au:Int) (A:Option Addr) (n c:Nat) (E:List aH) (w:World) (B:Nat) (hB:B≤w.heap.size) (hA:aJ w B A E) (hn:n=E.length) (hl:n≤1000000) (hd: ∀e∈E,e.d.length≤400000000):
  Calls Tryz.prog 49 #[.agg #[.int .i64 st,.int .i64 id,.int .i64 req,.slice A n c,.int .i64 cnt,.int .i64 ay,.int .i64 au]] w fun x w'=> ∃v,x=.returned v∧Vv ⟨st,id,req,E.map aH.o,cnt,ay,au⟩ w.heap.size w w' v:=by
 have HA:=hid hA
 have HN:=hid hn
 have HB:=hid hB
 have HD:=hid hd
 clear hA hn hB hd
 go_enter Tryz.func49,Tryz.ntmps49
 go_wp2_with fail
 refine(uJ A n c E _ B (by have:=HB.out;simp;omega) (by exact HA.out.keep (by have:=HB.out;exact aA)) HN.out hl HD.out).mono ?_
 rintro e w1 ⟨E2,A2,c2,rfl,he,hn2,hc2,hb,ho⟩
 obtain⟨xs,d,rfl⟩:=aB hb
 have HE:=hid he
 have iA:=hid hn2
 have xR:=hid hc2
 have HO:=hid ho
 clear hb ho he hn2 hc2
 go_wp2_with fail
 refine bodyPost_ret (v:=.agg #[.int .i64 st,.int .i64 id,.int .i64 req,.slice A2 n c2,.int .i64 cnt,.int .i64 ay,.int .i64 au]) (by simp[results,Tryz.results49,go_sem]) rfl ⟨_,rfl,E2,A2,n,c2,rfl,HE.out,iA.out,xR.out,by exact aA,?_⟩
 exact aI.base (aI.swap HO.out (by simp) (by simp)) (by simp;omega)
theorem j6 (A:Option Addr) (n c:Nat) (R:List Rl) (mc mt mf wt:Int) (w:World) (B:Nat) (hB:B≤w.heap.size) (hR:aD w B A R) (hn:n=R.length) (hl:n≤1000000):
  Calls Tryz.prog 66 #[.agg #[.slice A n c,.int .i64 mc,.int .i64 mt,.int .i64 mf,.int .i64 wt]] w fun x w'=>x=.returned (.bool (dA ⟨R,mc,mt,mf,wt⟩))∧Below w.heap.size w w':=by
 have HB:=hid hB
 have HR:=hid hR
 have HN:=hid hn
 clear hB hR hn
 cases h0:bM R
 focus
  have HK:=hid (show Ne.yA (bM R)=150 by rw[h0];rfl)
  have HV:=hid (show dA ⟨R,mc,mt,mf,wt⟩=false by simp[dA,h0])
 rotate_left
 focus
  cases h1:bC mc 1 1000
 focus
  have HK:=hid (show Ne.yA (bM R)=0 by rw[h0];rfl)
  have HV:=hid (show dA ⟨R,mc,mt,mf,wt⟩=false by simp[dA,h0,h1])
 rotate_left
 focus
  cases h2:bC mt 1 1000
 focus
  have HK:=hid (show Ne.yA (bM R)=0 by rw[h0];rfl)
  have HV:=hid (show dA ⟨R,mc,mt,mf,wt⟩=false by simp[dA,h0,h1,h2])
 rotate_left
 focus
  cases h3:bC mf 0 1000
 focus
  have HK:=hid (show Ne.yA (bM R)=0 by rw[h0];rfl)
  have HV:=hid (show dA ⟨R,mc,mt,mf,wt⟩=false by simp[dA,h0,h1,h2,h3])
 rotate_left
 focus
  cases h4:bC wt 1 1048576
 focus
  have HK:=hid (show Ne.yA (bM R)=0 by rw[h0];rfl)
  have HV:=hid (show dA ⟨R,mc,mt,mf,wt⟩=false by simp[dA,h0,h1,h2,h3,h4])
 rotate_left
 focus
  have HK:=hid (show Ne.yA (bM R)=0 by rw[h0];rfl)
  have HV:=hid (show dA ⟨R,mc,mt,mf,wt⟩=true by simp[dA,h0,h1,h2,h3,h4])
 rotate_left
 all_goals
  go_enter Tryz.func66,Tryz.ntmps66
  go_wp2_with (first|(go_at_call 103;refine(Ne.nZ A n c R _ B (by have:=HB.out;simp;omega) (by exact HR.out.keep (by have:=HB.out;exact aA)) HN.out hl).mono ?_;rw[HK.out];rintro e w1 ⟨rfl,hb⟩;obtain⟨xs,d,rfl⟩:=aB hb;clear hb)|((first|(go_at_call 59;refine(eB _ _ _ _ (by assumption)).mono ?_)|(go_at_call 59;refine(gP _ _ _ _ (by assumption)).mono ?_));rintro e w1 ⟨rfl,rfl⟩))
  go_ret
  exact⟨by rw[HV.out];rfl,by exact aA⟩
theorem xK (st id req cnt ay au:Int) (A:Option Addr) (n c:Nat) (E:List aH) (L:List bF) (hL:E.map aH.o=L) (w:World) (B:Nat) (hB:B≤w.heap.size) (hE:aJ w B A E) (hn:n=E.length):
  Calls Tryz.prog 67 #[.agg #[.int .i64 st,.int .i64 id,.int .i64 req,.slice A n c,.int .i64 cnt,.int .i64 ay,.int .i64 au]] w fun x w'=>x=.returned (.bool (fA ⟨st,id,req,L,cnt,ay,au⟩))∧Below w.heap.size w w':=by
 have HB:=hid hB
 have HE:=hid hE
 have HN:=hid hn
 have HL:=hid hL
 clear hB hE hn hL
 cases h1:bC st 0 9
 ·have HV:=hid (show fA ⟨st,id,req,L,cnt,ay,au⟩=false by simp[fA,fF,h1])
  have jc:=hid (rfl:(0:Nat)=0)
  have zu:=hid (rfl:(0:Nat)=0)
  go_enter Tryz.func67,Tryz.ntmps67
  go_wp2_with ((first|(go_at_call 59;refine(eB _ _ _ _ (by assumption)).mono ?_)|(go_at_call 59;refine(gP _ _ _ _ (by assumption)).mono ?_));rintro e w1 ⟨rfl,rfl⟩)
  go_ret
  exact⟨by rw[HV.out];rfl,by exact aA⟩
 focus
  cases h2:bC id 0 255
 ·have HV:=hid (show fA ⟨st,id,req,L,cnt,ay,au⟩=false by simp[fA,fF,h1,h2])
  have jc:=hid (rfl:(0:Nat)=0)
  have zu:=hid (rfl:(0:Nat)=0)
  go_enter Tryz.func67,Tryz.ntmps67
  go_wp2_with ((first|(go_at_call 59;refine(eB _ _ _ _ (by assumption)).mono ?_)|(go_at_call 59;refine(gP _ _ _ _ (by assumption)).mono ?_));rintro e w1 ⟨rfl,rfl⟩)
  go_ret
  exact⟨by rw[HV.out];rfl,by exact aA⟩
 focus
  cases h3:bC req 0 255
 ·have HV:=hid (show fA ⟨st,id,req,L,cnt,ay,au⟩=false by simp[fA,fF,h1,h2,h3])
  have jc:=hid (rfl:(0:Nat)=0)
  have zu:=hid (rfl:(0:Nat)=0)
  go_enter Tryz.func67,Tryz.ntmps67
  go_wp2_with ((first|(go_at_call 59;refine(eB _ _ _ _ (by assumption)).mono ?_)|(go_at_call 59;refine(gP _ _ _ _ (by assumption)).mono ?_));rintro e w1 ⟨rfl,rfl⟩)
  go_ret
  exact⟨by rw[HV.out];rfl,by exact aA⟩
 focus
  cases h4:bC cnt 0 1000
 ·have HV:=hid (show fA ⟨st,id,req,L,cnt,ay,au⟩=false by simp[fA,fF,h1,h2,h3,h4])
  have jc:=hid (rfl:(0:Nat)=0)
  have zu:=hid (rfl:(0:Nat)=0)
  go_enter Tryz.func67,Tryz.ntmps67
  go_wp2_with ((first|(go_at_call 59;refine(eB _ _ _ _ (by assumption)).mono ?_)|(go_at_call 59;refine(gP _ _ _ _ (by assumption)).mono ?_));rintro e w1 ⟨rfl,rfl⟩)
  go_ret
  exact⟨by rw[HV.out];rfl,by exact aA⟩
 focus
  cases h5:bC au 0 1000
 ·have HV:=hid (show fA ⟨st,id,req,L,cnt,ay,au⟩=false by simp[fA,fF,h1,h2,h3,h4,h5])
  have jc:=hid (rfl:(0:Nat)=0)
  have zu:=hid (rfl:(0:Nat)=0)
  go_enter Tryz.func67,Tryz.ntmps67
  go_wp2_with ((first|(go_at_call 59;refine(eB _ _ _ _ (by assumption)).mono ?_)|(go_at_call 59;refine(gP _ _ _ _ (by assumption)).mono ?_));rintro e w1 ⟨rfl,rfl⟩)
  go_ret
  exact⟨by rw[HV.out];rfl,by exact aA⟩
 focus
  obtain⟨⟨eb,ee⟩,henc⟩: ∃y,Op.encR L=y:=⟨_,rfl⟩
  have jc:=hid henc
  clear henc
  by_cases hee:ee=0
 focus
  subst hee
  cases xq:Fs.iw st
 focus
  have zu:=hid xq
  by_cases ht0:ay=0
 focus
  have HV:=hid (show fA ⟨st,id,req,L,cnt,ay,au⟩=true by simp[fA,fF,oN,h1,h2,h3,h4,h5,jc.out,xq,ht0])
 rotate_left
 focus
  have HV:=hid (show fA ⟨st,id,req,L,cnt,ay,au⟩=false by simp[fA,fF,oN,h1,h2,h3,h4,h5,jc.out,xq,ht0])
  have ht1:(ay==0)=false:=by simpa using ht0
 rotate_left
 focus
  have zu:=hid xq
  cases h6:bC ay 1 1099512676352
 focus
  have HV:=hid (show fA ⟨st,id,req,L,cnt,ay,au⟩=false by simp[fA,fF,oN,h1,h2,h3,h4,h5,jc.out,xq,h6])
 rotate_left
 focus
  have HV:=hid (show fA ⟨st,id,req,L,cnt,ay,au⟩=true by simp[fA,fF,oN,h1,h2,h3,h4,h5,jc.out,xq,h6])
 rotate_left
 ·have HV:=hid (show fA ⟨st,id,req,L,cnt,ay,au⟩=false by simp[fA,fF,h1,h2,h3,h4,h5,jc.out,hee])
  have zu:=hid (rfl:(0:Nat)=0)
  have WK:(ee !=0)=true:=by simpa using hee
  go_enter Tryz.func67,Tryz.ntmps67
  go_wp2_with (first|((first|(go_at_call 59;refine(eB _ _ _ _ (by assumption)).mono ?_)|(go_at_call 59;refine(gP _ _ _ _ (by assumption)).mono ?_));rintro e w1 ⟨rfl,rfl⟩)|(go_at_call 45;refine(Op.dZ A n c E _ B (by have:=HB.out;simp;omega) (by exact HE.out.keep (by have:=HB.out;exact aA)) HN.out).mono ?_;rw[HL.out];unfold Op.gK;rw[jc.out];rintro e w2 ⟨v,rfl,hb,-⟩;obtain⟨xs2,d2,rfl⟩:=aB hb;clear hb))
  go_ret
  exact⟨by rw[HV.out];rfl,by exact aA⟩
 all_goals
  clear xq
  go_enter Tryz.func67,Tryz.ntmps67
  go_wp2_with (first|((first|(go_at_call 59;refine(eB _ _ _ _ (by assumption)).mono ?_)|(go_at_call 59;refine(gP _ _ _ _ (by assumption)).mono ?_)|(go_at_call 53;refine(Fs.kC _ _).mono ?_;rw[zu.out]));rintro e w1 ⟨rfl,rfl⟩)|(go_at_call 45;refine(Op.dZ A n c E _ B (by have:=HB.out;simp;omega) (by exact HE.out.keep (by have:=HB.out;exact aA)) HN.out).mono ?_;rw[HL.out];unfold Op.gK;rw[jc.out];rintro e w2 ⟨v,rfl,hb,-⟩;obtain⟨xs2,d2,rfl⟩:=aB hb;clear hb))
  go_ret
  exact⟨by rw[HV.out];rfl,by exact aA⟩
theorem jk (A:Option Addr) (n c:Nat) (R:List Rl) (mc mt mf wt:Int) (st id req cnt ay au:Int) (A2:Option Addr) (n2 c2:Nat) (E:List aH) (L:List bF) (hL:E.map aH.o=L) (tick:Int) (w:World) (B:Nat) (hB:B≤w.heap.size) (hR:aD w B A R) (hn:n=R.length) (hl:n≤1000000) (hE:aJ w B A2 E) (hn2:n2=E.length):
  Calls Tryz.prog 50 #[.agg #[.slice A n c,.int .i64 mc,.int .i64 mt,.int .i64 mf,.int .i64 wt],.agg #[.int .i64 st,.int .i64 id,.int .i64 req,.slice A2 n2 c2,.int .i64 cnt,.int .i64 ay,.int .i64 au],.int .i64 tick] w fun x w'=>x=.returned (.bool (dn ⟨R,mc,mt,mf,wt⟩ ⟨st,id,req,L,cnt,ay,au⟩ tick))∧Below w.heap.size w w':=by
 have HB:=hid hB
 have HR:=hid hR
 have HN:=hid hn
 have HE:=hid hE
 have iA:=hid hn2
 have HL:=hid hL
 clear hB hR hn hE hn2 hL
 cases h0:dA ⟨R,mc,mt,mf,wt⟩
 ·have HV:=hid (show dn ⟨R,mc,mt,mf,wt⟩ ⟨st,id,req,L,cnt,ay,au⟩ tick=false by simp[dn,h0])
  have HC:=hid h0
  clear h0
  have HI:=hid (rfl:(0:Nat)=0)
  go_enter Tryz.func50,Tryz.ntmps50
  go_wp2_with (first|(go_at_call 66;refine(j6 A n c R mc mt mf wt _ B (by have:=HB.out;simp;omega) (by exact HR.out.keep (by have:=HB.out;exact aA)) HN.out hl).mono ?_;rw[HC.out];rintro e w1 ⟨rfl,hb⟩;obtain⟨xs,d,rfl⟩:=aB hb;clear hb)|((first|(go_at_call 59;refine(eB _ _ _ _ (by assumption)).mono ?_)|(go_at_call 59;refine(gP _ _ _ _ (by assumption)).mono ?_));rintro e w1 ⟨rfl,rfl⟩))
  go_ret
  exact⟨by rw[HV.out];rfl,by exact aA⟩
 focus
  cases h1:fA ⟨st,id,req,L,cnt,ay,au⟩
 focus
  have HV:=hid (show dn ⟨R,mc,mt,mf,wt⟩ ⟨st,id,req,L,cnt,ay,au⟩ tick=false by simp[dn,h0,h1])
 rotate_left
 focus
  cases h2:bC tick 0 1099511627776
 focus
  have HV:=hid (show dn ⟨R,mc,mt,mf,wt⟩ ⟨st,id,req,L,cnt,ay,au⟩ tick=false by simp[dn,h0,h1,h2])
 rotate_left
 focus
  have HV:=hid (show dn ⟨R,mc,mt,mf,wt⟩ ⟨st,id,req,L,cnt,ay,au⟩ tick=true by simp[dn,h0,h1,h2])
 rotate_left
 all_goals
  have HC:=hid h0
  clear h0
  have HI:=hid h1
  clear h1
  go_enter Tryz.func50,Tryz.ntmps50
  go_wp2_with (first|((first|(go_at_call 66;refine(j6 A n c R mc mt mf wt _ B (by have:=HB.out;simp;omega) (by exact HR.out.keep (by have:=HB.out;exact aA)) HN.out hl).mono ?_;rw[HC.out];rintro e w1 ⟨rfl,hb⟩;obtain⟨xs,d,rfl⟩:=aB hb)|(go_at_call 67;refine(xK st id req cnt ay au A2 n2 c2 E L HL.out _ B (by have:=HB.out;simp[size_ext,grow];omega) (by exact HE.out.keep (by have:=HB.out;exact aA)) iA.out).mono ?_;rw[HI.out];rintro e w1 ⟨rfl,hb⟩;obtain⟨mP,d3,rfl⟩:=aB hb));clear hb)|((first|(go_at_call 59;refine(eB _ _ _ _ (by assumption)).mono ?_)|(go_at_call 59;refine(gP _ _ _ _ (by assumption)).mono ?_));rintro e w1 ⟨rfl,rfl⟩))
  go_ret
  exact⟨by rw[HV.out];rfl,by exact aA⟩
def g_ (c:Cf) (a:Au):Int:=if dA c=true∧fA a=true then 0 else 160
theorem BX (A:Option Addr) (n c:Nat) (R:List Rl) (mc mt mf wt:Int) (st id req cnt ay au:Int) (A2:Option Addr) (n2 c2:Nat) (E:List aH) (L:List bF) (hL:E.map aH.o=L) (w:World) (B:Nat) (hB:B≤w.heap.size) (hR:aD w B A R) (hn:n=R.length) (hl:n≤1000000) (hE:aJ w B A2 E) (hn2:n2=E.length):
  Calls Tryz.prog 25 #[.agg #[.int .i64 st,.int .i64 id,.int .i64 req,.slice A2 n2 c2,.int .i64 cnt,.int .i64 ay,.int .i64 au],.agg #[.slice A n c,.int .i64 mc,.int .i64 mt,.int .i64 mf,.int .i64 wt]] w fun x w'=>x=.returned (.int .i64 (g_ ⟨R,mc,mt,mf,wt⟩ ⟨st,id,req,L,cnt,ay,au⟩))∧Below w.heap.size w w':=by
 have HB:=hid hB
 have HR:=hid hR
 have HN:=hid hn
 have HE:=hid hE
 have iA:=hid hn2
 have HL:=hid hL
 clear hB hR hn hE hn2 hL
 cases h0:dA ⟨R,mc,mt,mf,wt⟩
 ·have HV:=hid (show g_ ⟨R,mc,mt,mf,wt⟩ ⟨st,id,req,L,cnt,ay,au⟩=160 by simp[g_,h0])
  have HC:=hid h0
  clear h0
  have HI:=hid (rfl:(0:Nat)=0)
  go_enter Tryz.func25,Tryz.ntmps25
  go_wp2_with (first|(go_at_call 66;refine(j6 A n c R mc mt mf wt _ B (by have:=HB.out;simp;omega) (by exact HR.out.keep (by have:=HB.out;exact aA)) HN.out hl).mono ?_;rw[HC.out];rintro e w1 ⟨rfl,hb⟩;obtain⟨xs,d,rfl⟩:=aB hb;clear hb))
  go_ret
  exact⟨by rw[HV.out];rfl,by exact aA⟩
 focus
  cases h1:fA ⟨st,id,req,L,cnt,ay,au⟩
 focus
  have HV:=hid (show g_ ⟨R,mc,mt,mf,wt⟩ ⟨st,id,req,L,cnt,ay,au⟩=160 by simp[g_,h0,h1])
 rotate_left
 focus
  have HV:=hid (show g_ ⟨R,mc,mt,mf,wt⟩ ⟨st,id,req,L,cnt,ay,au⟩=0 by simp[g_,h0,h1])
 rotate_left
 all_goals
  have HC:=hid h0
  clear h0
  have HI:=hid h1
  clear h1
  go_enter Tryz.func25,Tryz.ntmps25
  go_wp2_with ((first|(go_at_call 66;refine(j6 A n c R mc mt mf wt _ B (by have:=HB.out;simp;omega) (by exact HR.out.keep (by have:=HB.out;exact aA)) HN.out hl).mono ?_;rw[HC.out];rintro e w1 ⟨rfl,hb⟩;obtain⟨xs,d,rfl⟩:=aB hb)|(go_at_call 67;refine(xK st id req cnt ay au A2 n2 c2 E L HL.out _ B (by have:=HB.out;simp[size_ext,grow];omega) (by exact HE.out.keep (by have:=HB.out;exact aA)) iA.out).mono ?_;rw[HI.out];rintro e w1 ⟨rfl,hb⟩;obtain⟨mP,d3,rfl⟩:=aB hb));clear hb)
  go_ret
  exact⟨by rw[HV.out];rfl,by exact aA⟩
def uD (L:List bF):Au:=if (Op.encR L).2=0 then ⟨0,0,0,L,0,0,0⟩ else ⟨0,0,0,[],0,0,0⟩
def pE (L:List bF):Int:=if (Op.encR L).2=0 then 0 else 160
theorem NT (A:Option Addr) (n c:Nat) (E:List aH) (L:List bF) (hL:E.map aH.o=L) (w:World) (B:Nat) (hB:B≤w.heap.size) (hE:aJ w B A E) (hn:n=E.length) (hl:n≤1000000) (hd: ∀e∈E,e.d.length≤400000000):
  Calls Tryz.prog 11 #[.slice A n c] w fun x w'=> ∃v,x=.returned (.tuple #[v,.int .i64 (pE L)])∧Vv (uD L) w.heap.size w w' v:=by
 have HB:=hid hB
 have HE:=hid hE
 have HN:=hid hn
 have HL:=hid hL
 have HD:=hid hd
 clear hB hE hn hL hd
 obtain⟨⟨eb,ee⟩,henc⟩: ∃y,Op.encR L=y:=⟨_,rfl⟩
 have jc:=hid henc
 clear henc
 by_cases hee:ee=0
 focus
  subst hee
  have YN:=hid (show uD L=⟨0,0,0,L,0,0,0⟩ by simp[uD,jc.out])
  have YO:=hid (show pE L=0 by simp[pE,jc.out])
 rotate_left
 focus
  have WK:(ee !=0)=true:=by simpa using hee
  have YN:=hid (show uD L=⟨0,0,0,[],0,0,0⟩ by simp[uD,jc.out,hee])
  have YO:=hid (show pE L=160 by simp[pE,jc.out,hee])
 rotate_left
 all_goals
  go_enter Tryz.func11,Tryz.ntmps11
  go_wp2_with (first|(go_at_call 45;refine(Op.dZ A n c E _ B (by have:=HB.out;simp;omega) (by exact HE.out.keep (by have:=HB.out;exact aA)) HN.out).mono ?_;rw[HL.out];unfold Op.gK;rw[jc.out];rintro e w2 ⟨v,rfl,hb,-⟩;obtain⟨xs2,d2,rfl⟩:=aB hb;clear hb))
 ·refine(uJ A n c E _ B (by have:=HB.out;simp[size_ext,grow];omega) (by exact HE.out.keep (by have:=HB.out;exact aA)) HN.out hl HD.out).mono ?_
  rintro e w1 ⟨E2,A2,c2,rfl,he,hn2,hc2,hb,ho⟩
  obtain⟨xs,d,rfl⟩:=aB hb
  have HE2:=hid he
  have iA:=hid hn2
  have xR:=hid hc2
  have HO:=hid ho
  clear hb ho he hn2 hc2
  go_wp2_with fail
  refine bodyPost_ret (v:=.tuple #[.agg #[.int .i64 0,.int .i64 0,.int .i64 0,.slice A2 n c2,.int .i64 0,.int .i64 0,.int .i64 0],.int .i64 0]) (by simp[results,Tryz.results11,go_sem]) rfl ⟨_,by rw[YO.out],?_⟩
  rw[YN.out]
  exact⟨E2,A2,n,c2,rfl,HE2.out.trans HL.out,iA.out,xR.out,by exact aA,aI.base (aI.swap HO.out (by simp[size_ext]) (by simp[size_ext])) (by simp[size_ext,grow];omega)⟩
 ·refine bodyPost_ret (v:=.tuple #[.agg #[.int .i64 0,.int .i64 0,.int .i64 0,.slice none 0 0,.int .i64 0,.int .i64 0,.int .i64 0],.int .i64 160]) (by simp[results,Tryz.results11,go_sem]) rfl ⟨_,by rw[YO.out],?_⟩
  rw[YN.out]
  exact⟨[],none,0,0,rfl,rfl,rfl,aaE _,by exact aA,aI.nil _ _⟩
end Go.Proofs.YtfkgmbknfnhjoaaGreat
