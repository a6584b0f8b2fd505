/- Bundle PA. -/
import Derived.Test.YtfkgmbknfnhjoaaGreatRA
import Derived.Test.YtfkgmbknfnhjoaaGreatRH
import Derived.Test.YtfkgmbknfnhjoaaGreatRG2
import Derived.Test.YtfkgmbknfnhjoaaGreatRN2
set_option maxHeartbeats 4000000
namespace Go.Proofs.YtfkgmbknfnhjoaaGreat
open Lib (hid)
open Go.RowKit
set_option linter.ambiguousOpen false
open Ne (Rl Opt RulesAt areB)
set_option linter.unusedSimpArgs false
set_option linter.unusedVariables false
theorem hpa {w:World} {g:Nat} {o:Obj} (h:w.heap[g]? =some o:=by(repeat(first|((refine heap_alloc_at _ _ _ ?_);(simp[go_sem];done))|((refine(heap_ext _ _ _ _ ?_).trans ?_);(focus (simp[go_sem];done)))|((refine(heap_alloc_past _ _ _ ?_).trans ?_);(focus (simp[go_sem];done)))))):w.heap[g]? =some o:=h
structure Au where
 st:Int
 id:Int
 req:Int
 ask:List Opt
 cnt:Int
 tim:Int
 nak:Int
structure Cf where
 rules:List Rl
 mc:Int
 mt:Int
 mf:Int
 wt:Int
structure Pk where
 code:Int
 id:Int
 data:List UInt8
def confB (c:Cf):Bool:=areB c.rules&&(inB c.mc 1 1000&&(inB c.mt 1 1000&&(inB c.mf 0 1000&&inB c.wt 1 1048576)))
def numsB (a:Au):Bool:=inB a.st 0 9&&(inB a.id 0 255&&(inB a.req 0 255&&(inB a.cnt 0 1000&&inB a.nak 0 1000)))
def timB (a:Au):Bool:=if Fs.timedB a.st=true then inB a.tim 1 1099512676352 else a.tim==0
def isB (a:Au):Bool:=numsB a&&((Op.encR a.ask).2==0&&timB a)
def fineB (c:Cf) (a:Au) (tick:Int):Bool:=confB c&&(isB a&&inB tick 0 1099511627776)
theorem within_auto (n lo hi:Int) (w:World):Calls Tryz.prog 59 #[.int .i64 n,.int .i64 lo,.int .i64 hi] w fun e w'=>e=.returned (.bool (inB n lo hi))∧w=w':=by
 by_cases h1:lo≤n<;>by_cases h2:n≤hi
 all_goals
  go_enter Tryz.func59,Tryz.ntmps59
  go_wp2
  go_ret
  exact⟨by simp[inB,h1,h2],rfl⟩
theorem within_t (n lo hi:Int) (w:World) (h:inB n lo hi=true):Calls Tryz.prog 59 #[.int .i64 n,.int .i64 lo,.int .i64 hi] w fun e w'=>e=.returned (.bool true)∧w=w':=by
 have:=within_auto n lo hi w
 rwa [h] at this
theorem within_f (n lo hi:Int) (w:World) (h:inB n lo hi=false):Calls Tryz.prog 59 #[.int .i64 n,.int .i64 lo,.int .i64 hi] w fun e w'=>e=.returned (.bool false)∧w=w':=by
 have:=within_auto n lo hi w
 rwa [h] at this
theorem OwnOpts.swap {w w':World} {xs:List Obj} {d d' base:Nat} {v:Value} {E:List Ent} (h:OwnOpts (ext w xs d) base v E) (hs:w.heap.size=w'.heap.size) (hb:w.heap.size≤base):OwnOpts (ext w' xs d') base v E:=
 ⟨own_swap h.1 hs hb,fun e he=>own_swap (h.2 e he) hs hb⟩
def CopP (n:Nat) (L:List Opt) (w:World) (x:Ending) (w':World):Prop:=
 ∃(E:List Ent) (A:Option Addr) (c:Nat),x=.returned (.slice A n c)∧E.map Ent.o=L∧n=E.length∧n≤c∧Below w.heap.size w w'∧OwnOpts w' w.heap.size (.slice A n c) E
set_option maxRecDepth 100000 in
theorem copied_any (A:Option Addr) (n c:Nat) (E:List Ent) (w:World) (B:Nat) (hB:B≤w.heap.size) (hA:OptsAt w B A E) (hn:n=E.length) (hl:n≤1000000) (hd: ∀e∈E,e.d.length≤400000000):
  Calls Tryz.prog 46 #[.slice A n c] w (CopP n (E.map Ent.o) w):=by
 have HA:=hid hA
 have HN:=hid hn
 have HB:=hid hB
 have HD:=hid hd
 clear hA hn hB hd
 go_enter Tryz.func46,Tryz.ntmps46
 go_wp2_with fail
 go_loopw [8,3] (fun i v wr=> ∃(k c2:Nat) (A2:Option Addr) (E2:List Ent),k≤n∧i=.int .i64 k∧v=.slice A2 k c2∧k≤c2∧E2.map Ent.o=(E.take k).map Ent.o∧Below w.heap.size w wr∧OwnOpts wr w.heap.size (.slice A2 k c2) E2) (fun i _ _=>n-(intOf i).toNat)
 case atStart=>exact⟨0,0,none,[],Nat.zero_le _,rfl,rfl,Nat.le_refl _,rfl,Below.refl _ _,OwnOpts.nil _ _⟩
 case round=>
  obtain⟨k,c2,A2,E2,hk,rfl,rfl,hkc,hE2,hbl,hown⟩:=hrel
  have HE2:=hid hE2
  have HKC:=hid hkc
  have HBL:=hid hbl
  have HOW:=hid hown
  have hszr:=hbl.size
  have HL2:=hid (show E2.length=k by have:=congrArg List.length hE2;simp at this;have h2:=HN.out;omega)
  clear hE2 hbl hown hkc
  by_cases hlt:k<n
  ·have HK:=hid (show k<E.length by have:=HN.out;omega)
   obtain⟨b,o,rfl,hbB,hx,hy⟩:=(HA.out.keep (HBL.out.mono HB.out)).get HK.out
   have HTK:=hid (Ne.ent_take HK.out)
   obtain⟨e0,he0,hmem⟩: ∃e0,E[k]'HK.out=e0∧e0∈E:=⟨_,rfl,List.getElem_mem _⟩
   rw[he0] at hx hy HTK
   have hat:=(HA.out.keep (HBL.out.mono HB.out)).2 e0 hmem
   have hdl:=HD.out e0 hmem
   obtain⟨t,d,a,ce⟩:=e0
   have hbz:b<wr.heap.size:=by have:=HB.out;omega
   have jj0:(0:Int)≤(k:Int):=by omega
   have jj1:(k:Int)<(n:Int):=by omega
   have HAT:=hid hat
   unfold Ent.v at hy
   simp only at hx hy hdl hat
   clear hat he0 hmem
   go_upto_region 5 with(fail)
   obtain⟨wz,hwz⟩: ∃wz,wz=wr.alloc (.cells #[.int .i64 t,.slice a d.length ce] 111):=⟨_,rfl⟩
   rw[←hwz]
   obtain⟨T,hT⟩: ∃T,T=wr.heap.size:=⟨_,rfl⟩
   rw[←hT]
   have hTz:T<wz.heap.size:=by rw[hwz,hT];simp
   have z0:wz.cell? ⟨T,0,none⟩=some (.int .i64 t):=by rw[hwz,hT,cell_of_row _ _ 0 _ _ (0,0) (heap_alloc_new wr _)];rfl
   have z1:wz.cell? ⟨T,1,none⟩=some (.slice a d.length ce):=by rw[hwz,hT,cell_of_row _ _ 1 _ _ (0,0) (heap_alloc_new wr _)];rfl
   have HBZ:=hid (show Below w.heap.size w wz by rw[hwz];exact HBL.out.alloc hszr _)
   have HBR:=hid (show Below wr.heap.size wr wz by rw[hwz];exact(Below.refl _ _).alloc (Nat.le_refl _) _)
   have hszz:=HBZ.out.size
   have hszz2:=HBR.out.size
   have HTH:=hid (show wz.heap[T]? =some (.cells #[.int .i64 t,.slice a d.length ce] 111 (0,0)) by rw[hwz,hT];exact heap_alloc_new wr _)
   have HTZ:=hid hTz
   have HVB:=hid (show∀g,(Value.slice A2 k c2).ownBlock=some g→g<T from fun g e=>by rw[hT];exact own_lt HOW.out.1 e)
   clear hwz hT
   have HOK:=hid (show wr.ownsRow w.heap.size 111 2 (.slice A2 k c2) k (cellsE E2) by have h:=HOW.out.1;rwa [HL2.out] at h)
   go_region_held3 (fun w'=>w'.cell? ⟨T,0,none⟩=some (.int .i64 t)∧w'.cell? ⟨T,1,none⟩=some (.slice a d.length ce)) (first|(go_keep;done)|(go_simp;done)|(simp[go_sem];done)) (first|((go_at_call 82;go_must (refine(Ne.clone_any a d.length ce d _ B (by have:=HB.out;simp[size_ext,grow];omega) (by exact HAT.out.1.keep (by have:=HB.out;have:=HBR.out.mono (show B≤wr.heap.size by omega);exact bel)) rfl hdl HAT.out.2).mono ?_);rintro e w2 ⟨v,rfl,hb,ho⟩;obtain⟨A3,c3,rfl,-,-⟩:=ownsRow_form ho;have HB2:=hid (show Below wz.heap.size wz w2 from Below.trans (by exact bel) (hb.mono (by simp)));have HO2:=hid (own_base (base':=w.heap.size) ho (by simp;omega));have hsz2:=HB2.out.size;have q0:w2.cell? ⟨T,0,none⟩=some (.int .i64 t):=(HB2.out.cell (p:=⟨T,_,none⟩) hTz).trans z0;have q1:w2.cell? ⟨T,1,none⟩=some (.slice a d.length ce):=(HB2.out.cell (p:=⟨T,_,none⟩) hTz).trans z1;clear hb ho))|((refine step_appv w rfl (.tmp 12) (.tmp 19) 25 rfl 111 Tryz.underlying25 (.agg #[.int .i64 0,.slice none 0 0]) 2 32 infoOpt rfl (by decide) (by decide) (.slice A2 k c2) k (cellsE E2) rfl (by exact own_below HOK.out (by have:=HB2.out;have:=HBR.out;exact bel)) (w2.heap.size+1) (some ⟨w2.heap.size,0,none⟩) 1 1 [.int .i64 t,.slice A3 d.length c3] rfl rfl (by omega) (by exact At.newN _ _ _ _ _ rfl rfl) (by intro u hu;simp at hu;rcases hu with rfl|rfl<;>rfl) (by have h1:=HBZ.out;have h2:=HB2.out;exact bel) ?_);intro A4 c4 w3 ho3 hc3 hb3 hg3;have HO3:=hid ho3;have HB3:=hid hb3;have HG3:=hid hg3;have HC3:=hid hc3;have HT3:=hid (show w3.heap[T]? =some (.cells #[.int .i64 t,.slice a d.length ce] 111 (0,0)) from(hg3.block T (by have:=HTZ.out;simp;omega) (fun e=>by have:=HVB.out T e.symm;omega)).trans ((Below.heap_alloc w2 _ T (by have:=HTZ.out;omega)).trans ((HB2.out.block T HTZ.out).trans HTH.out)));have q0:w3.cell? ⟨T,0,none⟩=some (.int .i64 t):=(cell_of_row _ _ 0 _ _ (0,0) HT3.out).trans rfl;have q1:w3.cell? ⟨T,1,none⟩=some (.slice a d.length ce):=(cell_of_row _ _ 1 _ _ (0,0) HT3.out).trans rfl;clear ho3 hc3 hb3 hg3))
   all_goals
    have HOE:=hid (OwnOpts.pushed (tt:=t) (dd:=d) (A2:=A3) (c2:=c3) (HOW.out.below (HBR.out.trans (HB2.out.mono hszz2|>.trans (Below.alloc (Below.refl _ w2) (by omega) _)))) (own_below HO2.out (Below.alloc (Below.refl _ w2) (Nat.le_refl _) _)) (by rw[HL2.out];exact HO3.out) HG3.out)
    go_wp2_with fail
    go_roundw
    case rel=>exact⟨k+1,c4,A4,_,by omega,by go_num,rfl,HC3.out,by rw[List.map_append,HE2.out,HTK.out];rfl,HB3.out,HOE.out⟩
    case measure=>simp[intOf];omega
  ·obtain rfl:k=n:=by omega
   go_wp2_with fail
   go_ret
   have h:=HE2.out
   rw[HN.out,List.take_length] at h
   exact⟨E2,A2,c2,rfl,h,HL2.out.symm,HKC.out,HBL.out,HOW.out⟩
def AutP (a:Au) (base:Nat) (w w':World) (v:Value):Prop:=
 ∃(E:List Ent) (A:Option Addr) (n c:Nat),v=.agg #[.int .i64 a.st,.int .i64 a.id,.int .i64 a.req,.slice A n c,.int .i64 a.cnt,.int .i64 a.tim,.int .i64 a.nak]∧E.map Ent.o=a.ask∧n=E.length∧n≤c∧Below w.heap.size w w'∧OwnOpts w' base (.slice A n c) E
theorem as_any (st id req cnt tim nak:Int) (A:Option Addr) (n c:Nat) (E:List Ent) (w:World) (B:Nat) (hB:B≤w.heap.size) (hA:OptsAt w B A E) (hn:n=E.length) (hl:n≤1000000) (hd: ∀e∈E,e.d.length≤400000000):
  Calls Tryz.prog 49 #[.agg #[.int .i64 st,.int .i64 id,.int .i64 req,.slice A n c,.int .i64 cnt,.int .i64 tim,.int .i64 nak]] w fun x w'=> ∃v,x=.returned v∧AutP ⟨st,id,req,E.map Ent.o,cnt,tim,nak⟩ w.heap.size w w' v:=by
 have HA:=hid hA
 have HN:=hid hn
 have HB:=hid hB
 have HD:=hid hd
 clear hA hn hB hd
 go_enter Tryz.func49,Tryz.ntmps49
 go_wp2_with fail
 refine(copied_any A n c E _ B (by have:=HB.out;simp;omega) (by exact HA.out.keep (by have:=HB.out;exact bel)) HN.out hl HD.out).mono ?_
 rintro e w1 ⟨E2,A2,c2,rfl,he,hn2,hc2,hb,ho⟩
 obtain⟨xs,d,rfl⟩:=ext_of hb
 have HE:=hid he
 have HN2:=hid hn2
 have HC2:=hid hc2
 have HO:=hid ho
 clear hb ho he hn2 hc2
 go_wp2_with fail
 refine bodyPost_ret (v:=.agg #[.int .i64 st,.int .i64 id,.int .i64 req,.slice A2 n c2,.int .i64 cnt,.int .i64 tim,.int .i64 nak]) (by simp[results,Tryz.results49,go_sem]) rfl ⟨_,rfl,E2,A2,n,c2,rfl,HE.out,HN2.out,HC2.out,by exact bel,?_⟩
 exact OwnOpts.base (OwnOpts.swap HO.out (by simp) (by simp)) (by simp;omega)
end Go.Proofs.YtfkgmbknfnhjoaaGreat
namespace Go.Proofs.YtfkgmbknfnhjoaaGreat
open Lib (hid)
open Go.RowKit
set_option linter.ambiguousOpen false
open Ne (Rl Opt RulesAt areB)
set_option linter.unusedSimpArgs false
set_option linter.unusedVariables false
theorem settings_any (A:Option Addr) (n c:Nat) (R:List Rl) (mc mt mf wt:Int) (w:World) (B:Nat) (hB:B≤w.heap.size) (hR:RulesAt w B A R) (hn:n=R.length) (hl:n≤1000000):
  Calls Tryz.prog 66 #[.agg #[.slice A n c,.int .i64 mc,.int .i64 mt,.int .i64 mf,.int .i64 wt]] w fun x w'=>x=.returned (.bool (confB ⟨R,mc,mt,mf,wt⟩))∧Below w.heap.size w w':=by
 have HB:=hid hB
 have HR:=hid hR
 have HN:=hid hn
 clear hB hR hn
 cases h0:areB R
 ·have HK:=hid (show Ne.chkV (areB R)=150 by rw[h0];rfl)
  have HV:=hid (show confB ⟨R,mc,mt,mf,wt⟩=false by simp[confB,h0])
  go_enter Tryz.func66,Tryz.ntmps66
  go_wp2_with (first|(go_at_call 103;refine(Ne.check_any A n c R _ B (by have:=HB.out;simp;omega) (by exact HR.out.keep (by have:=HB.out;exact bel)) HN.out hl).mono ?_;rw[HK.out];rintro e w1 ⟨rfl,hb⟩;obtain⟨xs,d,rfl⟩:=ext_of hb;clear hb)|(go_at_call 59;refine(within_t _ _ _ _ (by assumption)).mono ?_;rintro e w1 ⟨rfl,rfl⟩)|(go_at_call 59;refine(within_f _ _ _ _ (by assumption)).mono ?_;rintro e w1 ⟨rfl,rfl⟩))
  go_ret
  exact⟨by rw[HV.out];rfl,by exact bel⟩
 ·cases h1:inB mc 1 1000
  ·have HK:=hid (show Ne.chkV (areB R)=0 by rw[h0];rfl)
   have HV:=hid (show confB ⟨R,mc,mt,mf,wt⟩=false by simp[confB,h0,h1])
   go_enter Tryz.func66,Tryz.ntmps66
   go_wp2_with (first|(go_at_call 103;refine(Ne.check_any A n c R _ B (by have:=HB.out;simp;omega) (by exact HR.out.keep (by have:=HB.out;exact bel)) HN.out hl).mono ?_;rw[HK.out];rintro e w1 ⟨rfl,hb⟩;obtain⟨xs,d,rfl⟩:=ext_of hb;clear hb)|(go_at_call 59;refine(within_t _ _ _ _ (by assumption)).mono ?_;rintro e w1 ⟨rfl,rfl⟩)|(go_at_call 59;refine(within_f _ _ _ _ (by assumption)).mono ?_;rintro e w1 ⟨rfl,rfl⟩))
   go_ret
   exact⟨by rw[HV.out];rfl,by exact bel⟩
  ·cases h2:inB mt 1 1000
   ·have HK:=hid (show Ne.chkV (areB R)=0 by rw[h0];rfl)
    have HV:=hid (show confB ⟨R,mc,mt,mf,wt⟩=false by simp[confB,h0,h1,h2])
    go_enter Tryz.func66,Tryz.ntmps66
    go_wp2_with (first|(go_at_call 103;refine(Ne.check_any A n c R _ B (by have:=HB.out;simp;omega) (by exact HR.out.keep (by have:=HB.out;exact bel)) HN.out hl).mono ?_;rw[HK.out];rintro e w1 ⟨rfl,hb⟩;obtain⟨xs,d,rfl⟩:=ext_of hb;clear hb)|(go_at_call 59;refine(within_t _ _ _ _ (by assumption)).mono ?_;rintro e w1 ⟨rfl,rfl⟩)|(go_at_call 59;refine(within_f _ _ _ _ (by assumption)).mono ?_;rintro e w1 ⟨rfl,rfl⟩))
    go_ret
    exact⟨by rw[HV.out];rfl,by exact bel⟩
   ·cases h3:inB mf 0 1000
    ·have HK:=hid (show Ne.chkV (areB R)=0 by rw[h0];rfl)
     have HV:=hid (show confB ⟨R,mc,mt,mf,wt⟩=false by simp[confB,h0,h1,h2,h3])
     go_enter Tryz.func66,Tryz.ntmps66
     go_wp2_with (first|(go_at_call 103;refine(Ne.check_any A n c R _ B (by have:=HB.out;simp;omega) (by exact HR.out.keep (by have:=HB.out;exact bel)) HN.out hl).mono ?_;rw[HK.out];rintro e w1 ⟨rfl,hb⟩;obtain⟨xs,d,rfl⟩:=ext_of hb;clear hb)|(go_at_call 59;refine(within_t _ _ _ _ (by assumption)).mono ?_;rintro e w1 ⟨rfl,rfl⟩)|(go_at_call 59;refine(within_f _ _ _ _ (by assumption)).mono ?_;rintro e w1 ⟨rfl,rfl⟩))
     go_ret
     exact⟨by rw[HV.out];rfl,by exact bel⟩
    ·cases h4:inB wt 1 1048576
     ·have HK:=hid (show Ne.chkV (areB R)=0 by rw[h0];rfl)
      have HV:=hid (show confB ⟨R,mc,mt,mf,wt⟩=false by simp[confB,h0,h1,h2,h3,h4])
      go_enter Tryz.func66,Tryz.ntmps66
      go_wp2_with (first|(go_at_call 103;refine(Ne.check_any A n c R _ B (by have:=HB.out;simp;omega) (by exact HR.out.keep (by have:=HB.out;exact bel)) HN.out hl).mono ?_;rw[HK.out];rintro e w1 ⟨rfl,hb⟩;obtain⟨xs,d,rfl⟩:=ext_of hb;clear hb)|(go_at_call 59;refine(within_t _ _ _ _ (by assumption)).mono ?_;rintro e w1 ⟨rfl,rfl⟩)|(go_at_call 59;refine(within_f _ _ _ _ (by assumption)).mono ?_;rintro e w1 ⟨rfl,rfl⟩))
      go_ret
      exact⟨by rw[HV.out];rfl,by exact bel⟩
     ·have HK:=hid (show Ne.chkV (areB R)=0 by rw[h0];rfl)
      have HV:=hid (show confB ⟨R,mc,mt,mf,wt⟩=true by simp[confB,h0,h1,h2,h3,h4])
      go_enter Tryz.func66,Tryz.ntmps66
      go_wp2_with (first|(go_at_call 103;refine(Ne.check_any A n c R _ B (by have:=HB.out;simp;omega) (by exact HR.out.keep (by have:=HB.out;exact bel)) HN.out hl).mono ?_;rw[HK.out];rintro e w1 ⟨rfl,hb⟩;obtain⟨xs,d,rfl⟩:=ext_of hb;clear hb)|(go_at_call 59;refine(within_t _ _ _ _ (by assumption)).mono ?_;rintro e w1 ⟨rfl,rfl⟩)|(go_at_call 59;refine(within_f _ _ _ _ (by assumption)).mono ?_;rintro e w1 ⟨rfl,rfl⟩))
      go_ret
      exact⟨by rw[HV.out];rfl,by exact bel⟩
theorem sound_any (st id req cnt tim nak:Int) (A:Option Addr) (n c:Nat) (E:List Ent) (L:List Opt) (hL:E.map Ent.o=L) (w:World) (B:Nat) (hB:B≤w.heap.size) (hE:OptsAt w B A E) (hn:n=E.length):
  Calls Tryz.prog 67 #[.agg #[.int .i64 st,.int .i64 id,.int .i64 req,.slice A n c,.int .i64 cnt,.int .i64 tim,.int .i64 nak]] w fun x w'=>x=.returned (.bool (isB ⟨st,id,req,L,cnt,tim,nak⟩))∧Below w.heap.size w w':=by
 have HB:=hid hB
 have HE:=hid hE
 have HN:=hid hn
 have HL:=hid hL
 clear hB hE hn hL
 cases h1:inB st 0 9
 ·have HV:=hid (show isB ⟨st,id,req,L,cnt,tim,nak⟩=false by simp[isB,numsB,h1])
  have HENC:=hid (rfl:(0:Nat)=0)
  have HTM:=hid (rfl:(0:Nat)=0)
  go_enter Tryz.func67,Tryz.ntmps67
  go_wp2_with (first|(go_at_call 59;refine(within_t _ _ _ _ (by assumption)).mono ?_;rintro e w1 ⟨rfl,rfl⟩)|(go_at_call 59;refine(within_f _ _ _ _ (by assumption)).mono ?_;rintro e w1 ⟨rfl,rfl⟩))
  go_ret
  exact⟨by rw[HV.out];rfl,by exact bel⟩
 ·cases h2:inB id 0 255
  ·have HV:=hid (show isB ⟨st,id,req,L,cnt,tim,nak⟩=false by simp[isB,numsB,h1,h2])
   have HENC:=hid (rfl:(0:Nat)=0)
   have HTM:=hid (rfl:(0:Nat)=0)
   go_enter Tryz.func67,Tryz.ntmps67
   go_wp2_with (first|(go_at_call 59;refine(within_t _ _ _ _ (by assumption)).mono ?_;rintro e w1 ⟨rfl,rfl⟩)|(go_at_call 59;refine(within_f _ _ _ _ (by assumption)).mono ?_;rintro e w1 ⟨rfl,rfl⟩))
   go_ret
   exact⟨by rw[HV.out];rfl,by exact bel⟩
  ·cases h3:inB req 0 255
   ·have HV:=hid (show isB ⟨st,id,req,L,cnt,tim,nak⟩=false by simp[isB,numsB,h1,h2,h3])
    have HENC:=hid (rfl:(0:Nat)=0)
    have HTM:=hid (rfl:(0:Nat)=0)
    go_enter Tryz.func67,Tryz.ntmps67
    go_wp2_with (first|(go_at_call 59;refine(within_t _ _ _ _ (by assumption)).mono ?_;rintro e w1 ⟨rfl,rfl⟩)|(go_at_call 59;refine(within_f _ _ _ _ (by assumption)).mono ?_;rintro e w1 ⟨rfl,rfl⟩))
    go_ret
    exact⟨by rw[HV.out];rfl,by exact bel⟩
   ·cases h4:inB cnt 0 1000
    ·have HV:=hid (show isB ⟨st,id,req,L,cnt,tim,nak⟩=false by simp[isB,numsB,h1,h2,h3,h4])
     have HENC:=hid (rfl:(0:Nat)=0)
     have HTM:=hid (rfl:(0:Nat)=0)
     go_enter Tryz.func67,Tryz.ntmps67
     go_wp2_with (first|(go_at_call 59;refine(within_t _ _ _ _ (by assumption)).mono ?_;rintro e w1 ⟨rfl,rfl⟩)|(go_at_call 59;refine(within_f _ _ _ _ (by assumption)).mono ?_;rintro e w1 ⟨rfl,rfl⟩))
     go_ret
     exact⟨by rw[HV.out];rfl,by exact bel⟩
    ·cases h5:inB nak 0 1000
     ·have HV:=hid (show isB ⟨st,id,req,L,cnt,tim,nak⟩=false by simp[isB,numsB,h1,h2,h3,h4,h5])
      have HENC:=hid (rfl:(0:Nat)=0)
      have HTM:=hid (rfl:(0:Nat)=0)
      go_enter Tryz.func67,Tryz.ntmps67
      go_wp2_with (first|(go_at_call 59;refine(within_t _ _ _ _ (by assumption)).mono ?_;rintro e w1 ⟨rfl,rfl⟩)|(go_at_call 59;refine(within_f _ _ _ _ (by assumption)).mono ?_;rintro e w1 ⟨rfl,rfl⟩))
      go_ret
      exact⟨by rw[HV.out];rfl,by exact bel⟩
     ·obtain⟨⟨eb,ee⟩,henc⟩: ∃y,Op.encR L=y:=⟨_,rfl⟩
      have HENC:=hid henc
      clear henc
      by_cases hee:ee=0
      ·subst hee
       cases htm:Fs.timedB st
       ·have HTM:=hid htm
        by_cases ht0:tim=0
        ·have HV:=hid (show isB ⟨st,id,req,L,cnt,tim,nak⟩=true by simp[isB,numsB,timB,h1,h2,h3,h4,h5,HENC.out,htm,ht0])
         clear htm
         go_enter Tryz.func67,Tryz.ntmps67
         go_wp2_with (first|(go_at_call 59;refine(within_t _ _ _ _ (by assumption)).mono ?_;rintro e w1 ⟨rfl,rfl⟩)|(go_at_call 59;refine(within_f _ _ _ _ (by assumption)).mono ?_;rintro e w1 ⟨rfl,rfl⟩)|(go_at_call 45;refine(Op.enc_any A n c E _ B (by have:=HB.out;simp;omega) (by exact HE.out.keep (by have:=HB.out;exact bel)) HN.out).mono ?_;rw[HL.out];unfold Op.EncP;rw[HENC.out];rintro e w2 ⟨v,rfl,hb,-⟩;obtain⟨xs2,d2,rfl⟩:=ext_of hb;clear hb)|(go_at_call 53;refine(Fs.timed_any _ _).mono ?_;rw[HTM.out];rintro e w1 ⟨rfl,rfl⟩))
         go_ret
         exact⟨by rw[HV.out];rfl,by exact bel⟩
        ·have HV:=hid (show isB ⟨st,id,req,L,cnt,tim,nak⟩=false by simp[isB,numsB,timB,h1,h2,h3,h4,h5,HENC.out,htm,ht0])
         have ht1:(tim==0)=false:=by simpa using ht0
         clear htm
         go_enter Tryz.func67,Tryz.ntmps67
         go_wp2_with (first|(go_at_call 59;refine(within_t _ _ _ _ (by assumption)).mono ?_;rintro e w1 ⟨rfl,rfl⟩)|(go_at_call 59;refine(within_f _ _ _ _ (by assumption)).mono ?_;rintro e w1 ⟨rfl,rfl⟩)|(go_at_call 45;refine(Op.enc_any A n c E _ B (by have:=HB.out;simp;omega) (by exact HE.out.keep (by have:=HB.out;exact bel)) HN.out).mono ?_;rw[HL.out];unfold Op.EncP;rw[HENC.out];rintro e w2 ⟨v,rfl,hb,-⟩;obtain⟨xs2,d2,rfl⟩:=ext_of hb;clear hb)|(go_at_call 53;refine(Fs.timed_any _ _).mono ?_;rw[HTM.out];rintro e w1 ⟨rfl,rfl⟩))
         go_ret
         exact⟨by rw[HV.out];rfl,by exact bel⟩
       ·have HTM:=hid htm
        cases h6:inB tim 1 1099512676352
        ·have HV:=hid (show isB ⟨st,id,req,L,cnt,tim,nak⟩=false by simp[isB,numsB,timB,h1,h2,h3,h4,h5,HENC.out,htm,h6])
         clear htm
         go_enter Tryz.func67,Tryz.ntmps67
         go_wp2_with (first|(go_at_call 59;refine(within_t _ _ _ _ (by assumption)).mono ?_;rintro e w1 ⟨rfl,rfl⟩)|(go_at_call 59;refine(within_f _ _ _ _ (by assumption)).mono ?_;rintro e w1 ⟨rfl,rfl⟩)|(go_at_call 45;refine(Op.enc_any A n c E _ B (by have:=HB.out;simp;omega) (by exact HE.out.keep (by have:=HB.out;exact bel)) HN.out).mono ?_;rw[HL.out];unfold Op.EncP;rw[HENC.out];rintro e w2 ⟨v,rfl,hb,-⟩;obtain⟨xs2,d2,rfl⟩:=ext_of hb;clear hb)|(go_at_call 53;refine(Fs.timed_any _ _).mono ?_;rw[HTM.out];rintro e w1 ⟨rfl,rfl⟩))
         go_ret
         exact⟨by rw[HV.out];rfl,by exact bel⟩
        ·have HV:=hid (show isB ⟨st,id,req,L,cnt,tim,nak⟩=true by simp[isB,numsB,timB,h1,h2,h3,h4,h5,HENC.out,htm,h6])
         clear htm
         go_enter Tryz.func67,Tryz.ntmps67
         go_wp2_with (first|(go_at_call 59;refine(within_t _ _ _ _ (by assumption)).mono ?_;rintro e w1 ⟨rfl,rfl⟩)|(go_at_call 59;refine(within_f _ _ _ _ (by assumption)).mono ?_;rintro e w1 ⟨rfl,rfl⟩)|(go_at_call 45;refine(Op.enc_any A n c E _ B (by have:=HB.out;simp;omega) (by exact HE.out.keep (by have:=HB.out;exact bel)) HN.out).mono ?_;rw[HL.out];unfold Op.EncP;rw[HENC.out];rintro e w2 ⟨v,rfl,hb,-⟩;obtain⟨xs2,d2,rfl⟩:=ext_of hb;clear hb)|(go_at_call 53;refine(Fs.timed_any _ _).mono ?_;rw[HTM.out];rintro e w1 ⟨rfl,rfl⟩))
         go_ret
         exact⟨by rw[HV.out];rfl,by exact bel⟩
      ·have HV:=hid (show isB ⟨st,id,req,L,cnt,tim,nak⟩=false by simp[isB,numsB,h1,h2,h3,h4,h5,HENC.out,hee])
       have HTM:=hid (rfl:(0:Nat)=0)
       have hee2:(ee !=0)=true:=by simpa using hee
       go_enter Tryz.func67,Tryz.ntmps67
       go_wp2_with (first|(go_at_call 59;refine(within_t _ _ _ _ (by assumption)).mono ?_;rintro e w1 ⟨rfl,rfl⟩)|(go_at_call 59;refine(within_f _ _ _ _ (by assumption)).mono ?_;rintro e w1 ⟨rfl,rfl⟩)|(go_at_call 45;refine(Op.enc_any A n c E _ B (by have:=HB.out;simp;omega) (by exact HE.out.keep (by have:=HB.out;exact bel)) HN.out).mono ?_;rw[HL.out];unfold Op.EncP;rw[HENC.out];rintro e w2 ⟨v,rfl,hb,-⟩;obtain⟨xs2,d2,rfl⟩:=ext_of hb;clear hb))
       go_ret
       exact⟨by rw[HV.out];rfl,by exact bel⟩
theorem may_any (A:Option Addr) (n c:Nat) (R:List Rl) (mc mt mf wt:Int) (st id req cnt tim nak:Int) (A2:Option Addr) (n2 c2:Nat) (E:List Ent) (L:List Opt) (hL:E.map Ent.o=L) (tick:Int) (w:World) (B:Nat) (hB:B≤w.heap.size) (hR:RulesAt w B A R) (hn:n=R.length) (hl:n≤1000000) (hE:OptsAt w B A2 E) (hn2:n2=E.length):
  Calls Tryz.prog 50 #[.agg #[.slice A n c,.int .i64 mc,.int .i64 mt,.int .i64 mf,.int .i64 wt],.agg #[.int .i64 st,.int .i64 id,.int .i64 req,.slice A2 n2 c2,.int .i64 cnt,.int .i64 tim,.int .i64 nak],.int .i64 tick] w fun x w'=>x=.returned (.bool (fineB ⟨R,mc,mt,mf,wt⟩ ⟨st,id,req,L,cnt,tim,nak⟩ tick))∧Below w.heap.size w w':=by
 have HB:=hid hB
 have HR:=hid hR
 have HN:=hid hn
 have HE:=hid hE
 have HN2:=hid hn2
 have HL:=hid hL
 clear hB hR hn hE hn2 hL
 cases h0:confB ⟨R,mc,mt,mf,wt⟩
 ·have HV:=hid (show fineB ⟨R,mc,mt,mf,wt⟩ ⟨st,id,req,L,cnt,tim,nak⟩ tick=false by simp[fineB,h0])
  have HC:=hid h0
  clear h0
  have HI:=hid (rfl:(0:Nat)=0)
  go_enter Tryz.func50,Tryz.ntmps50
  go_wp2_with (first|(go_at_call 66;refine(settings_any A n c R mc mt mf wt _ B (by have:=HB.out;simp;omega) (by exact HR.out.keep (by have:=HB.out;exact bel)) HN.out hl).mono ?_;rw[HC.out];rintro e w1 ⟨rfl,hb⟩;obtain⟨xs,d,rfl⟩:=ext_of hb;clear hb)|(go_at_call 59;refine(within_t _ _ _ _ (by assumption)).mono ?_;rintro e w1 ⟨rfl,rfl⟩)|(go_at_call 59;refine(within_f _ _ _ _ (by assumption)).mono ?_;rintro e w1 ⟨rfl,rfl⟩))
  go_ret
  exact⟨by rw[HV.out];rfl,by exact bel⟩
 ·cases h1:isB ⟨st,id,req,L,cnt,tim,nak⟩
  ·have HV:=hid (show fineB ⟨R,mc,mt,mf,wt⟩ ⟨st,id,req,L,cnt,tim,nak⟩ tick=false by simp[fineB,h0,h1])
   have HC:=hid h0
   clear h0
   have HI:=hid h1
   clear h1
   go_enter Tryz.func50,Tryz.ntmps50
   go_wp2_with (first|(go_at_call 66;refine(settings_any A n c R mc mt mf wt _ B (by have:=HB.out;simp;omega) (by exact HR.out.keep (by have:=HB.out;exact bel)) HN.out hl).mono ?_;rw[HC.out];rintro e w1 ⟨rfl,hb⟩;obtain⟨xs,d,rfl⟩:=ext_of hb;clear hb)|(go_at_call 59;refine(within_t _ _ _ _ (by assumption)).mono ?_;rintro e w1 ⟨rfl,rfl⟩)|(go_at_call 59;refine(within_f _ _ _ _ (by assumption)).mono ?_;rintro e w1 ⟨rfl,rfl⟩)|(go_at_call 67;refine(sound_any st id req cnt tim nak A2 n2 c2 E L HL.out _ B (by have:=HB.out;simp[size_ext,grow];omega) (by exact HE.out.keep (by have:=HB.out;exact bel)) HN2.out).mono ?_;rw[HI.out];rintro e w1 ⟨rfl,hb⟩;obtain⟨xs3,d3,rfl⟩:=ext_of hb;clear hb))
   go_ret
   exact⟨by rw[HV.out];rfl,by exact bel⟩
  ·cases h2:inB tick 0 1099511627776
   ·have HV:=hid (show fineB ⟨R,mc,mt,mf,wt⟩ ⟨st,id,req,L,cnt,tim,nak⟩ tick=false by simp[fineB,h0,h1,h2])
    have HC:=hid h0
    clear h0
    have HI:=hid h1
    clear h1
    go_enter Tryz.func50,Tryz.ntmps50
    go_wp2_with (first|(go_at_call 66;refine(settings_any A n c R mc mt mf wt _ B (by have:=HB.out;simp;omega) (by exact HR.out.keep (by have:=HB.out;exact bel)) HN.out hl).mono ?_;rw[HC.out];rintro e w1 ⟨rfl,hb⟩;obtain⟨xs,d,rfl⟩:=ext_of hb;clear hb)|(go_at_call 59;refine(within_t _ _ _ _ (by assumption)).mono ?_;rintro e w1 ⟨rfl,rfl⟩)|(go_at_call 59;refine(within_f _ _ _ _ (by assumption)).mono ?_;rintro e w1 ⟨rfl,rfl⟩)|(go_at_call 67;refine(sound_any st id req cnt tim nak A2 n2 c2 E L HL.out _ B (by have:=HB.out;simp[size_ext,grow];omega) (by exact HE.out.keep (by have:=HB.out;exact bel)) HN2.out).mono ?_;rw[HI.out];rintro e w1 ⟨rfl,hb⟩;obtain⟨xs3,d3,rfl⟩:=ext_of hb;clear hb))
    go_ret
    exact⟨by rw[HV.out];rfl,by exact bel⟩
   ·have HV:=hid (show fineB ⟨R,mc,mt,mf,wt⟩ ⟨st,id,req,L,cnt,tim,nak⟩ tick=true by simp[fineB,h0,h1,h2])
    have HC:=hid h0
    clear h0
    have HI:=hid h1
    clear h1
    go_enter Tryz.func50,Tryz.ntmps50
    go_wp2_with (first|(go_at_call 66;refine(settings_any A n c R mc mt mf wt _ B (by have:=HB.out;simp;omega) (by exact HR.out.keep (by have:=HB.out;exact bel)) HN.out hl).mono ?_;rw[HC.out];rintro e w1 ⟨rfl,hb⟩;obtain⟨xs,d,rfl⟩:=ext_of hb;clear hb)|(go_at_call 59;refine(within_t _ _ _ _ (by assumption)).mono ?_;rintro e w1 ⟨rfl,rfl⟩)|(go_at_call 59;refine(within_f _ _ _ _ (by assumption)).mono ?_;rintro e w1 ⟨rfl,rfl⟩)|(go_at_call 67;refine(sound_any st id req cnt tim nak A2 n2 c2 E L HL.out _ B (by have:=HB.out;simp[size_ext,grow];omega) (by exact HE.out.keep (by have:=HB.out;exact bel)) HN2.out).mono ?_;rw[HI.out];rintro e w1 ⟨rfl,hb⟩;obtain⟨xs3,d3,rfl⟩:=ext_of hb;clear hb))
    go_ret
    exact⟨by rw[HV.out];rfl,by exact bel⟩
def checkE (c:Cf) (a:Au):Int:=if confB c=true∧isB a=true then 0 else 160
theorem acheck_any (A:Option Addr) (n c:Nat) (R:List Rl) (mc mt mf wt:Int) (st id req cnt tim nak:Int) (A2:Option Addr) (n2 c2:Nat) (E:List Ent) (L:List Opt) (hL:E.map Ent.o=L) (w:World) (B:Nat) (hB:B≤w.heap.size) (hR:RulesAt w B A R) (hn:n=R.length) (hl:n≤1000000) (hE:OptsAt w B A2 E) (hn2:n2=E.length):
  Calls Tryz.prog 25 #[.agg #[.int .i64 st,.int .i64 id,.int .i64 req,.slice A2 n2 c2,.int .i64 cnt,.int .i64 tim,.int .i64 nak],.agg #[.slice A n c,.int .i64 mc,.int .i64 mt,.int .i64 mf,.int .i64 wt]] w fun x w'=>x=.returned (.int .i64 (checkE ⟨R,mc,mt,mf,wt⟩ ⟨st,id,req,L,cnt,tim,nak⟩))∧Below w.heap.size w w':=by
 have HB:=hid hB
 have HR:=hid hR
 have HN:=hid hn
 have HE:=hid hE
 have HN2:=hid hn2
 have HL:=hid hL
 clear hB hR hn hE hn2 hL
 cases h0:confB ⟨R,mc,mt,mf,wt⟩
 ·have HV:=hid (show checkE ⟨R,mc,mt,mf,wt⟩ ⟨st,id,req,L,cnt,tim,nak⟩=160 by simp[checkE,h0])
  have HC:=hid h0
  clear h0
  have HI:=hid (rfl:(0:Nat)=0)
  go_enter Tryz.func25,Tryz.ntmps25
  go_wp2_with (first|(go_at_call 66;refine(settings_any A n c R mc mt mf wt _ B (by have:=HB.out;simp;omega) (by exact HR.out.keep (by have:=HB.out;exact bel)) HN.out hl).mono ?_;rw[HC.out];rintro e w1 ⟨rfl,hb⟩;obtain⟨xs,d,rfl⟩:=ext_of hb;clear hb))
  go_ret
  exact⟨by rw[HV.out];rfl,by exact bel⟩
 ·cases h1:isB ⟨st,id,req,L,cnt,tim,nak⟩
  ·have HV:=hid (show checkE ⟨R,mc,mt,mf,wt⟩ ⟨st,id,req,L,cnt,tim,nak⟩=160 by simp[checkE,h0,h1])
   have HC:=hid h0
   clear h0
   have HI:=hid h1
   clear h1
   go_enter Tryz.func25,Tryz.ntmps25
   go_wp2_with (first|(go_at_call 66;refine(settings_any A n c R mc mt mf wt _ B (by have:=HB.out;simp;omega) (by exact HR.out.keep (by have:=HB.out;exact bel)) HN.out hl).mono ?_;rw[HC.out];rintro e w1 ⟨rfl,hb⟩;obtain⟨xs,d,rfl⟩:=ext_of hb;clear hb)|(go_at_call 67;refine(sound_any st id req cnt tim nak A2 n2 c2 E L HL.out _ B (by have:=HB.out;simp[size_ext,grow];omega) (by exact HE.out.keep (by have:=HB.out;exact bel)) HN2.out).mono ?_;rw[HI.out];rintro e w1 ⟨rfl,hb⟩;obtain⟨xs3,d3,rfl⟩:=ext_of hb;clear hb))
   go_ret
   exact⟨by rw[HV.out];rfl,by exact bel⟩
  ·have HV:=hid (show checkE ⟨R,mc,mt,mf,wt⟩ ⟨st,id,req,L,cnt,tim,nak⟩=0 by simp[checkE,h0,h1])
   have HC:=hid h0
   clear h0
   have HI:=hid h1
   clear h1
   go_enter Tryz.func25,Tryz.ntmps25
   go_wp2_with (first|(go_at_call 66;refine(settings_any A n c R mc mt mf wt _ B (by have:=HB.out;simp;omega) (by exact HR.out.keep (by have:=HB.out;exact bel)) HN.out hl).mono ?_;rw[HC.out];rintro e w1 ⟨rfl,hb⟩;obtain⟨xs,d,rfl⟩:=ext_of hb;clear hb)|(go_at_call 67;refine(sound_any st id req cnt tim nak A2 n2 c2 E L HL.out _ B (by have:=HB.out;simp[size_ext,grow];omega) (by exact HE.out.keep (by have:=HB.out;exact bel)) HN2.out).mono ?_;rw[HI.out];rintro e w1 ⟨rfl,hb⟩;obtain⟨xs3,d3,rfl⟩:=ext_of hb;clear hb))
   go_ret
   exact⟨by rw[HV.out];rfl,by exact bel⟩
def auNew (L:List Opt):Au:=if (Op.encR L).2=0 then ⟨0,0,0,L,0,0,0⟩ else ⟨0,0,0,[],0,0,0⟩
def errNew (L:List Opt):Int:=if (Op.encR L).2=0 then 0 else 160
theorem new_any (A:Option Addr) (n c:Nat) (E:List Ent) (L:List Opt) (hL:E.map Ent.o=L) (w:World) (B:Nat) (hB:B≤w.heap.size) (hE:OptsAt w B A E) (hn:n=E.length) (hl:n≤1000000) (hd: ∀e∈E,e.d.length≤400000000):
  Calls Tryz.prog 11 #[.slice A n c] w fun x w'=> ∃v,x=.returned (.tuple #[v,.int .i64 (errNew L)])∧AutP (auNew L) w.heap.size w w' v:=by
 have HB:=hid hB
 have HE:=hid hE
 have HN:=hid hn
 have HL:=hid hL
 have HD:=hid hd
 clear hB hE hn hL hd
 obtain⟨⟨eb,ee⟩,henc⟩: ∃y,Op.encR L=y:=⟨_,rfl⟩
 have HENC:=hid henc
 clear henc
 by_cases hee:ee=0
 ·subst hee
  have HV1:=hid (show auNew L=⟨0,0,0,L,0,0,0⟩ by simp[auNew,HENC.out])
  have HV2:=hid (show errNew L=0 by simp[errNew,HENC.out])
  go_enter Tryz.func11,Tryz.ntmps11
  go_wp2_with (first|(go_at_call 45;refine(Op.enc_any A n c E _ B (by have:=HB.out;simp;omega) (by exact HE.out.keep (by have:=HB.out;exact bel)) HN.out).mono ?_;rw[HL.out];unfold Op.EncP;rw[HENC.out];rintro e w2 ⟨v,rfl,hb,-⟩;obtain⟨xs2,d2,rfl⟩:=ext_of hb;clear hb))
  refine(copied_any A n c E _ B (by have:=HB.out;simp[size_ext,grow];omega) (by exact HE.out.keep (by have:=HB.out;exact bel)) HN.out hl HD.out).mono ?_
  rintro e w1 ⟨E2,A2,c2,rfl,he,hn2,hc2,hb,ho⟩
  obtain⟨xs,d,rfl⟩:=ext_of hb
  have HE2:=hid he
  have HN2:=hid hn2
  have HC2:=hid hc2
  have HO:=hid ho
  clear hb ho he hn2 hc2
  go_wp2_with fail
  refine bodyPost_ret (v:=.tuple #[.agg #[.int .i64 0,.int .i64 0,.int .i64 0,.slice A2 n c2,.int .i64 0,.int .i64 0,.int .i64 0],.int .i64 0]) (by simp[results,Tryz.results11,go_sem]) rfl ⟨_,by rw[HV2.out],?_⟩
  rw[HV1.out]
  exact⟨E2,A2,n,c2,rfl,HE2.out.trans HL.out,HN2.out,HC2.out,by exact bel,OwnOpts.base (OwnOpts.swap HO.out (by simp[size_ext]) (by simp[size_ext])) (by simp[size_ext,grow];omega)⟩
 ·have hee2:(ee !=0)=true:=by simpa using hee
  have HV1:=hid (show auNew L=⟨0,0,0,[],0,0,0⟩ by simp[auNew,HENC.out,hee])
  have HV2:=hid (show errNew L=160 by simp[errNew,HENC.out,hee])
  go_enter Tryz.func11,Tryz.ntmps11
  go_wp2_with (first|(go_at_call 45;refine(Op.enc_any A n c E _ B (by have:=HB.out;simp;omega) (by exact HE.out.keep (by have:=HB.out;exact bel)) HN.out).mono ?_;rw[HL.out];unfold Op.EncP;rw[HENC.out];rintro e w2 ⟨v,rfl,hb,-⟩;obtain⟨xs2,d2,rfl⟩:=ext_of hb;clear hb))
  refine bodyPost_ret (v:=.tuple #[.agg #[.int .i64 0,.int .i64 0,.int .i64 0,.slice none 0 0,.int .i64 0,.int .i64 0,.int .i64 0],.int .i64 160]) (by simp[results,Tryz.results11,go_sem]) rfl ⟨_,by rw[HV2.out],?_⟩
  rw[HV1.out]
  exact⟨[],none,0,0,rfl,rfl,rfl,Nat.le_refl _,by exact bel,OwnOpts.nil _ _⟩
end Go.Proofs.YtfkgmbknfnhjoaaGreat
