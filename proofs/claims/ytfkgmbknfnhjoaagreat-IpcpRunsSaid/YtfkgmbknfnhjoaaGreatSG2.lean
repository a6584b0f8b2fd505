/- G2 -/
import Derived.Test.YtfkgmbknfnhjoaaGreatSA
import Derived.Test.YtfkgmbknfnhjoaaGreatSG1
import Derived.Deep.QuietTactic
import Derived.WalkSpells
set_option linter.all false
set_option maxHeartbeats 16000000
namespace Go.Proofs.YtfkgmbknfnhjoaaGreat.Fs
open Lib (hid)
open Go.RowKit
theorem TR (f:Fn) (w:World):(binOp .eql 139 (.func f #[] #[]) .nilFunc).run Tryz.prog w=.ok (.bool false) w:=by kernel_rfl
theorem NU (w:World):(binOp .eql 139 .nilFunc .nilFunc).run Tryz.prog w=.ok (.bool true) w:=by kernel_rfl
theorem Jd (w:World):Calls Tryz.prog 84 #[.int .i64 1] w fun e w'=>e=.returned (.func (.func 109) #[] #[])∧w=w':=by
 go_enter Tryz.func84,Tryz.ntmps84
 go_wp2
 go_ret
 exact⟨rfl,rfl⟩
theorem Je (w:World):Calls Tryz.prog 84 #[.int .i64 2] w fun e w'=>e=.returned (.func (.func 110) #[] #[])∧w=w':=by
 go_enter Tryz.func84,Tryz.ntmps84
 go_wp2
 go_ret
 exact⟨rfl,rfl⟩
theorem Jf (w:World):Calls Tryz.prog 84 #[.int .i64 3] w fun e w'=>e=.returned (.func (.func 111) #[] #[])∧w=w':=by
 go_enter Tryz.func84,Tryz.ntmps84
 go_wp2
 go_ret
 exact⟨rfl,rfl⟩
theorem Jg (w:World):Calls Tryz.prog 84 #[.int .i64 4] w fun e w'=>e=.returned (.func (.func 112) #[] #[])∧w=w':=by
 go_enter Tryz.func84,Tryz.ntmps84
 go_wp2
 go_ret
 exact⟨rfl,rfl⟩
theorem Jh (w:World):Calls Tryz.prog 84 #[.int .i64 5] w fun e w'=>e=.returned (.func (.func 113) #[] #[])∧w=w':=by
 go_enter Tryz.func84,Tryz.ntmps84
 go_wp2
 go_ret
 exact⟨rfl,rfl⟩
theorem Ji (w:World):Calls Tryz.prog 84 #[.int .i64 6] w fun e w'=>e=.returned (.func (.func 114) #[] #[])∧w=w':=by
 go_enter Tryz.func84,Tryz.ntmps84
 go_wp2
 go_ret
 exact⟨rfl,rfl⟩
theorem Jj (w:World):Calls Tryz.prog 84 #[.int .i64 7] w fun e w'=>e=.returned (.func (.func 115) #[] #[])∧w=w':=by
 go_enter Tryz.func84,Tryz.ntmps84
 go_wp2
 go_ret
 exact⟨rfl,rfl⟩
theorem Jk (w:World):Calls Tryz.prog 84 #[.int .i64 8] w fun e w'=>e=.returned (.func (.func 116) #[] #[])∧w=w':=by
 go_enter Tryz.func84,Tryz.ntmps84
 go_wp2
 go_ret
 exact⟨rfl,rfl⟩
theorem Jl (w:World):Calls Tryz.prog 84 #[.int .i64 9] w fun e w'=>e=.returned (.func (.func 117) #[] #[])∧w=w':=by
 go_enter Tryz.func84,Tryz.ntmps84
 go_wp2
 go_ret
 exact⟨rfl,rfl⟩
theorem Dn (w:World):Calls Tryz.prog 84 #[.int .i64 10] w fun e w'=>e=.returned (.func (.func 118) #[] #[])∧w=w':=by
 go_enter Tryz.func84,Tryz.ntmps84
 go_wp2
 go_ret
 exact⟨rfl,rfl⟩
theorem Dp (w:World):Calls Tryz.prog 84 #[.int .i64 11] w fun e w'=>e=.returned (.func (.func 119) #[] #[])∧w=w':=by
 go_enter Tryz.func84,Tryz.ntmps84
 go_wp2
 go_ret
 exact⟨rfl,rfl⟩
theorem Dq (w:World):Calls Tryz.prog 84 #[.int .i64 12] w fun e w'=>e=.returned (.func (.func 120) #[] #[])∧w=w':=by
 go_enter Tryz.func84,Tryz.ntmps84
 go_wp2
 go_ret
 exact⟨rfl,rfl⟩
theorem Dr (w:World):Calls Tryz.prog 84 #[.int .i64 13] w fun e w'=>e=.returned (.func (.func 121) #[] #[])∧w=w':=by
 go_enter Tryz.func84,Tryz.ntmps84
 go_wp2
 go_ret
 exact⟨rfl,rfl⟩
theorem Dt (w:World):Calls Tryz.prog 84 #[.int .i64 14] w fun e w'=>e=.returned (.func (.func 122) #[] #[])∧w=w':=by
 go_enter Tryz.func84,Tryz.ntmps84
 go_wp2
 go_ret
 exact⟨rfl,rfl⟩
theorem Du (w:World):Calls Tryz.prog 84 #[.int .i64 15] w fun e w'=>e=.returned (.func (.func 123) #[] #[])∧w=w':=by
 go_enter Tryz.func84,Tryz.ntmps84
 go_wp2
 go_ret
 exact⟨rfl,rfl⟩
theorem Dv (w:World):Calls Tryz.prog 84 #[.int .i64 16] w fun e w'=>e=.returned (.func (.func 124) #[] #[])∧w=w':=by
 go_enter Tryz.func84,Tryz.ntmps84
 go_wp2
 go_ret
 exact⟨rfl,rfl⟩
theorem Oy (s e:Int) (h1:1≤e) (h2:e≤16) (w:World):Calls Tryz.prog 51 #[.int .i64 s,.int .i64 e] w (iI s e w):=by
 have kf:=TR
 by_cases h0:0≤s
 focus
  by_cases h9:s≤9
 ·have HH:=hid (And.intro h0 h9)
  cases hok:bZ e s
  ·have H:=hid hok
   have HS:=hid (show bP s e=5 by simp[bP,jw,h0,h9,h1,h2,hok])
   clear hok
   rcases sixteen h1 h2 with rfl|rfl|rfl|rfl|rfl|rfl|rfl|rfl|rfl|rfl|rfl|rfl|rfl|rfl|rfl|rfl
   all_goals
    clear h1 h2
    go_enter Tryz.func51,Tryz.ntmps51
    go_wp2_with (first|(go_at_call 84;(first|(with_reducible refine(Jd _).mono ?_)|(with_reducible refine(Je _).mono ?_)|(with_reducible refine(Jf _).mono ?_)|(with_reducible refine(Jg _).mono ?_)|(with_reducible refine(Jh _).mono ?_)|(with_reducible refine(Ji _).mono ?_)|(with_reducible refine(Jj _).mono ?_)|(with_reducible refine(Jk _).mono ?_)|(with_reducible refine(Jl _).mono ?_)|(with_reducible refine(Dn _).mono ?_)|(with_reducible refine(Dp _).mono ?_)|(with_reducible refine(Dq _).mono ?_)|(with_reducible refine(Dr _).mono ?_)|(with_reducible refine(Dt _).mono ?_)|(with_reducible refine(Du _).mono ?_)|(with_reducible refine(Dv _).mono ?_));rintro e w1 ⟨rfl,rfl⟩)|(go_at_call 85;refine(oq _ _).mono ?_;rintro e w1 ⟨rfl,rfl⟩)|((first|(go_at_call 109;refine(Xo s _ HH.out.1 HH.out.2 H.out).mono ?_)|(go_at_call 110;refine(K5 s _ HH.out.1 HH.out.2 H.out).mono ?_)|(go_at_call 111;refine(N7 s _ HH.out.1 HH.out.2 H.out).mono ?_)|(go_at_call 112;refine(Ox s _ HH.out.1 HH.out.2 H.out).mono ?_)|(go_at_call 113;refine(G8 s _ HH.out.1 HH.out.2 H.out).mono ?_)|(go_at_call 114;refine(JQ s _ HH.out.1 HH.out.2 H.out).mono ?_)|(go_at_call 115;refine(K9 s _ HH.out.1 HH.out.2 H.out).mono ?_)|(go_at_call 116;refine(TI s _ HH.out.1 HH.out.2 H.out).mono ?_)|(go_at_call 117;refine(G5 s _ HH.out.1 HH.out.2 H.out).mono ?_)|(go_at_call 118;refine(Dk s _ HH.out.1 HH.out.2 H.out).mono ?_)|(go_at_call 119;refine(Ie s _ HH.out.1 HH.out.2 H.out).mono ?_)|(go_at_call 120;refine(N_ s _ HH.out.1 HH.out.2 H.out).mono ?_)|(go_at_call 121;refine(DI s _ HH.out.1 HH.out.2 H.out).mono ?_)|(go_at_call 122;refine(IV s _ HH.out.1 HH.out.2 H.out).mono ?_)|(go_at_call 123;refine(IL s _ HH.out.1 HH.out.2 H.out).mono ?_)|(go_at_call 124;refine(K6 s _ HH.out.1 HH.out.2 H.out).mono ?_));rintro e w1 ⟨A,n,c,y,rfl,hb⟩;obtain⟨xs,d,rfl⟩:=aB hb;clear hb))
    go_ret3
    exact⟨.slice none 0 0,by rw[HS.out,(gV H.out).1];rfl,aA,by rw[(gV H.out).2];exact aN _ _ _ _⟩
  ·have H:=hid hok
   have HS:=hid (show bP s e=0 by simp[bP,jw,h0,h9,h1,h2,hok])
   clear hok
   rcases sixteen h1 h2 with rfl|rfl|rfl|rfl|rfl|rfl|rfl|rfl|rfl|rfl|rfl|rfl|rfl|rfl|rfl|rfl
   all_goals
    clear h1 h2
    go_enter Tryz.func51,Tryz.ntmps51
    go_wp2_with (first|(go_at_call 84;(first|(with_reducible refine(Jd _).mono ?_)|(with_reducible refine(Je _).mono ?_)|(with_reducible refine(Jf _).mono ?_)|(with_reducible refine(Jg _).mono ?_)|(with_reducible refine(Jh _).mono ?_)|(with_reducible refine(Ji _).mono ?_)|(with_reducible refine(Jj _).mono ?_)|(with_reducible refine(Jk _).mono ?_)|(with_reducible refine(Jl _).mono ?_)|(with_reducible refine(Dn _).mono ?_)|(with_reducible refine(Dp _).mono ?_)|(with_reducible refine(Dq _).mono ?_)|(with_reducible refine(Dr _).mono ?_)|(with_reducible refine(Dt _).mono ?_)|(with_reducible refine(Du _).mono ?_)|(with_reducible refine(Dv _).mono ?_));rintro e w1 ⟨rfl,rfl⟩)|(go_at_call 85;refine(oq _ _).mono ?_;rintro e w1 ⟨rfl,rfl⟩)|((first|(go_at_call 109;refine(UU s _ H.out).mono ?_)|(go_at_call 110;refine(Hw s _ H.out).mono ?_)|(go_at_call 111;refine(IZ s _ H.out).mono ?_)|(go_at_call 112;refine(JK s _ H.out).mono ?_)|(go_at_call 113;refine(EC s _ H.out).mono ?_)|(go_at_call 114;refine(Gc s _ H.out).mono ?_)|(go_at_call 115;refine(Im s _ H.out).mono ?_)|(go_at_call 116;refine(KX s _ H.out).mono ?_)|(go_at_call 117;refine(EB s _ H.out).mono ?_)|(go_at_call 118;refine(AY s _ H.out).mono ?_)|(go_at_call 119;refine(EU s _ H.out).mono ?_)|(go_at_call 120;refine(I4 s _ H.out).mono ?_)|(go_at_call 121;refine(Br s _ H.out).mono ?_)|(go_at_call 122;refine(Fz s _ H.out).mono ?_)|(go_at_call 123;refine(Fx s _ H.out).mono ?_)|(go_at_call 124;refine(Ib s _ H.out).mono ?_));rintro e w1 ⟨v,rfl,hb,ho⟩;obtain⟨xs,d,rfl⟩:=aB hb;clear hb;obtain⟨A,c,rfl,-,-⟩:=ownsRow_form ho;have HA:=hid ho;clear ho))
    go_quiet (fail)
    go_wp2
    go_ret3
    exact⟨_,by rw[HS.out];rfl,aA,own_below HA.out aA⟩
 focus
  have hn:decide (s≤9)=false:=by simpa using h9
  have HS:=hid (show bP s e=140∧bZ e s=false from ⟨by simp[bP,jw,h9],mg (by simp[jw,h9])⟩)
  clear h9
 rotate_left
 focus
  have hn:decide (0≤s)=false:=by simpa using h0
  have HS:=hid (show bP s e=140∧bZ e s=false from ⟨by simp[bP,jw,h0],mg (by simp[jw,h0])⟩)
  clear h0
 rotate_left
 all_goals
  rcases sixteen h1 h2 with rfl|rfl|rfl|rfl|rfl|rfl|rfl|rfl|rfl|rfl|rfl|rfl|rfl|rfl|rfl|rfl
  all_goals
   clear h1 h2
   go_enter Tryz.func51,Tryz.ntmps51
   go_wp2_with ((first|(go_at_call 84;(first|(with_reducible refine(Jd _).mono ?_)|(with_reducible refine(Je _).mono ?_)|(with_reducible refine(Jf _).mono ?_)|(with_reducible refine(Jg _).mono ?_)|(with_reducible refine(Jh _).mono ?_)|(with_reducible refine(Ji _).mono ?_)|(with_reducible refine(Jj _).mono ?_)|(with_reducible refine(Jk _).mono ?_)|(with_reducible refine(Jl _).mono ?_)|(with_reducible refine(Dn _).mono ?_)|(with_reducible refine(Dp _).mono ?_)|(with_reducible refine(Dq _).mono ?_)|(with_reducible refine(Dr _).mono ?_)|(with_reducible refine(Dt _).mono ?_)|(with_reducible refine(Du _).mono ?_)|(with_reducible refine(Dv _).mono ?_)))|(go_at_call 85;refine(oq _ _).mono ?_));rintro e w1 ⟨rfl,rfl⟩)
   go_ret3
   exact⟨.slice none 0 0,by rw[HS.out.1,(gV HS.out.2).1];rfl,aA,by rw[(gV HS.out.2).2];exact aN _ _ _ _⟩
theorem Ot (e:Int) (w:World) (h:e<1∨16<e):Calls Tryz.prog 84 #[.int .i64 e] w fun x w'=>x=.returned .nilFunc∧w=w':=by
 have k1:(e==1)=false:=by simp;omega
 have k2:(e==2)=false:=by simp;omega
 have k3:(e==3)=false:=by simp;omega
 have k4:(e==4)=false:=by simp;omega
 have k5:(e==5)=false:=by simp;omega
 have k6:(e==6)=false:=by simp;omega
 have k7:(e==7)=false:=by simp;omega
 have k8:(e==8)=false:=by simp;omega
 have k9:(e==9)=false:=by simp;omega
 have k10:(e==10)=false:=by simp;omega
 have k11:(e==11)=false:=by simp;omega
 have k12:(e==12)=false:=by simp;omega
 have k13:(e==13)=false:=by simp;omega
 have k14:(e==14)=false:=by simp;omega
 have k15:(e==15)=false:=by simp;omega
 have k16:(e==16)=false:=by simp;omega
 clear h
 go_enter Tryz.func84,Tryz.ntmps84
 go_wp2
 go_ret
 exact⟨rfl,rfl⟩
theorem JM (s e:Int) (w:World) (h:e<1∨16<e):Calls Tryz.prog 51 #[.int .i64 s,.int .i64 e] w (iI s e w):=by
 have HS:=hid (show bP s e=140∧bZ e s=false from ⟨by simp[bP,jw];intros;omega,mg (by simp[jw];omega)⟩)
 have HE:=hid h
 clear h
 have kf:=NU
 cases hk:(decide (0≤s)&&decide (s≤9))
 all_goals
  go_enter Tryz.func51,Tryz.ntmps51
  go_wp2_with ((first|(go_at_call 84;refine(Ot e _ HE.out).mono ?_)|(go_at_call 85;refine(oq _ _).mono ?_));rintro e w1 ⟨rfl,rfl⟩)
  go_ret3
  exact⟨.slice none 0 0,by rw[HS.out.1,(gV HS.out.2).1];rfl,by exact aA,by rw[(gV HS.out.2).2];exact aN _ _ _ _⟩
theorem qJ (s e:Int) (w:World):Calls Tryz.prog 51 #[.int .i64 s,.int .i64 e] w (iI s e w):=by
 by_cases h:1≤e∧e≤16
 ·exact Oy s e h.1 h.2 w
 ·exact JM s e w (by omega)
theorem _root_.Go.Proofs.YtfkgmbknfnhjoaaGreat.At.cellAt {w:World} {B:Nat} {A:Option Addr} {l:List Int} (h:At w B A (l.map av)) {k:Nat} (hk:k<l.length): ∃b o,A=some ⟨b,o,none⟩∧b<B:=by
 obtain⟨b,o,e,hb,_⟩:=h.get (by simp;omega)
 exact⟨b,o,e,hb⟩
theorem _root_.Go.Proofs.YtfkgmbknfnhjoaaGreat.At.rP {w:World} {B:Nat} {b o:Nat} {l:List Int} (h:At w B (some ⟨b,o,none⟩) (l.map av)) {k:Nat} (hk:k<l.length): ∃x,l.getD k 0=x∧w.cell? ⟨b,o+k,none⟩=some (.int .i64 x):=by
 refine⟨_,rfl,?_⟩
 obtain⟨b',o',e,hb,hc⟩:=h.get (by simp;omega)
 cases e
 exact hc k _ (by rw[List.getElem?_map,List.getElem?_eq_getElem hk];simp[List.getD_eq_getElem?_getD,List.getElem?_eq_getElem hk];rfl)
def hasB (l:List Int) (a:Int):Bool:=l.contains a
theorem w_ {l:List Int} {k:Nat} {a:Int} (hk:k<l.length) (h:hasB (l.take k) a=false) (hne:(l.getD k 0==a)=false):hasB (l.take (k+1)) a=false:=by
 unfold hasB at*
 rw[List.take_succ_eq_append_getElem hk]
 have e:l.getD k 0=l[k]:=by simp[List.getD_eq_getElem?_getD,List.getElem?_eq_getElem hk]
 rw[e] at hne
 simp only[List.contains_eq_mem,List.mem_append,decide_eq_false_iff_not,not_or] at*
 refine⟨h,?_⟩
 simp only[List.mem_singleton]
 intro c
 rw[c] at hne;simp at hne
theorem DY {l:List Int} {k:Nat} {a:Int} (hk:k<l.length) (he:(l.getD k 0==a)=true):hasB l a=true:=by
 have e:l.getD k 0=l[k]:=by simp[List.getD_eq_getElem?_getD,List.getElem?_eq_getElem hk]
 rw[e] at he
 have:l[k]=a:=by simpa using he
 unfold hasB
 rw[←this];simp
theorem La (A:Option Addr) (n c:Nat) (l:List Int) (a:Int) (w:World) (B:Nat) (hA:At w B A (l.map av)) (hn:n=l.length) (hl:n≤1000000000):
  Calls Tryz.prog 90 #[.slice A n c,.int .i64 a] w fun e w'=>e=.returned (.bool (hasB l a))∧w=w':=by
 subst hn
 have HA:=hid hA
 clear hA
 go_enter Tryz.func90,Tryz.ntmps90
 go_wp2
 go_loop [5] (fun i=> ∃k:Nat,k≤l.length∧i=.int .i64 k∧hasB (l.take k) a=false) (fun i=>l.length-(intOf i).toNat)
 case atStart=>exact⟨0,Nat.zero_le _,rfl,by simp[hasB]⟩
 case round=>
  obtain⟨k,hk,rfl,hh⟩:=hrel
  have HH:=hid hh
  clear hh
  by_cases hlt:k<l.length
  ·obtain⟨b,o,rfl,-⟩:=HA.out.cellAt hlt
   obtain⟨x,hx,hc⟩:=HA.out.rP hlt
   have HX:=hid hx
   clear hx
   cases he:(x==a)
   ·have HE:=hid (show(l.getD k 0==a)=false by rw[HX.out];exact he)
    go_wp2
    go_round
    case rel=>exact⟨k+1,by omega,by go_num,w_ hlt HH.out HE.out⟩
    case measure=>simp[intOf];omega
   ·have HE:=hid (show(l.getD k 0==a)=true by rw[HX.out];exact he)
    go_wp2
    go_ret
    exact⟨by rw[DY hlt HE.out];rfl,rfl⟩
  ·have HL:=hid (show hasB l a=false by have:=HH.out;rwa [List.take_of_length_le (by omega)] at this)
   go_wp2
   go_ret
   exact⟨by rw[HL.out];rfl,rfl⟩
theorem Bg (A1 A2:Option Addr) (n m c1 c2:Nat) (l:List Int) (w:World) (B:Nat) (hB:B≤w.heap.size) (h1:At w B A1 (l.map av)) (h2:At w B A2 (l.map av)) (hn:n=l.length) (hm:m=l.length) (hl:n≤1000000000):
  Calls Tryz.prog 23 #[.slice A1 n c1,.slice A2 m c2] w fun e w'=>e=.returned (.bool true)∧Below w.heap.size w w':=by
 subst hm
 subst hn
 have H1:=hid h1
 have H2:=hid h2
 clear h1 h2
 go_enter Tryz.func23,Tryz.ntmps23
 go_wp2
 go_loopw [5] (fun i wr=> ∃k:Nat,k≤l.length∧i=.int .i64 k∧ ∃n,wr=w.drewN n) (fun i _=>l.length-(intOf i).toNat)
 case atStart=>exact⟨0,Nat.zero_le _,rfl,0,rfl⟩
 case round=>
  obtain⟨k,hk,rfl,d,rfl⟩:=hrel
  by_cases hlt:k<l.length
  ·obtain⟨b1,o1,rfl,-⟩:=H1.out.cellAt hlt
   obtain⟨b2,o2,rfl,-⟩:=H2.out.cellAt hlt
   obtain⟨x,hx,hc1⟩:=H1.out.rP hlt
   obtain⟨y,hy,hc2⟩:=H2.out.rP hlt
   obtain rfl:x=y:=hx.symm.trans hy
   clear hx hy
   go_wp2
   go_quiet (fail)
   go_wp2
   go_roundw
   case rel=>exact⟨k+1,by omega,by go_num,_,rfl⟩
   case measure=>simp[intOf];omega
  ·go_wp2
   go_ret
   exact⟨rfl,by exact aA⟩
def sv (l:List UInt8):Value:=.string ⟨l.toArray⟩
theorem _root_.Go.Proofs.YtfkgmbknfnhjoaaGreat.At.SS {w:World} {B:Nat} {A:Option Addr} {l:List (List UInt8)} (h:At w B A (l.map sv)) {k:Nat} (hk:k<l.length): ∃b o x,A=some ⟨b,o,none⟩∧l.getD k []=x∧w.cell? ⟨b,o+k,none⟩=some (.string ⟨x.toArray⟩):=by
 obtain⟨b,o,e,hb,hc⟩:=h.get (by simp;omega)
 refine⟨b,o,_,e,rfl,hc k _ ?_⟩
 rw[List.getElem?_map,List.getElem?_eq_getElem hk];simp[List.getD_eq_getElem?_getD,List.getElem?_eq_getElem hk];rfl
def Strs (w:World) (l:List (List UInt8)) (x:Ending) (w':World):Prop:= ∃A,x=.returned (.slice A l.length l.length)∧Below w.heap.size w w'∧At w' w'.heap.size A (l.map sv)
theorem zU (w:World):Calls Tryz.prog 135 #[] w (Strs w BZ):=by
 go_enter Tryz.func135,Tryz.ntmps135
 go_wp2
 go_ret
 exact⟨_,rfl,by exact aA,At.bq (eO (base:=0) (size:=1) (e:=9) (n:=14) (by(repeat(first|((refine aF _ _ _ ?_);(simp[go_sem];done))|((refine(aO _ _ _ _ ?_).trans ?_);(focus (simp[go_sem];done)))|((refine(aC _ _ _ ?_).trans ?_);(focus (simp[go_sem];done)))))) (Nat.zero_le _) (by decide) rfl rfl)⟩
def firstAt (k:Int):List (List UInt8)→List UInt8→Int
 |[],_=>0
 |x::xs,l=>if x=l then k else firstAt (k+1) xs l
theorem qz {L:List (List UInt8)} {k:Nat} {x l:List UInt8} (hk:k<L.length) (hx:L.getD k []=x):firstAt k (L.drop k) l=if x=l then(k:Int) else firstAt ((k+1:Nat):Int) (L.drop (k+1)) l:=by
 rw[List.drop_eq_getElem_cons hk]
 have e:L[k]=x:=by rw[←hx];simp[List.getD_eq_getElem?_getD,List.getElem?_eq_getElem hk]
 rw[e,firstAt];rfl
def jL (l:List UInt8):Int:=firstAt 1 (BZ.drop 1) l
theorem B_ (l:List UInt8) (w:World):Calls Tryz.prog 89 #[.string ⟨l.toArray⟩] w fun e w'=>e=.returned (.int .i64 (jL l))∧Below w.heap.size w w':=by
 go_enter Tryz.func89,Tryz.ntmps89
 go_wp2_with (go_at_call 135;refine(zU _).mono ?_;rintro e w1 ⟨A,rfl,hb,hA⟩;obtain⟨xs,d,rfl⟩:=aB hb;clear hb;have HA:=hid hA;clear hA)
 obtain⟨wz,hwz⟩: ∃wz,wz=ext w xs d:=⟨_,rfl⟩
 rw[←hwz] at HA ⊢
 have V7:=hid hwz
 clear hwz
 go_loop [4] (fun i=> ∃k:Nat,1≤k∧k≤BZ.length∧i=.int .i64 k∧firstAt k (BZ.drop k) l=jL l) (fun i=>BZ.length-(intOf i).toNat)
 case atStart=>exact⟨1,by decide,by decide,rfl,rfl⟩
 case round=>
  obtain⟨k,hk1,hk,rfl,hh⟩:=hrel
  have HH:=hid hh
  clear hh
  by_cases hlt:k<BZ.length
  ·obtain⟨b,o,x,rfl,hx,hc⟩:=HA.out.SS hlt
   have HX:=hid hx
   clear hx
   have XH:k<14:=hlt
   cases he:(x==l)
   ·have HE:=hid (show firstAt ((k+1:Nat):Int) (BZ.drop (k+1)) l=jL l by have:=qz (l:=l) hlt HX.out;rw[if_neg (by simpa using he)] at this;rw[←this];exact HH.out)
    go_wp2
    go_round
    case rel=>exact⟨k+1,by omega,by omega,by go_num,HE.out⟩
    case measure=>simp[intOf];omega
   ·have HE:=hid (show jL l=(k:Int) by have:=qz (l:=l) hlt HX.out;rw[if_pos (by simpa using he)] at this;rw[←this];exact HH.out.symm)
    go_wp2
    go_ret
    exact⟨by rw[HE.out];rfl,by have hwz:=V7.out;subst hwz;exact aA⟩
  ·have HE:=hid (show jL l=0 by have:=HH.out;rw[List.drop_eq_nil_of_le (by omega)] at this;exact this.symm)
   go_wp2
   go_ret
   exact⟨by rw[HE.out];rfl,by have hwz:=V7.out;subst hwz;exact aA⟩
def rowOf (e:Int):List (List UInt8):=Z4.getD (e.toNat-1) []
theorem Jm (w:World):Calls Tryz.prog 88 #[.int .i64 1] w (Strs w (rowOf 1)):=by
 go_enter Tryz.func88,Tryz.ntmps88
 go_wp2
 go_ret
 exact⟨_,rfl,by exact aA,At.bq (eO (base:=0) (size:=1) (e:=9) (n:=10) (by(repeat(first|((refine aF _ _ _ ?_);(simp[go_sem];done))|((refine(aO _ _ _ _ ?_).trans ?_);(focus (simp[go_sem];done)))|((refine(aC _ _ _ ?_).trans ?_);(focus (simp[go_sem];done)))))) (Nat.zero_le _) (by decide) rfl rfl)⟩
theorem Jo (w:World):Calls Tryz.prog 88 #[.int .i64 2] w (Strs w (rowOf 2)):=by
 go_enter Tryz.func88,Tryz.ntmps88
 go_wp2
 go_ret
 exact⟨_,rfl,by exact aA,At.bq (eO (base:=0) (size:=1) (e:=9) (n:=10) (by(repeat(first|((refine aF _ _ _ ?_);(simp[go_sem];done))|((refine(aO _ _ _ _ ?_).trans ?_);(focus (simp[go_sem];done)))|((refine(aC _ _ _ ?_).trans ?_);(focus (simp[go_sem];done)))))) (Nat.zero_le _) (by decide) rfl rfl)⟩
theorem Jp (w:World):Calls Tryz.prog 88 #[.int .i64 3] w (Strs w (rowOf 3)):=by
 go_enter Tryz.func88,Tryz.ntmps88
 go_wp2
 go_ret
 exact⟨_,rfl,by exact aA,At.bq (eO (base:=0) (size:=1) (e:=9) (n:=10) (by(repeat(first|((refine aF _ _ _ ?_);(simp[go_sem];done))|((refine(aO _ _ _ _ ?_).trans ?_);(focus (simp[go_sem];done)))|((refine(aC _ _ _ ?_).trans ?_);(focus (simp[go_sem];done)))))) (Nat.zero_le _) (by decide) rfl rfl)⟩
theorem Jq (w:World):Calls Tryz.prog 88 #[.int .i64 4] w (Strs w (rowOf 4)):=by
 go_enter Tryz.func88,Tryz.ntmps88
 go_wp2
 go_ret
 exact⟨_,rfl,by exact aA,At.bq (eO (base:=0) (size:=1) (e:=9) (n:=10) (by(repeat(first|((refine aF _ _ _ ?_);(simp[go_sem];done))|((refine(aO _ _ _ _ ?_).trans ?_);(focus (simp[go_sem];done)))|((refine(aC _ _ _ ?_).trans ?_);(focus (simp[go_sem];done)))))) (Nat.zero_le _) (by decide) rfl rfl)⟩
theorem Jr (w:World):Calls Tryz.prog 88 #[.int .i64 5] w (Strs w (rowOf 5)):=by
 go_enter Tryz.func88,Tryz.ntmps88
 go_wp2
 go_ret
 exact⟨_,rfl,by exact aA,At.bq (eO (base:=0) (size:=1) (e:=9) (n:=10) (by(repeat(first|((refine aF _ _ _ ?_);(simp[go_sem];done))|((refine(aO _ _ _ _ ?_).trans ?_);(focus (simp[go_sem];done)))|((refine(aC _ _ _ ?_).trans ?_);(focus (simp[go_sem];done)))))) (Nat.zero_le _) (by decide) rfl rfl)⟩
theorem Js (w:World):Calls Tryz.prog 88 #[.int .i64 6] w (Strs w (rowOf 6)):=by
 go_enter Tryz.func88,Tryz.ntmps88
 go_wp2
 go_ret
 exact⟨_,rfl,by exact aA,At.bq (eO (base:=0) (size:=1) (e:=9) (n:=10) (by(repeat(first|((refine aF _ _ _ ?_);(simp[go_sem];done))|((refine(aO _ _ _ _ ?_).trans ?_);(focus (simp[go_sem];done)))|((refine(aC _ _ _ ?_).trans ?_);(focus (simp[go_sem];done)))))) (Nat.zero_le _) (by decide) rfl rfl)⟩
theorem Jt (w:World):Calls Tryz.prog 88 #[.int .i64 7] w (Strs w (rowOf 7)):=by
 go_enter Tryz.func88,Tryz.ntmps88
 go_wp2
 go_ret
 exact⟨_,rfl,by exact aA,At.bq (eO (base:=0) (size:=1) (e:=9) (n:=10) (by(repeat(first|((refine aF _ _ _ ?_);(simp[go_sem];done))|((refine(aO _ _ _ _ ?_).trans ?_);(focus (simp[go_sem];done)))|((refine(aC _ _ _ ?_).trans ?_);(focus (simp[go_sem];done)))))) (Nat.zero_le _) (by decide) rfl rfl)⟩
theorem Ju (w:World):Calls Tryz.prog 88 #[.int .i64 8] w (Strs w (rowOf 8)):=by
 go_enter Tryz.func88,Tryz.ntmps88
 go_wp2
 go_ret
 exact⟨_,rfl,by exact aA,At.bq (eO (base:=0) (size:=1) (e:=9) (n:=10) (by(repeat(first|((refine aF _ _ _ ?_);(simp[go_sem];done))|((refine(aO _ _ _ _ ?_).trans ?_);(focus (simp[go_sem];done)))|((refine(aC _ _ _ ?_).trans ?_);(focus (simp[go_sem];done)))))) (Nat.zero_le _) (by decide) rfl rfl)⟩
theorem Jv (w:World):Calls Tryz.prog 88 #[.int .i64 9] w (Strs w (rowOf 9)):=by
 go_enter Tryz.func88,Tryz.ntmps88
 go_wp2
 go_ret
 exact⟨_,rfl,by exact aA,At.bq (eO (base:=0) (size:=1) (e:=9) (n:=10) (by(repeat(first|((refine aF _ _ _ ?_);(simp[go_sem];done))|((refine(aO _ _ _ _ ?_).trans ?_);(focus (simp[go_sem];done)))|((refine(aC _ _ _ ?_).trans ?_);(focus (simp[go_sem];done)))))) (Nat.zero_le _) (by decide) rfl rfl)⟩
theorem FP (w:World):Calls Tryz.prog 88 #[.int .i64 10] w (Strs w (rowOf 10)):=by
 go_enter Tryz.func88,Tryz.ntmps88
 go_wp2
 go_ret
 exact⟨_,rfl,by exact aA,At.bq (eO (base:=0) (size:=1) (e:=9) (n:=10) (by(repeat(first|((refine aF _ _ _ ?_);(simp[go_sem];done))|((refine(aO _ _ _ _ ?_).trans ?_);(focus (simp[go_sem];done)))|((refine(aC _ _ _ ?_).trans ?_);(focus (simp[go_sem];done)))))) (Nat.zero_le _) (by decide) rfl rfl)⟩
theorem FQ (w:World):Calls Tryz.prog 88 #[.int .i64 11] w (Strs w (rowOf 11)):=by
 go_enter Tryz.func88,Tryz.ntmps88
 go_wp2
 go_ret
 exact⟨_,rfl,by exact aA,At.bq (eO (base:=0) (size:=1) (e:=9) (n:=10) (by(repeat(first|((refine aF _ _ _ ?_);(simp[go_sem];done))|((refine(aO _ _ _ _ ?_).trans ?_);(focus (simp[go_sem];done)))|((refine(aC _ _ _ ?_).trans ?_);(focus (simp[go_sem];done)))))) (Nat.zero_le _) (by decide) rfl rfl)⟩
theorem FR (w:World):Calls Tryz.prog 88 #[.int .i64 12] w (Strs w (rowOf 12)):=by
 go_enter Tryz.func88,Tryz.ntmps88
 go_wp2
 go_ret
 exact⟨_,rfl,by exact aA,At.bq (eO (base:=0) (size:=1) (e:=9) (n:=10) (by(repeat(first|((refine aF _ _ _ ?_);(simp[go_sem];done))|((refine(aO _ _ _ _ ?_).trans ?_);(focus (simp[go_sem];done)))|((refine(aC _ _ _ ?_).trans ?_);(focus (simp[go_sem];done)))))) (Nat.zero_le _) (by decide) rfl rfl)⟩
theorem FT (w:World):Calls Tryz.prog 88 #[.int .i64 13] w (Strs w (rowOf 13)):=by
 go_enter Tryz.func88,Tryz.ntmps88
 go_wp2
 go_ret
 exact⟨_,rfl,by exact aA,At.bq (eO (base:=0) (size:=1) (e:=9) (n:=10) (by(repeat(first|((refine aF _ _ _ ?_);(simp[go_sem];done))|((refine(aO _ _ _ _ ?_).trans ?_);(focus (simp[go_sem];done)))|((refine(aC _ _ _ ?_).trans ?_);(focus (simp[go_sem];done)))))) (Nat.zero_le _) (by decide) rfl rfl)⟩
theorem FU (w:World):Calls Tryz.prog 88 #[.int .i64 14] w (Strs w (rowOf 14)):=by
 go_enter Tryz.func88,Tryz.ntmps88
 go_wp2
 go_ret
 exact⟨_,rfl,by exact aA,At.bq (eO (base:=0) (size:=1) (e:=9) (n:=10) (by(repeat(first|((refine aF _ _ _ ?_);(simp[go_sem];done))|((refine(aO _ _ _ _ ?_).trans ?_);(focus (simp[go_sem];done)))|((refine(aC _ _ _ ?_).trans ?_);(focus (simp[go_sem];done)))))) (Nat.zero_le _) (by decide) rfl rfl)⟩
theorem FV (w:World):Calls Tryz.prog 88 #[.int .i64 15] w (Strs w (rowOf 15)):=by
 go_enter Tryz.func88,Tryz.ntmps88
 go_wp2
 go_ret
 exact⟨_,rfl,by exact aA,At.bq (eO (base:=0) (size:=1) (e:=9) (n:=10) (by(repeat(first|((refine aF _ _ _ ?_);(simp[go_sem];done))|((refine(aO _ _ _ _ ?_).trans ?_);(focus (simp[go_sem];done)))|((refine(aC _ _ _ ?_).trans ?_);(focus (simp[go_sem];done)))))) (Nat.zero_le _) (by decide) rfl rfl)⟩
theorem FW (w:World):Calls Tryz.prog 88 #[.int .i64 16] w (Strs w (rowOf 16)):=by
 go_enter Tryz.func88,Tryz.ntmps88
 go_wp2
 go_ret
 exact⟨_,rfl,by exact aA,At.bq (eO (base:=0) (size:=1) (e:=9) (n:=10) (by(repeat(first|((refine aF _ _ _ ?_);(simp[go_sem];done))|((refine(aO _ _ _ _ ?_).trans ?_);(focus (simp[go_sem];done)))|((refine(aC _ _ _ ?_).trans ?_);(focus (simp[go_sem];done)))))) (Nat.zero_le _) (by decide) rfl rfl)⟩
theorem vE (e:Int) (w:World) (h:e<1∨16<e):Calls Tryz.prog 88 #[.int .i64 e] w fun x w'=>x=.returned (.slice none 0 0)∧w=w':=by
 have k1:(e==1)=false:=by simp;omega
 have k2:(e==2)=false:=by simp;omega
 have k3:(e==3)=false:=by simp;omega
 have k4:(e==4)=false:=by simp;omega
 have k5:(e==5)=false:=by simp;omega
 have k6:(e==6)=false:=by simp;omega
 have k7:(e==7)=false:=by simp;omega
 have k8:(e==8)=false:=by simp;omega
 have k9:(e==9)=false:=by simp;omega
 have k10:(e==10)=false:=by simp;omega
 have k11:(e==11)=false:=by simp;omega
 have k12:(e==12)=false:=by simp;omega
 have k13:(e==13)=false:=by simp;omega
 have k14:(e==14)=false:=by simp;omega
 have k15:(e==15)=false:=by simp;omega
 have k16:(e==16)=false:=by simp;omega
 clear h
 go_enter Tryz.func88,Tryz.ntmps88
 go_wp2
 go_ret
 exact⟨rfl,rfl⟩
theorem FX (e:Int) (w:World) (h1:1≤e) (h2:e≤16):Calls Tryz.prog 88 #[.int .i64 e] w (Strs w (rowOf e)):=by
 rcases sixteen h1 h2 with rfl|rfl|rfl|rfl|rfl|rfl|rfl|rfl|rfl|rfl|rfl|rfl|rfl|rfl|rfl|rfl
 ·exact Jm w
 ·exact Jo w
 ·exact Jp w
 ·exact Jq w
 ·exact Jr w
 ·exact Js w
 ·exact Jt w
 ·exact Ju w
 ·exact Jv w
 ·exact FP w
 ·exact FQ w
 ·exact FR w
 ·exact FT w
 ·exact FU w
 ·exact FV w
 ·exact FW w
theorem xH (e:Int) (h1:1≤e) (h2:e≤16):(rowOf e).length=10:=by
 rcases sixteen h1 h2 with rfl|rfl|rfl|rfl|rfl|rfl|rfl|rfl|rfl|rfl|rfl|rfl|rfl|rfl|rfl|rfl<;>rfl
def jh (l:List UInt8) (k:Nat):List Int:=(List.range k).map fun j=>jL ((l.drop (4*j)).take 3)
def cellOf (e s:Int):List UInt8:=(rowOf e).getD s.toNat []
theorem Hl (e s:Int) (h1:1≤e) (h2:e≤16) (h3:0≤s) (h4:s≤9):
  bZ e s= !(cellOf e s==[45])∧(cellOf e s).length≤20∧1≤(cellOf e s).length∧(bZ e s=true→jh (cellOf e s) ((cellOf e s).length / 4)=aT e s∧((cellOf e s).getD ((cellOf e s).length-1) 0).toNat=48+(aZ e s).toNat∧0≤aZ e s∧aZ e s≤9):=by
 rcases sixteen h1 h2 with rfl|rfl|rfl|rfl|rfl|rfl|rfl|rfl|rfl|rfl|rfl|rfl|rfl|rfl|rfl|rfl<;>rcases ten h3 h4 with rfl|rfl|rfl|rfl|rfl|rfl|rfl|rfl|rfl|rfl<;>decide
theorem Lj:(Tryz.prog.info? 104).map (fun i=>(i.zero,i.size,i.bytes))=some (some (.int .i64 0),1,8):=by kernel_rfl
theorem vF (e:Int) (w:World) (h1:1≤e) (h2:e≤16):Calls Tryz.prog 88 #[.int .i64 e] w fun x w'=> ∃A,x=.returned (.slice A 10 10)∧Below w.heap.size w w'∧At w' w'.heap.size A ((rowOf e).map sv):=
 (FX e w h1 h2).mono fun x w' ⟨A,hx,h⟩=>⟨A,by rw[xH e h1 h2] at hx;exact hx,h⟩
theorem Y5 (x:List UInt8) (a b:Nat):(⟨x.toArray⟩:ByteArray).extract a b=⟨((x.drop a).take (b-a)).toArray⟩:=by
 apply ByteArray.ext
 rw[ByteArray.data_extract]
 apply Array.ext'
 simp[List.extract_eq_take_drop]
theorem Hg (x:List UInt8) (i:Nat) (h:i<(⟨x.toArray⟩:ByteArray).size):(⟨x.toArray⟩:ByteArray)[i]=x.getD i 0:=by
 have h':i<x.length:=by simpa[ByteArray.size] using h
 rw[List.getD_eq_getElem?_getD,List.getElem?_eq_getElem h']
 rfl
theorem trip {a b c a' b' c':Value} (h1:a=a') (h2:b=b') (h3:c=c'):Ending.returned (.tuple #[a,b,c])=.returned (.tuple #[a',b',c']):=by rw[h1,h2,h3]
theorem vX (x:List UInt8) (k:Nat):(jh x (k+1)).map av=(jh x k).map av++[av (jL ((x.drop (4*k)).take 3))]:=by
 unfold jh;rw[List.range_succ];simp
theorem DF (n:Nat) (e:Int) (w:World) (h1:1≤e) (h2:e≤16) (hn:n≤9):Calls Tryz.prog 55 #[.int .i64 n,.int .i64 e] w (iI n e w):=by
 have HE:=hid (And.intro h1 h2)
 have HT:=hid (Hl e n h1 h2 (by omega) (by omega))
 have tC:=hid (show bP n e=if bZ e n=true then 0 else 5 by unfold bP;rw[if_pos (by simp[jw];omega)])
 clear h1 h2
 go_enter Tryz.func55,Tryz.ntmps55
 go_wp2_with fail
 refine(vF e _ HE.out.1 HE.out.2).mono ?_
 rintro e' w1 ⟨A,rfl,hb,hA⟩;obtain⟨xs,d,rfl⟩:=aB hb;clear hb
 obtain⟨b,o,x,rfl,hx,hc⟩:=hA.SS (k:=n) (by rw[xH e HE.out.1 HE.out.2];omega)
 clear hA
 have HX:=hid (show cellOf e n=x from hx)
 clear hx
 have hlen:x.length≤20∧1≤x.length:=by have:=HT.out;rw[HX.out] at this;omega
 obtain⟨hl1,hl2⟩:=hlen
 obtain⟨wz,hwz⟩: ∃wz,wz=ext w xs d:=⟨_,rfl⟩
 rw[←hwz] at hc ⊢
 have V7:=hid (show Below w.heap.size w wz by subst hwz;exact aA)
 clear hwz
 cases hd:(x==[45])
 ·have HD:=hid (show bZ e n=true by have:=HT.out.1;rw[HX.out,hd] at this;exact this)
  go_wp2_with fail
  go_loopw [9,10] (fun v i wr=> ∃(k c:Nat) (A:Option Addr),4*k≤x.length+3∧(k=0∨4*k≤x.length)∧i=.int .i64 ((4*k:Nat):Int)∧v=.slice A k c∧k≤c∧Below w.heap.size w wr∧wr.ownsRow w.heap.size 104 1 (.slice A k c) k ((jh x k).map av)) (fun _ i _=>x.length+4-(intOf i).toNat)
  case atStart=>exact⟨0,0,none,by omega,.inl rfl,rfl,rfl,aaE _,V7.out,aN _ _ _ _⟩
  case round=>
   obtain⟨k,c,A,hk,hk2,rfl,rfl,hkc,hbel,hown⟩:=hrel
   have HB:=hid hbel
   have HO:=hid hown
   have HK:=hid hk2
   clear hbel hown hk2
   by_cases hlt:4*k+3<x.length
   ·have hbel:=HB.out
    have hsz:=hbel.size
    have hk5:k≤5:=by omega
    go_wp2_with fail
    rw[Y5,show 4*k+3-4*k=3 by omega]
    refine(B_ _ _).mono ?_
    rintro e' w1 ⟨rfl,hb⟩;obtain⟨xs2,d2,rfl⟩:=aB hb;clear hb
    generalize hq:jL ((x.drop (4*k)).take 3)=q
    have HQ:=hid hq
    clear hq
    have HN:=hid (show At ((ext wr xs2 d2).alloc (.cells #[.int .i64 q] 104)) (grow wr.heap.size xs2+1) (some ⟨grow wr.heap.size xs2,0,none⟩) [av q] by have:=At.new (ext wr xs2 d2) #[.int .i64 q] 104 [av q] rfl;rw[size_ext] at this;exact this)
    go_wp2_with (at_builtin;go_loud (refine dY w rfl (.tmp 37) (.tmp 44) 44 rfl 104 Tryz.underlying44 (.int .i64 0) 1 8 Lj rfl (by decide) (by decide) (.slice A k c) k ((jh x k).map av) rfl (own_below HO.out (by exact aA)) _ (some ⟨_,0,none⟩) 1 1 [av q] rfl rfl (by omega) HN.out (by intro u hu;simp at hu;subst hu;rfl) (by exact aA) ?_);intro A' c' w' ho' hc' hb' hg';clear hg';have XA:=hid ho';have Gz:=hid hb';have HC':=hid hc';clear ho' hb' hc')
    clear hbel hsz
    go_roundw
    case rel=>exact⟨k+1,c',A',by omega,by omega,by go_num,rfl,HC'.out,Gz.out,by rw[vX,HQ.out];exact XA.out⟩
    case measure=>simp[intOf];omega
   ·have hkl:k=x.length / 4:=by have:=HK.out;omega
    have tH:=hid hkl
    clear hkl
    have HV:=hid (show jh x k=aT e n∧(x.getD (x.length-1) 0).toNat=48+(aZ e n).toNat∧0≤aZ e n∧aZ e n≤9 by have:=HT.out.2.2.2 HD.out;rw[HX.out] at this;rw[tH.out];exact this)
    go_wp2_with fail
    go_ret3
    refine⟨_,trip (congrArg (Value.int .i64) ?_) rfl (congrArg (Value.int .i64) ?_),HB.out,?_⟩
    ·rw[Hg];have:=HV.out;omega
    ·rw[tC.out,if_pos HD.out]
    ·have:=HO.out;have hv:=HV.out.1;rw[←hv,show(jh x k).length=k by simp[jh]];exact this
 ·have HD:=hid (show bZ e n=false by have:=HT.out.1;rw[HX.out,hd] at this;exact this)
  go_wp2
  go_ret3
  exact⟨.slice none 0 0,by rw[tC.out,HD.out,(gV HD.out).1];rfl,V7.out,by rw[(gV HD.out).2];exact aN _ _ _ _⟩
theorem Bo (s e:Int) (w:World) (h1:1≤e) (h2:e≤16) (hs:s<0∨9<s):Calls Tryz.prog 55 #[.int .i64 s,.int .i64 e] w (iI s e w):=by
 have HS:=hid (show bP s e=140∧bZ e s=false from ⟨by simp[bP,jw];intros;omega,mg (by simp[jw];omega)⟩)
 have HE:=hid (And.intro h1 h2)
 clear h1 h2
 rcases hs with hs|hs
 all_goals
  go_enter Tryz.func55,Tryz.ntmps55
  go_wp2_with (go_at_call 88;refine(vF e _ HE.out.1 HE.out.2).mono ?_;rintro e' w1 ⟨A,rfl,hb,hA⟩;obtain⟨xs,d,rfl⟩:=aB hb;clear hb hA)
  go_ret3
  exact⟨.slice none 0 0,by rw[HS.out.1,(gV HS.out.2).1];rfl,by exact aA,by rw[(gV HS.out.2).2];exact aN _ _ _ _⟩
theorem Bp (s e:Int) (w:World) (h:e<1∨16<e):Calls Tryz.prog 55 #[.int .i64 s,.int .i64 e] w (iI s e w):=by
 have HS:=hid (show bP s e=140∧bZ e s=false from ⟨by simp[bP,jw];intros;omega,mg (by simp[jw];omega)⟩)
 have HE:=hid h
 clear h
 by_cases h1:s<0
 ·go_enter Tryz.func55,Tryz.ntmps55
  go_wp2_with (go_at_call 88;refine(vE e _ HE.out).mono ?_;rintro e' w1 ⟨rfl,rfl⟩)
  go_ret3
  exact⟨.slice none 0 0,by rw[HS.out.1,(gV HS.out.2).1];rfl,by exact aA,by rw[(gV HS.out.2).2];exact aN _ _ _ _⟩
 ·by_cases h2:9<s
  all_goals
   go_enter Tryz.func55,Tryz.ntmps55
   go_wp2_with (go_at_call 88;refine(vE e _ HE.out).mono ?_;rintro e' w1 ⟨rfl,rfl⟩)
   go_ret3
   exact⟨.slice none 0 0,by rw[HS.out.1,(gV HS.out.2).1];rfl,by exact aA,by rw[(gV HS.out.2).2];exact aN _ _ _ _⟩
theorem nW (s e:Int) (w:World):Calls Tryz.prog 55 #[.int .i64 s,.int .i64 e] w (iI s e w):=by
 by_cases he:1≤e∧e≤16
 ·by_cases hs:0≤s∧s≤9
  ·obtain⟨n,rfl⟩:=Int.eq_ofNat_of_zero_le hs.1
   exact DF n e w he.1 he.2 (by omega)
  ·exact Bo s e w he.1 he.2 (by omega)
 ·exact Bp s e w (by omega)
theorem mK (e s:Int):(aT e s).length≤3:=by
 by_cases h:1≤e∧e≤16∧0≤s∧s≤9
 ·obtain⟨h1,h2,h3,h4⟩:=h
  rcases sixteen h1 h2 with rfl|rfl|rfl|rfl|rfl|rfl|rfl|rfl|rfl|rfl|rfl|rfl|rfl|rfl|rfl|rfl<;>rcases ten h3 h4 with rfl|rfl|rfl|rfl|rfl|rfl|rfl|rfl|rfl|rfl<;>decide
 ·have:Bt e s=none:=by unfold Bt;rw[if_neg h]
  simp[aT,this]
def iw (s:Int):Bool:=decide (4≤s)&&decide (s≤8)
theorem kC (s:Int) (w:World):Calls Tryz.prog 53 #[.int .i64 s] w fun e w'=>e=.returned (.bool (iw s))∧w=w':=by
 by_cases h:6≤s∧s≤8
 focus
  have HT:=hid (show iw s=true by simp[iw];omega)
  have hk:(decide (6≤s)&&decide (s≤8))=true:=by simp;omega
  clear h
 rotate_left
 focus
  have hk:(decide (6≤s)&&decide (s≤8))=false:=by simp;omega
  by_cases h4:s=4
 focus
  subst h4
 rotate_left
 focus
  by_cases h5:s=5
 focus
  subst h5
 rotate_left
 focus
  have HT:=hid (show iw s=false by simp[iw];omega)
  have k4:(s==4)=false:=by simpa using h4
  have k5:(s==5)=false:=by simpa using h5
  clear h h4 h5
 rotate_left
 all_goals
  go_enter Tryz.func53,Tryz.ntmps53
  go_wp2_with (go_at_call 87;refine(bD _ _).mono ?_;rw[hk];rintro e w1 ⟨rfl,rfl⟩)
  go_ret
 ·exact⟨by rw[HT.out];rfl,rfl⟩
 ·exact⟨rfl,rfl⟩
 ·exact⟨rfl,rfl⟩
 ·exact⟨by rw[HT.out];rfl,rfl⟩
theorem yV (s:Int) (w:World):Calls Tryz.prog 57 #[.int .i64 s] w fun e w'=>e=.returned (.bool (iw s))∧w=w':=Gb s w
theorem Y7 (s e:Int) (h:bP s e=0):(0≤aZ e s∧aZ e s≤9)∧(hasB (aT e s) 4=true→aZ e s=0∨aZ e s=2∨aZ e s=3)∧(hasB (aT e s) 7=true→aZ e s=6∨aZ e s=7∨aZ e s=8)∧(hasB (aT e s) 10=true→aZ e s=4∨aZ e s=5):=by
 unfold bP at h
 split at h
 ·rename_i hi
  simp only[jw,decide_eq_true_eq] at hi
  obtain⟨h1,h2,h3,h4⟩:=hi
  revert h
  rcases sixteen h1 h2 with rfl|rfl|rfl|rfl|rfl|rfl|rfl|rfl|rfl|rfl|rfl|rfl|rfl|rfl|rfl|rfl<;>rcases ten h3 h4 with rfl|rfl|rfl|rfl|rfl|rfl|rfl|rfl|rfl|rfl<;>decide
 ·omega
end Go.Proofs.YtfkgmbknfnhjoaaGreat.Fs
