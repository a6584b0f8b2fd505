/- IpcpMeet: its walk. -/
import Derived.Test.YtfkgmbknfnhjoaaGreatZ30
set_option maxHeartbeats 16000000
namespace Go.Proofs.YtfkgmbknfnhjoaaGreat
open Lib (hid)
open Go.RowKit
set_option linter.unusedSimpArgs false
set_option linter.unusedVariables false
set_option linter.ambiguousOpen false
open Ne (Rl Opt RulesAt areB wf64 answerO)
open Fs (av hasB)
def frJ (u:Nat→Value) (s2 s7 s8 s10 s11 s13:Value):Act:=⟨#[u 0,u 1,s2,u 3,u 4,u 5,u 6,s7,s8,u 9,s10,s11,u 12,s13,u 14,u 15,u 16,u 17,u 18,u 19,u 20,u 21,u 22,u 23,u 24,u 25,u 26,u 27,u 28,u 29,u 30,u 31,u 32,u 33,u 34,u 35,u 36,u 37,u 38,u 39,u 40,u 41,u 42,u 43,u 44,u 45,u 46,u 47,u 48,u 49,u 50,u 51,u 52,u 53,u 54,u 55,u 56,u 57,u 58,u 59,u 60,u 61,u 62,u 63,u 64,u 65,u 66,u 67,u 68,u 69,u 70,u 71,u 72,u 73,u 74,u 75,u 76,u 77,u 78,u 79,u 80,u 81,u 82,u 83,u 84,u 85,u 86,u 87,u 88,u 89,u 90,u 91,u 92,u 93,u 94,u 95,u 96,u 97,u 98,u 99,u 100,u 101,u 102,u 103,u 104,u 105,u 106,u 107,u 108,u 109,u 110,u 111,u 112,u 113,u 114,u 115,u 116,u 117,u 118,u 119,u 120,u 121,u 122,u 123,u 124,u 125,u 126,u 127,u 128,u 129,u 130,u 131,u 132,u 133,u 134,u 135,u 136,u 137,u 138,u 139,u 140,u 141,u 142,u 143,u 144,u 145,u 146],[]⟩
def InvJ (w:World) (T U:Nat) (o q:Int) (s2:Value) (a:Act) (W:World):Prop:= ∃(u:Nat→Value) (s8 s11 s13:Value),MeetJ w T U o q s8 s11 s13 W∧a=frJ u s2 (.pointer (some ⟨T,0,none⟩)) s8 (.pointer (some ⟨U,0,none⟩)) s11 s13
theorem invJ_intro {w W:World} {T U:Nat} {o q:Int} {s2 s8 s11 s13:Value} {a:Act} (h:MeetJ w T U o q s8 s11 s13 W)
  (ha:a=frJ (fun n=>a.tmps.getD n undef) s2 (.pointer (some ⟨T,0,none⟩)) s8 (.pointer (some ⟨U,0,none⟩)) s11 s13):InvJ w T U o q s2 a W:=⟨_,_,_,_,h,ha⟩
theorem nextJ_any (st id req cnt tim nak own peer:Int) (v:Value) (w:World):Calls Tryz.prog 33 #[.agg #[.int .i64 st,.int .i64 id,.int .i64 req,v,.int .i64 cnt,.int .i64 tim,.int .i64 nak,.int .i64 own,.int .i64 peer]] w fun x w'=>x=.returned (.int .i64 tim)∧Below w.heap.size w w':=by
 go_enter Tryz.func33,Tryz.ntmps33
 go_wp2_with fail
 go_ret
 exact⟨rfl,by exact bel⟩
set_option maxRecDepth 100000 in
theorem ipcpMeet_walk (o q:Nat) (Aw:Option Addr) (nu cu:Nat) (TB:List Bool) (w:World) (ho:o≤4294967295) (hq:q≤4294967295) (hU:At w w.heap.size Aw (TB.map Value.bool)) (hnu:nu=TB.length) (hlu:(nu:Int)≤9223372036854775807):
  Calls Tryz.prog 6 #[.int .u32 (o:Int),.int .u32 (q:Int),.slice Aw nu cu] w fun x w'=>x=.returned (.bool true)∧Below w.heap.size w w':=by
 have HU:=hid hU
 have HNU:=hid hnu
 clear hU hnu
 by_cases ho0:o=0
 ·subst ho0
  go_enter Tryz.func6,Tryz.ntmps6
  go_wp2_with fail
  refine(awake18_any _).mono ?_
  rintro x W1 ⟨rfl,hb⟩
  go_wp2_with fail
  go_ret
  exact⟨rfl,hb⟩
 have ho1:((o:Int)==0)=false:=by simpa using ho0
 by_cases hq0:q=0
 ·subst hq0
  go_enter Tryz.func6,Tryz.ntmps6
  go_wp2_with fail
  refine(awake18_any _).mono ?_
  rintro x W1 ⟨rfl,hb⟩
  go_wp2_with fail
  go_ret
  exact⟨rfl,hb⟩
 have hq1:((q:Int)==0)=false:=by simpa using hq0
 have H1:=hid (show inB (o:Int) 1 4294967295=true by simp[inB];omega)
 have H2:=hid (show inB (q:Int) 1 4294967295=true by simp[inB];omega)
 have hw1:IntKind.i64.wrap (o:Int)=(o:Int):=IntWalk.i64_in _ (by omega)
 have hw2:IntKind.i64.wrap (q:Int)=(q:Int):=IntWalk.i64_in _ (by omega)
 have HWO:=hid (show wf64 (o:Int) by unfold wf64;omega)
 have HWQ:=hid (show wf64 (q:Int) by unfold wf64;omega)
 go_enter Tryz.func6,Tryz.ntmps6
 go_wp2_with fail
 refine(conf_any _).mono ?_
 rintro x W1 ⟨rfl,hb1⟩
 go_wp2_with fail
 refine(up_any o q W1 H1.out H2.out).mono ?_
 unfold UpP
 rintro x W2 ⟨va,vo,rfl,hb2,ho',hp'⟩
 obtain⟨A2,n2,c2,rfl⟩:=ho'.form'
 obtain⟨A3,n3,c3,rfl⟩:=hp'.form'
 unfold npV upA
 dsimp only
 have hs1:=hb1.size
 have hb:=hb1.trans (hb2.mono hs1)
 have hs2:=hb.size
 go_upto_region 4 with(fail)
 obtain⟨T,hT⟩: ∃T,T=W2.heap.size:=⟨_,rfl⟩
 rw[←hT]
 refine wp_w (fun W=>W.heap[T]? =some (.cells #[.int .i64 6,.int .i64 1,.int .i64 1,.slice A2 n2 c2,.int .i64 2,.int .i64 5,.int .i64 0,.int .i64 o,.int .i64 q] 60 (0,0))∧Below w.heap.size w W∧(∃b,OptsO W b (.slice A2 n2 c2) (askI o))∧PksO W w.heap.size (.slice A3 n3 c3) [⟨1,1,[3,6]++putB o 4⟩]) ⟨by rw[hT];exact heap_alloc_new _ _,by exact Below.alloc hb hs2 _,⟨_,ho'.blw ((Below.refl _ _).alloc (Nat.le_refl _) _)⟩,by exact(hp'.blw ((Below.refl _ _).alloc (Nat.le_refl _) _)).bas hs1⟩ ?_
 clear hb1 hb2 hb ho' hp' hs1
 rintro W3 ⟨ht,hb,hoo,hpp⟩
 have hTw:w.heap.size≤T:=by omega
 clear hT hs2
 obtain⟨bo,hoo⟩:=hoo
 have HT3:=hid ht
 have HB3:=hid hb
 have HO3:=hid hoo
 have HP3:=hid hpp
 have hs3:=hb.size
 have lT3:=lt_blk ht
 clear ht hb hoo hpp
 go_wp2_with fail
 refine(conf_any _).mono ?_
 rintro x W4 ⟨rfl,hb4⟩
 go_wp2_with fail
 refine(up_any q o W4 H2.out H1.out).mono ?_
 unfold UpP
 rintro x W5 ⟨va,vo,rfl,hb5,ho',hp'⟩
 obtain⟨A5,n5,c5,rfl⟩:=ho'.form'
 obtain⟨A6,n6,c6,rfl⟩:=hp'.form'
 unfold npV upA
 dsimp only
 have hs4:=hb4.size
 have hb35:=hb4.trans (hb5.mono hs4)
 have hs5:=hb35.size
 go_upto_region 5 with(fail)
 obtain⟨U,hUU⟩: ∃U,U=W5.heap.size:=⟨_,rfl⟩
 rw[←hUU]
 refine wp_w (fun W=>W.heap[U]? =some (.cells #[.int .i64 6,.int .i64 1,.int .i64 1,.slice A5 n5 c5,.int .i64 2,.int .i64 5,.int .i64 0,.int .i64 q,.int .i64 o] 60 (0,0))∧Below W3.heap.size W3 W∧(∃b,OptsO W b (.slice A5 n5 c5) (askI q))∧PksO W W3.heap.size (.slice A6 n6 c6) [⟨1,1,[3,6]++putB q 4⟩]) ⟨by rw[hUU];exact heap_alloc_new _ _,by exact Below.alloc hb35 hs5 _,⟨_,ho'.blw ((Below.refl _ _).alloc (Nat.le_refl _) _)⟩,by exact(hp'.blw ((Below.refl _ _).alloc (Nat.le_refl _) _)).bas hs4⟩ ?_
 rintro W6 ⟨hu,hb,hoo,hpp⟩
 have nTU:T≠U:=by omega
 have hUw:w.heap.size≤U:=by omega
 clear hb4 hb5 hb35 ho' hp' hs4 hs5 hUU
 obtain⟨bu,hoo⟩:=hoo
 have HQ6:=hid hb
 have HU6:=hid hu
 have HT6:=hid ((hb.block _ lT3).trans HT3.out)
 have HB6:=hid (HB3.out.trans (hb.mono hs3))
 have HO6:=hid (HO3.out.blw hb)
 have HV6:=hid hoo
 have HP6:=hid (HP3.out.blw hb)
 have HR6:=hid hpp
 have hs6:=HB6.out.size
 clear hu hb hoo hpp
 go_wp2_with fail
 refine(awake18_any _).mono ?_
 rintro x W7 ⟨rfl,hb⟩
 have HU7:=hid ((hb.block _ (lt_blk HU6.out)).trans HU6.out)
 have HT7:=hid ((hb.block _ (lt_blk HT6.out)).trans HT6.out)
 have HB7:=hid (HB6.out.trans (hb.mono hs6))
 have HO7:=hid (HO6.out.blw hb)
 have HV7:=hid (HV6.out.blw hb)
 have HP7:=hid (HP6.out.blw hb)
 have HR7:=hid (HR6.out.blw hb)
 have hs7:=HB7.out.size
 clear hb
 obtain⟨P2,hP2,hp2⟩:=HP7.out
 obtain⟨P1,hP1,hp1⟩:=HR7.out
 have HT2:=hid (Tl.of_own hP2 (Nat.le_refl _))
 have HT1:=hid (Tl.of_own hP1 hs3)
 have HNE:=hid (show∀g,tlB A6=some g→tlB A3≠some g from fun g h1 h2=>by
  obtain⟨P3,hP3,-⟩:=HP3.out
  have a1:=own_lt hP3.1 (show(Value.slice A3 n3 c3).ownBlock=some g from tl_own h2)
  have a2:=own_le hP1.1 (show(Value.slice A6 n6 c6).ownBlock=some g from tl_own h1)
  omega)
 have HPM2:=hid (show P2.map Pe.o=mPk (askI q) (askI o) 0 0 by rw[hp2];unfold mPk;rw[encI];rfl)
 have HPM1:=hid (show P1.map Pe.o=mPk (askI o) (askI q) 0 0 by rw[hp1];unfold mPk;rw[encI];rfl)
 clear hP2 hp2 hP1 hp1
 go_upto_region 7 with(fail)
 refine wp_w (fun W=>MeetJ w T U o q (.slice A3 n3 c3) (.slice A6 n6 c6) (.int .i64 0) W) ⟨0,0,A6,A3,A2,A5,n6,c6,n3,c3,n2,c2,n5,c5,P1,P2,rfl,rfl,rfl,⟨by omega,by omega,by omega,by omega⟩,HPM1.out,HPM2.out,⟨HT7.out,HU7.out,⟨_,HO7.out⟩,⟨_,HV7.out⟩,HT1.out,HT2.out,HNE.out,nTU,hTw,hUw,HB7.out⟩⟩ ?_
 clear HT3 HB3 HO3 HP3 hs3 lT3 HQ6 HU6 HT6 HB6 HO6 HV6 HP6 HR6 hs6 HU7 HT7 HB7 HO7 HV7 HP7 HR7 hs7 HT2 HT1 HNE HPM2 HPM1
 rintro W8 hm0
 have HM0:=hid hm0
 clear hm0
 go_wp2_with fail
 refine wp_loop (InvJ w T U o q (.slice Aw nu cu)) (fun a _=>10-(intOf (a.tmps.getD 13 undef)).toNat) (invJ_intro HM0.out (by kernel_rfl)) ?_
 rintro a0 wr ⟨u,s8,s11,s13,hrel,rfl⟩
 unfold frJ
 obtain⟨p,j,A1,A2,B1,B2,n1,c1,n2,c2,y1,e1,y2,e2,Q1,Q2,rfl,rfl,rfl,hok,hp1,hp2,hM⟩:=hrel
 have HM:=hid hM
 have HBW:=hid hM.bel
 have hsw:=hM.bel.size
 have HK:=hid hok
 have HP1:=hid hp1
 have HP2:=hid hp2
 have hn1:n1≤2:=by have h:=hM.t1.len;have h2:=mPk_len (askI o) (askI q) p j;rw[←hp1,List.length_map] at h2;omega
 have hn2:n2≤2:=by have h:=hM.t2.len;have h2:=mPk_len (askI q) (askI o) j p;rw[←hp2,List.length_map] at h2;omega
 have hpq:=mPk_most (x:=askI o) (y:=askI q) hok
 have hpq10:((p+j:Nat):Int)<10:=by omega
 have hw12:IntKind.i64.wrap ((n1:Int)+(n2:Int))=(n1:Int)+(n2:Int):=IntWalk.i64_in _ (by omega)
 have hwk:IntKind.i64.wrap (((p+j:Nat):Int)+1)=((p+j+1:Nat):Int):=by rw[IntWalk.i64_in _ (by omega)];omega
 clear hM hok hp1 hp2
 obtain⟨kk,hkk⟩: ∃k,p+j=k:=⟨_,rfl⟩
 rw[hkk] at hpq hpq10 hwk ⊢
 have HKK:=hid hkk
 clear hkk
 by_cases hend:n1+n2=0
 ·obtain rfl:n1=0:=by omega
  obtain rfl:n2=0:=by omega
  have he:p=2∧j=2:=meet_end (x:=askI o) (y:=askI q) HK.out (by rw[←HP1.out,List.eq_nil_of_length_eq_zero HM.out.t1.len.symm];rfl) (by rw[←HP2.out,List.eq_nil_of_length_eq_zero HM.out.t2.len.symm];rfl)
  obtain⟨rfl,rfl⟩:=he
  have HX:=hid (show wr.heap[T]? =some (.cells #[.int .i64 9,.int .i64 1,.int .i64 1,.slice B1 y1 e1,.int .i64 3,.int .i64 0,.int .i64 0,.int .i64 o,.int .i64 q] 60 (0,0)) from HM.out.ra)
  have HZ:=hid (show wr.heap[U]? =some (.cells #[.int .i64 9,.int .i64 1,.int .i64 1,.slice B2 y2 e2,.int .i64 3,.int .i64 0,.int .i64 0,.int .i64 q,.int .i64 o] 60 (0,0)) from HM.out.rb)
  obtain⟨x0,x1,x2,x3,x4,x5,x6,x7,x8⟩:=cells9 HX.out
  obtain⟨z0,z1,z2,z3,z4,z5,z6,z7,z8⟩:=cells9 HZ.out
  go_wp2_with fail
  refine(agreed_any _ _ _ _ _ _ _ _ _ _).mono ?_
  rintro x Wq0 ⟨rfl,hb⟩
  replace HX:=hid ((hb.block _ (lt_blk HX.out)).trans HX.out)
  replace HZ:=hid ((hb.block _ (lt_blk HZ.out)).trans HZ.out)
  replace HBW:=hid (HBW.out.trans (hb.mono HBW.out.size))
  clear hb x0 x1 x2 x3 x4 x5 x6 x7 x8 z0 z1 z2 z3 z4 z5 z6 z7 z8
  obtain⟨x0,x1,x2,x3,x4,x5,x6,x7,x8⟩:=cells9 HX.out
  obtain⟨z0,z1,z2,z3,z4,z5,z6,z7,z8⟩:=cells9 HZ.out
  go_wp2_with fail
  refine(agreed_any _ _ _ _ _ _ _ _ _ _).mono ?_
  rintro x Wq1 ⟨rfl,hb⟩
  replace HX:=hid ((hb.block _ (lt_blk HX.out)).trans HX.out)
  replace HZ:=hid ((hb.block _ (lt_blk HZ.out)).trans HZ.out)
  replace HBW:=hid (HBW.out.trans (hb.mono HBW.out.size))
  clear hb x0 x1 x2 x3 x4 x5 x6 x7 x8 z0 z1 z2 z3 z4 z5 z6 z7 z8
  obtain⟨x0,x1,x2,x3,x4,x5,x6,x7,x8⟩:=cells9 HX.out
  obtain⟨z0,z1,z2,z3,z4,z5,z6,z7,z8⟩:=cells9 HZ.out
  go_wp2_with fail
  refine(nextJ_any _ _ _ _ _ _ _ _ _ _).mono ?_
  rintro x Wq2 ⟨rfl,hb⟩
  replace HX:=hid ((hb.block _ (lt_blk HX.out)).trans HX.out)
  replace HZ:=hid ((hb.block _ (lt_blk HZ.out)).trans HZ.out)
  replace HBW:=hid (HBW.out.trans (hb.mono HBW.out.size))
  clear hb x0 x1 x2 x3 x4 x5 x6 x7 x8 z0 z1 z2 z3 z4 z5 z6 z7 z8
  obtain⟨x0,x1,x2,x3,x4,x5,x6,x7,x8⟩:=cells9 HX.out
  obtain⟨z0,z1,z2,z3,z4,z5,z6,z7,z8⟩:=cells9 HZ.out
  go_wp2_with fail
  refine(nextJ_any _ _ _ _ _ _ _ _ _ _).mono ?_
  rintro x Wq3 ⟨rfl,hb⟩
  replace HX:=hid ((hb.block _ (lt_blk HX.out)).trans HX.out)
  replace HZ:=hid ((hb.block _ (lt_blk HZ.out)).trans HZ.out)
  replace HBW:=hid (HBW.out.trans (hb.mono HBW.out.size))
  clear hb x0 x1 x2 x3 x4 x5 x6 x7 x8 z0 z1 z2 z3 z4 z5 z6 z7 z8
  go_wp2_with fail
  go_ret
  exact⟨rfl,HBW.out⟩
 ·have hpos:(0:Int)<(n1:Int)+(n2:Int):=by omega
  go_upto_region 10 with(fail)
  go_cut [14] (fun s14 wx=> ∃lf:Bool,s14=.bool lf∧wr=wx)
  case first=>
   by_cases hkn:kk<nu
   ·obtain⟨b,ob,rfl,hbB,hx⟩:=(HU.out.keep HBW.out).get (by rw[List.length_map];have:=HNU.out;omega)
    have hb:=hx kk (.bool (TB[kk]'(by have:=HNU.out;omega))) (by rw[List.getElem?_map,List.getElem?_eq_getElem (by have:=HNU.out;omega)];rfl)
    generalize TB[kk]'_=tb at hb
    have hkI:(kk:Int)<(nu:Int):=by omega
    have hk0:(0:Int)≤(kk:Int):=by omega
    clear hx
    go_wp2_with fail
    go_meet
    exact⟨_,rfl,rfl⟩
   ·have hkI: ¬(kk:Int)<(nu:Int):=by omega
    have hkB:decide ((kk:Int)<(nu:Int))=false:=by simp;omega
    go_wp2_with fail
    go_meet
    exact⟨false,rfl,rfl⟩
  case rest=>
   obtain⟨lf,rfl,rfl⟩:=hcut
   go_upto_region 11 with(fail)
   go_cut [90] (fun s wx=> ∃ch:Bool,s=.bool ch∧(ch=true→0<n1)∧(ch=false→0<n2)∧wr=wx)
   case first=>
    by_cases h1:n1=0
    ·subst h1
     go_wp2_with fail
     go_meet
     exact⟨false,rfl,(fun h=>by cases h),(fun _=>by omega),rfl⟩
    ·have hg1:decide ((0:Int)<(n1:Int))=true:=by simp;omega
     have hg1p:(0:Int)<(n1:Int):=by omega
     cases lf
     ·by_cases h2:n2=0
      ·subst h2
       go_wp2_with fail
       go_meet
       exact⟨true,rfl,(fun _=>by omega),(fun h=>by cases h),rfl⟩
      ·have hg2:((n2:Int)==0)=false:=by simp;omega
       go_wp2_with fail
       go_meet
       exact⟨false,rfl,(fun h=>by cases h),(fun _=>by omega),rfl⟩
     ·go_wp2_with fail
      go_meet
      exact⟨true,rfl,(fun _=>by omega),(fun h=>by cases h),rfl⟩
   case rest=>
    obtain⟨ch,rfl,hch1,hch0,rfl⟩:=hcut
    cases ch
    ·skip
     have HMs:=hid HM.out.swap
     have hnp:0<n2:=hch0 rfl
     clear hch1 hch0
     have hnI:(0:Int)<(n2:Int):=by omega
     obtain⟨⟨ec,ei,xd,ae,ce⟩,rest,rfl⟩:=ne_cons (P:=Q2) (by have:=HMs.out.t1.len;omega)
     have hq:=HP2.out
     rw[List.map_cons] at hq
     obtain⟨acts,hpack,hrest,happ,hok2,hlen⟩:=meetI_step H2.out H1.out HK.out.swap hq.symm
     have hdl:xd.length≤400000000:=mPk_data (x:=askI q) (y:=askI o) (i:=j) (j:=p) _ (by rw[←hq];exact List.mem_cons_self ..)
     unfold Pe.o at hpack
     dsimp only at hpack
     have HPACK:=hid hpack
     have HREST:=hid hrest
     have HAPP:=hid happ
     have HOK2:=hid hok2
     have HLEN:=hid hlen
     clear hpack hrest happ hok2 hlen hq
     obtain⟨g,od,rfl,hlo,hgl,x0,x1,x2,hat,hec⟩:=HMs.out.t1.head
     unfold Pe.v at x2
     dsimp only at x0 x1 x2 hat hec
     have HAT:=hid hat
     clear hat
     obtain⟨zo,hoa⟩:=HMs.out.oa
     rw[mAu_ask] at hoa
     obtain⟨E,hE,hnn,hcc,he⟩:=hoa.opened
     have HE:=hid hE
     have HNN:=hid hnn
     have HEE:=hid he
     have HEN:=hid (askI_ents he)
     have hm1:y2≤1000000:=by have:=HEN.out.1;have:=HNN.out;omega
     clear hE hnn hcc he hoa
     have lT:=lt_blk HMs.out.ra
     obtain⟨a0,ha0⟩: ∃a,mAu (cfI 3 2 4 5 o) (askI q) j=a:=⟨_,rfl⟩
     have hask:a0.ask=askI q:=by rw[←ha0];exact mAu_ask _ _ _
     have hra:=HMs.out.ra
     unfold npC at hra
     rw[ha0] at hra HPACK
     obtain⟨s0,s1,s2,s3,s4,s5,s6,s7,s8⟩:=cells9 hra
     clear hra ha0
     obtain⟨a1,ha1⟩: ∃a,mAu (cfI 3 2 4 5 o) (askI q) (j+1)=a:=⟨_,rfl⟩
     rw[ha1] at HPACK
     have HA1:=hid ha1
     clear ha1
     obtain⟨ou,hou⟩: ∃l,mOut (askI o) j=l:=⟨_,rfl⟩
     rw[hou] at HPACK HAPP HLEN
     clear hou
     obtain⟨zs,zi,zr,zL,zc,zt,zk⟩:=a0
     dsimp only at s0 s1 s2 s4 s5 s6 hask
     subst hask
     go_upto_region 16 with(fail)
     go_cut [18,19] (fun s27 s28 wx=> ∃(P9:Nat) (W9:World) (Av Ao9:Option Addr) (nv cv no9 co9:Nat),W9=wx∧s27=.pointer (some ⟨P9,0,none⟩)∧s28=.slice Ao9 no9 co9∧W9.heap[P9]? =some (.cells (npC a1 (.slice Av nv cv) q o) 60 (0,0))∧Below wr.heap.size wr W9∧(∃z,OptsO W9 z (.slice Av nv cv) a1.ask)∧(∃z,PksO W9 z (.slice Ao9 no9 co9) ou))
     case first=>
      have HSR:=hid (show∀w':World,Below wr.heap.size wr w'→(w'.cell? ⟨U,0,none⟩=some (.int .i64 zs)∧w'.cell? ⟨U,1,none⟩=some (.int .i64 zi)∧w'.cell? ⟨U,2,none⟩=some (.int .i64 zr)∧w'.cell? ⟨U,3,none⟩=some (.slice B2 y2 e2)∧w'.cell? ⟨U,4,none⟩=some (.int .i64 zc)∧w'.cell? ⟨U,5,none⟩=some (.int .i64 zt)∧w'.cell? ⟨U,6,none⟩=some (.int .i64 zk)∧w'.cell? ⟨U,7,none⟩=some (.int .i64 q)∧w'.cell? ⟨U,8,none⟩=some (.int .i64 o)∧w'.cell? ⟨g,od,none⟩=some (.int .i64 ec)∧w'.cell? ⟨g,od+1,none⟩=some (.int .i64 ei)∧w'.cell? ⟨g,od+2,none⟩=some (.slice ae xd.length ce)) from fun w' hb=>⟨(hb.cell (p:=⟨U,_,none⟩) lT).trans s0,(hb.cell (p:=⟨U,_,none⟩) lT).trans s1,(hb.cell (p:=⟨U,_,none⟩) lT).trans s2,(hb.cell (p:=⟨U,_,none⟩) lT).trans s3,(hb.cell (p:=⟨U,_,none⟩) lT).trans s4,(hb.cell (p:=⟨U,_,none⟩) lT).trans s5,(hb.cell (p:=⟨U,_,none⟩) lT).trans s6,(hb.cell (p:=⟨U,_,none⟩) lT).trans s7,(hb.cell (p:=⟨U,_,none⟩) lT).trans s8,(hb.cell (p:=⟨g,_,none⟩) hgl).trans x0,(hb.cell (p:=⟨g,_,none⟩) hgl).trans x1,(hb.cell (p:=⟨g,_,none⟩) hgl).trans x2⟩)
      go_region_held3 (fun w'=>w'.cell? ⟨U,0,none⟩=some (.int .i64 zs)∧w'.cell? ⟨U,1,none⟩=some (.int .i64 zi)∧w'.cell? ⟨U,2,none⟩=some (.int .i64 zr)∧w'.cell? ⟨U,3,none⟩=some (.slice B2 y2 e2)∧w'.cell? ⟨U,4,none⟩=some (.int .i64 zc)∧w'.cell? ⟨U,5,none⟩=some (.int .i64 zt)∧w'.cell? ⟨U,6,none⟩=some (.int .i64 zk)∧w'.cell? ⟨U,7,none⟩=some (.int .i64 q)∧w'.cell? ⟨U,8,none⟩=some (.int .i64 o)∧w'.cell? ⟨g,od,none⟩=some (.int .i64 ec)∧w'.cell? ⟨g,od+1,none⟩=some (.int .i64 ei)∧w'.cell? ⟨g,od+2,none⟩=some (.slice ae xd.length ce)) (exact HSR.out _ (by exact bel)) (first|((go_at_call 28;go_must (refine(conf_any _).mono ?_);rintro e w5 ⟨rfl,hb5⟩;obtain⟨xs5,d5,rfl⟩:=ext_of hb5;clear hb5))|((go_at_call 30;go_must (refine(ipack_any 1492 3 2 4 5 0 1 zs zi zr zc zt zk q o B2 y2 e2 1 ae xd.length ce ec ei xd E (askI q) HEE.out _ wr.heap.size (by first|exact Nat.le_refl _|(simp[size_ext,grow];done)|(simp[size_ext,grow];omega)) (by exact HE.out.keep (by exact bel)) HNN.out hm1 (fun e he=>by have:=HEN.out.2 e he;omega) HWO.out (by exact HAT.out.keep (by exact bel)) rfl hec hdl).mono ?_);rw[HPACK.out];unfold IDoP npV;(try dsimp only);rintro x w9 ⟨va,vo,vd,rfl,hb9,hO9,hP9,-⟩;obtain⟨Av9,nv9,cv9,rfl⟩:=hO9.form';obtain⟨Ao9,no9,co9,rfl⟩:=hP9.form';obtain⟨xs9,d9,rfl⟩:=ext_of hb9;have HO9:=hid hO9;have HP9:=hid hP9;clear hb9 hO9 hP9)))
      all_goals
       go_wp2_with fail
       go_meet
       refine⟨_,_,Av9,Ao9,nv9,cv9,no9,co9,rfl,rfl,rfl,?_,by exact bel,?_,?_⟩
       ·unfold npC
        repeat(first|(with_reducible refine heap_alloc_at _ _ _ ?_;((first|(simp[size_ext,grow];done)|(simp[size_ext,grow];omega))))|(with_reducible refine(heap_ext _ _ _ _ ?_).trans ?_;(focus ((first|(simp[size_ext,grow];done)|(simp[size_ext,grow];omega)))))|(with_reducible refine(heap_alloc_past _ _ _ ?_).trans ?_;(focus ((first|(simp[size_ext,grow];done)|(simp[size_ext,grow];omega))))))
       ·have h5:=HO9.out
        first
         |exact⟨_,h5.blw (Below.alloc (Below.refl _ _) (Nat.le_refl _) _)⟩
         |(apply Exists.intro;refine OptsO.stays (X:=?_) h5 ?_ ?_;rotate_left;(repeat(first|with_reducible exact alloc_swap _ _ _|with_reducible refine grown_exts ?_ (by simp[size_ext,grow])|with_reducible refine grown_allocs ?_ (by simp[size_ext,grow])));all_goals(try (first|(simp[size_ext,grow];done)|(simp[size_ext,grow];omega)|omega)))
       ·have h5:=HP9.out
        first
         |exact⟨_,h5.blw (Below.alloc (Below.refl _ _) (Nat.le_refl _) _)⟩
         |(apply Exists.intro;refine PksO.stays (X:=?_) h5 ?_ ?_;rotate_left;(repeat(first|with_reducible exact alloc_swap _ _ _|with_reducible refine grown_exts ?_ (by simp[size_ext,grow])|with_reducible refine grown_allocs ?_ (by simp[size_ext,grow])));all_goals(try (first|(simp[size_ext,grow];done)|(simp[size_ext,grow];omega)|omega)))
     case rest=>
      obtain⟨P9,W9,Av,Ao9,nv,cv,no9,co9,rfl,rfl,rfl,hrow,hb9,ho9,hp9⟩:=hcut
      have HM9:=hid (HMs.out.below hb9)
      have HO9:=hid ho9
      have HP9:=hid hp9
      have HROW:=hid hrow
      clear s0 s1 s2 s3 s4 s5 s6 s7 s8 x0 x1 x2 hb9 ho9 hp9
      unfold npC at hrow
      have lP9:=lt_blk hrow
      obtain⟨t0,t1,t2,t3,t4,t5,t6,t7,t8⟩:=cells9 hrow
      have hra:=HM9.out.ra
      unfold npC at hra
      have lT9:=lt_blk hra
      obtain⟨s0,s1,s2,s3,s4,s5,s6,s7,s8⟩:=cells9 hra
      have fs:=frees hra
      clear hrow hra
      go_upto_region 18 with(fail)
      generalize hWs:World.setCell _ _ _=Ws
      have hst:set9i W9 U a1 (.slice Av nv cv) q o=Ws:=hWs
      have hm5:=HM9.out.storeA HO9.out
      have hpz: ∃z,PksO (set9i W9 U a1 (.slice Av nv cv) q o) z (.slice Ao9 no9 co9) ou:=by obtain⟨z,h⟩:=HP9.out;exact⟨z,h.oth (set9i_grown _ _ a1 (.slice Av nv cv) _ _) HM9.out.ra (by decide) (by decide)⟩
      rw[hst] at hm5 hpz
      clear hst hWs
      clear s0 s1 s2 s3 s4 s5 s6 s7 s8 t0 t1 t2 t3 t4 t5 t6 t7 t8 fs lP9 lT9
      obtain⟨z9,Po,hPo,hpo⟩:=hpz
      have HM10:=hid hm5
      have hsx:=hm5.bel.size
      have hle:=hm5.t1.le
      have HTO:=hid (show Tl Ws 0 Ao9 no9 co9 Po from Tl.of_own hPo (Nat.zero_le _))
      have HPO:=hid hpo
      have hno9:no9≤1:=by have h:=HTO.out.len;have h2:=HLEN.out;rw[←hpo,List.length_map] at h2;omega
      clear hm5 hPo hpo
      have hi1:(1:Int)≤(n2:Int):=by omega
      have hi2:(n2:Int)≤(c2:Int):=by omega
      have hwn:IntKind.i64.wrap ((n2:Int)-1)=((n2-1:Nat):Int):=by rw[IntWalk.i64_in _ (by omega)];omega
      go_wp2_with (at_builtin;go_loud (refine wpList_tl rfl (.tmp 120) (.tmp 121) rfl HM10.out.t2 rfl (by omega) (by omega) HTO.out rfl hno9 ?_);intro A9 c9 w11 ht11 hg11 hb11;have HM11:=hid (HM10.out.app ht11 hg11 hb11);clear ht11 hg11 hb11)
      ·skip
       refine⟨invJ_intro (s8:=.slice (some ⟨g,od,none⟩) (n2-1) 0) (s11:=.slice A9 (n1+no9) c9) (s13:=.int .i64 ((kk:Int)+1)) ?_ (by kernel_rfl),by simp[intOf];omega⟩
       have HM12:=HM11.out
       rw[←HA1.out] at HM12
       have HM13:=HM12.pop1 (by assumption)
       exact⟨p,j+1,A9,some ⟨g,od,none⟩,B1,Av,n1+no9,c9,n2-1,0,y1,e1,nv,cv,Q1++Po,rest,rfl,rfl,congrArg (Value.int .i64) (by have:=HKK.out;omega),HOK2.out.swap,by rw[List.map_append,HP1.out,HPO.out,HAPP.out],HREST.out,HM13.swap⟩
      ·skip
       refine⟨invJ_intro (s8:=.slice (some ⟨g,od+3,none⟩) (n2-1) (c2-1)) (s11:=.slice A9 (n1+no9) c9) (s13:=.int .i64 ((kk:Int)+1)) ?_ (by kernel_rfl),by simp[intOf];omega⟩
       have HM12:=HM11.out
       rw[←HA1.out] at HM12
       have HM13:=HM12.pop
       exact⟨p,j+1,A9,some ⟨g,od+3,none⟩,B1,Av,n1+no9,c9,n2-1,c2-1,y1,e1,nv,cv,Q1++Po,rest,rfl,rfl,congrArg (Value.int .i64) (by have:=HKK.out;omega),HOK2.out.swap,by rw[List.map_append,HP1.out,HPO.out,HAPP.out],HREST.out,HM13.swap⟩
    ·skip
     have hnp:0<n1:=hch1 rfl
     clear hch1 hch0
     have hnI:(0:Int)<(n1:Int):=by omega
     obtain⟨⟨ec,ei,xd,ae,ce⟩,rest,rfl⟩:=ne_cons (P:=Q1) (by have:=HM.out.t1.len;omega)
     have hq:=HP1.out
     rw[List.map_cons] at hq
     obtain⟨acts,hpack,hrest,happ,hok2,hlen⟩:=meetI_step H1.out H2.out HK.out hq.symm
     have hdl:xd.length≤400000000:=mPk_data (x:=askI o) (y:=askI q) (i:=p) (j:=j) _ (by rw[←hq];exact List.mem_cons_self ..)
     unfold Pe.o at hpack
     dsimp only at hpack
     have HPACK:=hid hpack
     have HREST:=hid hrest
     have HAPP:=hid happ
     have HOK2:=hid hok2
     have HLEN:=hid hlen
     clear hpack hrest happ hok2 hlen hq
     obtain⟨g,od,rfl,hlo,hgl,x0,x1,x2,hat,hec⟩:=HM.out.t1.head
     unfold Pe.v at x2
     dsimp only at x0 x1 x2 hat hec
     have HAT:=hid hat
     clear hat
     obtain⟨zo,hoa⟩:=HM.out.oa
     rw[mAu_ask] at hoa
     obtain⟨E,hE,hnn,hcc,he⟩:=hoa.opened
     have HE:=hid hE
     have HNN:=hid hnn
     have HEE:=hid he
     have HEN:=hid (askI_ents he)
     have hm1:y1≤1000000:=by have:=HEN.out.1;have:=HNN.out;omega
     clear hE hnn hcc he hoa
     have lT:=lt_blk HM.out.ra
     obtain⟨a0,ha0⟩: ∃a,mAu (cfI 3 2 4 5 q) (askI o) p=a:=⟨_,rfl⟩
     have hask:a0.ask=askI o:=by rw[←ha0];exact mAu_ask _ _ _
     have hra:=HM.out.ra
     unfold npC at hra
     rw[ha0] at hra HPACK
     obtain⟨s0,s1,s2,s3,s4,s5,s6,s7,s8⟩:=cells9 hra
     clear hra ha0
     obtain⟨a1,ha1⟩: ∃a,mAu (cfI 3 2 4 5 q) (askI o) (p+1)=a:=⟨_,rfl⟩
     rw[ha1] at HPACK
     have HA1:=hid ha1
     clear ha1
     obtain⟨ou,hou⟩: ∃l,mOut (askI q) p=l:=⟨_,rfl⟩
     rw[hou] at HPACK HAPP HLEN
     clear hou
     obtain⟨zs,zi,zr,zL,zc,zt,zk⟩:=a0
     dsimp only at s0 s1 s2 s4 s5 s6 hask
     subst hask
     go_upto_region 12 with(fail)
     go_cut [15,16] (fun s27 s28 wx=> ∃(P9:Nat) (W9:World) (Av Ao9:Option Addr) (nv cv no9 co9:Nat),W9=wx∧s27=.pointer (some ⟨P9,0,none⟩)∧s28=.slice Ao9 no9 co9∧W9.heap[P9]? =some (.cells (npC a1 (.slice Av nv cv) o q) 60 (0,0))∧Below wr.heap.size wr W9∧(∃z,OptsO W9 z (.slice Av nv cv) a1.ask)∧(∃z,PksO W9 z (.slice Ao9 no9 co9) ou))
     case first=>
      have HSR:=hid (show∀w':World,Below wr.heap.size wr w'→(w'.cell? ⟨T,0,none⟩=some (.int .i64 zs)∧w'.cell? ⟨T,1,none⟩=some (.int .i64 zi)∧w'.cell? ⟨T,2,none⟩=some (.int .i64 zr)∧w'.cell? ⟨T,3,none⟩=some (.slice B1 y1 e1)∧w'.cell? ⟨T,4,none⟩=some (.int .i64 zc)∧w'.cell? ⟨T,5,none⟩=some (.int .i64 zt)∧w'.cell? ⟨T,6,none⟩=some (.int .i64 zk)∧w'.cell? ⟨T,7,none⟩=some (.int .i64 o)∧w'.cell? ⟨T,8,none⟩=some (.int .i64 q)∧w'.cell? ⟨g,od,none⟩=some (.int .i64 ec)∧w'.cell? ⟨g,od+1,none⟩=some (.int .i64 ei)∧w'.cell? ⟨g,od+2,none⟩=some (.slice ae xd.length ce)) from fun w' hb=>⟨(hb.cell (p:=⟨T,_,none⟩) lT).trans s0,(hb.cell (p:=⟨T,_,none⟩) lT).trans s1,(hb.cell (p:=⟨T,_,none⟩) lT).trans s2,(hb.cell (p:=⟨T,_,none⟩) lT).trans s3,(hb.cell (p:=⟨T,_,none⟩) lT).trans s4,(hb.cell (p:=⟨T,_,none⟩) lT).trans s5,(hb.cell (p:=⟨T,_,none⟩) lT).trans s6,(hb.cell (p:=⟨T,_,none⟩) lT).trans s7,(hb.cell (p:=⟨T,_,none⟩) lT).trans s8,(hb.cell (p:=⟨g,_,none⟩) hgl).trans x0,(hb.cell (p:=⟨g,_,none⟩) hgl).trans x1,(hb.cell (p:=⟨g,_,none⟩) hgl).trans x2⟩)
      go_region_held3 (fun w'=>w'.cell? ⟨T,0,none⟩=some (.int .i64 zs)∧w'.cell? ⟨T,1,none⟩=some (.int .i64 zi)∧w'.cell? ⟨T,2,none⟩=some (.int .i64 zr)∧w'.cell? ⟨T,3,none⟩=some (.slice B1 y1 e1)∧w'.cell? ⟨T,4,none⟩=some (.int .i64 zc)∧w'.cell? ⟨T,5,none⟩=some (.int .i64 zt)∧w'.cell? ⟨T,6,none⟩=some (.int .i64 zk)∧w'.cell? ⟨T,7,none⟩=some (.int .i64 o)∧w'.cell? ⟨T,8,none⟩=some (.int .i64 q)∧w'.cell? ⟨g,od,none⟩=some (.int .i64 ec)∧w'.cell? ⟨g,od+1,none⟩=some (.int .i64 ei)∧w'.cell? ⟨g,od+2,none⟩=some (.slice ae xd.length ce)) (exact HSR.out _ (by exact bel)) (first|((go_at_call 28;go_must (refine(conf_any _).mono ?_);rintro e w5 ⟨rfl,hb5⟩;obtain⟨xs5,d5,rfl⟩:=ext_of hb5;clear hb5))|((go_at_call 30;go_must (refine(ipack_any 1492 3 2 4 5 0 1 zs zi zr zc zt zk o q B1 y1 e1 1 ae xd.length ce ec ei xd E (askI o) HEE.out _ wr.heap.size (by first|exact Nat.le_refl _|(simp[size_ext,grow];done)|(simp[size_ext,grow];omega)) (by exact HE.out.keep (by exact bel)) HNN.out hm1 (fun e he=>by have:=HEN.out.2 e he;omega) HWQ.out (by exact HAT.out.keep (by exact bel)) rfl hec hdl).mono ?_);rw[HPACK.out];unfold IDoP npV;(try dsimp only);rintro x w9 ⟨va,vo,vd,rfl,hb9,hO9,hP9,-⟩;obtain⟨Av9,nv9,cv9,rfl⟩:=hO9.form';obtain⟨Ao9,no9,co9,rfl⟩:=hP9.form';obtain⟨xs9,d9,rfl⟩:=ext_of hb9;have HO9:=hid hO9;have HP9:=hid hP9;clear hb9 hO9 hP9)))
      all_goals
       go_wp2_with fail
       go_meet
       refine⟨_,_,Av9,Ao9,nv9,cv9,no9,co9,rfl,rfl,rfl,?_,by exact bel,?_,?_⟩
       ·unfold npC
        repeat(first|(with_reducible refine heap_alloc_at _ _ _ ?_;((first|(simp[size_ext,grow];done)|(simp[size_ext,grow];omega))))|(with_reducible refine(heap_ext _ _ _ _ ?_).trans ?_;(focus ((first|(simp[size_ext,grow];done)|(simp[size_ext,grow];omega)))))|(with_reducible refine(heap_alloc_past _ _ _ ?_).trans ?_;(focus ((first|(simp[size_ext,grow];done)|(simp[size_ext,grow];omega))))))
       ·have h5:=HO9.out
        first
         |exact⟨_,h5.blw (Below.alloc (Below.refl _ _) (Nat.le_refl _) _)⟩
         |(apply Exists.intro;refine OptsO.stays (X:=?_) h5 ?_ ?_;rotate_left;(repeat(first|with_reducible exact alloc_swap _ _ _|with_reducible refine grown_exts ?_ (by simp[size_ext,grow])|with_reducible refine grown_allocs ?_ (by simp[size_ext,grow])));all_goals(try (first|(simp[size_ext,grow];done)|(simp[size_ext,grow];omega)|omega)))
       ·have h5:=HP9.out
        first
         |exact⟨_,h5.blw (Below.alloc (Below.refl _ _) (Nat.le_refl _) _)⟩
         |(apply Exists.intro;refine PksO.stays (X:=?_) h5 ?_ ?_;rotate_left;(repeat(first|with_reducible exact alloc_swap _ _ _|with_reducible refine grown_exts ?_ (by simp[size_ext,grow])|with_reducible refine grown_allocs ?_ (by simp[size_ext,grow])));all_goals(try (first|(simp[size_ext,grow];done)|(simp[size_ext,grow];omega)|omega)))
     case rest=>
      obtain⟨P9,W9,Av,Ao9,nv,cv,no9,co9,rfl,rfl,rfl,hrow,hb9,ho9,hp9⟩:=hcut
      have HM9:=hid (HM.out.below hb9)
      have HO9:=hid ho9
      have HP9:=hid hp9
      have HROW:=hid hrow
      clear s0 s1 s2 s3 s4 s5 s6 s7 s8 x0 x1 x2 hb9 ho9 hp9
      unfold npC at hrow
      have lP9:=lt_blk hrow
      obtain⟨t0,t1,t2,t3,t4,t5,t6,t7,t8⟩:=cells9 hrow
      have hra:=HM9.out.ra
      unfold npC at hra
      have lT9:=lt_blk hra
      obtain⟨s0,s1,s2,s3,s4,s5,s6,s7,s8⟩:=cells9 hra
      have fs:=frees hra
      clear hrow hra
      go_upto_region 14 with(fail)
      generalize hWs:World.setCell _ _ _=Ws
      have hst:set9i W9 T a1 (.slice Av nv cv) o q=Ws:=hWs
      have hm5:=HM9.out.storeA HO9.out
      have hpz: ∃z,PksO (set9i W9 T a1 (.slice Av nv cv) o q) z (.slice Ao9 no9 co9) ou:=by obtain⟨z,h⟩:=HP9.out;exact⟨z,h.oth (set9i_grown _ _ a1 (.slice Av nv cv) _ _) HM9.out.ra (by decide) (by decide)⟩
      rw[hst] at hm5 hpz
      clear hst hWs
      clear s0 s1 s2 s3 s4 s5 s6 s7 s8 t0 t1 t2 t3 t4 t5 t6 t7 t8 fs lP9 lT9
      obtain⟨z9,Po,hPo,hpo⟩:=hpz
      have HM10:=hid hm5
      have hsx:=hm5.bel.size
      have hle:=hm5.t1.le
      have HTO:=hid (show Tl Ws 0 Ao9 no9 co9 Po from Tl.of_own hPo (Nat.zero_le _))
      have HPO:=hid hpo
      have hno9:no9≤1:=by have h:=HTO.out.len;have h2:=HLEN.out;rw[←hpo,List.length_map] at h2;omega
      clear hm5 hPo hpo
      have hi1:(1:Int)≤(n1:Int):=by omega
      have hi2:(n1:Int)≤(c1:Int):=by omega
      have hwn:IntKind.i64.wrap ((n1:Int)-1)=((n1-1:Nat):Int):=by rw[IntWalk.i64_in _ (by omega)];omega
      go_wp2_with (at_builtin;go_loud (refine wpList_tl rfl (.tmp 104) (.tmp 105) rfl HM10.out.t2 rfl (by omega) (by omega) HTO.out rfl hno9 ?_);intro A9 c9 w11 ht11 hg11 hb11;have HM11:=hid (HM10.out.app ht11 hg11 hb11);clear ht11 hg11 hb11)
      ·skip
       refine⟨invJ_intro (s8:=.slice A9 (n2+no9) c9) (s11:=.slice (some ⟨g,od,none⟩) (n1-1) 0) (s13:=.int .i64 ((kk:Int)+1)) ?_ (by kernel_rfl),by simp[intOf];omega⟩
       have HM12:=HM11.out
       rw[←HA1.out] at HM12
       have HM13:=HM12.pop1 (by assumption)
       exact⟨p+1,j,some ⟨g,od,none⟩,A9,Av,B2,n1-1,0,n2+no9,c9,nv,cv,y2,e2,rest,Q2++Po,rfl,rfl,congrArg (Value.int .i64) (by have:=HKK.out;omega),HOK2.out,HREST.out,by rw[List.map_append,HP2.out,HPO.out,HAPP.out],HM13⟩
      ·skip
       refine⟨invJ_intro (s8:=.slice A9 (n2+no9) c9) (s11:=.slice (some ⟨g,od+3,none⟩) (n1-1) (c1-1)) (s13:=.int .i64 ((kk:Int)+1)) ?_ (by kernel_rfl),by simp[intOf];omega⟩
       have HM12:=HM11.out
       rw[←HA1.out] at HM12
       have HM13:=HM12.pop
       exact⟨p+1,j,some ⟨g,od+3,none⟩,A9,Av,B2,n1-1,c1-1,n2+no9,c9,nv,cv,y2,e2,rest,Q2++Po,rfl,rfl,congrArg (Value.int .i64) (by have:=HKK.out;omega),HOK2.out,HREST.out,by rw[List.map_append,HP2.out,HPO.out,HAPP.out],HM13⟩
end Go.Proofs.YtfkgmbknfnhjoaaGreat
