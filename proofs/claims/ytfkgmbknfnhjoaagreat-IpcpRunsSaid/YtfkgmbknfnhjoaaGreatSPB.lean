/- PB -/
import Derived.Test.YtfkgmbknfnhjoaaGreatSPA
set_option linter.all false
set_option linter.ambiguousOpen false
set_option maxHeartbeats 8000000
namespace Go.Proofs.YtfkgmbknfnhjoaaGreat
open Lib (hid)
open Go.RowKit
open Ne (Rl bF aD bM)
theorem uH (A:Option Addr) (n c:Nat) (R:List Rl) (mc mt mf wt:Int) (w:World) (B:Nat) (hB:B≤w.heap.size) (hR:aD w B A R) (hn:n=R.length) (hl:n≤1000000):
  Calls Tryz.prog 13 #[.agg #[.slice A n c,.int .i64 mc,.int .i64 mt,.int .i64 mf,.int .i64 wt]] w fun x w'=>x=.returned (.bool (dA ⟨R,mc,mt,mf,wt⟩))∧Below w.heap.size w w':=by
 have HB:=hid hB
 have HR:=hid hR
 have HN:=hid hn
 clear hB hR hn
 by_cases h0:bM R=true
 focus
  by_cases h1:1≤mc
 focus
  by_cases h2:mc≤1000
 focus
  by_cases h3:1≤mt
 focus
  by_cases h4:mt≤1000
 focus
  by_cases h5:0≤mf
 focus
  by_cases h6:mf≤1000
 focus
  by_cases h7:1≤wt
 focus
  by_cases h8:wt≤1048576
 focus
  have HV:=hid (show dA ⟨R,mc,mt,mf,wt⟩=true by simp[dA,bC,h0,h1,h2,h3,h4,h5,h6,h7,h8])
  have HK:=hid h0
  clear h0
 rotate_left
 focus
  have HV:=hid (show dA ⟨R,mc,mt,mf,wt⟩=false by simp[dA,bC,h0,h1,h2,h3,h4,h5,h6,h7,h8])
  have HK:=hid h0
  clear h0
  have hk:decide (wt≤1048576)=false:=by simp;omega
  clear h8
 rotate_left
 focus
  have HV:=hid (show dA ⟨R,mc,mt,mf,wt⟩=false by simp[dA,bC,h0,h1,h2,h3,h4,h5,h6,h7])
  have HK:=hid h0
  clear h0
  have hk:decide (1≤wt)=false:=by simp;omega
  clear h7
 rotate_left
 focus
  have HV:=hid (show dA ⟨R,mc,mt,mf,wt⟩=false by simp[dA,bC,h0,h1,h2,h3,h4,h5,h6])
  have HK:=hid h0
  clear h0
  have hk:decide (mf≤1000)=false:=by simp;omega
  clear h6
 rotate_left
 focus
  have HV:=hid (show dA ⟨R,mc,mt,mf,wt⟩=false by simp[dA,bC,h0,h1,h2,h3,h4,h5])
  have HK:=hid h0
  clear h0
  have hk:decide (0≤mf)=false:=by simp;omega
  clear h5
 rotate_left
 focus
  have HV:=hid (show dA ⟨R,mc,mt,mf,wt⟩=false by simp[dA,bC,h0,h1,h2,h3,h4])
  have HK:=hid h0
  clear h0
  have hk:decide (mt≤1000)=false:=by simp;omega
  clear h4
 rotate_left
 focus
  have HV:=hid (show dA ⟨R,mc,mt,mf,wt⟩=false by simp[dA,bC,h0,h1,h2,h3])
  have HK:=hid h0
  clear h0
  have hk:decide (1≤mt)=false:=by simp;omega
  clear h3
 rotate_left
 focus
  have HV:=hid (show dA ⟨R,mc,mt,mf,wt⟩=false by simp[dA,bC,h0,h1,h2])
  have HK:=hid h0
  clear h0
  have hk:decide (mc≤1000)=false:=by simp;omega
  clear h2
 rotate_left
 focus
  have HV:=hid (show dA ⟨R,mc,mt,mf,wt⟩=false by simp[dA,bC,h0,h1])
  have HK:=hid h0
  clear h0
  have hk:decide (1≤mc)=false:=by simp;omega
  clear h1
 rotate_left
 focus
  replace h0:bM R=false:=by simpa using h0
  have HV:=hid (show dA ⟨R,mc,mt,mf,wt⟩=false by simp[dA,bC,h0])
  have HK:=hid h0
  clear h0
 rotate_left
 all_goals
  go_enter Tryz.func13,Tryz.ntmps13
  go_wp2_with (go_at_call 48;refine(Ne.xZ A n c R _ B (by have:=HB.out;simp;omega) (by exact HR.out.keep (by have:=HB.out;exact aA)) HN.out hl).mono ?_;rw[HK.out];rintro e w1 ⟨rfl,hb⟩;obtain⟨xs,d,rfl⟩:=aB hb;clear hb)
  go_ret
  exact⟨by rw[HV.out];rfl,by exact aA⟩
theorem nQ (st id req cnt ay au:Int) (A:Option Addr) (n c:Nat) (E:List aH) (L:List bF) (hL:E.map aH.o=L) (w:World) (B:Nat) (hB:B≤w.heap.size) (hE:aJ w B A E) (hn:n=E.length):
  Calls Tryz.prog 24 #[.agg #[.int .i64 st,.int .i64 id,.int .i64 req,.slice A n c,.int .i64 cnt,.int .i64 ay,.int .i64 au]] w fun x w'=>x=.returned (.bool (fA ⟨st,id,req,L,cnt,ay,au⟩))∧Below w.heap.size w w':=by
 have HB:=hid hB
 have HE:=hid hE
 have HN:=hid hn
 have HL:=hid hL
 clear hB hE hn hL
 by_cases h1:0≤st
 focus
  by_cases h2:st≤9
 focus
  by_cases h3:0≤id
 focus
  by_cases h4:id≤255
 focus
  by_cases h5:0≤req
 focus
  by_cases h6:req≤255
 focus
  by_cases h7:0≤cnt
 focus
  by_cases h8:cnt≤1000
 focus
  by_cases h9:0≤au
 focus
  by_cases h10:au≤1000
 focus
  obtain⟨⟨eb,ee⟩,henc⟩: ∃y,Op.encR L=y:=⟨_,rfl⟩
  have jc:=hid henc
  clear henc
  by_cases hee:ee=0
 focus
  subst hee
  cases xq:Fs.iw st
 focus
  have zu:=hid xq
  by_cases ht0:ay=0
 focus
  have HV:=hid (show fA ⟨st,id,req,L,cnt,ay,au⟩=true by simp[fA,fF,oN,bC,h1,h2,h3,h4,h5,h6,h7,h8,h9,h10,jc.out,xq,ht0])
  clear xq
 rotate_left
 focus
  have HV:=hid (show fA ⟨st,id,req,L,cnt,ay,au⟩=false by simp[fA,fF,oN,bC,h1,h2,h3,h4,h5,h6,h7,h8,h9,h10,jc.out,xq,ht0])
  have ht1:(ay==0)=false:=by simpa using ht0
  clear xq ht0
 rotate_left
 focus
  have zu:=hid xq
  by_cases t1:1≤ay
 focus
  by_cases t2:ay≤1099512676352
 focus
  have HV:=hid (show fA ⟨st,id,req,L,cnt,ay,au⟩=true by simp[fA,fF,oN,bC,h1,h2,h3,h4,h5,h6,h7,h8,h9,h10,jc.out,xq,t1,t2])
  clear xq
 rotate_left
 focus
  have HV:=hid (show fA ⟨st,id,req,L,cnt,ay,au⟩=false by simp[fA,fF,oN,bC,h1,h2,h3,h4,h5,h6,h7,h8,h9,h10,jc.out,xq,t1,t2])
  have hk:decide (ay≤1099512676352)=false:=by simp;omega
  clear xq t2
 rotate_left
 focus
  have HV:=hid (show fA ⟨st,id,req,L,cnt,ay,au⟩=false by simp[fA,fF,oN,bC,h1,h2,h3,h4,h5,h6,h7,h8,h9,h10,jc.out,xq,t1])
  have hk:decide (1≤ay)=false:=by simp;omega
  clear xq t1
 rotate_left
 focus
  have HV:=hid (show fA ⟨st,id,req,L,cnt,ay,au⟩=false by simp[fA,fF,bC,h1,h2,h3,h4,h5,h6,h7,h8,h9,h10,jc.out,hee])
  have zu:=hid (rfl:(0:Nat)=0)
  have WK:(ee !=0)=true:=by simpa using hee
 rotate_left
 ·have HV:=hid (show fA ⟨st,id,req,L,cnt,ay,au⟩=false by simp[fA,fF,bC,h1,h2,h3,h4,h5,h6,h7,h8,h9,h10])
  replace h10:1000<au:=by omega
  go_enter Tryz.func24,Tryz.ntmps24
  go_wp2_with fail
  go_ret
  exact⟨by rw[HV.out];rfl,by exact aA⟩
 ·have HV:=hid (show fA ⟨st,id,req,L,cnt,ay,au⟩=false by simp[fA,fF,bC,h1,h2,h3,h4,h5,h6,h7,h8,h9])
  replace h9:au<0:=by omega
  go_enter Tryz.func24,Tryz.ntmps24
  go_wp2_with fail
  go_ret
  exact⟨by rw[HV.out];rfl,by exact aA⟩
 ·have HV:=hid (show fA ⟨st,id,req,L,cnt,ay,au⟩=false by simp[fA,fF,bC,h1,h2,h3,h4,h5,h6,h7,h8])
  replace h8:1000<cnt:=by omega
  go_enter Tryz.func24,Tryz.ntmps24
  go_wp2_with fail
  go_ret
  exact⟨by rw[HV.out];rfl,by exact aA⟩
 ·have HV:=hid (show fA ⟨st,id,req,L,cnt,ay,au⟩=false by simp[fA,fF,bC,h1,h2,h3,h4,h5,h6,h7])
  replace h7:cnt<0:=by omega
  go_enter Tryz.func24,Tryz.ntmps24
  go_wp2_with fail
  go_ret
  exact⟨by rw[HV.out];rfl,by exact aA⟩
 ·have HV:=hid (show fA ⟨st,id,req,L,cnt,ay,au⟩=false by simp[fA,fF,bC,h1,h2,h3,h4,h5,h6])
  replace h6:255<req:=by omega
  go_enter Tryz.func24,Tryz.ntmps24
  go_wp2_with fail
  go_ret
  exact⟨by rw[HV.out];rfl,by exact aA⟩
 ·have HV:=hid (show fA ⟨st,id,req,L,cnt,ay,au⟩=false by simp[fA,fF,bC,h1,h2,h3,h4,h5])
  replace h5:req<0:=by omega
  go_enter Tryz.func24,Tryz.ntmps24
  go_wp2_with fail
  go_ret
  exact⟨by rw[HV.out];rfl,by exact aA⟩
 ·have HV:=hid (show fA ⟨st,id,req,L,cnt,ay,au⟩=false by simp[fA,fF,bC,h1,h2,h3,h4])
  replace h4:255<id:=by omega
  go_enter Tryz.func24,Tryz.ntmps24
  go_wp2_with fail
  go_ret
  exact⟨by rw[HV.out];rfl,by exact aA⟩
 ·have HV:=hid (show fA ⟨st,id,req,L,cnt,ay,au⟩=false by simp[fA,fF,bC,h1,h2,h3])
  replace h3:id<0:=by omega
  go_enter Tryz.func24,Tryz.ntmps24
  go_wp2_with fail
  go_ret
  exact⟨by rw[HV.out];rfl,by exact aA⟩
 ·have HV:=hid (show fA ⟨st,id,req,L,cnt,ay,au⟩=false by simp[fA,fF,bC,h1,h2])
  replace h2:9<st:=by omega
  go_enter Tryz.func24,Tryz.ntmps24
  go_wp2_with fail
  go_ret
  exact⟨by rw[HV.out];rfl,by exact aA⟩
 ·have HV:=hid (show fA ⟨st,id,req,L,cnt,ay,au⟩=false by simp[fA,fF,bC,h1])
  replace h1:st<0:=by omega
  go_enter Tryz.func24,Tryz.ntmps24
  go_wp2_with fail
  go_ret
  exact⟨by rw[HV.out];rfl,by exact aA⟩
 all_goals
  go_enter Tryz.func24,Tryz.ntmps24
  go_wp2_with (first|(go_at_call 18;refine(Op.jP A n c E _ B (by have:=HB.out;simp;omega) (by exact HE.out.keep (by have:=HB.out;exact aA)) HN.out).mono ?_;rw[HL.out];unfold Op.gK;rw[jc.out];rintro e w2 ⟨v,rfl,hb,-⟩;obtain⟨xs2,d2,rfl⟩:=aB hb;clear hb)|(go_at_call 57;refine(Fs.yV _ _).mono ?_;rw[zu.out];rintro e w1 ⟨rfl,rfl⟩))
  go_ret
  exact⟨by rw[HV.out];rfl,by exact aA⟩
theorem nL (A:Option Addr) (n c:Nat) (R:List Rl) (mc mt mf wt:Int) (st id req cnt ay au:Int) (A2:Option Addr) (n2 c2:Nat) (E:List aH) (L:List bF) (hL:E.map aH.o=L) (tick:Int) (w:World) (B:Nat) (hB:B≤w.heap.size) (hR:aD w B A R) (hn:n=R.length) (hl:n≤1000000) (hE:aJ w B A2 E) (hn2:n2=E.length):
  Calls Tryz.prog 54 #[.agg #[.slice A n c,.int .i64 mc,.int .i64 mt,.int .i64 mf,.int .i64 wt],.agg #[.int .i64 st,.int .i64 id,.int .i64 req,.slice A2 n2 c2,.int .i64 cnt,.int .i64 ay,.int .i64 au],.int .i64 tick] w fun x w'=>x=.returned (.bool (dn ⟨R,mc,mt,mf,wt⟩ ⟨st,id,req,L,cnt,ay,au⟩ tick))∧Below w.heap.size w w':=by
 have HB:=hid hB
 have HR:=hid hR
 have HN:=hid hn
 have HE:=hid hE
 have iA:=hid hn2
 have HL:=hid hL
 clear hB hR hn hE hn2 hL
 by_cases h0:dA ⟨R,mc,mt,mf,wt⟩=true
 focus
  by_cases h1:fA ⟨st,id,req,L,cnt,ay,au⟩=true
 focus
  by_cases h2:0≤tick
 focus
  by_cases h3:tick≤1099511627776
 focus
  have HV:=hid (show dn ⟨R,mc,mt,mf,wt⟩ ⟨st,id,req,L,cnt,ay,au⟩ tick=true by simp[dn,bC,h0,h1,h2,h3])
  have HC:=hid h0
  clear h0
  have HI:=hid h1
  clear h1
 rotate_left
 focus
  have HV:=hid (show dn ⟨R,mc,mt,mf,wt⟩ ⟨st,id,req,L,cnt,ay,au⟩ tick=false by simp[dn,bC,h0,h1,h2,h3])
  have HC:=hid h0
  clear h0
  have HI:=hid h1
  clear h1
  have hk:decide (tick≤1099511627776)=false:=by simp;omega
  clear h3
 rotate_left
 focus
  have HV:=hid (show dn ⟨R,mc,mt,mf,wt⟩ ⟨st,id,req,L,cnt,ay,au⟩ tick=false by simp[dn,bC,h0,h1,h2])
  have HC:=hid h0
  clear h0
  have HI:=hid h1
  clear h1
  have hk:decide (0≤tick)=false:=by simp;omega
  clear h2
 rotate_left
 focus
  simp only[Bool.not_eq_true] at h1
  have HV:=hid (show dn ⟨R,mc,mt,mf,wt⟩ ⟨st,id,req,L,cnt,ay,au⟩ tick=false by simp[dn,bC,h0,h1])
  have HC:=hid h0
  clear h0
  have HI:=hid h1
  clear h1
 rotate_left
 ·simp only[Bool.not_eq_true] at h0
  have HV:=hid (show dn ⟨R,mc,mt,mf,wt⟩ ⟨st,id,req,L,cnt,ay,au⟩ tick=false by simp[dn,bC,h0])
  have HC:=hid h0
  clear h0
  have HI:=hid (rfl:(0:Nat)=0)
  go_enter Tryz.func54,Tryz.ntmps54
  go_wp2_with (first|(go_at_call 13;refine(uH A n c R mc mt mf wt _ B (by have:=HB.out;simp;omega) (by exact HR.out.keep (by have:=HB.out;exact aA)) HN.out hl).mono ?_;rw[HC.out];rintro e w1 ⟨rfl,hb⟩;obtain⟨xs,d,rfl⟩:=aB hb;clear hb))
  go_ret
  exact⟨by rw[HV.out];rfl,by exact aA⟩
 all_goals
  go_enter Tryz.func54,Tryz.ntmps54
  go_wp2_with ((first|(go_at_call 13;refine(uH A n c R mc mt mf wt _ B (by have:=HB.out;simp;omega) (by exact HR.out.keep (by have:=HB.out;exact aA)) HN.out hl).mono ?_;rw[HC.out];rintro e w1 ⟨rfl,hb⟩;obtain⟨xs,d,rfl⟩:=aB hb)|(go_at_call 24;refine(nQ st id req cnt ay au A2 n2 c2 E L HL.out _ B (by have:=HB.out;simp[size_ext,grow];omega) (by exact HE.out.keep (by have:=HB.out;exact aA)) iA.out).mono ?_;rw[HI.out];rintro e w1 ⟨rfl,hb⟩;obtain⟨mP,d3,rfl⟩:=aB hb));clear hb)
  go_ret
  exact⟨by rw[HV.out];rfl,by exact aA⟩
def jm (a b:Au):Bool:=a.st==b.st&&(a.id==b.id&&(a.req==b.req&&(a.cnt==b.cnt&&(a.ay==b.ay&&(a.au==b.au&&Op.jA a.ask b.ask)))))
theorem vJ (s1 i1 r1 c1 t1 k1 s2 i2 r2 c2 t2 k2:Int) (A1 A2:Option Addr) (n1 n2 m1 m2:Nat) (E1 E2:List aH) (L1 L2:List bF) (hL1:E1.map aH.o=L1) (hL2:E2.map aH.o=L2) (w:World) (B:Nat) (hB:B≤w.heap.size) (hE1:aJ w B A1 E1) (hE2:aJ w B A2 E2) (hn1:n1=E1.length) (hn2:n2=E2.length) (hl:n1≤1000000):
  Calls Tryz.prog 21 #[.agg #[.int .i64 s1,.int .i64 i1,.int .i64 r1,.slice A1 n1 m1,.int .i64 c1,.int .i64 t1,.int .i64 k1],.agg #[.int .i64 s2,.int .i64 i2,.int .i64 r2,.slice A2 n2 m2,.int .i64 c2,.int .i64 t2,.int .i64 k2]] w fun x w'=>x=.returned (.bool (jm ⟨s1,i1,r1,L1,c1,t1,k1⟩ ⟨s2,i2,r2,L2,c2,t2,k2⟩))∧Below w.heap.size w w':=by
 have HB:=hid hB
 have Ky:=hid hE1
 have HE2:=hid hE2
 have lD:=hid hn1
 have iA:=hid hn2
 have YB:=hid hL1
 have HL2:=hid hL2
 clear hB hE1 hE2 hn1 hn2 hL1 hL2
 cases h0:(s1==s2)
 focus
  have HV:=hid (show jm ⟨s1,i1,r1,L1,c1,t1,k1⟩ ⟨s2,i2,r2,L2,c2,t2,k2⟩=false by simp[jm,h0])
 rotate_left
 focus
  cases h1:(i1==i2)
 focus
  have HV:=hid (show jm ⟨s1,i1,r1,L1,c1,t1,k1⟩ ⟨s2,i2,r2,L2,c2,t2,k2⟩=false by simp[jm,h0,h1])
 rotate_left
 focus
  cases h2:(r1==r2)
 focus
  have HV:=hid (show jm ⟨s1,i1,r1,L1,c1,t1,k1⟩ ⟨s2,i2,r2,L2,c2,t2,k2⟩=false by simp[jm,h0,h1,h2])
 rotate_left
 focus
  cases h3:(c1==c2)
 focus
  have HV:=hid (show jm ⟨s1,i1,r1,L1,c1,t1,k1⟩ ⟨s2,i2,r2,L2,c2,t2,k2⟩=false by simp[jm,h0,h1,h2,h3])
 rotate_left
 focus
  cases h4:(t1==t2)
 focus
  have HV:=hid (show jm ⟨s1,i1,r1,L1,c1,t1,k1⟩ ⟨s2,i2,r2,L2,c2,t2,k2⟩=false by simp[jm,h0,h1,h2,h3,h4])
 rotate_left
 focus
  cases h5:(k1==k2)
 focus
  have HV:=hid (show jm ⟨s1,i1,r1,L1,c1,t1,k1⟩ ⟨s2,i2,r2,L2,c2,t2,k2⟩=false by simp[jm,h0,h1,h2,h3,h4,h5])
 rotate_left
 ·have HV:=hid (show jm ⟨s1,i1,r1,L1,c1,t1,k1⟩ ⟨s2,i2,r2,L2,c2,t2,k2⟩=Op.jA L1 L2 by simp[jm,h0,h1,h2,h3,h4,h5])
  go_enter Tryz.func21,Tryz.ntmps21
  go_wp2_with (go_at_call 64;refine(Op.vJ A1 A2 n1 n2 m1 m2 E1 E2 _ B (by have:=HB.out;simp;omega) (by exact Ky.out.keep (by have:=HB.out;exact aA)) (by exact HE2.out.keep (by have:=HB.out;exact aA)) lD.out iA.out hl).mono ?_;rw[YB.out,HL2.out];rintro e w1 ⟨rfl,hb⟩;obtain⟨xs,d,rfl⟩:=aB hb;clear hb)
  go_ret
  exact⟨by rw[HV.out];rfl,by exact aA⟩
 all_goals
  go_enter Tryz.func21,Tryz.ntmps21
  go_wp2_with fail
  go_ret
  exact⟨by rw[HV.out];rfl,by exact aA⟩
end Go.Proofs.YtfkgmbknfnhjoaaGreat
