/- N2 -/
import Derived.Test.YtfkgmbknfnhjoaaGreatSA
import Derived.Test.YtfkgmbknfnhjoaaGreatSN1
import Derived.Maps.OwnOps
import Derived.Maps.Views
set_option linter.all false
set_option maxHeartbeats 4000000
namespace Go.Proofs.YtfkgmbknfnhjoaaGreat.Ne
open Lib (hid)
open Go.RowKit
def _root_.Go.Proofs.YtfkgmbknfnhjoaaGreat.aH.Wu (e:aH):aH:=⟨e.t,e.d.take 20,e.a,e.c⟩
def TQ (E:List aH):List aH:=(E.take 20).map aH.Wu
structure Rl where
 t:Int
 sz:Int
 kd:Int
 lo:Int
 hi:Int
 gd:Int
 must:Bool
def dG (kd lo hi gd n:Int):Bool:=if kd=1 then true else if kd=2 then(decide (lo≤n)&&decide (n≤hi)) else if kd=3 then n==gd else if kd=4 then n !=lo else false
def Rl.takes (r:Rl) (n:Int):Bool:=dG r.kd r.lo r.hi r.gd n
theorem ZX (t sz kd lo hi gd n:Int) (m:Bool) (w:World):Calls Tryz.prog 179 #[.agg #[.int .i64 t,.int .i64 sz,.int .i64 kd,.int .i64 lo,.int .i64 hi,.int .i64 gd,.bool m],.int .i64 n] w fun x w'=>x=.returned (.bool true)∧Below w.heap.size w w':=by
 go_enter Tryz.func179,Tryz.ntmps179
 go_wp2
 go_ret
 exact⟨rfl,by exact aA⟩
theorem Xj (t sz kd lo hi gd n:Int) (m:Bool) (w:World):Calls Tryz.prog 180 #[.agg #[.int .i64 t,.int .i64 sz,.int .i64 kd,.int .i64 lo,.int .i64 hi,.int .i64 gd,.bool m],.int .i64 n] w fun x w'=>x=.returned (.bool (decide (lo≤n)&&decide (n≤hi)))∧Below w.heap.size w w':=by
 cases h1:decide (lo≤n)<;>cases h2:decide (n≤hi)
 all_goals
  go_enter Tryz.func180,Tryz.ntmps180
  go_wp2
  go_ret
  exact⟨rfl,by exact aA⟩
theorem Xh (t sz kd lo hi gd n:Int) (m:Bool) (w:World):Calls Tryz.prog 181 #[.agg #[.int .i64 t,.int .i64 sz,.int .i64 kd,.int .i64 lo,.int .i64 hi,.int .i64 gd,.bool m],.int .i64 n] w fun x w'=>x=.returned (.bool (n==gd))∧Below w.heap.size w w':=by
 go_enter Tryz.func181,Tryz.ntmps181
 go_wp2
 go_ret
 exact⟨rfl,by exact aA⟩
theorem ZY (t sz kd lo hi gd n:Int) (m:Bool) (w:World):Calls Tryz.prog 182 #[.agg #[.int .i64 t,.int .i64 sz,.int .i64 kd,.int .i64 lo,.int .i64 hi,.int .i64 gd,.bool m],.int .i64 n] w fun x w'=>x=.returned (.bool (n !=lo))∧Below w.heap.size w w':=by
 go_enter Tryz.func182,Tryz.ntmps182
 go_wp2
 go_ret
 exact⟨rfl,by exact aA⟩
def yX (kd:Int):Value:=if kd=1 then .func (.func 179) #[] #[] else if kd=2 then .func (.func 180) #[] #[] else if kd=3 then .func (.func 181) #[] #[] else if kd=4 then .func (.func 182) #[] #[] else .nilFunc
def lV (kd:Int):Bool:=decide (1≤kd)&&decide (kd≤4)
theorem kinds (kd:Int):kd=1∨kd=2∨kd=3∨kd=4∨(kd≠1∧kd≠2∧kd≠3∧kd≠4):=by omega
theorem pQ (t sz kd lo hi gd:Int) (m:Bool) (w:World):Calls Tryz.prog 168 #[.agg #[.int .i64 t,.int .i64 sz,.int .i64 kd,.int .i64 lo,.int .i64 hi,.int .i64 gd,.bool m]] w fun x w'=>x=.returned (.tuple #[yX kd,.bool (lV kd)])∧Below w.heap.size w w':=by
 rcases kinds kd with rfl|rfl|rfl|rfl|⟨h1,h2,h3,h4⟩
 ·go_enter Tryz.func168,Tryz.ntmps168
  go_wp2
  go_ret2
  exact⟨rfl,by exact aA⟩
 ·go_enter Tryz.func168,Tryz.ntmps168
  go_wp2
  go_ret2
  exact⟨rfl,by exact aA⟩
 ·go_enter Tryz.func168,Tryz.ntmps168
  go_wp2
  go_ret2
  exact⟨rfl,by exact aA⟩
 ·go_enter Tryz.func168,Tryz.ntmps168
  go_wp2
  go_ret2
  exact⟨rfl,by exact aA⟩
 ·have e1:(kd==1)=false:=by simpa using h1
  have e2:(kd==2)=false:=by simpa using h2
  have e3:(kd==3)=false:=by simpa using h3
  have e4:(kd==4)=false:=by simpa using h4
  have HR:=hid (show yX kd=.nilFunc∧lV kd=false by unfold yX lV;rw[if_neg h1,if_neg h2,if_neg h3,if_neg h4];refine⟨rfl,?_⟩;simp;omega)
  clear h1 h2 h3 h4
  go_enter Tryz.func168,Tryz.ntmps168
  go_wp2
  go_ret2
  exact⟨by rw[HR.out.1,HR.out.2];rfl,by exact aA⟩
theorem jF (t sz kd lo hi gd n:Int) (m:Bool) (w:World):Calls Tryz.prog 169 #[.agg #[.int .i64 t,.int .i64 sz,.int .i64 kd,.int .i64 lo,.int .i64 hi,.int .i64 gd,.bool m],.int .i64 n] w fun x w'=>x=.returned (.bool (dG kd lo hi gd n))∧Below w.heap.size w w':=by
 rcases kinds kd with rfl|rfl|rfl|rfl|⟨h1,h2,h3,h4⟩
 focus
  go_enter Tryz.func169,Tryz.ntmps169
  go_wp2_with fail
  refine(pQ t sz 1 lo hi gd m _).mono ?_
  rw[show yX 1=.func (.func 179) #[] #[] from rfl,show lV 1=true from rfl]
  rintro e w1 ⟨rfl,hb⟩;obtain⟨xs,d,rfl⟩:=aB hb;clear hb
  go_wp2_with fail
  refine(ZX t sz 1 lo hi gd n m _).mono ?_
 rotate_left
 ·go_enter Tryz.func169,Tryz.ntmps169
  go_wp2_with fail
  refine(pQ t sz 2 lo hi gd m _).mono ?_
  rw[show yX 2=.func (.func 180) #[] #[] from rfl,show lV 2=true from rfl]
  rintro e w1 ⟨rfl,hb⟩;obtain⟨xs,d,rfl⟩:=aB hb;clear hb
  go_wp2_with fail
  refine(Xj t sz 2 lo hi gd n m _).mono ?_
  obtain⟨b,hb⟩: ∃b,(decide (lo≤n)&&decide (n≤hi))=b:=⟨_,rfl⟩
  have OQ:=hid hb
  rw[hb]
  clear hb
  rintro e w1 ⟨rfl,hb⟩;obtain⟨xs2,d2,rfl⟩:=aB hb;clear hb
  go_wp2_with fail
  go_ret
  exact⟨by rw[←OQ.out];rfl,by exact aA⟩
 focus
  go_enter Tryz.func169,Tryz.ntmps169
  go_wp2_with fail
  refine(pQ t sz 3 lo hi gd m _).mono ?_
  rw[show yX 3=.func (.func 181) #[] #[] from rfl,show lV 3=true from rfl]
  rintro e w1 ⟨rfl,hb⟩;obtain⟨xs,d,rfl⟩:=aB hb;clear hb
  go_wp2_with fail
  refine(Xh t sz 3 lo hi gd n m _).mono ?_
 rotate_left
 focus
  go_enter Tryz.func169,Tryz.ntmps169
  go_wp2_with fail
  refine(pQ t sz 4 lo hi gd m _).mono ?_
  rw[show yX 4=.func (.func 182) #[] #[] from rfl,show lV 4=true from rfl]
  rintro e w1 ⟨rfl,hb⟩;obtain⟨xs,d,rfl⟩:=aB hb;clear hb
  go_wp2_with fail
  refine(ZY t sz 4 lo hi gd n m _).mono ?_
 rotate_left
 ·have HR:=hid (show yX kd=.nilFunc∧lV kd=false∧dG kd lo hi gd n=false by unfold yX lV dG;rw[if_neg h1,if_neg h2,if_neg h3,if_neg h4];refine⟨rfl,?_,?_⟩;(simp;omega);rw[if_neg h1,if_neg h2,if_neg h3,if_neg h4])
  clear h1 h2 h3 h4
  go_enter Tryz.func169,Tryz.ntmps169
  go_wp2_with fail
  refine(pQ t sz kd lo hi gd m _).mono ?_
  rw[HR.out.1,HR.out.2.1]
  rintro e w1 ⟨rfl,hb⟩;obtain⟨xs,d,rfl⟩:=aB hb;clear hb
  go_wp2_with fail
  go_ret
  exact⟨by rw[HR.out.2.2];rfl,by exact aA⟩
 all_goals
  rintro e w1 ⟨rfl,hb⟩;obtain⟨xs2,d2,rfl⟩:=aB hb;clear hb
  go_wp2_with fail
  go_ret
  exact⟨rfl,by exact aA⟩
def lim (sz:Int):Int:=256^sz.toNat
def eG (n m:Int):Bool:=decide (0≤n)&&decide (n<m)
def preB (t sz kd:Int):Bool:=decide (1≤t)&&decide (t≤255)&&decide (0≤sz)&&decide (sz≤4)&& !(sz==0&&kd !=1)
def okB (t sz kd lo hi gd:Int):Bool:=preB t sz kd&&(eG lo (lim sz)&&(eG hi (lim sz)&&(eG gd (lim sz)&&((kd !=2||decide (lo≤hi))&&dG kd lo hi gd gd))))
def Rl.ok (r:Rl):Bool:=okB r.t r.sz r.kd r.lo r.hi r.gd
theorem wC {kd lo hi gd n:Int} (h:lV kd=false):dG kd lo hi gd n=false:=by
 simp[lV] at h
 unfold dG
 rw[if_neg (by omega),if_neg (by omega),if_neg (by omega),if_neg (by omega)]
theorem NR (t sz kd lo hi gd:Int) (m:Bool) (w:World) (h:preB t sz kd=false):Calls Tryz.prog 147 #[.agg #[.int .i64 t,.int .i64 sz,.int .i64 kd,.int .i64 lo,.int .i64 hi,.int .i64 gd,.bool m]] w fun x w'=>x=.returned (.bool (okB t sz kd lo hi gd))∧Below w.heap.size w w':=by
 have HR:=hid (show okB t sz kd lo hi gd=false by unfold okB;rw[h];rfl)
 have HP:=hid h
 clear h
 by_cases c1:t<1
 ·go_enter Tryz.func147,Tryz.ntmps147
  go_wp2
  go_ret
  exact⟨by rw[HR.out];rfl,by exact aA⟩
 ·have f1:decide (t<1)=false:=by simpa using c1
  by_cases c2:255<t
  ·go_enter Tryz.func147,Tryz.ntmps147
   go_wp2
   go_ret
   exact⟨by rw[HR.out];rfl,by exact aA⟩
  ·have f2:decide (255<t)=false:=by simpa using c2
   by_cases c3:sz<0
   ·go_enter Tryz.func147,Tryz.ntmps147
    go_wp2
    go_ret
    exact⟨by rw[HR.out];rfl,by exact aA⟩
   ·have f3:decide (sz<0)=false:=by simpa using c3
    by_cases c4:4<sz
    ·go_enter Tryz.func147,Tryz.ntmps147
     go_wp2
     go_ret
     exact⟨by rw[HR.out];rfl,by exact aA⟩
    ·have f4:decide (4<sz)=false:=by simpa using c4
     have h5:sz=0∧kd≠1:=by
      have:=HP.out
      unfold preB at this
      simp at this
      by_cases h0:sz=0
      ·exact⟨h0,by intro e;exact absurd e (by have:=this (by omega) (by omega) (by omega) (by omega);exact this.2)⟩
      ·exact absurd (this (by omega) (by omega) (by omega) (by omega)).1 h0
     obtain⟨rfl,c5⟩:=h5
     have f5:(kd !=1)=true:=by simpa using c5
     clear c5
     go_enter Tryz.func147,Tryz.ntmps147
     go_wp2
     go_ret
     exact⟨by rw[HR.out];rfl,by exact aA⟩
def oW (lo hi gd M:Int) (k:Nat):Prop:=(1≤k→eG lo M=true)∧(2≤k→eG hi M=true)∧(3≤k→eG gd M=true)
set_option maxRecDepth 100000 in
theorem IU (t sz kd lo hi gd:Int) (m:Bool) (w:World) (h:preB t sz kd=true):Calls Tryz.prog 147 #[.agg #[.int .i64 t,.int .i64 sz,.int .i64 kd,.int .i64 lo,.int .i64 hi,.int .i64 gd,.bool m]] w fun x w'=>x=.returned (.bool (okB t sz kd lo hi gd))∧Below w.heap.size w w':=by
 have HP:=hid h
 have h':=h
 unfold preB at h'
 simp at h'
 obtain⟨⟨⟨⟨g1,g2⟩,g3⟩,g4⟩,g5⟩:=h'
 have f1:decide (t<1)=false:=by simp;omega
 have f2:decide (255<t)=false:=by simp;omega
 have f3:decide (sz<0)=false:=by simp;omega
 have f4:decide (4<sz)=false:=by simp;omega
 cases hk:lV kd
 ·have HR:=hid (show okB t sz kd lo hi gd=false by unfold okB;rw[wC hk];simp)
  have HK:=hid hk
  have hk1: ¬kd=1:=by intro e;subst e;cases hk
  have f5:(sz==0)=false:=by simp;intro e;exact g5.elim (fun h=>h e) hk1
  clear h hk hk1 g5
  go_enter Tryz.func147,Tryz.ntmps147
  go_wp2_with fail
  refine(pQ t sz kd lo hi gd m _).mono ?_
  rw[HK.out]
  rintro e w1 ⟨rfl,hb⟩;obtain⟨xs,d,rfl⟩:=aB hb;clear hb
  go_wp2_with fail
  go_ret
  exact⟨by rw[HR.out];rfl,by exact aA⟩
 focus
  have HK:=hid hk
  clear h hk
  obtain⟨sz',hsz'⟩: ∃s,s=sz:=⟨_,rfl⟩
  have h5:sz=0∨sz=1∨sz=2∨sz=3∨sz=4:=by omega
  have qP:=hid g5
  rw[←hsz'] at qP HP
  have V4:=hid hsz'
  have hok:okB t sz kd lo hi gd=okB t sz' kd lo hi gd:=by rw[hsz']
  rw[hok]
  clear hok hsz'
  have hko:(sz==0)=true→(kd !=1)=false:=by intro e;simp at e;exact g5.elim (fun h=>absurd e h) (fun h=>by simp[h])
  clear g5
  rcases h5 with rfl|rfl|rfl|rfl|rfl
 focus
  have f5:=hko rfl
  have HL:=hid (show lim sz'=1 by rw[V4.out];rfl)
 rotate_left
 focus
  have f5:=trivial
  have HL:=hid (show lim sz'=256 by rw[V4.out];rfl)
 rotate_left
 focus
  have f5:=trivial
  have HL:=hid (show lim sz'=65536 by rw[V4.out];rfl)
 rotate_left
 focus
  have f5:=trivial
  have HL:=hid (show lim sz'=16777216 by rw[V4.out];rfl)
 rotate_left
 focus
  have f5:=trivial
  have HL:=hid (show lim sz'=4294967296 by rw[V4.out];rfl)
 rotate_left
 all_goals
  clear hko
  have i0: ∀w,(Instr.index 202 (.agg #[.int .i64 lo,.int .i64 hi,.int .i64 gd]) (.int .i64 0)).run Tryz.prog w=.ok (.int .i64 lo) w:=fun _=>by kernel_rfl
  have i1: ∀w,(Instr.index 202 (.agg #[.int .i64 lo,.int .i64 hi,.int .i64 gd]) (.int .i64 1)).run Tryz.prog w=.ok (.int .i64 hi) w:=fun _=>by kernel_rfl
  have i2: ∀w,(Instr.index 202 (.agg #[.int .i64 lo,.int .i64 hi,.int .i64 gd]) (.int .i64 2)).run Tryz.prog w=.ok (.int .i64 gd) w:=fun _=>by kernel_rfl
  go_enter Tryz.func147,Tryz.ntmps147
  go_wp2_with fail
  refine(pQ t _ kd lo hi gd m _).mono ?_
  rw[HK.out]
  rintro e w1 ⟨rfl,hb⟩;obtain⟨xs,d,rfl⟩:=aB hb;clear hb
  go_wp2_with fail
 ·go_loop [55] (fun i=> ∃k:Nat,k≤3∧i=.int .i64 k∧oW lo hi gd 1 k) (fun i=>3-(intOf i).toNat)
  case atStart=>exact⟨0,by omega,rfl,by unfold oW;refine⟨?_,?_,?_⟩<;>omega⟩
  case round=>
   obtain⟨k,hk,rfl,hu⟩:=hrel
   have HU:=hid hu
   clear hu
   have hk3:k=0∨k=1∨k=2∨k=3:=by omega
   rcases hk3 with rfl|rfl|rfl|rfl
   ·by_cases c1:lo<0
    ·have HR:=hid (show okB t sz' kd lo hi gd=false by unfold okB;rw[show eG lo (lim sz')=false by unfold eG;simp;omega];simp)
     go_wp2
     go_ret
     exact⟨by rw[HR.out];rfl,by exact aA⟩
    ·have f1:decide (lo<0)=false:=by simpa using c1
     by_cases c2:1≤lo
     ·have HR:=hid (show okB t sz' kd lo hi gd=false by unfold okB;rw[show eG lo (lim sz')=false by unfold eG;rw[HL.out];simp;omega];simp)
      go_wp2
      go_ret
      exact⟨by rw[HR.out];rfl,by exact aA⟩
     ·have f2:decide (1≤lo)=false:=by simpa using c2
      have HI:=hid (show eG lo 1=true by unfold eG;simp;omega)
      go_wp2
      go_round
      case rel=>exact⟨1,by omega,by go_num,⟨fun _=>HI.out,fun h=>absurd h (by omega),fun h=>absurd h (by omega)⟩⟩
      case measure=>simp[intOf]
   ·by_cases c1:hi<0
    ·have HR:=hid (show okB t sz' kd lo hi gd=false by unfold okB;rw[show eG hi (lim sz')=false by unfold eG;simp;omega];simp)
     go_wp2
     go_ret
     exact⟨by rw[HR.out];rfl,by exact aA⟩
    ·have f1:decide (hi<0)=false:=by simpa using c1
     by_cases c2:1≤hi
     ·have HR:=hid (show okB t sz' kd lo hi gd=false by unfold okB;rw[show eG hi (lim sz')=false by unfold eG;rw[HL.out];simp;omega];simp)
      go_wp2
      go_ret
      exact⟨by rw[HR.out];rfl,by exact aA⟩
     ·have f2:decide (1≤hi)=false:=by simpa using c2
      have HI:=hid (show eG hi 1=true by unfold eG;simp;omega)
      go_wp2
      go_round
      case rel=>exact⟨2,by omega,by go_num,⟨fun _=>HU.out.1 (by omega),fun _=>HI.out,fun h=>absurd h (by omega)⟩⟩
      case measure=>simp[intOf]
   ·by_cases c1:gd<0
    ·have HR:=hid (show okB t sz' kd lo hi gd=false by unfold okB;rw[show eG gd (lim sz')=false by unfold eG;simp;omega];simp)
     go_wp2
     go_ret
     exact⟨by rw[HR.out];rfl,by exact aA⟩
    ·have f1:decide (gd<0)=false:=by simpa using c1
     by_cases c2:1≤gd
     ·have HR:=hid (show okB t sz' kd lo hi gd=false by unfold okB;rw[show eG gd (lim sz')=false by unfold eG;rw[HL.out];simp;omega];simp)
      go_wp2
      go_ret
      exact⟨by rw[HR.out];rfl,by exact aA⟩
     ·have f2:decide (1≤gd)=false:=by simpa using c2
      have HI:=hid (show eG gd 1=true by unfold eG;simp;omega)
      go_wp2
      go_round
      case rel=>exact⟨3,by omega,by go_num,⟨fun _=>HU.out.1 (by omega),fun _=>HU.out.2.1 (by omega),fun _=>HI.out⟩⟩
      case measure=>simp[intOf]
   focus
    have HB3:=hid (show okB t sz' kd lo hi gd=((kd !=2||decide (lo≤hi))&&dG kd lo hi gd gd) by unfold okB;rw[HP.out,HL.out,HU.out.1 (by omega),HU.out.2.1 (by omega),HU.out.2.2 (by omega)];simp)
    cases hq:(kd !=2)
   focus
    cases hq2:decide (lo≤hi)
   ·have HR:=hid (show okB t sz' kd lo hi gd=false by rw[HB3.out,hq,hq2];rfl)
    go_wp2
    go_ret
    exact⟨by rw[HR.out];rfl,by exact aA⟩
   focus
    have HR:=hid (show okB t sz' kd lo hi gd=dG kd lo hi gd gd by rw[HB3.out,hq,hq2];rfl)
   rotate_left
   focus
    have HR:=hid (show okB t sz' kd lo hi gd=dG kd lo hi gd gd by rw[HB3.out,hq];rfl)
   rotate_left
   all_goals
    go_wp2_with fail
    refine(jF t _ kd lo hi gd gd m _).mono ?_
    rintro e w1 ⟨rfl,hb⟩;obtain⟨xs2,d2,rfl⟩:=aB hb;clear hb
    go_wp2_with fail
    go_ret
    exact⟨by rw[HR.out];rfl,by exact aA⟩
 ·go_loop [55] (fun i=> ∃k:Nat,k≤3∧i=.int .i64 k∧oW lo hi gd 256 k) (fun i=>3-(intOf i).toNat)
  case atStart=>exact⟨0,by omega,rfl,by unfold oW;refine⟨?_,?_,?_⟩<;>omega⟩
  case round=>
   obtain⟨k,hk,rfl,hu⟩:=hrel
   have HU:=hid hu
   clear hu
   have hk3:k=0∨k=1∨k=2∨k=3:=by omega
   rcases hk3 with rfl|rfl|rfl|rfl
   ·by_cases c1:lo<0
    ·have HR:=hid (show okB t sz' kd lo hi gd=false by unfold okB;rw[show eG lo (lim sz')=false by unfold eG;simp;omega];simp)
     go_wp2
     go_ret
     exact⟨by rw[HR.out];rfl,by exact aA⟩
    ·have f1:decide (lo<0)=false:=by simpa using c1
     by_cases c2:256≤lo
     ·have HR:=hid (show okB t sz' kd lo hi gd=false by unfold okB;rw[show eG lo (lim sz')=false by unfold eG;rw[HL.out];simp;omega];simp)
      go_wp2
      go_ret
      exact⟨by rw[HR.out];rfl,by exact aA⟩
     ·have f2:decide (256≤lo)=false:=by simpa using c2
      have HI:=hid (show eG lo 256=true by unfold eG;simp;omega)
      go_wp2
      go_round
      case rel=>exact⟨1,by omega,by go_num,⟨fun _=>HI.out,fun h=>absurd h (by omega),fun h=>absurd h (by omega)⟩⟩
      case measure=>simp[intOf]
   ·by_cases c1:hi<0
    ·have HR:=hid (show okB t sz' kd lo hi gd=false by unfold okB;rw[show eG hi (lim sz')=false by unfold eG;simp;omega];simp)
     go_wp2
     go_ret
     exact⟨by rw[HR.out];rfl,by exact aA⟩
    ·have f1:decide (hi<0)=false:=by simpa using c1
     by_cases c2:256≤hi
     ·have HR:=hid (show okB t sz' kd lo hi gd=false by unfold okB;rw[show eG hi (lim sz')=false by unfold eG;rw[HL.out];simp;omega];simp)
      go_wp2
      go_ret
      exact⟨by rw[HR.out];rfl,by exact aA⟩
     ·have f2:decide (256≤hi)=false:=by simpa using c2
      have HI:=hid (show eG hi 256=true by unfold eG;simp;omega)
      go_wp2
      go_round
      case rel=>exact⟨2,by omega,by go_num,⟨fun _=>HU.out.1 (by omega),fun _=>HI.out,fun h=>absurd h (by omega)⟩⟩
      case measure=>simp[intOf]
   ·by_cases c1:gd<0
    ·have HR:=hid (show okB t sz' kd lo hi gd=false by unfold okB;rw[show eG gd (lim sz')=false by unfold eG;simp;omega];simp)
     go_wp2
     go_ret
     exact⟨by rw[HR.out];rfl,by exact aA⟩
    ·have f1:decide (gd<0)=false:=by simpa using c1
     by_cases c2:256≤gd
     ·have HR:=hid (show okB t sz' kd lo hi gd=false by unfold okB;rw[show eG gd (lim sz')=false by unfold eG;rw[HL.out];simp;omega];simp)
      go_wp2
      go_ret
      exact⟨by rw[HR.out];rfl,by exact aA⟩
     ·have f2:decide (256≤gd)=false:=by simpa using c2
      have HI:=hid (show eG gd 256=true by unfold eG;simp;omega)
      go_wp2
      go_round
      case rel=>exact⟨3,by omega,by go_num,⟨fun _=>HU.out.1 (by omega),fun _=>HU.out.2.1 (by omega),fun _=>HI.out⟩⟩
      case measure=>simp[intOf]
   focus
    have HB3:=hid (show okB t sz' kd lo hi gd=((kd !=2||decide (lo≤hi))&&dG kd lo hi gd gd) by unfold okB;rw[HP.out,HL.out,HU.out.1 (by omega),HU.out.2.1 (by omega),HU.out.2.2 (by omega)];simp)
    cases hq:(kd !=2)
   focus
    cases hq2:decide (lo≤hi)
   ·have HR:=hid (show okB t sz' kd lo hi gd=false by rw[HB3.out,hq,hq2];rfl)
    go_wp2
    go_ret
    exact⟨by rw[HR.out];rfl,by exact aA⟩
   focus
    have HR:=hid (show okB t sz' kd lo hi gd=dG kd lo hi gd gd by rw[HB3.out,hq,hq2];rfl)
   rotate_left
   focus
    have HR:=hid (show okB t sz' kd lo hi gd=dG kd lo hi gd gd by rw[HB3.out,hq];rfl)
   rotate_left
   all_goals
    go_wp2_with fail
    refine(jF t _ kd lo hi gd gd m _).mono ?_
    rintro e w1 ⟨rfl,hb⟩;obtain⟨xs2,d2,rfl⟩:=aB hb;clear hb
    go_wp2_with fail
    go_ret
    exact⟨by rw[HR.out];rfl,by exact aA⟩
 ·go_loop [55] (fun i=> ∃k:Nat,k≤3∧i=.int .i64 k∧oW lo hi gd 65536 k) (fun i=>3-(intOf i).toNat)
  case atStart=>exact⟨0,by omega,rfl,by unfold oW;refine⟨?_,?_,?_⟩<;>omega⟩
  case round=>
   obtain⟨k,hk,rfl,hu⟩:=hrel
   have HU:=hid hu
   clear hu
   have hk3:k=0∨k=1∨k=2∨k=3:=by omega
   rcases hk3 with rfl|rfl|rfl|rfl
   ·by_cases c1:lo<0
    ·have HR:=hid (show okB t sz' kd lo hi gd=false by unfold okB;rw[show eG lo (lim sz')=false by unfold eG;simp;omega];simp)
     go_wp2
     go_ret
     exact⟨by rw[HR.out];rfl,by exact aA⟩
    ·have f1:decide (lo<0)=false:=by simpa using c1
     by_cases c2:65536≤lo
     ·have HR:=hid (show okB t sz' kd lo hi gd=false by unfold okB;rw[show eG lo (lim sz')=false by unfold eG;rw[HL.out];simp;omega];simp)
      go_wp2
      go_ret
      exact⟨by rw[HR.out];rfl,by exact aA⟩
     ·have f2:decide (65536≤lo)=false:=by simpa using c2
      have HI:=hid (show eG lo 65536=true by unfold eG;simp;omega)
      go_wp2
      go_round
      case rel=>exact⟨1,by omega,by go_num,⟨fun _=>HI.out,fun h=>absurd h (by omega),fun h=>absurd h (by omega)⟩⟩
      case measure=>simp[intOf]
   ·by_cases c1:hi<0
    ·have HR:=hid (show okB t sz' kd lo hi gd=false by unfold okB;rw[show eG hi (lim sz')=false by unfold eG;simp;omega];simp)
     go_wp2
     go_ret
     exact⟨by rw[HR.out];rfl,by exact aA⟩
    ·have f1:decide (hi<0)=false:=by simpa using c1
     by_cases c2:65536≤hi
     ·have HR:=hid (show okB t sz' kd lo hi gd=false by unfold okB;rw[show eG hi (lim sz')=false by unfold eG;rw[HL.out];simp;omega];simp)
      go_wp2
      go_ret
      exact⟨by rw[HR.out];rfl,by exact aA⟩
     ·have f2:decide (65536≤hi)=false:=by simpa using c2
      have HI:=hid (show eG hi 65536=true by unfold eG;simp;omega)
      go_wp2
      go_round
      case rel=>exact⟨2,by omega,by go_num,⟨fun _=>HU.out.1 (by omega),fun _=>HI.out,fun h=>absurd h (by omega)⟩⟩
      case measure=>simp[intOf]
   ·by_cases c1:gd<0
    ·have HR:=hid (show okB t sz' kd lo hi gd=false by unfold okB;rw[show eG gd (lim sz')=false by unfold eG;simp;omega];simp)
     go_wp2
     go_ret
     exact⟨by rw[HR.out];rfl,by exact aA⟩
    ·have f1:decide (gd<0)=false:=by simpa using c1
     by_cases c2:65536≤gd
     ·have HR:=hid (show okB t sz' kd lo hi gd=false by unfold okB;rw[show eG gd (lim sz')=false by unfold eG;rw[HL.out];simp;omega];simp)
      go_wp2
      go_ret
      exact⟨by rw[HR.out];rfl,by exact aA⟩
     ·have f2:decide (65536≤gd)=false:=by simpa using c2
      have HI:=hid (show eG gd 65536=true by unfold eG;simp;omega)
      go_wp2
      go_round
      case rel=>exact⟨3,by omega,by go_num,⟨fun _=>HU.out.1 (by omega),fun _=>HU.out.2.1 (by omega),fun _=>HI.out⟩⟩
      case measure=>simp[intOf]
   focus
    have HB3:=hid (show okB t sz' kd lo hi gd=((kd !=2||decide (lo≤hi))&&dG kd lo hi gd gd) by unfold okB;rw[HP.out,HL.out,HU.out.1 (by omega),HU.out.2.1 (by omega),HU.out.2.2 (by omega)];simp)
    cases hq:(kd !=2)
   focus
    cases hq2:decide (lo≤hi)
   ·have HR:=hid (show okB t sz' kd lo hi gd=false by rw[HB3.out,hq,hq2];rfl)
    go_wp2
    go_ret
    exact⟨by rw[HR.out];rfl,by exact aA⟩
   focus
    have HR:=hid (show okB t sz' kd lo hi gd=dG kd lo hi gd gd by rw[HB3.out,hq,hq2];rfl)
   rotate_left
   focus
    have HR:=hid (show okB t sz' kd lo hi gd=dG kd lo hi gd gd by rw[HB3.out,hq];rfl)
   rotate_left
   all_goals
    go_wp2_with fail
    refine(jF t _ kd lo hi gd gd m _).mono ?_
    rintro e w1 ⟨rfl,hb⟩;obtain⟨xs2,d2,rfl⟩:=aB hb;clear hb
    go_wp2_with fail
    go_ret
    exact⟨by rw[HR.out];rfl,by exact aA⟩
 ·go_loop [55] (fun i=> ∃k:Nat,k≤3∧i=.int .i64 k∧oW lo hi gd 16777216 k) (fun i=>3-(intOf i).toNat)
  case atStart=>exact⟨0,by omega,rfl,by unfold oW;refine⟨?_,?_,?_⟩<;>omega⟩
  case round=>
   obtain⟨k,hk,rfl,hu⟩:=hrel
   have HU:=hid hu
   clear hu
   have hk3:k=0∨k=1∨k=2∨k=3:=by omega
   rcases hk3 with rfl|rfl|rfl|rfl
   ·by_cases c1:lo<0
    ·have HR:=hid (show okB t sz' kd lo hi gd=false by unfold okB;rw[show eG lo (lim sz')=false by unfold eG;simp;omega];simp)
     go_wp2
     go_ret
     exact⟨by rw[HR.out];rfl,by exact aA⟩
    ·have f1:decide (lo<0)=false:=by simpa using c1
     by_cases c2:16777216≤lo
     ·have HR:=hid (show okB t sz' kd lo hi gd=false by unfold okB;rw[show eG lo (lim sz')=false by unfold eG;rw[HL.out];simp;omega];simp)
      go_wp2
      go_ret
      exact⟨by rw[HR.out];rfl,by exact aA⟩
     ·have f2:decide (16777216≤lo)=false:=by simpa using c2
      have HI:=hid (show eG lo 16777216=true by unfold eG;simp;omega)
      go_wp2
      go_round
      case rel=>exact⟨1,by omega,by go_num,⟨fun _=>HI.out,fun h=>absurd h (by omega),fun h=>absurd h (by omega)⟩⟩
      case measure=>simp[intOf]
   ·by_cases c1:hi<0
    ·have HR:=hid (show okB t sz' kd lo hi gd=false by unfold okB;rw[show eG hi (lim sz')=false by unfold eG;simp;omega];simp)
     go_wp2
     go_ret
     exact⟨by rw[HR.out];rfl,by exact aA⟩
    ·have f1:decide (hi<0)=false:=by simpa using c1
     by_cases c2:16777216≤hi
     ·have HR:=hid (show okB t sz' kd lo hi gd=false by unfold okB;rw[show eG hi (lim sz')=false by unfold eG;rw[HL.out];simp;omega];simp)
      go_wp2
      go_ret
      exact⟨by rw[HR.out];rfl,by exact aA⟩
     ·have f2:decide (16777216≤hi)=false:=by simpa using c2
      have HI:=hid (show eG hi 16777216=true by unfold eG;simp;omega)
      go_wp2
      go_round
      case rel=>exact⟨2,by omega,by go_num,⟨fun _=>HU.out.1 (by omega),fun _=>HI.out,fun h=>absurd h (by omega)⟩⟩
      case measure=>simp[intOf]
   ·by_cases c1:gd<0
    ·have HR:=hid (show okB t sz' kd lo hi gd=false by unfold okB;rw[show eG gd (lim sz')=false by unfold eG;simp;omega];simp)
     go_wp2
     go_ret
     exact⟨by rw[HR.out];rfl,by exact aA⟩
    ·have f1:decide (gd<0)=false:=by simpa using c1
     by_cases c2:16777216≤gd
     ·have HR:=hid (show okB t sz' kd lo hi gd=false by unfold okB;rw[show eG gd (lim sz')=false by unfold eG;rw[HL.out];simp;omega];simp)
      go_wp2
      go_ret
      exact⟨by rw[HR.out];rfl,by exact aA⟩
     ·have f2:decide (16777216≤gd)=false:=by simpa using c2
      have HI:=hid (show eG gd 16777216=true by unfold eG;simp;omega)
      go_wp2
      go_round
      case rel=>exact⟨3,by omega,by go_num,⟨fun _=>HU.out.1 (by omega),fun _=>HU.out.2.1 (by omega),fun _=>HI.out⟩⟩
      case measure=>simp[intOf]
   focus
    have HB3:=hid (show okB t sz' kd lo hi gd=((kd !=2||decide (lo≤hi))&&dG kd lo hi gd gd) by unfold okB;rw[HP.out,HL.out,HU.out.1 (by omega),HU.out.2.1 (by omega),HU.out.2.2 (by omega)];simp)
    cases hq:(kd !=2)
   focus
    cases hq2:decide (lo≤hi)
   ·have HR:=hid (show okB t sz' kd lo hi gd=false by rw[HB3.out,hq,hq2];rfl)
    go_wp2
    go_ret
    exact⟨by rw[HR.out];rfl,by exact aA⟩
   focus
    have HR:=hid (show okB t sz' kd lo hi gd=dG kd lo hi gd gd by rw[HB3.out,hq,hq2];rfl)
   rotate_left
   focus
    have HR:=hid (show okB t sz' kd lo hi gd=dG kd lo hi gd gd by rw[HB3.out,hq];rfl)
   rotate_left
   all_goals
    go_wp2_with fail
    refine(jF t _ kd lo hi gd gd m _).mono ?_
    rintro e w1 ⟨rfl,hb⟩;obtain⟨xs2,d2,rfl⟩:=aB hb;clear hb
    go_wp2_with fail
    go_ret
    exact⟨by rw[HR.out];rfl,by exact aA⟩
 ·go_loop [55] (fun i=> ∃k:Nat,k≤3∧i=.int .i64 k∧oW lo hi gd 4294967296 k) (fun i=>3-(intOf i).toNat)
  case atStart=>exact⟨0,by omega,rfl,by unfold oW;refine⟨?_,?_,?_⟩<;>omega⟩
  case round=>
   obtain⟨k,hk,rfl,hu⟩:=hrel
   have HU:=hid hu
   clear hu
   have hk3:k=0∨k=1∨k=2∨k=3:=by omega
   rcases hk3 with rfl|rfl|rfl|rfl
   ·by_cases c1:lo<0
    ·have HR:=hid (show okB t sz' kd lo hi gd=false by unfold okB;rw[show eG lo (lim sz')=false by unfold eG;simp;omega];simp)
     go_wp2
     go_ret
     exact⟨by rw[HR.out];rfl,by exact aA⟩
    ·have f1:decide (lo<0)=false:=by simpa using c1
     by_cases c2:4294967296≤lo
     ·have HR:=hid (show okB t sz' kd lo hi gd=false by unfold okB;rw[show eG lo (lim sz')=false by unfold eG;rw[HL.out];simp;omega];simp)
      go_wp2
      go_ret
      exact⟨by rw[HR.out];rfl,by exact aA⟩
     ·have f2:decide (4294967296≤lo)=false:=by simpa using c2
      have HI:=hid (show eG lo 4294967296=true by unfold eG;simp;omega)
      go_wp2
      go_round
      case rel=>exact⟨1,by omega,by go_num,⟨fun _=>HI.out,fun h=>absurd h (by omega),fun h=>absurd h (by omega)⟩⟩
      case measure=>simp[intOf]
   ·by_cases c1:hi<0
    ·have HR:=hid (show okB t sz' kd lo hi gd=false by unfold okB;rw[show eG hi (lim sz')=false by unfold eG;simp;omega];simp)
     go_wp2
     go_ret
     exact⟨by rw[HR.out];rfl,by exact aA⟩
    ·have f1:decide (hi<0)=false:=by simpa using c1
     by_cases c2:4294967296≤hi
     ·have HR:=hid (show okB t sz' kd lo hi gd=false by unfold okB;rw[show eG hi (lim sz')=false by unfold eG;rw[HL.out];simp;omega];simp)
      go_wp2
      go_ret
      exact⟨by rw[HR.out];rfl,by exact aA⟩
     ·have f2:decide (4294967296≤hi)=false:=by simpa using c2
      have HI:=hid (show eG hi 4294967296=true by unfold eG;simp;omega)
      go_wp2
      go_round
      case rel=>exact⟨2,by omega,by go_num,⟨fun _=>HU.out.1 (by omega),fun _=>HI.out,fun h=>absurd h (by omega)⟩⟩
      case measure=>simp[intOf]
   ·by_cases c1:gd<0
    ·have HR:=hid (show okB t sz' kd lo hi gd=false by unfold okB;rw[show eG gd (lim sz')=false by unfold eG;simp;omega];simp)
     go_wp2
     go_ret
     exact⟨by rw[HR.out];rfl,by exact aA⟩
    ·have f1:decide (gd<0)=false:=by simpa using c1
     by_cases c2:4294967296≤gd
     ·have HR:=hid (show okB t sz' kd lo hi gd=false by unfold okB;rw[show eG gd (lim sz')=false by unfold eG;rw[HL.out];simp;omega];simp)
      go_wp2
      go_ret
      exact⟨by rw[HR.out];rfl,by exact aA⟩
     ·have f2:decide (4294967296≤gd)=false:=by simpa using c2
      have HI:=hid (show eG gd 4294967296=true by unfold eG;simp;omega)
      go_wp2
      go_round
      case rel=>exact⟨3,by omega,by go_num,⟨fun _=>HU.out.1 (by omega),fun _=>HU.out.2.1 (by omega),fun _=>HI.out⟩⟩
      case measure=>simp[intOf]
   focus
    have HB3:=hid (show okB t sz' kd lo hi gd=((kd !=2||decide (lo≤hi))&&dG kd lo hi gd gd) by unfold okB;rw[HP.out,HL.out,HU.out.1 (by omega),HU.out.2.1 (by omega),HU.out.2.2 (by omega)];simp)
    cases hq:(kd !=2)
   focus
    cases hq2:decide (lo≤hi)
   ·have HR:=hid (show okB t sz' kd lo hi gd=false by rw[HB3.out,hq,hq2];rfl)
    go_wp2
    go_ret
    exact⟨by rw[HR.out];rfl,by exact aA⟩
   focus
    have HR:=hid (show okB t sz' kd lo hi gd=dG kd lo hi gd gd by rw[HB3.out,hq,hq2];rfl)
   rotate_left
   focus
    have HR:=hid (show okB t sz' kd lo hi gd=dG kd lo hi gd gd by rw[HB3.out,hq];rfl)
   rotate_left
   all_goals
    go_wp2_with fail
    refine(jF t _ kd lo hi gd gd m _).mono ?_
    rintro e w1 ⟨rfl,hb⟩;obtain⟨xs2,d2,rfl⟩:=aB hb;clear hb
    go_wp2_with fail
    go_ret
    exact⟨by rw[HR.out];rfl,by exact aA⟩
theorem jk (t sz kd lo hi gd:Int) (m:Bool) (w:World):Calls Tryz.prog 147 #[.agg #[.int .i64 t,.int .i64 sz,.int .i64 kd,.int .i64 lo,.int .i64 hi,.int .i64 gd,.bool m]] w fun x w'=>x=.returned (.bool (okB t sz kd lo hi gd))∧Below w.heap.size w w':=by
 cases h:preB t sz kd
 ·exact NR t sz kd lo hi gd m w h
 ·exact IU t sz kd lo hi gd m w h
theorem Fq (s:Nat) (hs:s≤4) (w:World):Calls Tryz.prog 106 #[.int .i64 (s:Int)] w fun x w'=>x=.returned (.int .i64 (lim (s:Int)))∧w=w':=by
 go_enter Tryz.func106,Tryz.ntmps106
 go_wp2
 go_loop [3,4] (fun v i=> ∃(k:Nat) (p:Int),k≤s∧i=.int .i64 k∧v=.int .i64 p∧Hid (p=256^k)∧0≤p∧p≤256^k) (fun _ i=>s-(intOf i).toNat)
 case atStart=>exact⟨0,1,by omega,rfl,rfl,hid rfl,by omega,by simp⟩
 case round=>
  obtain⟨k,p,hk,rfl,rfl,hp,hp0,hp1⟩:=hrel
  by_cases hlt:k<s
  ·have h3:(256:Int)^k≤16777216:=by
    have:k=0∨k=1∨k=2∨k=3:=by omega
    rcases this with rfl|rfl|rfl|rfl<;>decide
   have hp2:p≤16777216:=by omega
   have HS:=hid (show p*256=256^(k+1) by rw[hp.out,Int.pow_succ])
   clear h3 hp1
   go_wp2
   go_round
   case rel=>exact⟨k+1,p*256,by omega,by go_num,rfl,hid HS.out,by omega,by rw[HS.out];exact Int.le_refl _⟩
   case measure=>simp[intOf];omega
  ·obtain rfl:k=s:=by omega
   have HS:=hid (show lim (k:Int)=p by rw[hp.out];rfl)
   clear hp1
   go_wp2
   go_ret
   exact⟨by rw[HS.out];rfl,rfl⟩
theorem EK (n m:Int) (w:World):Calls Tryz.prog 107 #[.int .i64 n,.int .i64 m] w fun x w'=>x=.returned (.bool (eG n m))∧w=w':=by
 cases h1:decide (0≤n)
 ·have HR:=hid (show eG n m=false by unfold eG;rw[h1];rfl)
  go_enter Tryz.func107,Tryz.ntmps107
  go_wp2
  go_ret
  exact⟨by rw[HR.out];rfl,rfl⟩
 ·cases h2:decide (n<m)
  all_goals
   have HR:=hid (show eG n m=decide (n<m) by unfold eG;rw[h1];rfl)
   go_enter Tryz.func107,Tryz.ntmps107
   go_wp2
   go_ret
   exact⟨by rw[HR.out,h2];rfl,rfl⟩
theorem rU (t sz kd lo hi gd n:Int) (m:Bool) (w:World):Calls Tryz.prog 108 #[.agg #[.int .i64 t,.int .i64 sz,.int .i64 kd,.int .i64 lo,.int .i64 hi,.int .i64 gd,.bool m],.int .i64 n] w fun x w'=>x=.returned (.bool (dG kd lo hi gd n))∧Below w.heap.size w w':=by
 rcases kinds kd with rfl|rfl|rfl|rfl|⟨h1,h2,h3,h4⟩
 ·go_enter Tryz.func108,Tryz.ntmps108
  go_wp2
  go_ret
  exact⟨rfl,by exact aA⟩
 ·have HR:=hid (show dG 2 lo hi gd n=(decide (lo≤n)&&decide (n≤hi)) from rfl)
  rw[HR.out]
  cases h1:decide (lo≤n)<;>cases h2:decide (n≤hi)
  all_goals
   go_enter Tryz.func108,Tryz.ntmps108
   go_wp2
   go_ret
   exact⟨rfl,by exact aA⟩
 ·go_enter Tryz.func108,Tryz.ntmps108
  go_wp2
  go_ret
  exact⟨rfl,by exact aA⟩
 ·go_enter Tryz.func108,Tryz.ntmps108
  go_wp2
  go_ret
  exact⟨rfl,by exact aA⟩
 ·have HR:=hid (show dG kd lo hi gd n=false by unfold dG;rw[if_neg h1,if_neg h2,if_neg h3,if_neg h4])
  have e1:(kd==1)=false:=by simpa using h1
  have e2:(kd==2)=false:=by simpa using h2
  have e3:(kd==3)=false:=by simpa using h3
  have e4:(kd==4)=false:=by simpa using h4
  clear h1 h2 h3 h4
  go_enter Tryz.func108,Tryz.ntmps108
  go_wp2
  go_ret
  exact⟨by rw[HR.out];rfl,by exact aA⟩
theorem Uc (t sz kd lo hi gd:Int) (m:Bool) (w:World) (h:preB t sz kd=false):Calls Tryz.prog 83 #[.agg #[.int .i64 t,.int .i64 sz,.int .i64 kd,.int .i64 lo,.int .i64 hi,.int .i64 gd,.bool m]] w fun x w'=>x=.returned (.bool (okB t sz kd lo hi gd))∧Below w.heap.size w w':=by
 have HR:=hid (show okB t sz kd lo hi gd=false by unfold okB;rw[h];rfl)
 have HP:=hid h
 clear h
 by_cases c1:t<1
 ·go_enter Tryz.func83,Tryz.ntmps83
  go_wp2
  go_ret
  exact⟨by rw[HR.out];rfl,by exact aA⟩
 ·have f1:decide (t<1)=false:=by simpa using c1
  by_cases c2:255<t
  ·go_enter Tryz.func83,Tryz.ntmps83
   go_wp2
   go_ret
   exact⟨by rw[HR.out];rfl,by exact aA⟩
  ·have f2:decide (255<t)=false:=by simpa using c2
   by_cases c3:sz<0
   ·go_enter Tryz.func83,Tryz.ntmps83
    go_wp2
    go_ret
    exact⟨by rw[HR.out];rfl,by exact aA⟩
   ·have f3:decide (sz<0)=false:=by simpa using c3
    by_cases c4:4<sz
    ·go_enter Tryz.func83,Tryz.ntmps83
     go_wp2
     go_ret
     exact⟨by rw[HR.out];rfl,by exact aA⟩
    ·have f4:decide (4<sz)=false:=by simpa using c4
     have h5:sz=0∧kd≠1:=by
      have:=HP.out
      unfold preB at this
      simp at this
      by_cases h0:sz=0
      ·exact⟨h0,by intro e;exact absurd e (by have:=this (by omega) (by omega) (by omega) (by omega);exact this.2)⟩
      ·exact absurd (this (by omega) (by omega) (by omega) (by omega)).1 h0
     obtain⟨rfl,c5⟩:=h5
     have f5:(kd !=1)=true:=by simpa using c5
     clear c5
     go_enter Tryz.func83,Tryz.ntmps83
     go_wp2
     go_ret
     exact⟨by rw[HR.out];rfl,by exact aA⟩
theorem Lm (t kd lo hi gd:Int) (s:Nat) (hs4:s≤4) (m:Bool) (w:World) (h:preB t (s:Int) kd=true):Calls Tryz.prog 83 #[.agg #[.int .i64 t,.int .i64 (s:Int),.int .i64 kd,.int .i64 lo,.int .i64 hi,.int .i64 gd,.bool m]] w fun x w'=>x=.returned (.bool (okB t (s:Int) kd lo hi gd))∧Below w.heap.size w w':=by
 have HP:=hid h
 unfold preB at h
 simp at h
 obtain⟨⟨⟨g1,g2⟩,g4⟩,g5⟩:=h
 have f1:decide (t<1)=false:=by simp;omega
 have f2:decide (255<t)=false:=by simp;omega
 have f3:decide ((s:Int)<0)=false:=by simp
 have f4:decide (4<s)=false:=by simp;omega
 have f4':decide (4<(s:Int))=false:=by simp;omega
 obtain⟨M,hM⟩: ∃M,lim (s:Int)=M:=⟨_,rfl⟩
 have HL:=hid hM
 clear hM
 have g6:(((s:Int)==0)=false)∨(((s:Int)==0)=true∧(kd !=1)=false):=by
  by_cases h0:s=0
  ·exact .inr ⟨by simp[h0],g5.elim (fun h=>absurd h0 (by simpa using h)) (fun h=>by simp[h])⟩
  ·exact .inl (by simp;omega)
 clear g5
 rcases g6 with e0|⟨e0,e1⟩
 all_goals
  cases b1:eG lo M
  focus
   have HR:=hid (show okB t (s:Int) kd lo hi gd=false by unfold okB;rw[HL.out,b1];simp)
  rotate_left
  focus
   cases b2:eG hi M
  focus
   have HR:=hid (show okB t (s:Int) kd lo hi gd=false by unfold okB;rw[HL.out,b2];simp)
  rotate_left
  focus
   cases b3:eG gd M
  focus
   have HR:=hid (show okB t (s:Int) kd lo hi gd=false by unfold okB;rw[HL.out,b3];simp)
  rotate_left
  focus
   have HB3:=hid (show okB t (s:Int) kd lo hi gd=((kd !=2||decide (lo≤hi))&&dG kd lo hi gd gd) by unfold okB;rw[HP.out,HL.out,b1,b2,b3];simp)
   cases hq:(kd !=2)
  focus
   cases hq2:decide (lo≤hi)
  focus
   have HR:=hid (show okB t (s:Int) kd lo hi gd=false by rw[HB3.out,hq,hq2];rfl)
  rotate_left
  focus
   have HR:=hid (show okB t (s:Int) kd lo hi gd=dG kd lo hi gd gd by rw[HB3.out,hq,hq2];rfl)
  rotate_left
  focus
   have HR:=hid (show okB t (s:Int) kd lo hi gd=dG kd lo hi gd gd by rw[HB3.out,hq];rfl)
  rotate_left
  all_goals
   go_enter Tryz.func83,Tryz.ntmps83
   go_wp2_with fail
   refine(Fq s hs4 _).mono ?_
   rw[HL.out]
   rintro e w1 ⟨rfl,rfl⟩
   go_wp2_with (go_at_call 107;refine(EK _ _ _).mono ?_;rintro e w1 ⟨rfl,rfl⟩)
  ·go_ret
   exact⟨by rw[HR.out];rfl,by exact aA⟩
  ·go_ret
   exact⟨by rw[HR.out];rfl,by exact aA⟩
  ·go_ret
   exact⟨by rw[HR.out];rfl,by exact aA⟩
  ·go_ret
   exact⟨by rw[HR.out];rfl,by exact aA⟩
  rotate_left
  rotate_left
  all_goals
   refine(rU t _ kd lo hi gd gd m _).mono ?_
   rintro e w1 ⟨rfl,hb⟩;obtain⟨xs,d,rfl⟩:=aB hb;clear hb
   go_wp2_with fail
   go_ret
   exact⟨by rw[HR.out];rfl,by exact aA⟩
theorem nQ (t sz kd lo hi gd:Int) (m:Bool) (w:World):Calls Tryz.prog 83 #[.agg #[.int .i64 t,.int .i64 sz,.int .i64 kd,.int .i64 lo,.int .i64 hi,.int .i64 gd,.bool m]] w fun x w'=>x=.returned (.bool (okB t sz kd lo hi gd))∧Below w.heap.size w w':=by
 cases h:preB t sz kd
 ·exact Uc t sz kd lo hi gd m w h
 ·have h':=h
  unfold preB at h'
  simp at h'
  obtain⟨⟨⟨⟨g1,g2⟩,g3⟩,g4⟩,g5⟩:=h'
  obtain⟨s,rfl⟩:=Int.eq_ofNat_of_zero_le g3
  exact Lm t kd lo hi gd s (by omega) m w h
open Go.RowKit Go.Maps
def dJ (t:Int):Prop:= -9223372036854775808≤t∧t≤9223372036854775807
structure qW (W:World) (b o k:Nat) (r:Rl):Prop where
 c0:W.cell? ⟨b,o+k*7,none⟩=some (.int .i64 r.t)
 c1:W.cell? ⟨b,o+k*7+1,none⟩=some (.int .i64 r.sz)
 c2:W.cell? ⟨b,o+k*7+2,none⟩=some (.int .i64 r.kd)
 c3:W.cell? ⟨b,o+k*7+3,none⟩=some (.int .i64 r.lo)
 c4:W.cell? ⟨b,o+k*7+4,none⟩=some (.int .i64 r.hi)
 c5:W.cell? ⟨b,o+k*7+5,none⟩=some (.int .i64 r.gd)
 c6:W.cell? ⟨b,o+k*7+6,none⟩=some (.bool r.must)
def aD (W:World) (B:Nat) (A:Option Addr) (R:List Rl):Prop:=
 (R=[]∨ ∃b o,A=some ⟨b,o,none⟩∧b<B∧ ∀(k:Nat) (hk:k<R.length),qW W b o k R[k])∧ ∀r∈R,dJ r.t∧dJ r.sz∧dJ r.lo∧dJ r.hi∧dJ r.gd
theorem aD.get {W:World} {B:Nat} {A:Option Addr} {R:List Rl} (h:aD W B A R) {k:Nat} (hk:k<R.length): ∃b o,A=some ⟨b,o,none⟩∧b<B∧qW W b o k R[k]:=by
 rcases h.1 with h|⟨b,o,hA,hB,h⟩
 ·subst h;simp at hk
 ·exact⟨b,o,hA,hB,h k hk⟩
theorem qW.keep {W W':World} {B b o k:Nat} {r:Rl} (h:qW W b o k r) (hb:Below B W W') (hB:b<B):qW W' b o k r:=
 ⟨(hb.cell (p:=⟨b,_,none⟩) hB).trans h.c0,(hb.cell (p:=⟨b,_,none⟩) hB).trans h.c1,(hb.cell (p:=⟨b,_,none⟩) hB).trans h.c2,(hb.cell (p:=⟨b,_,none⟩) hB).trans h.c3,(hb.cell (p:=⟨b,_,none⟩) hB).trans h.c4,(hb.cell (p:=⟨b,_,none⟩) hB).trans h.c5,(hb.cell (p:=⟨b,_,none⟩) hB).trans h.c6⟩
theorem aD.keep {W W':World} {B:Nat} {A:Option Addr} {R:List Rl} (h:aD W B A R) (hb:Below B W W'):aD W' B A R:=by
 refine⟨?_,h.2⟩
 rcases h.1 with h|⟨b,o,hA,hB,h⟩
 ·exact .inl h
 ·exact .inr ⟨b,o,hA,hB,fun k hk=>(h k hk).keep hb hB⟩
theorem aD.more {W:World} {B B':Nat} {A:Option Addr} {R:List Rl} (h:aD W B A R) (hB:B≤B'):aD W B' A R:=by
 refine⟨?_,h.2⟩
 rcases h.1 with h|⟨b,o,hA,hb,h⟩
 ·exact .inl h
 ·exact .inr ⟨b,o,hA,by omega,h⟩
def mF (R:List Rl) (k:Nat) (t:Int):Nat:=(R.take k).countP fun r=>r.t==t
def u_ (R:List Rl) (i:Nat):Bool:=
 match R[i]? with
 |some r=>r.ok&&decide (mF R i r.t=0)
 |none=>true
def nN (R:List Rl) (k:Nat):Bool:=(List.range k).all (u_ R)
def bM (R:List Rl):Bool:=decide (R.length≤16)&&nN R R.length
theorem uO (R:List Rl) (k:Nat):nN R (k+1)=(nN R k&&u_ R k):=by
 unfold nN
 rw[List.range_succ,List.all_append];simp
theorem yK {R:List Rl} {k:Nat} (hk:k<R.length):u_ R k=(R[k].ok&&decide (mF R k R[k].t=0)):=by
 unfold u_
 rw[List.getElem?_eq_getElem hk]
theorem tJ {R:List Rl} {k:Nat} (hk:k<R.length) (h:u_ R k=false):bM R=false:=by
 unfold bM nN
 have:(List.range R.length).all (u_ R)=false:=by
  rw[List.all_eq_false]
  exact⟨k,by simpa using hk,by simp[h]⟩
 rw[this,Bool.and_false]
theorem Ac {R:List Rl} {k:Nat} (hk:k<R.length) (t:Int):mF R (k+1) t=mF R k t+if R[k].t=t then 1 else 0:=by
 unfold mF
 rw[List.take_succ_eq_append_getElem hk,List.countP_append]
 by_cases h:R[k].t=t<;>simp[h]
theorem TK (R:List Rl) (k:Nat) (t:Int):mF R k t≤k:=by
 unfold mF
 have:=List.countP_le_length (p:=fun r:Rl=>r.t==t) (l:=R.take k)
 rw[List.length_take] at this
 omega
def fB (w:World) (b n:Nat) (f:Int→Nat):Prop:=
 ∃D:DataW Unit,w.ownsMap Tryz.prog 3 (plainElem Tryz.prog 3) b n D∧IsMap D∧ ∀t,D.atKey (.int .i64 t) (.lit (.int .i64 0))=.lit (.int .i64 (f t:Int))
theorem Xa:Keyed Tryz.prog 3:=int_keyed Tryz.underlying3
theorem Xr (w:World):(zeroValue 3).run Tryz.prog w=.ok (.int .i64 0) w:=by kernel_rfl
theorem wfI {t:Int} (h:dJ t):(Lit.int .i64 t).wf=true:=by
 unfold dJ at h
 simp[Lit.wf,IntKind.min,IntKind.max,IntKind.signed,IntKind.bits];omega
theorem fB.made (w:World):fB (w.alloc (.map #[] 0)) w.heap.size 0 (fun _=>0):=
 ⟨.map [],World.ownsMap_made _ _ _ _,⟨_,rfl⟩,fun t=>rfl⟩
theorem fB.lt {w:World} {b n:Nat} {f:Int→Nat} (h:fB w b n f):b<w.heap.size:=by
 obtain⟨D,h1,-⟩:=h
 exact h1.lt
theorem fB.keep {w w':World} {b n:Nat} {f:Int→Nat} (h:fB w b n f) (hb:w'.heap[b]? =w.heap[b]?):fB w' b n f:=by
 obtain⟨D,⟨es,clock,h1,F,hs,hD⟩,h2,h3⟩:=h
 exact⟨D,⟨es,clock,hb.trans h1,F,hs,hD⟩,h2,h3⟩
theorem fB.look {w:World} {b n:Nat} {f:Int→Nat} (h:fB w b n f) {t:Int} (ht:dJ t):(Instr.lookup 180 (.map (some b)) (.int .i64 t) false).run Tryz.prog w=.ok (.int .i64 (f t:Int)) w:=by
 obtain⟨D,h1,-,h3⟩:=h
 obtain⟨c,hr,hat,-⟩:=h1.lookup_int Xa Tryz.underlying180 Tryz.underlying3 (Xr w) (keyOf_int_mk Tryz.underlying3 (wfI ht))
 rw[h3] at hat
 cases hat
 exact hr
theorem fB.store {w:World} {b n:Nat} {f g:Int→Nat} (h:fB w b n f) (hn:n<maxLen) {t:Int} (ht:dJ t) {c:Nat} (hc:dJ (c:Int)) (hg: ∀u,g u=if t=u then c else f u):
  ∃w',(Instr.mapUpdate 180 (.map (some b)) (.int .i64 t) (.int .i64 (c:Int))).run Tryz.prog w=.ok () w'∧fB w' b (n+1) g∧w.grownBy w' (some b):=by
 obtain⟨D,h1,h2,h3⟩:=h
 obtain⟨w',hr,ho,hgr⟩:=h1.update Xa Tryz.underlying180 hn (keyOf_int_mk Tryz.underlying3 (wfI ht)) (plainElem_int Tryz.underlying3 (wfI hc))
 refine⟨w',hr,⟨_,ho,h2.put _ _,fun u=>?_⟩,hgr⟩
 rw[hg u]
 by_cases e:t=u
 ·subst e
  rw[if_pos rfl]
  exact atKey_put_same h2 (by exact trivial) _ _
 ·rw[if_neg e,←h3 u]
  exact atKey_put_other (by intro h;cases h;exact e rfl) _ _
theorem seven {W:World} {X:Nat} {r:Rl} {T:TypeId} (h:W.heap[X]? =some (.cells #[.int .i64 r.t,.int .i64 r.sz,.int .i64 r.kd,.int .i64 r.lo,.int .i64 r.hi,.int .i64 r.gd,.bool r.must] T (0,0))):
  W.cell? ⟨X,0,none⟩=some (.int .i64 r.t)∧W.cell? ⟨X,1,none⟩=some (.int .i64 r.sz)∧W.cell? ⟨X,2,none⟩=some (.int .i64 r.kd)∧W.cell? ⟨X,3,none⟩=some (.int .i64 r.lo)∧W.cell? ⟨X,4,none⟩=some (.int .i64 r.hi)∧W.cell? ⟨X,5,none⟩=some (.int .i64 r.gd)∧W.cell? ⟨X,6,none⟩=some (.bool r.must)∧X<W.heap.size:=by
 refine⟨?_,?_,?_,?_,?_,?_,?_,?_⟩
 ·rw[cell_of_row W X 0 _ _ _ h];rfl
 ·rw[cell_of_row W X 1 _ _ _ h];rfl
 ·rw[cell_of_row W X 2 _ _ _ h];rfl
 ·rw[cell_of_row W X 3 _ _ _ h];rfl
 ·rw[cell_of_row W X 4 _ _ _ h];rfl
 ·rw[cell_of_row W X 5 _ _ _ h];rfl
 ·rw[cell_of_row W X 6 _ _ _ h];rfl
 ·rw[Array.getElem?_eq_some_iff] at h;exact h.1
def yA (b:Bool):Int:=if b=true then 0 else 150
theorem zZ:yA true=0:=rfl
theorem EN:yA false=150:=rfl
theorem nZ (A:Option Addr) (n c:Nat) (R:List Rl) (w:World) (B:Nat) (hB:B≤w.heap.size) (hR:aD w B A R) (hn:n=R.length) (hl:n≤1000000):
  Calls Tryz.prog 103 #[.slice A n c] w fun x w'=>x=.returned (.int .i64 (yA (bM R)))∧Below w.heap.size w w':=by
 have HR:=hid hR
 have HN:=hid hn
 have HB:=hid hB
 clear hR hn hB
 by_cases h16:n≤16
 ·have hmm:= @run_makeMap Tryz.prog
  have f16:decide (16<n)=false:=by simp;omega
  go_enter Tryz.func103,Tryz.ntmps103
  go_wp2_with fail
  go_loopw [12] (fun i wr=> ∃k:Nat,k≤n∧i=.int .i64 k∧nN R k=true∧fB wr w.heap.size k (mF R k)∧Below w.heap.size w wr) (fun i _=>n-(intOf i).toNat)
  case atStart=>exact⟨0,Nat.zero_le _,rfl,rfl,fB.made w,by exact aA⟩
  case round=>
   obtain⟨k,hk,rfl,hg,hcm,hbl⟩:=hrel
   have HG:=hid hg
   have HCM:=hid hcm
   have cu:=hid hbl
   have hsz:=hbl.size
   have Zl:=hcm.lt
   clear hg hcm hbl
   by_cases hlt:k<n
   focus
    have HK:=hid (show k<R.length by have:=HN.out;omega)
    obtain⟨b,o,rfl,tL,hat⟩:=(HR.out.keep (cu.out.mono HB.out)).get HK.out
    have hwf:=(HR.out.2 _ (List.getElem_mem HK.out)).1
    have HIT:=hid (yK HK.out)
    have OU:=hid (Ac HK.out)
    obtain⟨r,hr⟩: ∃r,R[k]'HK.out=r:=⟨_,rfl⟩
    rw[hr] at hat hwf HIT OU
    clear hr
    obtain⟨t,sz,kd,lo,hi,gd,mu⟩:=r
    obtain⟨c0,c1,c2,c3,c4,c5,c6⟩:=hat
    simp only at c0 c1 c2 c3 c4 c5 c6 hwf
    obtain⟨q,hq⟩: ∃q,mF R k t=q:=⟨_,rfl⟩
    have HQ:=hid hq
    have hqk:q≤16:=by have:=TK R k t;omega
    clear hq
    have HO:=hid (show okB t sz kd lo hi gd=okB t sz kd lo hi gd from rfl)
    have hcm2:fB (wr.alloc (.cells #[.int .i64 t,.int .i64 sz,.int .i64 kd,.int .i64 lo,.int .i64 hi,.int .i64 gd,.bool mu] 136)) w.heap.size k (mF R k):=HCM.out.keep (Below.heap_alloc _ _ _ Zl)
    have e1:(Instr.lookup 180 (.map (some w.heap.size)) (.int .i64 t) false).run Tryz.prog (wr.alloc (.cells #[.int .i64 t,.int .i64 sz,.int .i64 kd,.int .i64 lo,.int .i64 hi,.int .i64 gd,.bool mu] 136))=.ok (.int .i64 (q:Int)) (wr.alloc (.cells #[.int .i64 t,.int .i64 sz,.int .i64 kd,.int .i64 lo,.int .i64 hi,.int .i64 gd,.bool mu] 136)):=by have:=hcm2.look hwf;rwa [HQ.out] at this
    obtain⟨w1,hr2,hcm1,T_⟩:=hcm2.store (g:=mF R (k+1)) (by unfold maxLen;omega) hwf (c:=q+1) (by unfold dJ;omega) (fun u=>by rw[OU.out u];by_cases e:t=u<;>simp[e];subst e;exact HQ.out)
    have e2:(Instr.mapUpdate 180 (.map (some w.heap.size)) (.int .i64 t) (.int .i64 ((q:Int)+1))).run Tryz.prog (wr.alloc (.cells #[.int .i64 t,.int .i64 sz,.int .i64 kd,.int .i64 lo,.int .i64 hi,.int .i64 gd,.bool mu] 136))=.ok () w1:=hr2
    have hbx:w1.heap[wr.heap.size]? =some (.cells #[.int .i64 t,.int .i64 sz,.int .i64 kd,.int .i64 lo,.int .i64 hi,.int .i64 gd,.bool mu] 136 (0,0)):=by
     rw[T_.block wr.heap.size (by simp) (by simp;omega)]
     exact heap_alloc_new wr _
    obtain⟨g0,g1,g2,g3,g4,g5,g6,g7⟩:=seven (r:=⟨t,sz,kd,lo,hi,gd,mu⟩) hbx
    have HB1:=hid (show Below w.heap.size w w1 from(cu.out.alloc hsz _).grown T_ (by simp;omega) (fun r e=>by cases e;exact aaE _))
    have hsz1:=HB1.out.size
    have hblt:b<wr.heap.size:=by have:=HB.out;omega
    have VK:=hid hcm1
    have zS:=hid hwf
    have Pv:=hcm1.lt
    have wm:(0:Int)≤(k:Int):=by omega
    have wu:(k:Int)<(n:Int):=by omega
    clear hbx T_ hcm2 hr2 hcm1 hwf
    cases BM:okB t sz kd lo hi gd
   ·have zP:=hid BM
    have jW:=hid (show bM R=false from tJ HK.out (by rw[HIT.out];show(okB t sz kd lo hi gd&&_)=false;rw[BM];rfl))
    clear BM
    go_wp2_with fail
    refine(jk t sz kd lo hi gd mu _).mono ?_
    rw[zP.out]
    rintro e w1 ⟨rfl,hb⟩;obtain⟨xs,d,rfl⟩:=aB hb;clear hb
    go_wp2_with fail
    go_ret
    exact⟨by rw[jW.out];rfl,by have:=HB1.out;exact aA⟩
   focus
    have zP:=hid BM
    by_cases hq0:q=0
   focus
    have gD:=hid (show nN R (k+1)=true by rw[uO,HG.out,HIT.out];show(true&&(okB t sz kd lo hi gd&&_))=true;rw[BM,HQ.out];simp[hq0])
    clear BM
    have e4:decide ((1:Int)<(q:Int)+1)=false:=by simp;omega
    have e5: ¬(1:Int)<(q:Int)+1:=by omega
    clear hq0
   rotate_left
   focus
    have jW:=hid (show bM R=false from tJ HK.out (by rw[HIT.out,HQ.out];simp[hq0]))
    have e4:decide ((1:Int)<(q:Int)+1)=true:=by simp;omega
    have e5:(1:Int)<(q:Int)+1:=by omega
    clear BM
   rotate_left
   ·obtain rfl:k=n:=by omega
    have jW:=hid (show bM R=true by unfold bM;rw[←HN.out,HG.out];simp;omega)
    go_wp2_with fail
    go_ret
    exact⟨by rw[jW.out];rfl,cu.out⟩
   all_goals
    go_wp2_with fail
    refine(jk t sz kd lo hi gd mu _).mono ?_
    rw[zP.out]
    rintro e w1 ⟨rfl,hb⟩;obtain⟨xs,d,rfl⟩:=aB hb;clear hb
    have e3:(Instr.lookup 180 (.map (some w.heap.size)) (.int .i64 t) false).run Tryz.prog (ext w1 xs d)=.ok (.int .i64 ((q:Int)+1)) (ext w1 xs d):=by
     have:=(VK.out.keep (w':=ext w1 xs d) (gQ w1 xs d _ Pv)).look zS.out
     rw[OU.out,HQ.out] at this
     simpa using this
    go_wp2_with fail
   ·go_roundw
    case rel=>exact⟨k+1,by omega,by go_num,gD.out,VK.out.keep (gQ w1 xs d _ Pv),by have:=HB1.out;exact aA⟩
    case measure=>simp[intOf];omega
   ·go_ret
    exact⟨by rw[jW.out];rfl,by have:=HB1.out;exact aA⟩
 ·have jW:=hid (show bM R=false by unfold bM;rw[←HN.out];simp;omega)
  have f16:decide (16<n)=true:=by simp;omega
  go_enter Tryz.func103,Tryz.ntmps103
  go_wp2_with fail
  go_ret
  exact⟨by rw[jW.out];rfl,Below.refl _ _⟩
theorem xZ (A:Option Addr) (n c:Nat) (R:List Rl) (w:World) (B:Nat) (hB:B≤w.heap.size) (hR:aD w B A R) (hn:n=R.length) (hl:n≤1000000):
  Calls Tryz.prog 48 #[.slice A n c] w fun x w'=>x=.returned (.bool (bM R))∧Below w.heap.size w w':=by
 have HR:=hid hR
 have HN:=hid hn
 have HB:=hid hB
 clear hR hn hB
 by_cases h16:n≤16
 ·have f16:decide (16<n)=false:=by simp;omega
  go_enter Tryz.func48,Tryz.ntmps48
  go_wp2_with fail
  go_loopw [3] (fun i wr=> ∃k:Nat,k≤n∧i=.int .i64 k∧nN R k=true∧Below w.heap.size w wr) (fun i _=>n-(intOf i).toNat)
  case atStart=>exact⟨0,Nat.zero_le _,rfl,rfl,by exact aA⟩
  case round=>
   obtain⟨k,hk,rfl,hg,hbl⟩:=hrel
   have HG:=hid hg
   have cu:=hid hbl
   have hsz:=hbl.size
   clear hg hbl
   by_cases hlt:k<n
   ·have HK:=hid (show k<R.length by have:=HN.out;omega)
    obtain⟨b,o,rfl,tL,hat⟩:=(HR.out.keep (cu.out.mono HB.out)).get HK.out
    have HIT:=hid (yK HK.out)
    obtain⟨r,hr⟩: ∃r,R[k]'HK.out=r:=⟨_,rfl⟩
    rw[hr] at hat HIT
    clear hr
    obtain⟨t,sz,kd,lo,hi,gd,mu⟩:=r
    obtain⟨c0,c1,c2,c3,c4,c5,c6⟩:=hat
    simp only at c0 c1 c2 c3 c4 c5 c6
    have hblt:b<wr.heap.size:=by have:=HB.out;omega
    have wm:(0:Int)≤(k:Int):=by omega
    have wu:(k:Int)<(n:Int):=by omega
    cases BM:okB t sz kd lo hi gd
    ·have zP:=hid BM
     have jW:=hid (show bM R=false from tJ HK.out (by rw[HIT.out];show(okB t sz kd lo hi gd&&_)=false;rw[BM];rfl))
     clear BM
     go_wp2_with fail
     refine(nQ t sz kd lo hi gd mu _).mono ?_
     rw[zP.out]
     rintro e w1 ⟨rfl,hb⟩;obtain⟨xs,d,rfl⟩:=aB hb;clear hb
     go_wp2_with fail
     go_ret
     exact⟨by rw[jW.out];rfl,by have:=cu.out;exact aA⟩
    ·have zP:=hid BM
     clear BM
     go_wp2_with fail
     refine(nQ t sz kd lo hi gd mu _).mono ?_
     rw[zP.out]
     rintro e w1 ⟨rfl,hb⟩;obtain⟨xs,d,rfl⟩:=aB hb;clear hb
     go_wp2_with fail
     have Xv:=hid (show Below w.heap.size w (ext wr xs d) by have:=cu.out;exact aA)
     go_loopw [4] (fun i wi=> ∃j:Nat,j≤k∧i=.int .i64 j∧mF R j t=0∧Below w.heap.size w wi) (fun i _=>k-(intOf i).toNat)
     case atStart=>exact⟨0,Nat.zero_le _,rfl,rfl,Xv.out⟩
     case round=>
      obtain⟨j,hj,rfl,hcn,hbi⟩:=hrel
      have Yr:=hid hcn
      have Gf:=hid hbi
      have Zx:=hbi.size
      clear hcn hbi
      by_cases hjk:j<k
      ·have HJ:=hid (show j<R.length by have:=HK.out;omega)
       obtain⟨b',o',hq,aam,jM⟩:=(HR.out.keep (Gf.out.mono HB.out)).get HJ.out
       cases hq
       have OU:=hid (Ac HJ.out t)
       obtain⟨r2,hr2⟩: ∃r2,R[j]'HJ.out=r2:=⟨_,rfl⟩
       rw[hr2] at jM OU
       clear hr2
       have d0:=jM.c0
       obtain⟨t2,_,_,_,_,_,_⟩:=r2
       simp only at d0 OU
       obtain⟨c0',-⟩:=(HR.out.keep (Gf.out.mono HB.out)).get HK.out
       have aad:b<wr.heap.size:=by have:=HB.out;omega
       have c0i:wr.cell? ⟨b,o+k*7,none⟩=some (.int .i64 t):=by
        have h1:=Gf.out.cell (p:=⟨b,o+k*7,none⟩) (by have:=HB.out;simp;omega)
        have h2:=cu.out.cell (p:=⟨b,o+k*7,none⟩) (by have:=HB.out;simp;omega)
        rw[h1,←h2];exact c0
       have j0:(0:Int)≤(j:Int):=by omega
       have j1:(j:Int)<(n:Int):=by omega
       clear jM
       cases ht:(t2==t)
       ·have HCX:=hid (show mF R (j+1) t=0 by rw[OU.out,Yr.out,if_neg (by simpa using ht)])
        go_upto_region 12 with(fail)
        go_quiet (fail)
        go_wp2_with fail
        go_roundw
        case rel=>exact⟨j+1,by omega,by go_num,HCX.out,by have:=Gf.out;exact aA⟩
        case measure=>simp[intOf];omega
       ·have jW:=hid (show bM R=false from tJ HK.out (by
         rw[HIT.out]
         have h1:1≤mF R k t:=by
          have h2:mF R (j+1) t≤mF R k t:=by
           unfold mF
           have:R.take k=R.take (j+1)++(R.take k).drop (j+1):=by
            have h9:=List.take_append_drop (j+1) (R.take k)
            rw[List.take_take,Nat.min_eq_left (by omega)] at h9
            exact h9.symm
           rw[this,List.countP_append];omega
          have h3:mF R (j+1) t=1:=by rw[OU.out,Yr.out,if_pos (by simpa using ht)]
          omega
         simp;intro _;omega))
        go_upto_region 12 with(fail)
        go_quiet (fail)
        go_wp2_with fail
        go_ret
        exact⟨by rw[jW.out];rfl,by have:=Gf.out;exact aA⟩
      ·obtain rfl:j=k:=by omega
       have gD:=hid (show nN R (j+1)=true by rw[uO,HG.out,HIT.out];show(true&&(okB t sz kd lo hi gd&&_))=true;rw[zP.out,Yr.out];simp)
       go_wp2_with fail
       go_roundw
       case rel=>exact⟨j+1,by omega,by go_num,gD.out,Gf.out⟩
       case measure=>simp[intOf];omega
   ·obtain rfl:k=n:=by omega
    have jW:=hid (show bM R=true by unfold bM;rw[←HN.out,HG.out];simp;omega)
    go_wp2_with fail
    go_ret
    exact⟨by rw[jW.out];rfl,cu.out⟩
 ·have jW:=hid (show bM R=false by unfold bM;rw[←HN.out];simp;omega)
  have f16:decide (16<n)=true:=by simp;omega
  go_enter Tryz.func48,Tryz.ntmps48
  go_wp2_with fail
  go_ret
  exact⟨by rw[jW.out];rfl,Below.refl _ _⟩
end Go.Proofs.YtfkgmbknfnhjoaaGreat.Ne
