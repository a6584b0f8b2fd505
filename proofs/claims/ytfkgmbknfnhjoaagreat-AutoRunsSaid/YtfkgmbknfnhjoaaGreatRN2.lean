/- Bundle N2. -/
import Derived.Test.YtfkgmbknfnhjoaaGreatRA
import Derived.Test.YtfkgmbknfnhjoaaGreatRN1
import Derived.Maps.OwnOps
import Derived.Maps.Views
set_option maxHeartbeats 4000000
namespace Go.Proofs.YtfkgmbknfnhjoaaGreat.Ne
open Lib (hid)
open Go.RowKit
set_option linter.unusedSimpArgs false
set_option linter.unusedVariables false
def _root_.Go.Proofs.YtfkgmbknfnhjoaaGreat.Ent.fewNe (e:Ent):Ent:=⟨e.t,e.d.take 20,e.a,e.c⟩
def fewE (E:List Ent):List Ent:=(E.take 20).map Ent.fewNe
end Go.Proofs.YtfkgmbknfnhjoaaGreat.Ne
namespace Go.Proofs.YtfkgmbknfnhjoaaGreat.Ne
open Lib (hid)
open Go.RowKit
set_option linter.unusedSimpArgs false
set_option linter.unusedVariables false
structure Rl where
 t:Int
 sz:Int
 kd:Int
 lo:Int
 hi:Int
 gd:Int
 must:Bool
def takesB (kd lo hi gd n:Int):Bool:=if kd=1 then true else if kd=2 then(decide (lo≤n)&&decide (n≤hi)) else if kd=3 then n==gd else if kd=4 then n !=lo else false
def Rl.takes (r:Rl) (n:Int):Bool:=takesB r.kd r.lo r.hi r.gd n
theorem rany (t sz kd lo hi gd n:Int) (m:Bool) (w:World):Calls Tryz.prog 179 #[.agg #[.int .i64 t,.int .i64 sz,.int .i64 kd,.int .i64 lo,.int .i64 hi,.int .i64 gd,.bool m],.int .i64 n] w fun x w'=>x=.returned (.bool true)∧Below w.heap.size w w':=by
 go_enter Tryz.func179,Tryz.ntmps179
 go_wp2
 go_ret
 exact⟨rfl,by exact bel⟩
theorem rspan (t sz kd lo hi gd n:Int) (m:Bool) (w:World):Calls Tryz.prog 180 #[.agg #[.int .i64 t,.int .i64 sz,.int .i64 kd,.int .i64 lo,.int .i64 hi,.int .i64 gd,.bool m],.int .i64 n] w fun x w'=>x=.returned (.bool (decide (lo≤n)&&decide (n≤hi)))∧Below w.heap.size w w':=by
 cases h1:decide (lo≤n)<;>cases h2:decide (n≤hi)
 all_goals
  go_enter Tryz.func180,Tryz.ntmps180
  go_wp2
  go_ret
  exact⟨rfl,by exact bel⟩
theorem ronly (t sz kd lo hi gd n:Int) (m:Bool) (w:World):Calls Tryz.prog 181 #[.agg #[.int .i64 t,.int .i64 sz,.int .i64 kd,.int .i64 lo,.int .i64 hi,.int .i64 gd,.bool m],.int .i64 n] w fun x w'=>x=.returned (.bool (n==gd))∧Below w.heap.size w w':=by
 go_enter Tryz.func181,Tryz.ntmps181
 go_wp2
 go_ret
 exact⟨rfl,by exact bel⟩
theorem rnot (t sz kd lo hi gd n:Int) (m:Bool) (w:World):Calls Tryz.prog 182 #[.agg #[.int .i64 t,.int .i64 sz,.int .i64 kd,.int .i64 lo,.int .i64 hi,.int .i64 gd,.bool m],.int .i64 n] w fun x w'=>x=.returned (.bool (n !=lo))∧Below w.heap.size w w':=by
 go_enter Tryz.func182,Tryz.ntmps182
 go_wp2
 go_ret
 exact⟨rfl,by exact bel⟩
def wayV (kd:Int):Value:=if kd=1 then .func (.func 179) #[] #[] else if kd=2 then .func (.func 180) #[] #[] else if kd=3 then .func (.func 181) #[] #[] else if kd=4 then .func (.func 182) #[] #[] else .nilFunc
def kindB (kd:Int):Bool:=decide (1≤kd)&&decide (kd≤4)
theorem kinds (kd:Int):kd=1∨kd=2∨kd=3∨kd=4∨(kd≠1∧kd≠2∧kd≠3∧kd≠4):=by omega
theorem of_any (t sz kd lo hi gd:Int) (m:Bool) (w:World):Calls Tryz.prog 168 #[.agg #[.int .i64 t,.int .i64 sz,.int .i64 kd,.int .i64 lo,.int .i64 hi,.int .i64 gd,.bool m]] w fun x w'=>x=.returned (.tuple #[wayV kd,.bool (kindB kd)])∧Below w.heap.size w w':=by
 rcases kinds kd with rfl|rfl|rfl|rfl|⟨h1,h2,h3,h4⟩
 ·go_enter Tryz.func168,Tryz.ntmps168
  go_wp2
  go_ret2
  exact⟨rfl,by exact bel⟩
 ·go_enter Tryz.func168,Tryz.ntmps168
  go_wp2
  go_ret2
  exact⟨rfl,by exact bel⟩
 ·go_enter Tryz.func168,Tryz.ntmps168
  go_wp2
  go_ret2
  exact⟨rfl,by exact bel⟩
 ·go_enter Tryz.func168,Tryz.ntmps168
  go_wp2
  go_ret2
  exact⟨rfl,by exact bel⟩
 ·have e1:(kd==1)=false:=by simpa using h1
  have e2:(kd==2)=false:=by simpa using h2
  have e3:(kd==3)=false:=by simpa using h3
  have e4:(kd==4)=false:=by simpa using h4
  have HR:=hid (show wayV kd=.nilFunc∧kindB kd=false by unfold wayV kindB;rw[if_neg h1,if_neg h2,if_neg h3,if_neg h4];refine⟨rfl,?_⟩;simp;omega)
  clear h1 h2 h3 h4
  go_enter Tryz.func168,Tryz.ntmps168
  go_wp2
  go_ret2
  exact⟨by rw[HR.out.1,HR.out.2];rfl,by exact bel⟩
theorem takes_any (t sz kd lo hi gd n:Int) (m:Bool) (w:World):Calls Tryz.prog 169 #[.agg #[.int .i64 t,.int .i64 sz,.int .i64 kd,.int .i64 lo,.int .i64 hi,.int .i64 gd,.bool m],.int .i64 n] w fun x w'=>x=.returned (.bool (takesB kd lo hi gd n))∧Below w.heap.size w w':=by
 rcases kinds kd with rfl|rfl|rfl|rfl|⟨h1,h2,h3,h4⟩
 ·go_enter Tryz.func169,Tryz.ntmps169
  go_wp2_with fail
  refine(of_any t sz 1 lo hi gd m _).mono ?_
  rw[show wayV 1=.func (.func 179) #[] #[] from rfl,show kindB 1=true from rfl]
  rintro e w1 ⟨rfl,hb⟩;obtain⟨xs,d,rfl⟩:=ext_of hb;clear hb
  go_wp2_with fail
  refine(rany t sz 1 lo hi gd n m _).mono ?_
  rintro e w1 ⟨rfl,hb⟩;obtain⟨xs2,d2,rfl⟩:=ext_of hb;clear hb
  go_wp2_with fail
  go_ret
  exact⟨rfl,by exact bel⟩
 ·go_enter Tryz.func169,Tryz.ntmps169
  go_wp2_with fail
  refine(of_any t sz 2 lo hi gd m _).mono ?_
  rw[show wayV 2=.func (.func 180) #[] #[] from rfl,show kindB 2=true from rfl]
  rintro e w1 ⟨rfl,hb⟩;obtain⟨xs,d,rfl⟩:=ext_of hb;clear hb
  go_wp2_with fail
  refine(rspan t sz 2 lo hi gd n m _).mono ?_
  obtain⟨b,hb⟩: ∃b,(decide (lo≤n)&&decide (n≤hi))=b:=⟨_,rfl⟩
  have HBB:=hid hb
  rw[hb]
  clear hb
  rintro e w1 ⟨rfl,hb⟩;obtain⟨xs2,d2,rfl⟩:=ext_of hb;clear hb
  go_wp2_with fail
  go_ret
  exact⟨by rw[←HBB.out];rfl,by exact bel⟩
 ·go_enter Tryz.func169,Tryz.ntmps169
  go_wp2_with fail
  refine(of_any t sz 3 lo hi gd m _).mono ?_
  rw[show wayV 3=.func (.func 181) #[] #[] from rfl,show kindB 3=true from rfl]
  rintro e w1 ⟨rfl,hb⟩;obtain⟨xs,d,rfl⟩:=ext_of hb;clear hb
  go_wp2_with fail
  refine(ronly t sz 3 lo hi gd n m _).mono ?_
  rintro e w1 ⟨rfl,hb⟩;obtain⟨xs2,d2,rfl⟩:=ext_of hb;clear hb
  go_wp2_with fail
  go_ret
  exact⟨rfl,by exact bel⟩
 ·go_enter Tryz.func169,Tryz.ntmps169
  go_wp2_with fail
  refine(of_any t sz 4 lo hi gd m _).mono ?_
  rw[show wayV 4=.func (.func 182) #[] #[] from rfl,show kindB 4=true from rfl]
  rintro e w1 ⟨rfl,hb⟩;obtain⟨xs,d,rfl⟩:=ext_of hb;clear hb
  go_wp2_with fail
  refine(rnot t sz 4 lo hi gd n m _).mono ?_
  rintro e w1 ⟨rfl,hb⟩;obtain⟨xs2,d2,rfl⟩:=ext_of hb;clear hb
  go_wp2_with fail
  go_ret
  exact⟨rfl,by exact bel⟩
 ·have HR:=hid (show wayV kd=.nilFunc∧kindB kd=false∧takesB kd lo hi gd n=false by unfold wayV kindB takesB;rw[if_neg h1,if_neg h2,if_neg h3,if_neg h4];refine⟨rfl,?_,?_⟩;(simp;omega);rw[if_neg h1,if_neg h2,if_neg h3,if_neg h4])
  clear h1 h2 h3 h4
  go_enter Tryz.func169,Tryz.ntmps169
  go_wp2_with fail
  refine(of_any t sz kd lo hi gd m _).mono ?_
  rw[HR.out.1,HR.out.2.1]
  rintro e w1 ⟨rfl,hb⟩;obtain⟨xs,d,rfl⟩:=ext_of hb;clear hb
  go_wp2_with fail
  go_ret
  exact⟨by rw[HR.out.2.2];rfl,by exact bel⟩
end Go.Proofs.YtfkgmbknfnhjoaaGreat.Ne
namespace Go.Proofs.YtfkgmbknfnhjoaaGreat.Ne
open Lib (hid)
open Go.RowKit
set_option linter.unusedSimpArgs false
set_option linter.unusedVariables false
def lim (sz:Int):Int:=256^sz.toNat
def inL (n m:Int):Bool:=decide (0≤n)&&decide (n<m)
def preB (t sz kd:Int):Bool:=decide (1≤t)&&decide (t≤255)&&decide (0≤sz)&&decide (sz≤4)&& !(sz==0&&kd !=1)
def okB (t sz kd lo hi gd:Int):Bool:=preB t sz kd&&(inL lo (lim sz)&&(inL hi (lim sz)&&(inL gd (lim sz)&&((kd !=2||decide (lo≤hi))&&takesB kd lo hi gd gd))))
def Rl.ok (r:Rl):Bool:=okB r.t r.sz r.kd r.lo r.hi r.gd
theorem takes_unknown {kd lo hi gd n:Int} (h:kindB kd=false):takesB kd lo hi gd n=false:=by
 simp[kindB] at h
 unfold takesB
 rw[if_neg (by omega),if_neg (by omega),if_neg (by omega),if_neg (by omega)]
theorem may_pre (t sz kd lo hi gd:Int) (m:Bool) (w:World) (h:preB t sz kd=false):Calls Tryz.prog 147 #[.agg #[.int .i64 t,.int .i64 sz,.int .i64 kd,.int .i64 lo,.int .i64 hi,.int .i64 gd,.bool m]] w fun x w'=>x=.returned (.bool (okB t sz kd lo hi gd))∧Below w.heap.size w w':=by
 have HR:=hid (show okB t sz kd lo hi gd=false by unfold okB;rw[h];rfl)
 have HP:=hid h
 clear h
 by_cases c1:t<1
 ·go_enter Tryz.func147,Tryz.ntmps147
  go_wp2
  go_ret
  exact⟨by rw[HR.out];rfl,by exact bel⟩
 ·have f1:decide (t<1)=false:=by simpa using c1
  by_cases c2:255<t
  ·go_enter Tryz.func147,Tryz.ntmps147
   go_wp2
   go_ret
   exact⟨by rw[HR.out];rfl,by exact bel⟩
  ·have f2:decide (255<t)=false:=by simpa using c2
   by_cases c3:sz<0
   ·go_enter Tryz.func147,Tryz.ntmps147
    go_wp2
    go_ret
    exact⟨by rw[HR.out];rfl,by exact bel⟩
   ·have f3:decide (sz<0)=false:=by simpa using c3
    by_cases c4:4<sz
    ·go_enter Tryz.func147,Tryz.ntmps147
     go_wp2
     go_ret
     exact⟨by rw[HR.out];rfl,by exact bel⟩
    ·have f4:decide (4<sz)=false:=by simpa using c4
     have h5:sz=0∧kd≠1:=by
      have:=HP.out
      unfold preB at this
      simp at this
      by_cases h0:sz=0
      ·exact⟨h0,by intro e;exact absurd e (by have:=this (by omega) (by omega) (by omega) (by omega);exact this.2)⟩
      ·exact absurd (this (by omega) (by omega) (by omega) (by omega)).1 h0
     obtain⟨rfl,c5⟩:=h5
     have f5:(kd !=1)=true:=by simpa using c5
     clear c5
     go_enter Tryz.func147,Tryz.ntmps147
     go_wp2
     go_ret
     exact⟨by rw[HR.out];rfl,by exact bel⟩
def upto3 (lo hi gd M:Int) (k:Nat):Prop:=(1≤k→inL lo M=true)∧(2≤k→inL hi M=true)∧(3≤k→inL gd M=true)
set_option maxRecDepth 100000 in
theorem may_post (t sz kd lo hi gd:Int) (m:Bool) (w:World) (h:preB t sz kd=true):Calls Tryz.prog 147 #[.agg #[.int .i64 t,.int .i64 sz,.int .i64 kd,.int .i64 lo,.int .i64 hi,.int .i64 gd,.bool m]] w fun x w'=>x=.returned (.bool (okB t sz kd lo hi gd))∧Below w.heap.size w w':=by
 have HP:=hid h
 have h':=h
 unfold preB at h'
 simp at h'
 obtain⟨⟨⟨⟨g1,g2⟩,g3⟩,g4⟩,g5⟩:=h'
 have f1:decide (t<1)=false:=by simp;omega
 have f2:decide (255<t)=false:=by simp;omega
 have f3:decide (sz<0)=false:=by simp;omega
 have f4:decide (4<sz)=false:=by simp;omega
 cases hk:kindB kd
 ·have HR:=hid (show okB t sz kd lo hi gd=false by unfold okB;rw[takes_unknown hk];simp)
  have HK:=hid hk
  have hk1: ¬kd=1:=by intro e;subst e;cases hk
  have f5:(sz==0)=false:=by simp;intro e;exact g5.elim (fun h=>h e) hk1
  clear h hk hk1 g5
  go_enter Tryz.func147,Tryz.ntmps147
  go_wp2_with fail
  refine(of_any t sz kd lo hi gd m _).mono ?_
  rw[HK.out]
  rintro e w1 ⟨rfl,hb⟩;obtain⟨xs,d,rfl⟩:=ext_of hb;clear hb
  go_wp2_with fail
  go_ret
  exact⟨by rw[HR.out];rfl,by exact bel⟩
 ·have HK:=hid hk
  clear h hk
  obtain⟨sz',hsz'⟩: ∃s,s=sz:=⟨_,rfl⟩
  have h5:sz=0∨sz=1∨sz=2∨sz=3∨sz=4:=by omega
  have HK1:=hid g5
  rw[←hsz'] at HK1 HP
  have HSZ:=hid hsz'
  have hok:okB t sz kd lo hi gd=okB t sz' kd lo hi gd:=by rw[hsz']
  rw[hok]
  clear hok hsz'
  have hko:(sz==0)=true→(kd !=1)=false:=by intro e;simp at e;exact g5.elim (fun h=>absurd e h) (fun h=>by simp[h])
  clear g5
  rcases h5 with rfl|rfl|rfl|rfl|rfl
  ·have f5:=hko rfl
   have HL:=hid (show lim sz'=1 by rw[HSZ.out];rfl)
   clear hko
   have i0: ∀w,(Instr.index 202 (.agg #[.int .i64 lo,.int .i64 hi,.int .i64 gd]) (.int .i64 0)).run Tryz.prog w=.ok (.int .i64 lo) w:=fun _=>by kernel_rfl
   have i1: ∀w,(Instr.index 202 (.agg #[.int .i64 lo,.int .i64 hi,.int .i64 gd]) (.int .i64 1)).run Tryz.prog w=.ok (.int .i64 hi) w:=fun _=>by kernel_rfl
   have i2: ∀w,(Instr.index 202 (.agg #[.int .i64 lo,.int .i64 hi,.int .i64 gd]) (.int .i64 2)).run Tryz.prog w=.ok (.int .i64 gd) w:=fun _=>by kernel_rfl
   go_enter Tryz.func147,Tryz.ntmps147
   go_wp2_with fail
   refine(of_any t _ kd lo hi gd m _).mono ?_
   rw[HK.out]
   rintro e w1 ⟨rfl,hb⟩;obtain⟨xs,d,rfl⟩:=ext_of hb;clear hb
   go_wp2_with fail
   go_loop [55] (fun i=> ∃k:Nat,k≤3∧i=.int .i64 k∧upto3 lo hi gd 1 k) (fun i=>3-(intOf i).toNat)
   case atStart=>exact⟨0,by omega,rfl,by unfold upto3;refine⟨?_,?_,?_⟩<;>omega⟩
   case round=>
    obtain⟨k,hk,rfl,hu⟩:=hrel
    have HU:=hid hu
    clear hu
    have hk3:k=0∨k=1∨k=2∨k=3:=by omega
    rcases hk3 with rfl|rfl|rfl|rfl
    ·by_cases c1:lo<0
     ·have HR:=hid (show okB t sz' kd lo hi gd=false by unfold okB;rw[show inL lo (lim sz')=false by unfold inL;simp;omega];simp)
      go_wp2
      go_ret
      exact⟨by rw[HR.out];rfl,by exact bel⟩
     ·have f1:decide (lo<0)=false:=by simpa using c1
      by_cases c2:1≤lo
      ·have HR:=hid (show okB t sz' kd lo hi gd=false by unfold okB;rw[show inL lo (lim sz')=false by unfold inL;rw[HL.out];simp;omega];simp)
       go_wp2
       go_ret
       exact⟨by rw[HR.out];rfl,by exact bel⟩
      ·have f2:decide (1≤lo)=false:=by simpa using c2
       have HI:=hid (show inL lo 1=true by unfold inL;simp;omega)
       go_wp2
       go_round
       case rel=>exact⟨1,by omega,by go_num,⟨fun _=>HI.out,fun h=>absurd h (by omega),fun h=>absurd h (by omega)⟩⟩
       case measure=>simp[intOf]
    ·by_cases c1:hi<0
     ·have HR:=hid (show okB t sz' kd lo hi gd=false by unfold okB;rw[show inL hi (lim sz')=false by unfold inL;simp;omega];simp)
      go_wp2
      go_ret
      exact⟨by rw[HR.out];rfl,by exact bel⟩
     ·have f1:decide (hi<0)=false:=by simpa using c1
      by_cases c2:1≤hi
      ·have HR:=hid (show okB t sz' kd lo hi gd=false by unfold okB;rw[show inL hi (lim sz')=false by unfold inL;rw[HL.out];simp;omega];simp)
       go_wp2
       go_ret
       exact⟨by rw[HR.out];rfl,by exact bel⟩
      ·have f2:decide (1≤hi)=false:=by simpa using c2
       have HI:=hid (show inL hi 1=true by unfold inL;simp;omega)
       go_wp2
       go_round
       case rel=>exact⟨2,by omega,by go_num,⟨fun _=>HU.out.1 (by omega),fun _=>HI.out,fun h=>absurd h (by omega)⟩⟩
       case measure=>simp[intOf]
    ·by_cases c1:gd<0
     ·have HR:=hid (show okB t sz' kd lo hi gd=false by unfold okB;rw[show inL gd (lim sz')=false by unfold inL;simp;omega];simp)
      go_wp2
      go_ret
      exact⟨by rw[HR.out];rfl,by exact bel⟩
     ·have f1:decide (gd<0)=false:=by simpa using c1
      by_cases c2:1≤gd
      ·have HR:=hid (show okB t sz' kd lo hi gd=false by unfold okB;rw[show inL gd (lim sz')=false by unfold inL;rw[HL.out];simp;omega];simp)
       go_wp2
       go_ret
       exact⟨by rw[HR.out];rfl,by exact bel⟩
      ·have f2:decide (1≤gd)=false:=by simpa using c2
       have HI:=hid (show inL gd 1=true by unfold inL;simp;omega)
       go_wp2
       go_round
       case rel=>exact⟨3,by omega,by go_num,⟨fun _=>HU.out.1 (by omega),fun _=>HU.out.2.1 (by omega),fun _=>HI.out⟩⟩
       case measure=>simp[intOf]
    ·have HB3:=hid (show okB t sz' kd lo hi gd=((kd !=2||decide (lo≤hi))&&takesB kd lo hi gd gd) by unfold okB;rw[HP.out,HL.out,HU.out.1 (by omega),HU.out.2.1 (by omega),HU.out.2.2 (by omega)];simp)
     cases hq:(kd !=2)
     ·cases hq2:decide (lo≤hi)
      ·have HR:=hid (show okB t sz' kd lo hi gd=false by rw[HB3.out,hq,hq2];rfl)
       go_wp2
       go_ret
       exact⟨by rw[HR.out];rfl,by exact bel⟩
      ·have HR:=hid (show okB t sz' kd lo hi gd=takesB kd lo hi gd gd by rw[HB3.out,hq,hq2];rfl)
       go_wp2_with fail
       refine(takes_any t _ kd lo hi gd gd m _).mono ?_
       rintro e w1 ⟨rfl,hb⟩;obtain⟨xs2,d2,rfl⟩:=ext_of hb;clear hb
       go_wp2_with fail
       go_ret
       exact⟨by rw[HR.out];rfl,by exact bel⟩
     ·have HR:=hid (show okB t sz' kd lo hi gd=takesB kd lo hi gd gd by rw[HB3.out,hq];rfl)
      go_wp2_with fail
      refine(takes_any t _ kd lo hi gd gd m _).mono ?_
      rintro e w1 ⟨rfl,hb⟩;obtain⟨xs2,d2,rfl⟩:=ext_of hb;clear hb
      go_wp2_with fail
      go_ret
      exact⟨by rw[HR.out];rfl,by exact bel⟩
  ·have f5:=trivial
   have HL:=hid (show lim sz'=256 by rw[HSZ.out];rfl)
   clear hko
   have i0: ∀w,(Instr.index 202 (.agg #[.int .i64 lo,.int .i64 hi,.int .i64 gd]) (.int .i64 0)).run Tryz.prog w=.ok (.int .i64 lo) w:=fun _=>by kernel_rfl
   have i1: ∀w,(Instr.index 202 (.agg #[.int .i64 lo,.int .i64 hi,.int .i64 gd]) (.int .i64 1)).run Tryz.prog w=.ok (.int .i64 hi) w:=fun _=>by kernel_rfl
   have i2: ∀w,(Instr.index 202 (.agg #[.int .i64 lo,.int .i64 hi,.int .i64 gd]) (.int .i64 2)).run Tryz.prog w=.ok (.int .i64 gd) w:=fun _=>by kernel_rfl
   go_enter Tryz.func147,Tryz.ntmps147
   go_wp2_with fail
   refine(of_any t _ kd lo hi gd m _).mono ?_
   rw[HK.out]
   rintro e w1 ⟨rfl,hb⟩;obtain⟨xs,d,rfl⟩:=ext_of hb;clear hb
   go_wp2_with fail
   go_loop [55] (fun i=> ∃k:Nat,k≤3∧i=.int .i64 k∧upto3 lo hi gd 256 k) (fun i=>3-(intOf i).toNat)
   case atStart=>exact⟨0,by omega,rfl,by unfold upto3;refine⟨?_,?_,?_⟩<;>omega⟩
   case round=>
    obtain⟨k,hk,rfl,hu⟩:=hrel
    have HU:=hid hu
    clear hu
    have hk3:k=0∨k=1∨k=2∨k=3:=by omega
    rcases hk3 with rfl|rfl|rfl|rfl
    ·by_cases c1:lo<0
     ·have HR:=hid (show okB t sz' kd lo hi gd=false by unfold okB;rw[show inL lo (lim sz')=false by unfold inL;simp;omega];simp)
      go_wp2
      go_ret
      exact⟨by rw[HR.out];rfl,by exact bel⟩
     ·have f1:decide (lo<0)=false:=by simpa using c1
      by_cases c2:256≤lo
      ·have HR:=hid (show okB t sz' kd lo hi gd=false by unfold okB;rw[show inL lo (lim sz')=false by unfold inL;rw[HL.out];simp;omega];simp)
       go_wp2
       go_ret
       exact⟨by rw[HR.out];rfl,by exact bel⟩
      ·have f2:decide (256≤lo)=false:=by simpa using c2
       have HI:=hid (show inL lo 256=true by unfold inL;simp;omega)
       go_wp2
       go_round
       case rel=>exact⟨1,by omega,by go_num,⟨fun _=>HI.out,fun h=>absurd h (by omega),fun h=>absurd h (by omega)⟩⟩
       case measure=>simp[intOf]
    ·by_cases c1:hi<0
     ·have HR:=hid (show okB t sz' kd lo hi gd=false by unfold okB;rw[show inL hi (lim sz')=false by unfold inL;simp;omega];simp)
      go_wp2
      go_ret
      exact⟨by rw[HR.out];rfl,by exact bel⟩
     ·have f1:decide (hi<0)=false:=by simpa using c1
      by_cases c2:256≤hi
      ·have HR:=hid (show okB t sz' kd lo hi gd=false by unfold okB;rw[show inL hi (lim sz')=false by unfold inL;rw[HL.out];simp;omega];simp)
       go_wp2
       go_ret
       exact⟨by rw[HR.out];rfl,by exact bel⟩
      ·have f2:decide (256≤hi)=false:=by simpa using c2
       have HI:=hid (show inL hi 256=true by unfold inL;simp;omega)
       go_wp2
       go_round
       case rel=>exact⟨2,by omega,by go_num,⟨fun _=>HU.out.1 (by omega),fun _=>HI.out,fun h=>absurd h (by omega)⟩⟩
       case measure=>simp[intOf]
    ·by_cases c1:gd<0
     ·have HR:=hid (show okB t sz' kd lo hi gd=false by unfold okB;rw[show inL gd (lim sz')=false by unfold inL;simp;omega];simp)
      go_wp2
      go_ret
      exact⟨by rw[HR.out];rfl,by exact bel⟩
     ·have f1:decide (gd<0)=false:=by simpa using c1
      by_cases c2:256≤gd
      ·have HR:=hid (show okB t sz' kd lo hi gd=false by unfold okB;rw[show inL gd (lim sz')=false by unfold inL;rw[HL.out];simp;omega];simp)
       go_wp2
       go_ret
       exact⟨by rw[HR.out];rfl,by exact bel⟩
      ·have f2:decide (256≤gd)=false:=by simpa using c2
       have HI:=hid (show inL gd 256=true by unfold inL;simp;omega)
       go_wp2
       go_round
       case rel=>exact⟨3,by omega,by go_num,⟨fun _=>HU.out.1 (by omega),fun _=>HU.out.2.1 (by omega),fun _=>HI.out⟩⟩
       case measure=>simp[intOf]
    ·have HB3:=hid (show okB t sz' kd lo hi gd=((kd !=2||decide (lo≤hi))&&takesB kd lo hi gd gd) by unfold okB;rw[HP.out,HL.out,HU.out.1 (by omega),HU.out.2.1 (by omega),HU.out.2.2 (by omega)];simp)
     cases hq:(kd !=2)
     ·cases hq2:decide (lo≤hi)
      ·have HR:=hid (show okB t sz' kd lo hi gd=false by rw[HB3.out,hq,hq2];rfl)
       go_wp2
       go_ret
       exact⟨by rw[HR.out];rfl,by exact bel⟩
      ·have HR:=hid (show okB t sz' kd lo hi gd=takesB kd lo hi gd gd by rw[HB3.out,hq,hq2];rfl)
       go_wp2_with fail
       refine(takes_any t _ kd lo hi gd gd m _).mono ?_
       rintro e w1 ⟨rfl,hb⟩;obtain⟨xs2,d2,rfl⟩:=ext_of hb;clear hb
       go_wp2_with fail
       go_ret
       exact⟨by rw[HR.out];rfl,by exact bel⟩
     ·have HR:=hid (show okB t sz' kd lo hi gd=takesB kd lo hi gd gd by rw[HB3.out,hq];rfl)
      go_wp2_with fail
      refine(takes_any t _ kd lo hi gd gd m _).mono ?_
      rintro e w1 ⟨rfl,hb⟩;obtain⟨xs2,d2,rfl⟩:=ext_of hb;clear hb
      go_wp2_with fail
      go_ret
      exact⟨by rw[HR.out];rfl,by exact bel⟩
  ·have f5:=trivial
   have HL:=hid (show lim sz'=65536 by rw[HSZ.out];rfl)
   clear hko
   have i0: ∀w,(Instr.index 202 (.agg #[.int .i64 lo,.int .i64 hi,.int .i64 gd]) (.int .i64 0)).run Tryz.prog w=.ok (.int .i64 lo) w:=fun _=>by kernel_rfl
   have i1: ∀w,(Instr.index 202 (.agg #[.int .i64 lo,.int .i64 hi,.int .i64 gd]) (.int .i64 1)).run Tryz.prog w=.ok (.int .i64 hi) w:=fun _=>by kernel_rfl
   have i2: ∀w,(Instr.index 202 (.agg #[.int .i64 lo,.int .i64 hi,.int .i64 gd]) (.int .i64 2)).run Tryz.prog w=.ok (.int .i64 gd) w:=fun _=>by kernel_rfl
   go_enter Tryz.func147,Tryz.ntmps147
   go_wp2_with fail
   refine(of_any t _ kd lo hi gd m _).mono ?_
   rw[HK.out]
   rintro e w1 ⟨rfl,hb⟩;obtain⟨xs,d,rfl⟩:=ext_of hb;clear hb
   go_wp2_with fail
   go_loop [55] (fun i=> ∃k:Nat,k≤3∧i=.int .i64 k∧upto3 lo hi gd 65536 k) (fun i=>3-(intOf i).toNat)
   case atStart=>exact⟨0,by omega,rfl,by unfold upto3;refine⟨?_,?_,?_⟩<;>omega⟩
   case round=>
    obtain⟨k,hk,rfl,hu⟩:=hrel
    have HU:=hid hu
    clear hu
    have hk3:k=0∨k=1∨k=2∨k=3:=by omega
    rcases hk3 with rfl|rfl|rfl|rfl
    ·by_cases c1:lo<0
     ·have HR:=hid (show okB t sz' kd lo hi gd=false by unfold okB;rw[show inL lo (lim sz')=false by unfold inL;simp;omega];simp)
      go_wp2
      go_ret
      exact⟨by rw[HR.out];rfl,by exact bel⟩
     ·have f1:decide (lo<0)=false:=by simpa using c1
      by_cases c2:65536≤lo
      ·have HR:=hid (show okB t sz' kd lo hi gd=false by unfold okB;rw[show inL lo (lim sz')=false by unfold inL;rw[HL.out];simp;omega];simp)
       go_wp2
       go_ret
       exact⟨by rw[HR.out];rfl,by exact bel⟩
      ·have f2:decide (65536≤lo)=false:=by simpa using c2
       have HI:=hid (show inL lo 65536=true by unfold inL;simp;omega)
       go_wp2
       go_round
       case rel=>exact⟨1,by omega,by go_num,⟨fun _=>HI.out,fun h=>absurd h (by omega),fun h=>absurd h (by omega)⟩⟩
       case measure=>simp[intOf]
    ·by_cases c1:hi<0
     ·have HR:=hid (show okB t sz' kd lo hi gd=false by unfold okB;rw[show inL hi (lim sz')=false by unfold inL;simp;omega];simp)
      go_wp2
      go_ret
      exact⟨by rw[HR.out];rfl,by exact bel⟩
     ·have f1:decide (hi<0)=false:=by simpa using c1
      by_cases c2:65536≤hi
      ·have HR:=hid (show okB t sz' kd lo hi gd=false by unfold okB;rw[show inL hi (lim sz')=false by unfold inL;rw[HL.out];simp;omega];simp)
       go_wp2
       go_ret
       exact⟨by rw[HR.out];rfl,by exact bel⟩
      ·have f2:decide (65536≤hi)=false:=by simpa using c2
       have HI:=hid (show inL hi 65536=true by unfold inL;simp;omega)
       go_wp2
       go_round
       case rel=>exact⟨2,by omega,by go_num,⟨fun _=>HU.out.1 (by omega),fun _=>HI.out,fun h=>absurd h (by omega)⟩⟩
       case measure=>simp[intOf]
    ·by_cases c1:gd<0
     ·have HR:=hid (show okB t sz' kd lo hi gd=false by unfold okB;rw[show inL gd (lim sz')=false by unfold inL;simp;omega];simp)
      go_wp2
      go_ret
      exact⟨by rw[HR.out];rfl,by exact bel⟩
     ·have f1:decide (gd<0)=false:=by simpa using c1
      by_cases c2:65536≤gd
      ·have HR:=hid (show okB t sz' kd lo hi gd=false by unfold okB;rw[show inL gd (lim sz')=false by unfold inL;rw[HL.out];simp;omega];simp)
       go_wp2
       go_ret
       exact⟨by rw[HR.out];rfl,by exact bel⟩
      ·have f2:decide (65536≤gd)=false:=by simpa using c2
       have HI:=hid (show inL gd 65536=true by unfold inL;simp;omega)
       go_wp2
       go_round
       case rel=>exact⟨3,by omega,by go_num,⟨fun _=>HU.out.1 (by omega),fun _=>HU.out.2.1 (by omega),fun _=>HI.out⟩⟩
       case measure=>simp[intOf]
    ·have HB3:=hid (show okB t sz' kd lo hi gd=((kd !=2||decide (lo≤hi))&&takesB kd lo hi gd gd) by unfold okB;rw[HP.out,HL.out,HU.out.1 (by omega),HU.out.2.1 (by omega),HU.out.2.2 (by omega)];simp)
     cases hq:(kd !=2)
     ·cases hq2:decide (lo≤hi)
      ·have HR:=hid (show okB t sz' kd lo hi gd=false by rw[HB3.out,hq,hq2];rfl)
       go_wp2
       go_ret
       exact⟨by rw[HR.out];rfl,by exact bel⟩
      ·have HR:=hid (show okB t sz' kd lo hi gd=takesB kd lo hi gd gd by rw[HB3.out,hq,hq2];rfl)
       go_wp2_with fail
       refine(takes_any t _ kd lo hi gd gd m _).mono ?_
       rintro e w1 ⟨rfl,hb⟩;obtain⟨xs2,d2,rfl⟩:=ext_of hb;clear hb
       go_wp2_with fail
       go_ret
       exact⟨by rw[HR.out];rfl,by exact bel⟩
     ·have HR:=hid (show okB t sz' kd lo hi gd=takesB kd lo hi gd gd by rw[HB3.out,hq];rfl)
      go_wp2_with fail
      refine(takes_any t _ kd lo hi gd gd m _).mono ?_
      rintro e w1 ⟨rfl,hb⟩;obtain⟨xs2,d2,rfl⟩:=ext_of hb;clear hb
      go_wp2_with fail
      go_ret
      exact⟨by rw[HR.out];rfl,by exact bel⟩
  ·have f5:=trivial
   have HL:=hid (show lim sz'=16777216 by rw[HSZ.out];rfl)
   clear hko
   have i0: ∀w,(Instr.index 202 (.agg #[.int .i64 lo,.int .i64 hi,.int .i64 gd]) (.int .i64 0)).run Tryz.prog w=.ok (.int .i64 lo) w:=fun _=>by kernel_rfl
   have i1: ∀w,(Instr.index 202 (.agg #[.int .i64 lo,.int .i64 hi,.int .i64 gd]) (.int .i64 1)).run Tryz.prog w=.ok (.int .i64 hi) w:=fun _=>by kernel_rfl
   have i2: ∀w,(Instr.index 202 (.agg #[.int .i64 lo,.int .i64 hi,.int .i64 gd]) (.int .i64 2)).run Tryz.prog w=.ok (.int .i64 gd) w:=fun _=>by kernel_rfl
   go_enter Tryz.func147,Tryz.ntmps147
   go_wp2_with fail
   refine(of_any t _ kd lo hi gd m _).mono ?_
   rw[HK.out]
   rintro e w1 ⟨rfl,hb⟩;obtain⟨xs,d,rfl⟩:=ext_of hb;clear hb
   go_wp2_with fail
   go_loop [55] (fun i=> ∃k:Nat,k≤3∧i=.int .i64 k∧upto3 lo hi gd 16777216 k) (fun i=>3-(intOf i).toNat)
   case atStart=>exact⟨0,by omega,rfl,by unfold upto3;refine⟨?_,?_,?_⟩<;>omega⟩
   case round=>
    obtain⟨k,hk,rfl,hu⟩:=hrel
    have HU:=hid hu
    clear hu
    have hk3:k=0∨k=1∨k=2∨k=3:=by omega
    rcases hk3 with rfl|rfl|rfl|rfl
    ·by_cases c1:lo<0
     ·have HR:=hid (show okB t sz' kd lo hi gd=false by unfold okB;rw[show inL lo (lim sz')=false by unfold inL;simp;omega];simp)
      go_wp2
      go_ret
      exact⟨by rw[HR.out];rfl,by exact bel⟩
     ·have f1:decide (lo<0)=false:=by simpa using c1
      by_cases c2:16777216≤lo
      ·have HR:=hid (show okB t sz' kd lo hi gd=false by unfold okB;rw[show inL lo (lim sz')=false by unfold inL;rw[HL.out];simp;omega];simp)
       go_wp2
       go_ret
       exact⟨by rw[HR.out];rfl,by exact bel⟩
      ·have f2:decide (16777216≤lo)=false:=by simpa using c2
       have HI:=hid (show inL lo 16777216=true by unfold inL;simp;omega)
       go_wp2
       go_round
       case rel=>exact⟨1,by omega,by go_num,⟨fun _=>HI.out,fun h=>absurd h (by omega),fun h=>absurd h (by omega)⟩⟩
       case measure=>simp[intOf]
    ·by_cases c1:hi<0
     ·have HR:=hid (show okB t sz' kd lo hi gd=false by unfold okB;rw[show inL hi (lim sz')=false by unfold inL;simp;omega];simp)
      go_wp2
      go_ret
      exact⟨by rw[HR.out];rfl,by exact bel⟩
     ·have f1:decide (hi<0)=false:=by simpa using c1
      by_cases c2:16777216≤hi
      ·have HR:=hid (show okB t sz' kd lo hi gd=false by unfold okB;rw[show inL hi (lim sz')=false by unfold inL;rw[HL.out];simp;omega];simp)
       go_wp2
       go_ret
       exact⟨by rw[HR.out];rfl,by exact bel⟩
      ·have f2:decide (16777216≤hi)=false:=by simpa using c2
       have HI:=hid (show inL hi 16777216=true by unfold inL;simp;omega)
       go_wp2
       go_round
       case rel=>exact⟨2,by omega,by go_num,⟨fun _=>HU.out.1 (by omega),fun _=>HI.out,fun h=>absurd h (by omega)⟩⟩
       case measure=>simp[intOf]
    ·by_cases c1:gd<0
     ·have HR:=hid (show okB t sz' kd lo hi gd=false by unfold okB;rw[show inL gd (lim sz')=false by unfold inL;simp;omega];simp)
      go_wp2
      go_ret
      exact⟨by rw[HR.out];rfl,by exact bel⟩
     ·have f1:decide (gd<0)=false:=by simpa using c1
      by_cases c2:16777216≤gd
      ·have HR:=hid (show okB t sz' kd lo hi gd=false by unfold okB;rw[show inL gd (lim sz')=false by unfold inL;rw[HL.out];simp;omega];simp)
       go_wp2
       go_ret
       exact⟨by rw[HR.out];rfl,by exact bel⟩
      ·have f2:decide (16777216≤gd)=false:=by simpa using c2
       have HI:=hid (show inL gd 16777216=true by unfold inL;simp;omega)
       go_wp2
       go_round
       case rel=>exact⟨3,by omega,by go_num,⟨fun _=>HU.out.1 (by omega),fun _=>HU.out.2.1 (by omega),fun _=>HI.out⟩⟩
       case measure=>simp[intOf]
    ·have HB3:=hid (show okB t sz' kd lo hi gd=((kd !=2||decide (lo≤hi))&&takesB kd lo hi gd gd) by unfold okB;rw[HP.out,HL.out,HU.out.1 (by omega),HU.out.2.1 (by omega),HU.out.2.2 (by omega)];simp)
     cases hq:(kd !=2)
     ·cases hq2:decide (lo≤hi)
      ·have HR:=hid (show okB t sz' kd lo hi gd=false by rw[HB3.out,hq,hq2];rfl)
       go_wp2
       go_ret
       exact⟨by rw[HR.out];rfl,by exact bel⟩
      ·have HR:=hid (show okB t sz' kd lo hi gd=takesB kd lo hi gd gd by rw[HB3.out,hq,hq2];rfl)
       go_wp2_with fail
       refine(takes_any t _ kd lo hi gd gd m _).mono ?_
       rintro e w1 ⟨rfl,hb⟩;obtain⟨xs2,d2,rfl⟩:=ext_of hb;clear hb
       go_wp2_with fail
       go_ret
       exact⟨by rw[HR.out];rfl,by exact bel⟩
     ·have HR:=hid (show okB t sz' kd lo hi gd=takesB kd lo hi gd gd by rw[HB3.out,hq];rfl)
      go_wp2_with fail
      refine(takes_any t _ kd lo hi gd gd m _).mono ?_
      rintro e w1 ⟨rfl,hb⟩;obtain⟨xs2,d2,rfl⟩:=ext_of hb;clear hb
      go_wp2_with fail
      go_ret
      exact⟨by rw[HR.out];rfl,by exact bel⟩
  ·have f5:=trivial
   have HL:=hid (show lim sz'=4294967296 by rw[HSZ.out];rfl)
   clear hko
   have i0: ∀w,(Instr.index 202 (.agg #[.int .i64 lo,.int .i64 hi,.int .i64 gd]) (.int .i64 0)).run Tryz.prog w=.ok (.int .i64 lo) w:=fun _=>by kernel_rfl
   have i1: ∀w,(Instr.index 202 (.agg #[.int .i64 lo,.int .i64 hi,.int .i64 gd]) (.int .i64 1)).run Tryz.prog w=.ok (.int .i64 hi) w:=fun _=>by kernel_rfl
   have i2: ∀w,(Instr.index 202 (.agg #[.int .i64 lo,.int .i64 hi,.int .i64 gd]) (.int .i64 2)).run Tryz.prog w=.ok (.int .i64 gd) w:=fun _=>by kernel_rfl
   go_enter Tryz.func147,Tryz.ntmps147
   go_wp2_with fail
   refine(of_any t _ kd lo hi gd m _).mono ?_
   rw[HK.out]
   rintro e w1 ⟨rfl,hb⟩;obtain⟨xs,d,rfl⟩:=ext_of hb;clear hb
   go_wp2_with fail
   go_loop [55] (fun i=> ∃k:Nat,k≤3∧i=.int .i64 k∧upto3 lo hi gd 4294967296 k) (fun i=>3-(intOf i).toNat)
   case atStart=>exact⟨0,by omega,rfl,by unfold upto3;refine⟨?_,?_,?_⟩<;>omega⟩
   case round=>
    obtain⟨k,hk,rfl,hu⟩:=hrel
    have HU:=hid hu
    clear hu
    have hk3:k=0∨k=1∨k=2∨k=3:=by omega
    rcases hk3 with rfl|rfl|rfl|rfl
    ·by_cases c1:lo<0
     ·have HR:=hid (show okB t sz' kd lo hi gd=false by unfold okB;rw[show inL lo (lim sz')=false by unfold inL;simp;omega];simp)
      go_wp2
      go_ret
      exact⟨by rw[HR.out];rfl,by exact bel⟩
     ·have f1:decide (lo<0)=false:=by simpa using c1
      by_cases c2:4294967296≤lo
      ·have HR:=hid (show okB t sz' kd lo hi gd=false by unfold okB;rw[show inL lo (lim sz')=false by unfold inL;rw[HL.out];simp;omega];simp)
       go_wp2
       go_ret
       exact⟨by rw[HR.out];rfl,by exact bel⟩
      ·have f2:decide (4294967296≤lo)=false:=by simpa using c2
       have HI:=hid (show inL lo 4294967296=true by unfold inL;simp;omega)
       go_wp2
       go_round
       case rel=>exact⟨1,by omega,by go_num,⟨fun _=>HI.out,fun h=>absurd h (by omega),fun h=>absurd h (by omega)⟩⟩
       case measure=>simp[intOf]
    ·by_cases c1:hi<0
     ·have HR:=hid (show okB t sz' kd lo hi gd=false by unfold okB;rw[show inL hi (lim sz')=false by unfold inL;simp;omega];simp)
      go_wp2
      go_ret
      exact⟨by rw[HR.out];rfl,by exact bel⟩
     ·have f1:decide (hi<0)=false:=by simpa using c1
      by_cases c2:4294967296≤hi
      ·have HR:=hid (show okB t sz' kd lo hi gd=false by unfold okB;rw[show inL hi (lim sz')=false by unfold inL;rw[HL.out];simp;omega];simp)
       go_wp2
       go_ret
       exact⟨by rw[HR.out];rfl,by exact bel⟩
      ·have f2:decide (4294967296≤hi)=false:=by simpa using c2
       have HI:=hid (show inL hi 4294967296=true by unfold inL;simp;omega)
       go_wp2
       go_round
       case rel=>exact⟨2,by omega,by go_num,⟨fun _=>HU.out.1 (by omega),fun _=>HI.out,fun h=>absurd h (by omega)⟩⟩
       case measure=>simp[intOf]
    ·by_cases c1:gd<0
     ·have HR:=hid (show okB t sz' kd lo hi gd=false by unfold okB;rw[show inL gd (lim sz')=false by unfold inL;simp;omega];simp)
      go_wp2
      go_ret
      exact⟨by rw[HR.out];rfl,by exact bel⟩
     ·have f1:decide (gd<0)=false:=by simpa using c1
      by_cases c2:4294967296≤gd
      ·have HR:=hid (show okB t sz' kd lo hi gd=false by unfold okB;rw[show inL gd (lim sz')=false by unfold inL;rw[HL.out];simp;omega];simp)
       go_wp2
       go_ret
       exact⟨by rw[HR.out];rfl,by exact bel⟩
      ·have f2:decide (4294967296≤gd)=false:=by simpa using c2
       have HI:=hid (show inL gd 4294967296=true by unfold inL;simp;omega)
       go_wp2
       go_round
       case rel=>exact⟨3,by omega,by go_num,⟨fun _=>HU.out.1 (by omega),fun _=>HU.out.2.1 (by omega),fun _=>HI.out⟩⟩
       case measure=>simp[intOf]
    ·have HB3:=hid (show okB t sz' kd lo hi gd=((kd !=2||decide (lo≤hi))&&takesB kd lo hi gd gd) by unfold okB;rw[HP.out,HL.out,HU.out.1 (by omega),HU.out.2.1 (by omega),HU.out.2.2 (by omega)];simp)
     cases hq:(kd !=2)
     ·cases hq2:decide (lo≤hi)
      ·have HR:=hid (show okB t sz' kd lo hi gd=false by rw[HB3.out,hq,hq2];rfl)
       go_wp2
       go_ret
       exact⟨by rw[HR.out];rfl,by exact bel⟩
      ·have HR:=hid (show okB t sz' kd lo hi gd=takesB kd lo hi gd gd by rw[HB3.out,hq,hq2];rfl)
       go_wp2_with fail
       refine(takes_any t _ kd lo hi gd gd m _).mono ?_
       rintro e w1 ⟨rfl,hb⟩;obtain⟨xs2,d2,rfl⟩:=ext_of hb;clear hb
       go_wp2_with fail
       go_ret
       exact⟨by rw[HR.out];rfl,by exact bel⟩
     ·have HR:=hid (show okB t sz' kd lo hi gd=takesB kd lo hi gd gd by rw[HB3.out,hq];rfl)
      go_wp2_with fail
      refine(takes_any t _ kd lo hi gd gd m _).mono ?_
      rintro e w1 ⟨rfl,hb⟩;obtain⟨xs2,d2,rfl⟩:=ext_of hb;clear hb
      go_wp2_with fail
      go_ret
      exact⟨by rw[HR.out];rfl,by exact bel⟩
theorem may_any (t sz kd lo hi gd:Int) (m:Bool) (w:World):Calls Tryz.prog 147 #[.agg #[.int .i64 t,.int .i64 sz,.int .i64 kd,.int .i64 lo,.int .i64 hi,.int .i64 gd,.bool m]] w fun x w'=>x=.returned (.bool (okB t sz kd lo hi gd))∧Below w.heap.size w w':=by
 cases h:preB t sz kd
 ·exact may_pre t sz kd lo hi gd m w h
 ·exact may_post t sz kd lo hi gd m w h
end Go.Proofs.YtfkgmbknfnhjoaaGreat.Ne
namespace Go.Proofs.YtfkgmbknfnhjoaaGreat.Ne
open Lib (hid)
open Go.RowKit
set_option linter.unusedSimpArgs false
set_option linter.unusedVariables false
theorem limit_ref (s:Nat) (hs:s≤4) (w:World):Calls Tryz.prog 106 #[.int .i64 (s:Int)] w fun x w'=>x=.returned (.int .i64 (lim (s:Int)))∧w=w':=by
 go_enter Tryz.func106,Tryz.ntmps106
 go_wp2
 go_loop [3,4] (fun v i=> ∃(k:Nat) (p:Int),k≤s∧i=.int .i64 k∧v=.int .i64 p∧Hid (p=256^k)∧0≤p∧p≤256^k) (fun _ i=>s-(intOf i).toNat)
 case atStart=>exact⟨0,1,by omega,rfl,rfl,hid rfl,by omega,by simp⟩
 case round=>
  obtain⟨k,p,hk,rfl,rfl,hp,hp0,hp1⟩:=hrel
  by_cases hlt:k<s
  ·have h3:(256:Int)^k≤16777216:=by
    have:k=0∨k=1∨k=2∨k=3:=by omega
    rcases this with rfl|rfl|rfl|rfl<;>decide
   have hp2:p≤16777216:=by omega
   have HS:=hid (show p*256=256^(k+1) by rw[hp.out,Int.pow_succ])
   clear h3 hp1
   go_wp2
   go_round
   case rel=>exact⟨k+1,p*256,by omega,by go_num,rfl,hid HS.out,by omega,by rw[HS.out];exact Int.le_refl _⟩
   case measure=>simp[intOf];omega
  ·obtain rfl:k=s:=by omega
   have HS:=hid (show lim (k:Int)=p by rw[hp.out];rfl)
   clear hp1
   go_wp2
   go_ret
   exact⟨by rw[HS.out];rfl,rfl⟩
theorem below_ref (n m:Int) (w:World):Calls Tryz.prog 107 #[.int .i64 n,.int .i64 m] w fun x w'=>x=.returned (.bool (inL n m))∧w=w':=by
 cases h1:decide (0≤n)
 ·have HR:=hid (show inL n m=false by unfold inL;rw[h1];rfl)
  go_enter Tryz.func107,Tryz.ntmps107
  go_wp2
  go_ret
  exact⟨by rw[HR.out];rfl,rfl⟩
 ·cases h2:decide (n<m)
  all_goals
   have HR:=hid (show inL n m=decide (n<m) by unfold inL;rw[h1];rfl)
   go_enter Tryz.func107,Tryz.ntmps107
   go_wp2
   go_ret
   exact⟨by rw[HR.out,h2];rfl,rfl⟩
theorem takes_ref (t sz kd lo hi gd n:Int) (m:Bool) (w:World):Calls Tryz.prog 108 #[.agg #[.int .i64 t,.int .i64 sz,.int .i64 kd,.int .i64 lo,.int .i64 hi,.int .i64 gd,.bool m],.int .i64 n] w fun x w'=>x=.returned (.bool (takesB kd lo hi gd n))∧Below w.heap.size w w':=by
 rcases kinds kd with rfl|rfl|rfl|rfl|⟨h1,h2,h3,h4⟩
 ·go_enter Tryz.func108,Tryz.ntmps108
  go_wp2
  go_ret
  exact⟨rfl,by exact bel⟩
 ·have HR:=hid (show takesB 2 lo hi gd n=(decide (lo≤n)&&decide (n≤hi)) from rfl)
  rw[HR.out]
  cases h1:decide (lo≤n)<;>cases h2:decide (n≤hi)
  all_goals
   go_enter Tryz.func108,Tryz.ntmps108
   go_wp2
   go_ret
   exact⟨rfl,by exact bel⟩
 ·go_enter Tryz.func108,Tryz.ntmps108
  go_wp2
  go_ret
  exact⟨rfl,by exact bel⟩
 ·go_enter Tryz.func108,Tryz.ntmps108
  go_wp2
  go_ret
  exact⟨rfl,by exact bel⟩
 ·have HR:=hid (show takesB kd lo hi gd n=false by unfold takesB;rw[if_neg h1,if_neg h2,if_neg h3,if_neg h4])
  have e1:(kd==1)=false:=by simpa using h1
  have e2:(kd==2)=false:=by simpa using h2
  have e3:(kd==3)=false:=by simpa using h3
  have e4:(kd==4)=false:=by simpa using h4
  clear h1 h2 h3 h4
  go_enter Tryz.func108,Tryz.ntmps108
  go_wp2
  go_ret
  exact⟨by rw[HR.out];rfl,by exact bel⟩
theorem is_pre (t sz kd lo hi gd:Int) (m:Bool) (w:World) (h:preB t sz kd=false):Calls Tryz.prog 83 #[.agg #[.int .i64 t,.int .i64 sz,.int .i64 kd,.int .i64 lo,.int .i64 hi,.int .i64 gd,.bool m]] w fun x w'=>x=.returned (.bool (okB t sz kd lo hi gd))∧Below w.heap.size w w':=by
 have HR:=hid (show okB t sz kd lo hi gd=false by unfold okB;rw[h];rfl)
 have HP:=hid h
 clear h
 by_cases c1:t<1
 ·go_enter Tryz.func83,Tryz.ntmps83
  go_wp2
  go_ret
  exact⟨by rw[HR.out];rfl,by exact bel⟩
 ·have f1:decide (t<1)=false:=by simpa using c1
  by_cases c2:255<t
  ·go_enter Tryz.func83,Tryz.ntmps83
   go_wp2
   go_ret
   exact⟨by rw[HR.out];rfl,by exact bel⟩
  ·have f2:decide (255<t)=false:=by simpa using c2
   by_cases c3:sz<0
   ·go_enter Tryz.func83,Tryz.ntmps83
    go_wp2
    go_ret
    exact⟨by rw[HR.out];rfl,by exact bel⟩
   ·have f3:decide (sz<0)=false:=by simpa using c3
    by_cases c4:4<sz
    ·go_enter Tryz.func83,Tryz.ntmps83
     go_wp2
     go_ret
     exact⟨by rw[HR.out];rfl,by exact bel⟩
    ·have f4:decide (4<sz)=false:=by simpa using c4
     have h5:sz=0∧kd≠1:=by
      have:=HP.out
      unfold preB at this
      simp at this
      by_cases h0:sz=0
      ·exact⟨h0,by intro e;exact absurd e (by have:=this (by omega) (by omega) (by omega) (by omega);exact this.2)⟩
      ·exact absurd (this (by omega) (by omega) (by omega) (by omega)).1 h0
     obtain⟨rfl,c5⟩:=h5
     have f5:(kd !=1)=true:=by simpa using c5
     clear c5
     go_enter Tryz.func83,Tryz.ntmps83
     go_wp2
     go_ret
     exact⟨by rw[HR.out];rfl,by exact bel⟩
theorem is_post (t kd lo hi gd:Int) (s:Nat) (hs4:s≤4) (m:Bool) (w:World) (h:preB t (s:Int) kd=true):Calls Tryz.prog 83 #[.agg #[.int .i64 t,.int .i64 (s:Int),.int .i64 kd,.int .i64 lo,.int .i64 hi,.int .i64 gd,.bool m]] w fun x w'=>x=.returned (.bool (okB t (s:Int) kd lo hi gd))∧Below w.heap.size w w':=by
 have HP:=hid h
 unfold preB at h
 simp at h
 obtain⟨⟨⟨g1,g2⟩,g4⟩,g5⟩:=h
 have f1:decide (t<1)=false:=by simp;omega
 have f2:decide (255<t)=false:=by simp;omega
 have f3:decide ((s:Int)<0)=false:=by simp
 have f4:decide (4<s)=false:=by simp;omega
 have f4':decide (4<(s:Int))=false:=by simp;omega
 obtain⟨M,hM⟩: ∃M,lim (s:Int)=M:=⟨_,rfl⟩
 have HL:=hid hM
 clear hM
 have g6:(((s:Int)==0)=false)∨(((s:Int)==0)=true∧(kd !=1)=false):=by
  by_cases h0:s=0
  ·exact .inr ⟨by simp[h0],g5.elim (fun h=>absurd h0 (by simpa using h)) (fun h=>by simp[h])⟩
  ·exact .inl (by simp;omega)
 clear g5
 rcases g6 with e0|⟨e0,e1⟩
 all_goals
  cases b1:inL lo M
  ·have HR:=hid (show okB t (s:Int) kd lo hi gd=false by unfold okB;rw[HL.out,b1];simp)
   go_enter Tryz.func83,Tryz.ntmps83
   go_wp2_with fail
   refine(limit_ref s hs4 _).mono ?_
   rw[HL.out]
   rintro e w1 ⟨rfl,rfl⟩
   go_wp2_with (go_at_call 107;refine(below_ref _ _ _).mono ?_;rintro e w1 ⟨rfl,rfl⟩)
   go_ret
   exact⟨by rw[HR.out];rfl,by exact bel⟩
  ·cases b2:inL hi M
   ·have HR:=hid (show okB t (s:Int) kd lo hi gd=false by unfold okB;rw[HL.out,b2];simp)
    go_enter Tryz.func83,Tryz.ntmps83
    go_wp2_with fail
    refine(limit_ref s hs4 _).mono ?_
    rw[HL.out]
    rintro e w1 ⟨rfl,rfl⟩
    go_wp2_with (go_at_call 107;refine(below_ref _ _ _).mono ?_;rintro e w1 ⟨rfl,rfl⟩)
    go_ret
    exact⟨by rw[HR.out];rfl,by exact bel⟩
   ·cases b3:inL gd M
    ·have HR:=hid (show okB t (s:Int) kd lo hi gd=false by unfold okB;rw[HL.out,b3];simp)
     go_enter Tryz.func83,Tryz.ntmps83
     go_wp2_with fail
     refine(limit_ref s hs4 _).mono ?_
     rw[HL.out]
     rintro e w1 ⟨rfl,rfl⟩
     go_wp2_with (go_at_call 107;refine(below_ref _ _ _).mono ?_;rintro e w1 ⟨rfl,rfl⟩)
     go_ret
     exact⟨by rw[HR.out];rfl,by exact bel⟩
    ·have HB3:=hid (show okB t (s:Int) kd lo hi gd=((kd !=2||decide (lo≤hi))&&takesB kd lo hi gd gd) by unfold okB;rw[HP.out,HL.out,b1,b2,b3];simp)
     cases hq:(kd !=2)
     ·cases hq2:decide (lo≤hi)
      ·have HR:=hid (show okB t (s:Int) kd lo hi gd=false by rw[HB3.out,hq,hq2];rfl)
       go_enter Tryz.func83,Tryz.ntmps83
       go_wp2_with fail
       refine(limit_ref s hs4 _).mono ?_
       rw[HL.out]
       rintro e w1 ⟨rfl,rfl⟩
       go_wp2_with (go_at_call 107;refine(below_ref _ _ _).mono ?_;rintro e w1 ⟨rfl,rfl⟩)
       go_ret
       exact⟨by rw[HR.out];rfl,by exact bel⟩
      ·have HR:=hid (show okB t (s:Int) kd lo hi gd=takesB kd lo hi gd gd by rw[HB3.out,hq,hq2];rfl)
       go_enter Tryz.func83,Tryz.ntmps83
       go_wp2_with fail
       refine(limit_ref s hs4 _).mono ?_
       rw[HL.out]
       rintro e w1 ⟨rfl,rfl⟩
       go_wp2_with (go_at_call 107;refine(below_ref _ _ _).mono ?_;rintro e w1 ⟨rfl,rfl⟩)
       refine(takes_ref t _ kd lo hi gd gd m _).mono ?_
       rintro e w1 ⟨rfl,hb⟩;obtain⟨xs,d,rfl⟩:=ext_of hb;clear hb
       go_wp2_with fail
       go_ret
       exact⟨by rw[HR.out];rfl,by exact bel⟩
     ·have HR:=hid (show okB t (s:Int) kd lo hi gd=takesB kd lo hi gd gd by rw[HB3.out,hq];rfl)
      go_enter Tryz.func83,Tryz.ntmps83
      go_wp2_with fail
      refine(limit_ref s hs4 _).mono ?_
      rw[HL.out]
      rintro e w1 ⟨rfl,rfl⟩
      go_wp2_with (go_at_call 107;refine(below_ref _ _ _).mono ?_;rintro e w1 ⟨rfl,rfl⟩)
      refine(takes_ref t _ kd lo hi gd gd m _).mono ?_
      rintro e w1 ⟨rfl,hb⟩;obtain⟨xs,d,rfl⟩:=ext_of hb;clear hb
      go_wp2_with fail
      go_ret
      exact⟨by rw[HR.out];rfl,by exact bel⟩
theorem is_ref (t sz kd lo hi gd:Int) (m:Bool) (w:World):Calls Tryz.prog 83 #[.agg #[.int .i64 t,.int .i64 sz,.int .i64 kd,.int .i64 lo,.int .i64 hi,.int .i64 gd,.bool m]] w fun x w'=>x=.returned (.bool (okB t sz kd lo hi gd))∧Below w.heap.size w w':=by
 cases h:preB t sz kd
 ·exact is_pre t sz kd lo hi gd m w h
 ·have h':=h
  unfold preB at h'
  simp at h'
  obtain⟨⟨⟨⟨g1,g2⟩,g3⟩,g4⟩,g5⟩:=h'
  obtain⟨s,rfl⟩:=Int.eq_ofNat_of_zero_le g3
  exact is_post t kd lo hi gd s (by omega) m w h
end Go.Proofs.YtfkgmbknfnhjoaaGreat.Ne
namespace Go.Proofs.YtfkgmbknfnhjoaaGreat.Ne
open Lib (hid)
open Go.RowKit Go.Maps
set_option linter.unusedSimpArgs false
set_option linter.unusedVariables false
def wf64 (t:Int):Prop:= -9223372036854775808≤t∧t≤9223372036854775807
structure RuleAt (W:World) (b o k:Nat) (r:Rl):Prop where
 c0:W.cell? ⟨b,o+k*7,none⟩=some (.int .i64 r.t)
 c1:W.cell? ⟨b,o+k*7+1,none⟩=some (.int .i64 r.sz)
 c2:W.cell? ⟨b,o+k*7+2,none⟩=some (.int .i64 r.kd)
 c3:W.cell? ⟨b,o+k*7+3,none⟩=some (.int .i64 r.lo)
 c4:W.cell? ⟨b,o+k*7+4,none⟩=some (.int .i64 r.hi)
 c5:W.cell? ⟨b,o+k*7+5,none⟩=some (.int .i64 r.gd)
 c6:W.cell? ⟨b,o+k*7+6,none⟩=some (.bool r.must)
def RulesAt (W:World) (B:Nat) (A:Option Addr) (R:List Rl):Prop:=
 (R=[]∨ ∃b o,A=some ⟨b,o,none⟩∧b<B∧ ∀(k:Nat) (hk:k<R.length),RuleAt W b o k R[k])∧ ∀r∈R,wf64 r.t∧wf64 r.sz∧wf64 r.lo∧wf64 r.hi∧wf64 r.gd
theorem RulesAt.get {W:World} {B:Nat} {A:Option Addr} {R:List Rl} (h:RulesAt W B A R) {k:Nat} (hk:k<R.length): ∃b o,A=some ⟨b,o,none⟩∧b<B∧RuleAt W b o k R[k]:=by
 rcases h.1 with h|⟨b,o,hA,hB,h⟩
 ·subst h;simp at hk
 ·exact⟨b,o,hA,hB,h k hk⟩
theorem RuleAt.keep {W W':World} {B b o k:Nat} {r:Rl} (h:RuleAt W b o k r) (hb:Below B W W') (hB:b<B):RuleAt W' b o k r:=
 ⟨(hb.cell (p:=⟨b,_,none⟩) hB).trans h.c0,(hb.cell (p:=⟨b,_,none⟩) hB).trans h.c1,(hb.cell (p:=⟨b,_,none⟩) hB).trans h.c2,(hb.cell (p:=⟨b,_,none⟩) hB).trans h.c3,(hb.cell (p:=⟨b,_,none⟩) hB).trans h.c4,(hb.cell (p:=⟨b,_,none⟩) hB).trans h.c5,(hb.cell (p:=⟨b,_,none⟩) hB).trans h.c6⟩
theorem RulesAt.keep {W W':World} {B:Nat} {A:Option Addr} {R:List Rl} (h:RulesAt W B A R) (hb:Below B W W'):RulesAt W' B A R:=by
 refine⟨?_,h.2⟩
 rcases h.1 with h|⟨b,o,hA,hB,h⟩
 ·exact .inl h
 ·exact .inr ⟨b,o,hA,hB,fun k hk=>(h k hk).keep hb hB⟩
theorem RulesAt.more {W:World} {B B':Nat} {A:Option Addr} {R:List Rl} (h:RulesAt W B A R) (hB:B≤B'):RulesAt W B' A R:=by
 refine⟨?_,h.2⟩
 rcases h.1 with h|⟨b,o,hA,hb,h⟩
 ·exact .inl h
 ·exact .inr ⟨b,o,hA,by omega,h⟩
def cntB (R:List Rl) (k:Nat) (t:Int):Nat:=(R.take k).countP fun r=>r.t==t
def itemB (R:List Rl) (i:Nat):Bool:=
 match R[i]? with
 |some r=>r.ok&&decide (cntB R i r.t=0)
 |none=>true
def goodK (R:List Rl) (k:Nat):Bool:=(List.range k).all (itemB R)
def areB (R:List Rl):Bool:=decide (R.length≤16)&&goodK R R.length
theorem goodK_succ (R:List Rl) (k:Nat):goodK R (k+1)=(goodK R k&&itemB R k):=by
 unfold goodK
 rw[List.range_succ,List.all_append];simp
theorem item_at {R:List Rl} {k:Nat} (hk:k<R.length):itemB R k=(R[k].ok&&decide (cntB R k R[k].t=0)):=by
 unfold itemB
 rw[List.getElem?_eq_getElem hk]
theorem are_not {R:List Rl} {k:Nat} (hk:k<R.length) (h:itemB R k=false):areB R=false:=by
 unfold areB goodK
 have:(List.range R.length).all (itemB R)=false:=by
  rw[List.all_eq_false]
  exact⟨k,by simpa using hk,by simp[h]⟩
 rw[this,Bool.and_false]
theorem cnt_succ {R:List Rl} {k:Nat} (hk:k<R.length) (t:Int):cntB R (k+1) t=cntB R k t+if R[k].t=t then 1 else 0:=by
 unfold cntB
 rw[List.take_succ_eq_append_getElem hk,List.countP_append]
 by_cases h:R[k].t=t<;>simp[h]
theorem cnt_le (R:List Rl) (k:Nat) (t:Int):cntB R k t≤k:=by
 unfold cntB
 have:=List.countP_le_length (p:=fun r:Rl=>r.t==t) (l:=R.take k)
 rw[List.length_take] at this
 omega
def CountMap (w:World) (b n:Nat) (f:Int→Nat):Prop:=
 ∃D:DataW Unit,w.ownsMap Tryz.prog 3 (plainElem Tryz.prog 3) b n D∧IsMap D∧ ∀t,D.atKey (.int .i64 t) (.lit (.int .i64 0))=.lit (.int .i64 (f t:Int))
theorem lawI:Keyed Tryz.prog 3:=int_keyed Tryz.underlying3
theorem zeroI (w:World):(zeroValue 3).run Tryz.prog w=.ok (.int .i64 0) w:=by kernel_rfl
theorem wfI {t:Int} (h:wf64 t):(Lit.int .i64 t).wf=true:=by
 unfold wf64 at h
 simp[Lit.wf,IntKind.min,IntKind.max,IntKind.signed,IntKind.bits];omega
theorem CountMap.made (w:World):CountMap (w.alloc (.map #[] 0)) w.heap.size 0 (fun _=>0):=
 ⟨.map [],World.ownsMap_made _ _ _ _,⟨_,rfl⟩,fun t=>rfl⟩
theorem CountMap.lt {w:World} {b n:Nat} {f:Int→Nat} (h:CountMap w b n f):b<w.heap.size:=by
 obtain⟨D,h1,-⟩:=h
 exact h1.lt
theorem CountMap.keep {w w':World} {b n:Nat} {f:Int→Nat} (h:CountMap w b n f) (hb:w'.heap[b]? =w.heap[b]?):CountMap w' b n f:=by
 obtain⟨D,⟨es,clock,h1,F,hs,hD⟩,h2,h3⟩:=h
 exact⟨D,⟨es,clock,hb.trans h1,F,hs,hD⟩,h2,h3⟩
theorem CountMap.look {w:World} {b n:Nat} {f:Int→Nat} (h:CountMap w b n f) {t:Int} (ht:wf64 t):(Instr.lookup 180 (.map (some b)) (.int .i64 t) false).run Tryz.prog w=.ok (.int .i64 (f t:Int)) w:=by
 obtain⟨D,h1,-,h3⟩:=h
 obtain⟨c,hr,hat,-⟩:=h1.lookup_int lawI Tryz.underlying180 Tryz.underlying3 (zeroI w) (keyOf_int_mk Tryz.underlying3 (wfI ht))
 rw[h3] at hat
 cases hat
 exact hr
theorem CountMap.store {w:World} {b n:Nat} {f g:Int→Nat} (h:CountMap w b n f) (hn:n<maxLen) {t:Int} (ht:wf64 t) {c:Nat} (hc:wf64 (c:Int)) (hg: ∀u,g u=if t=u then c else f u):
  ∃w',(Instr.mapUpdate 180 (.map (some b)) (.int .i64 t) (.int .i64 (c:Int))).run Tryz.prog w=.ok () w'∧CountMap w' b (n+1) g∧w.grownBy w' (some b):=by
 obtain⟨D,h1,h2,h3⟩:=h
 obtain⟨w',hr,ho,hgr⟩:=h1.update lawI Tryz.underlying180 hn (keyOf_int_mk Tryz.underlying3 (wfI ht)) (plainElem_int Tryz.underlying3 (wfI hc))
 refine⟨w',hr,⟨_,ho,h2.put _ _,fun u=>?_⟩,hgr⟩
 rw[hg u]
 by_cases e:t=u
 ·subst e
  rw[if_pos rfl]
  exact atKey_put_same h2 (by exact trivial) _ _
 ·rw[if_neg e,←h3 u]
  exact atKey_put_other (by intro h;cases h;exact e rfl) _ _
theorem seven {W:World} {X:Nat} {r:Rl} {T:TypeId} (h:W.heap[X]? =some (.cells #[.int .i64 r.t,.int .i64 r.sz,.int .i64 r.kd,.int .i64 r.lo,.int .i64 r.hi,.int .i64 r.gd,.bool r.must] T (0,0))):
  W.cell? ⟨X,0,none⟩=some (.int .i64 r.t)∧W.cell? ⟨X,1,none⟩=some (.int .i64 r.sz)∧W.cell? ⟨X,2,none⟩=some (.int .i64 r.kd)∧W.cell? ⟨X,3,none⟩=some (.int .i64 r.lo)∧W.cell? ⟨X,4,none⟩=some (.int .i64 r.hi)∧W.cell? ⟨X,5,none⟩=some (.int .i64 r.gd)∧W.cell? ⟨X,6,none⟩=some (.bool r.must)∧X<W.heap.size:=by
 refine⟨?_,?_,?_,?_,?_,?_,?_,?_⟩
 ·rw[cell_of_row W X 0 _ _ _ h];rfl
 ·rw[cell_of_row W X 1 _ _ _ h];rfl
 ·rw[cell_of_row W X 2 _ _ _ h];rfl
 ·rw[cell_of_row W X 3 _ _ _ h];rfl
 ·rw[cell_of_row W X 4 _ _ _ h];rfl
 ·rw[cell_of_row W X 5 _ _ _ h];rfl
 ·rw[cell_of_row W X 6 _ _ _ h];rfl
 ·rw[Array.getElem?_eq_some_iff] at h;exact h.1
end Go.Proofs.YtfkgmbknfnhjoaaGreat.Ne
namespace Go.Proofs.YtfkgmbknfnhjoaaGreat.Ne
open Lib (hid)
open Go.RowKit Go.Maps
set_option linter.unusedSimpArgs false
set_option linter.unusedVariables false
def chkV (b:Bool):Int:=if b=true then 0 else 150
theorem chk_true:chkV true=0:=rfl
theorem chk_false:chkV false=150:=rfl
theorem check_any (A:Option Addr) (n c:Nat) (R:List Rl) (w:World) (B:Nat) (hB:B≤w.heap.size) (hR:RulesAt w B A R) (hn:n=R.length) (hl:n≤1000000):
  Calls Tryz.prog 103 #[.slice A n c] w fun x w'=>x=.returned (.int .i64 (chkV (areB R)))∧Below w.heap.size w w':=by
 have HR:=hid hR
 have HN:=hid hn
 have HB:=hid hB
 clear hR hn hB
 by_cases h16:n≤16
 ·have hmm:= @run_makeMap Tryz.prog
  have f16:decide (16<n)=false:=by simp;omega
  go_enter Tryz.func103,Tryz.ntmps103
  go_wp2_with fail
  go_loopw [12] (fun i wr=> ∃k:Nat,k≤n∧i=.int .i64 k∧goodK R k=true∧CountMap wr w.heap.size k (cntB R k)∧Below w.heap.size w wr) (fun i _=>n-(intOf i).toNat)
  case atStart=>exact⟨0,Nat.zero_le _,rfl,rfl,CountMap.made w,by exact bel⟩
  case round=>
   obtain⟨k,hk,rfl,hg,hcm,hbl⟩:=hrel
   have HG:=hid hg
   have HCM:=hid hcm
   have HBL:=hid hbl
   have hsz:=hbl.size
   have hclt:=hcm.lt
   clear hg hcm hbl
   by_cases hlt:k<n
   ·have HK:=hid (show k<R.length by have:=HN.out;omega)
    obtain⟨b,o,rfl,hbB,hat⟩:=(HR.out.keep (HBL.out.mono HB.out)).get HK.out
    have hwf:=(HR.out.2 _ (List.getElem_mem HK.out)).1
    have HIT:=hid (item_at HK.out)
    have HCS:=hid (cnt_succ HK.out)
    obtain⟨r,hr⟩: ∃r,R[k]'HK.out=r:=⟨_,rfl⟩
    rw[hr] at hat hwf HIT HCS
    clear hr
    obtain⟨t,sz,kd,lo,hi,gd,mu⟩:=r
    obtain⟨c0,c1,c2,c3,c4,c5,c6⟩:=hat
    simp only at c0 c1 c2 c3 c4 c5 c6 hwf
    obtain⟨q,hq⟩: ∃q,cntB R k t=q:=⟨_,rfl⟩
    have HQ:=hid hq
    have hqk:q≤16:=by have:=cnt_le R k t;omega
    clear hq
    have HO:=hid (show okB t sz kd lo hi gd=okB t sz kd lo hi gd from rfl)
    have hcm2:CountMap (wr.alloc (.cells #[.int .i64 t,.int .i64 sz,.int .i64 kd,.int .i64 lo,.int .i64 hi,.int .i64 gd,.bool mu] 136)) w.heap.size k (cntB R k):=HCM.out.keep (Below.heap_alloc _ _ _ hclt)
    have e1:(Instr.lookup 180 (.map (some w.heap.size)) (.int .i64 t) false).run Tryz.prog (wr.alloc (.cells #[.int .i64 t,.int .i64 sz,.int .i64 kd,.int .i64 lo,.int .i64 hi,.int .i64 gd,.bool mu] 136))=.ok (.int .i64 (q:Int)) (wr.alloc (.cells #[.int .i64 t,.int .i64 sz,.int .i64 kd,.int .i64 lo,.int .i64 hi,.int .i64 gd,.bool mu] 136)):=by have:=hcm2.look hwf;rwa [HQ.out] at this
    obtain⟨w1,hr2,hcm1,hgr1⟩:=hcm2.store (g:=cntB R (k+1)) (by unfold maxLen;omega) hwf (c:=q+1) (by unfold wf64;omega) (fun u=>by rw[HCS.out u];by_cases e:t=u<;>simp[e];subst e;exact HQ.out)
    have e2:(Instr.mapUpdate 180 (.map (some w.heap.size)) (.int .i64 t) (.int .i64 ((q:Int)+1))).run Tryz.prog (wr.alloc (.cells #[.int .i64 t,.int .i64 sz,.int .i64 kd,.int .i64 lo,.int .i64 hi,.int .i64 gd,.bool mu] 136))=.ok () w1:=hr2
    have hbx:w1.heap[wr.heap.size]? =some (.cells #[.int .i64 t,.int .i64 sz,.int .i64 kd,.int .i64 lo,.int .i64 hi,.int .i64 gd,.bool mu] 136 (0,0)):=by
     rw[hgr1.block wr.heap.size (by simp) (by simp;omega)]
     exact heap_alloc_new wr _
    obtain⟨g0,g1,g2,g3,g4,g5,g6,g7⟩:=seven (r:=⟨t,sz,kd,lo,hi,gd,mu⟩) hbx
    have HB1:=hid (show Below w.heap.size w w1 from(HBL.out.alloc hsz _).grown hgr1 (by simp;omega) (fun r e=>by cases e;exact Nat.le_refl _))
    have hsz1:=HB1.out.size
    have hblt:b<wr.heap.size:=by have:=HB.out;omega
    have HCM1:=hid hcm1
    have HWF:=hid hwf
    have hclt1:=hcm1.lt
    have hix0:(0:Int)≤(k:Int):=by omega
    have hix1:(k:Int)<(n:Int):=by omega
    clear hbx hgr1 hcm2 hr2 hcm1 hwf
    cases hob:okB t sz kd lo hi gd
    ·have HOKB:=hid hob
     have HRES:=hid (show areB R=false from are_not HK.out (by rw[HIT.out];show(okB t sz kd lo hi gd&&_)=false;rw[hob];rfl))
     clear hob
     go_wp2_with fail
     refine(may_any t sz kd lo hi gd mu _).mono ?_
     rw[HOKB.out]
     rintro e w1 ⟨rfl,hb⟩;obtain⟨xs,d,rfl⟩:=ext_of hb;clear hb
     go_wp2_with fail
     go_ret
     exact⟨by rw[HRES.out];rfl,by have:=HB1.out;exact bel⟩
    ·have HOKB:=hid hob
     by_cases hq0:q=0
     ·have HNX:=hid (show goodK R (k+1)=true by rw[goodK_succ,HG.out,HIT.out];show(true&&(okB t sz kd lo hi gd&&_))=true;rw[hob,HQ.out];simp[hq0])
      clear hob
      have e4:decide ((1:Int)<(q:Int)+1)=false:=by simp;omega
      have e5: ¬(1:Int)<(q:Int)+1:=by omega
      clear hq0
      go_wp2_with fail
      refine(may_any t sz kd lo hi gd mu _).mono ?_
      rw[HOKB.out]
      rintro e w1 ⟨rfl,hb⟩;obtain⟨xs,d,rfl⟩:=ext_of hb;clear hb
      have e3:(Instr.lookup 180 (.map (some w.heap.size)) (.int .i64 t) false).run Tryz.prog (ext w1 xs d)=.ok (.int .i64 ((q:Int)+1)) (ext w1 xs d):=by
       have:=(HCM1.out.keep (w':=ext w1 xs d) (ext_block w1 xs d _ hclt1)).look HWF.out
       rw[HCS.out,HQ.out] at this
       simpa using this
      go_wp2_with fail
      go_roundw
      case rel=>exact⟨k+1,by omega,by go_num,HNX.out,HCM1.out.keep (ext_block w1 xs d _ hclt1),by have:=HB1.out;exact bel⟩
      case measure=>simp[intOf];omega
     ·have HRES:=hid (show areB R=false from are_not HK.out (by rw[HIT.out,HQ.out];simp[hq0]))
      have e4:decide ((1:Int)<(q:Int)+1)=true:=by simp;omega
      have e5:(1:Int)<(q:Int)+1:=by omega
      clear hob
      go_wp2_with fail
      refine(may_any t sz kd lo hi gd mu _).mono ?_
      rw[HOKB.out]
      rintro e w1 ⟨rfl,hb⟩;obtain⟨xs,d,rfl⟩:=ext_of hb;clear hb
      have e3:(Instr.lookup 180 (.map (some w.heap.size)) (.int .i64 t) false).run Tryz.prog (ext w1 xs d)=.ok (.int .i64 ((q:Int)+1)) (ext w1 xs d):=by
       have:=(HCM1.out.keep (w':=ext w1 xs d) (ext_block w1 xs d _ hclt1)).look HWF.out
       rw[HCS.out,HQ.out] at this
       simpa using this
      go_wp2_with fail
      go_ret
      exact⟨by rw[HRES.out];rfl,by have:=HB1.out;exact bel⟩
   ·obtain rfl:k=n:=by omega
    have HRES:=hid (show areB R=true by unfold areB;rw[←HN.out,HG.out];simp;omega)
    go_wp2_with fail
    go_ret
    exact⟨by rw[HRES.out];rfl,HBL.out⟩
 ·have HRES:=hid (show areB R=false by unfold areB;rw[←HN.out];simp;omega)
  have f16:decide (16<n)=true:=by simp;omega
  go_enter Tryz.func103,Tryz.ntmps103
  go_wp2_with fail
  go_ret
  exact⟨by rw[HRES.out];rfl,Below.refl _ _⟩
end Go.Proofs.YtfkgmbknfnhjoaaGreat.Ne
namespace Go.Proofs.YtfkgmbknfnhjoaaGreat.Ne
open Lib (hid)
open Go.RowKit Go.Maps
set_option linter.unusedSimpArgs false
set_option linter.unusedVariables false
theorem are_ref (A:Option Addr) (n c:Nat) (R:List Rl) (w:World) (B:Nat) (hB:B≤w.heap.size) (hR:RulesAt w B A R) (hn:n=R.length) (hl:n≤1000000):
  Calls Tryz.prog 48 #[.slice A n c] w fun x w'=>x=.returned (.bool (areB R))∧Below w.heap.size w w':=by
 have HR:=hid hR
 have HN:=hid hn
 have HB:=hid hB
 clear hR hn hB
 by_cases h16:n≤16
 ·have f16:decide (16<n)=false:=by simp;omega
  go_enter Tryz.func48,Tryz.ntmps48
  go_wp2_with fail
  go_loopw [3] (fun i wr=> ∃k:Nat,k≤n∧i=.int .i64 k∧goodK R k=true∧Below w.heap.size w wr) (fun i _=>n-(intOf i).toNat)
  case atStart=>exact⟨0,Nat.zero_le _,rfl,rfl,by exact bel⟩
  case round=>
   obtain⟨k,hk,rfl,hg,hbl⟩:=hrel
   have HG:=hid hg
   have HBL:=hid hbl
   have hsz:=hbl.size
   clear hg hbl
   by_cases hlt:k<n
   ·have HK:=hid (show k<R.length by have:=HN.out;omega)
    obtain⟨b,o,rfl,hbB,hat⟩:=(HR.out.keep (HBL.out.mono HB.out)).get HK.out
    have HIT:=hid (item_at HK.out)
    obtain⟨r,hr⟩: ∃r,R[k]'HK.out=r:=⟨_,rfl⟩
    rw[hr] at hat HIT
    clear hr
    obtain⟨t,sz,kd,lo,hi,gd,mu⟩:=r
    obtain⟨c0,c1,c2,c3,c4,c5,c6⟩:=hat
    simp only at c0 c1 c2 c3 c4 c5 c6
    have hblt:b<wr.heap.size:=by have:=HB.out;omega
    have hix0:(0:Int)≤(k:Int):=by omega
    have hix1:(k:Int)<(n:Int):=by omega
    cases hob:okB t sz kd lo hi gd
    ·have HOKB:=hid hob
     have HRES:=hid (show areB R=false from are_not HK.out (by rw[HIT.out];show(okB t sz kd lo hi gd&&_)=false;rw[hob];rfl))
     clear hob
     go_wp2_with fail
     refine(is_ref t sz kd lo hi gd mu _).mono ?_
     rw[HOKB.out]
     rintro e w1 ⟨rfl,hb⟩;obtain⟨xs,d,rfl⟩:=ext_of hb;clear hb
     go_wp2_with fail
     go_ret
     exact⟨by rw[HRES.out];rfl,by have:=HBL.out;exact bel⟩
    ·have HOKB:=hid hob
     clear hob
     go_wp2_with fail
     refine(is_ref t sz kd lo hi gd mu _).mono ?_
     rw[HOKB.out]
     rintro e w1 ⟨rfl,hb⟩;obtain⟨xs,d,rfl⟩:=ext_of hb;clear hb
     go_wp2_with fail
     have HBX:=hid (show Below w.heap.size w (ext wr xs d) by have:=HBL.out;exact bel)
     go_loopw [4] (fun i wi=> ∃j:Nat,j≤k∧i=.int .i64 j∧cntB R j t=0∧Below w.heap.size w wi) (fun i _=>k-(intOf i).toNat)
     case atStart=>exact⟨0,Nat.zero_le _,rfl,rfl,HBX.out⟩
     case round=>
      obtain⟨j,hj,rfl,hcn,hbi⟩:=hrel
      have HCN:=hid hcn
      have HBI:=hid hbi
      have hszi:=hbi.size
      clear hcn hbi
      by_cases hjk:j<k
      ·have HJ:=hid (show j<R.length by have:=HK.out;omega)
       obtain⟨b',o',hq,hbB',hat2⟩:=(HR.out.keep (HBI.out.mono HB.out)).get HJ.out
       cases hq
       have HCS:=hid (cnt_succ HJ.out t)
       obtain⟨r2,hr2⟩: ∃r2,R[j]'HJ.out=r2:=⟨_,rfl⟩
       rw[hr2] at hat2 HCS
       clear hr2
       have d0:=hat2.c0
       obtain⟨t2,_,_,_,_,_,_⟩:=r2
       simp only at d0 HCS
       obtain⟨c0',-⟩:=(HR.out.keep (HBI.out.mono HB.out)).get HK.out
       have hblt2:b<wr.heap.size:=by have:=HB.out;omega
       have c0i:wr.cell? ⟨b,o+k*7,none⟩=some (.int .i64 t):=by
        have h1:=HBI.out.cell (p:=⟨b,o+k*7,none⟩) (by have:=HB.out;simp;omega)
        have h2:=HBL.out.cell (p:=⟨b,o+k*7,none⟩) (by have:=HB.out;simp;omega)
        rw[h1,←h2];exact c0
       have j0:(0:Int)≤(j:Int):=by omega
       have j1:(j:Int)<(n:Int):=by omega
       clear hat2
       cases ht:(t2==t)
       ·have HCX:=hid (show cntB R (j+1) t=0 by rw[HCS.out,HCN.out,if_neg (by simpa using ht)])
        go_upto_region 12 with(fail)
        go_quiet (fail)
        go_wp2_with fail
        go_roundw
        case rel=>exact⟨j+1,by omega,by go_num,HCX.out,by have:=HBI.out;exact bel⟩
        case measure=>simp[intOf];omega
       ·have HRES:=hid (show areB R=false from are_not HK.out (by
         rw[HIT.out]
         have h1:1≤cntB R k t:=by
          have h2:cntB R (j+1) t≤cntB R k t:=by
           unfold cntB
           have:R.take k=R.take (j+1)++(R.take k).drop (j+1):=by
            have h9:=List.take_append_drop (j+1) (R.take k)
            rw[List.take_take,Nat.min_eq_left (by omega)] at h9
            exact h9.symm
           rw[this,List.countP_append];omega
          have h3:cntB R (j+1) t=1:=by rw[HCS.out,HCN.out,if_pos (by simpa using ht)]
          omega
         simp;intro _;omega))
        go_upto_region 12 with(fail)
        go_quiet (fail)
        go_wp2_with fail
        go_ret
        exact⟨by rw[HRES.out];rfl,by have:=HBI.out;exact bel⟩
      ·obtain rfl:j=k:=by omega
       have HNX:=hid (show goodK R (j+1)=true by rw[goodK_succ,HG.out,HIT.out];show(true&&(okB t sz kd lo hi gd&&_))=true;rw[HOKB.out,HCN.out];simp)
       go_wp2_with fail
       go_roundw
       case rel=>exact⟨j+1,by omega,by go_num,HNX.out,HBI.out⟩
       case measure=>simp[intOf];omega
   ·obtain rfl:k=n:=by omega
    have HRES:=hid (show areB R=true by unfold areB;rw[←HN.out,HG.out];simp;omega)
    go_wp2_with fail
    go_ret
    exact⟨by rw[HRES.out];rfl,HBL.out⟩
 ·have HRES:=hid (show areB R=false by unfold areB;rw[←HN.out];simp;omega)
  have f16:decide (16<n)=true:=by simp;omega
  go_enter Tryz.func48,Tryz.ntmps48
  go_wp2_with fail
  go_ret
  exact⟨by rw[HRES.out];rfl,Below.refl _ _⟩
end Go.Proofs.YtfkgmbknfnhjoaaGreat.Ne
