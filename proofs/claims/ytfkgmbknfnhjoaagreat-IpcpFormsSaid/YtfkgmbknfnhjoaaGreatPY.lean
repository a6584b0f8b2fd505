/- Bundle PY. -/
import Derived.Test.YtfkgmbknfnhjoaaGreatPE
set_option maxHeartbeats 4000000
namespace Go.Proofs.YtfkgmbknfnhjoaaGreat
open Lib (hid)
open Go.RowKit
set_option linter.unusedSimpArgs false
set_option linter.unusedVariables false
set_option linter.ambiguousOpen false
open Ne (Rl RulesAt areB)
theorem same16_any (s1 i1 r1 c1 t1 k1 s2 i2 r2 c2 t2 k2:Int) (A1 A2:Option Addr) (n1 n2 m1 m2:Nat) (E1 E2:List Ent) (L1 L2:List (Int×List UInt8)) (hL1:E1.map Ent.o=L1) (hL2:E2.map Ent.o=L2) (w:World) (B:Nat) (hB:B≤w.heap.size) (hE1:OptsAt w B A1 E1) (hE2:OptsAt w B A2 E2) (hn1:n1=E1.length) (hn2:n2=E2.length) (hl:n1≤1000000):
  Calls Tryz.prog 80 #[.agg #[.int .i64 s1,.int .i64 i1,.int .i64 r1,.slice A1 n1 m1,.int .i64 c1,.int .i64 t1,.int .i64 k1],.agg #[.int .i64 s2,.int .i64 i2,.int .i64 r2,.slice A2 n2 m2,.int .i64 c2,.int .i64 t2,.int .i64 k2]] w fun x w'=>x=.returned (.bool (sameA ⟨s1,i1,r1,L1,c1,t1,k1⟩ ⟨s2,i2,r2,L2,c2,t2,k2⟩))∧Below w.heap.size w w':=by
 have HB:=hid hB
 have HE1:=hid hE1
 have HE2:=hid hE2
 have HN1:=hid hn1
 have HN2:=hid hn2
 have HL1:=hid hL1
 have HL2:=hid hL2
 clear hB hE1 hE2 hn1 hn2 hL1 hL2
 cases h0:(s1==s2)
 ·have HV:=hid (show sameA ⟨s1,i1,r1,L1,c1,t1,k1⟩ ⟨s2,i2,r2,L2,c2,t2,k2⟩=false by simp[sameA,h0])
  go_enter Tryz.func80,Tryz.ntmps80
  go_wp2_with fail
  go_ret
  exact⟨by rw[HV.out];rfl,by exact bel⟩
 ·cases h1:(i1==i2)
  ·have HV:=hid (show sameA ⟨s1,i1,r1,L1,c1,t1,k1⟩ ⟨s2,i2,r2,L2,c2,t2,k2⟩=false by simp[sameA,h0,h1])
   go_enter Tryz.func80,Tryz.ntmps80
   go_wp2_with fail
   go_ret
   exact⟨by rw[HV.out];rfl,by exact bel⟩
  ·cases h2:(r1==r2)
   ·have HV:=hid (show sameA ⟨s1,i1,r1,L1,c1,t1,k1⟩ ⟨s2,i2,r2,L2,c2,t2,k2⟩=false by simp[sameA,h0,h1,h2])
    go_enter Tryz.func80,Tryz.ntmps80
    go_wp2_with fail
    go_ret
    exact⟨by rw[HV.out];rfl,by exact bel⟩
   ·cases h3:(c1==c2)
    ·have HV:=hid (show sameA ⟨s1,i1,r1,L1,c1,t1,k1⟩ ⟨s2,i2,r2,L2,c2,t2,k2⟩=false by simp[sameA,h0,h1,h2,h3])
     go_enter Tryz.func80,Tryz.ntmps80
     go_wp2_with fail
     go_ret
     exact⟨by rw[HV.out];rfl,by exact bel⟩
    ·cases h4:(t1==t2)
     ·have HV:=hid (show sameA ⟨s1,i1,r1,L1,c1,t1,k1⟩ ⟨s2,i2,r2,L2,c2,t2,k2⟩=false by simp[sameA,h0,h1,h2,h3,h4])
      go_enter Tryz.func80,Tryz.ntmps80
      go_wp2_with fail
      go_ret
      exact⟨by rw[HV.out];rfl,by exact bel⟩
     ·cases h5:(k1==k2)
      ·have HV:=hid (show sameA ⟨s1,i1,r1,L1,c1,t1,k1⟩ ⟨s2,i2,r2,L2,c2,t2,k2⟩=false by simp[sameA,h0,h1,h2,h3,h4,h5])
       go_enter Tryz.func80,Tryz.ntmps80
       go_wp2_with fail
       go_ret
       exact⟨by rw[HV.out];rfl,by exact bel⟩
      ·have HV:=hid (show sameA ⟨s1,i1,r1,L1,c1,t1,k1⟩ ⟨s2,i2,r2,L2,c2,t2,k2⟩=Op.sameB L1 L2 by simp[sameA,h0,h1,h2,h3,h4,h5])
       go_enter Tryz.func80,Tryz.ntmps80
       go_wp2_with (go_at_call 105;refine(Op.same_any A1 A2 n1 n2 m1 m2 E1 E2 _ B (by have:=HB.out;simp;omega) (by exact HE1.out.keep (by have:=HB.out;exact bel)) (by exact HE2.out.keep (by have:=HB.out;exact bel)) HN1.out HN2.out hl).mono ?_;rw[HL1.out,HL2.out];rintro e w1 ⟨rfl,hb⟩;obtain⟨xs,d,rfl⟩:=ext_of hb;clear hb)
       go_ret
       exact⟨by rw[HV.out];rfl,by exact bel⟩
theorem rnew_any (A:Option Addr) (n c:Nat) (E:List Ent) (L:List (Int×List UInt8)) (hL:E.map Ent.o=L) (w:World) (B:Nat) (hB:B≤w.heap.size) (hE:OptsAt w B A E) (hn:n=E.length) (hc:n≤c):
  Calls Tryz.prog 79 #[.slice A n c] w fun x w'=> ∃va,x=.returned (.tuple #[auV (auNew L) va,.int .i64 (errNew L)])∧Below w.heap.size w w'∧OptsV w' w'.heap.size va (auNew L).ask:=by
 have HB:=hid hB
 have HE:=hid hE
 have HN:=hid hn
 have HL:=hid hL
 have HC:=hid hc
 clear hB hE hn hL hc
 obtain⟨⟨eb,ee⟩,henc⟩: ∃y,Op.encR L=y:=⟨_,rfl⟩
 have HENC:=hid henc
 clear henc
 by_cases hee:ee=0
 ·subst hee
  have HV1:=hid (show auNew L=⟨0,0,0,L,0,0,0⟩ by simp[auNew,HENC.out])
  have HV2:=hid (show errNew L=0 by simp[errNew,HENC.out])
  go_enter Tryz.func79,Tryz.ntmps79
  go_wp2_with (go_at_call 18;refine(Op.renc_any A n c E _ B (by have:=HB.out;simp;omega) (by exact HE.out.keep (by have:=HB.out;exact bel)) HN.out).mono ?_;rw[HL.out];unfold Op.EncP;rw[HENC.out];rintro e w2 ⟨v,rfl,hb,-⟩;obtain⟨xs2,d2,rfl⟩:=ext_of hb;clear hb)
  refine bodyPost_ret (v:=.tuple #[.agg #[.int .i64 0,.int .i64 0,.int .i64 0,.slice A n c,.int .i64 0,.int .i64 0,.int .i64 0],.int .i64 0]) (by simp[results,Tryz.results79,go_sem]) rfl ?_
  rw[HV1.out,HV2.out]
  refine⟨.slice A n c,rfl,by exact bel,A,n,c,E,rfl,(HE.out.keep (by have:=HB.out;exact bel)).more (by have:=HB.out;simp[size_ext,grow];omega),HN.out,HC.out,HL.out⟩
 ·have hee2:(ee !=0)=true:=by simpa using hee
  have HV1:=hid (show auNew L=⟨0,0,0,[],0,0,0⟩ by simp[auNew,HENC.out,hee])
  have HV2:=hid (show errNew L=160 by simp[errNew,HENC.out,hee])
  go_enter Tryz.func79,Tryz.ntmps79
  go_wp2_with (go_at_call 18;refine(Op.renc_any A n c E _ B (by have:=HB.out;simp;omega) (by exact HE.out.keep (by have:=HB.out;exact bel)) HN.out).mono ?_;rw[HL.out];unfold Op.EncP;rw[HENC.out];rintro e w2 ⟨v,rfl,hb,-⟩;obtain⟨xs2,d2,rfl⟩:=ext_of hb;clear hb)
  refine bodyPost_ret (v:=.tuple #[.agg #[.int .i64 0,.int .i64 0,.int .i64 0,.slice none 0 0,.int .i64 0,.int .i64 0,.int .i64 0],.int .i64 160]) (by simp[results,Tryz.results79,go_sem]) rfl ?_
  rw[HV1.out,HV2.out]
  exact⟨.slice none 0 0,rfl,by exact bel,none,0,0,[],rfl,⟨At.nil _ _ _,fun _ h=>by cases h⟩,rfl,Nat.le_refl _,rfl⟩
end Go.Proofs.YtfkgmbknfnhjoaaGreat
