/- Bundle PV. -/
import Derived.Test.YtfkgmbknfnhjoaaGreatRPU
import Derived.Test.YtfkgmbknfnhjoaaGreatRPK
namespace Go.Proofs.YtfkgmbknfnhjoaaGreat
open Go.RowKit
set_option linter.unusedSimpArgs false
set_option linter.unusedVariables false
set_option linter.ambiguousOpen false
open Ne (Rl Opt RulesAt areB)
open Fs (av hasB)
theorem rulesAt_take {W:World} {B:Nat} {A:Option Addr} {R:List Rl} (h:RulesAt W B A R) (k:Nat):RulesAt W B A (R.take k):=by
 refine⟨?_,fun r hr=>h.2 r (List.mem_of_mem_take hr)⟩
 rcases h.1 with h|⟨b,o,hA,hB,h⟩
 ·exact .inl (by simp[h])
 ·refine .inr ⟨b,o,hA,hB,fun j hj=>?_⟩
  have hj2:j<R.length:=by rw[List.length_take] at hj;omega
  have h1:=h j hj2
  have:(R.take k)[j]'hj=R[j]:=by simp
  rw[this];exact h1
theorem timO_ask (c:Cf) (a:Au) (tick:Int):(timO c a tick).1.ask=a.ask:=by
 unfold timO
 split
 ·rfl
 ·exact doO_ask ..
theorem sameAll_v (v1 v2:Value) (l:List Pk) (w:World) (B:Nat) (hB:B≤w.heap.size) (h1:PksV w B v1 l) (h2:PksV w B v2 l) (hl:l.length≤1000000):
  Calls Tryz.prog 22 #[v1,v2] w fun x w'=>x=.returned (.bool true)∧Below w.heap.size w w':=by
 obtain⟨A1,n1,c1,P1,rfl,p1,hn1,hc1,e1⟩:=h1
 obtain⟨A2,n2,c2,P2,rfl,p2,hn2,hc2,e2⟩:=h2
 have:n1=l.length:=by rw[hn1,←e1,List.length_map]
 exact sameAll_true A1 A2 n1 n2 c1 c2 P1 P2 w B hB p1 p2 hn1 hn2 (e1.trans e2.symm) (by omega)
theorem sameActs_v (v1 v2:Value) (l:List Int) (w:World) (B:Nat) (hB:B≤w.heap.size) (h1:ActsV w B v1 l) (h2:ActsV w B v2 l) (hl:l.length≤1000000):
  Calls Tryz.prog 23 #[v1,v2] w fun x w'=>x=.returned (.bool true)∧Below w.heap.size w w':=by
 obtain⟨A1,n1,c1,rfl,p1,hn1,hc1⟩:=h1
 obtain⟨A2,n2,c2,rfl,p2,hn2,hc2⟩:=h2
 exact Fs.same_any A1 A2 n1 n2 c1 c2 l w B hB p1 p2 hn1 hn2 (by omega)
theorem sameAu_v (a:Au) (v1 v2:Value) (w:World) (B:Nat) (hB:B≤w.heap.size) (h1:OptsV w B v1 a.ask) (h2:OptsV w B v2 a.ask) (hl:a.ask.length≤1000000):
  Calls Tryz.prog 21 #[auV a v1,auV a v2] w fun x w'=>x=.returned (.bool true)∧Below w.heap.size w w':=by
 obtain⟨A1,n1,c1,E1,rfl,p1,hn1,hc1,e1⟩:=h1
 obtain⟨A2,n2,c2,E2,rfl,p2,hn2,hc2,e2⟩:=h2
 have:n1=a.ask.length:=by rw[hn1,←e1,List.length_map]
 have h:=same_ref a.st a.id a.req a.cnt a.tim a.nak a.st a.id a.req a.cnt a.tim a.nak A1 A2 n1 n2 c1 c2 E1 E2 a.ask a.ask e1 e2 w B hB p1 p2 hn1 hn2 (by omega)
 rw[sameA_self] at h
 exact h
theorem runO_len2 (c:Cf) (inn ans:Pk) (tick:Int) (acts:List Int) (l:List Int) (s:Au×List Pk) (h1:s.2.length≤10) (h2:l.length≤3):(runO c inn ans tick acts s l).2.length≤13:=by
 have:=runO_len c inn ans tick acts l s
 omega
theorem doO_lens (c:Cf) (a:Au) (e:Int) (inn ans:Pk) (tick:Int):(doO c a e inn ans tick).2.1.length≤13∧(doO c a e inn ans tick).2.2.length≤3:=by
 unfold doO
 split
 ·exact⟨runO_len2 _ _ _ _ _ _ _ (by simp) (Fs.tabActs_le _ _),Fs.tabActs_le _ _⟩
 ·simp
end Go.Proofs.YtfkgmbknfnhjoaaGreat
namespace Go.Proofs.YtfkgmbknfnhjoaaGreat
open Go.RowKit
set_option linter.unusedSimpArgs false
set_option linter.unusedVariables false
set_option linter.ambiguousOpen false
open Ne (Rl Opt RulesAt areB)
open Fs (av hasB)
theorem packO_lens (c:Cf) (a:Au) (inn:Pk) (tick:Int) (h:a.ask.length≤1000):(packO c a inn tick).1.1.ask.length≤1000∧(packO c a inn tick).1.2.1.length≤13∧(packO c a inn tick).1.2.2.length≤3:=by
 unfold packO
 split
 ·exact⟨h,by simp,by simp⟩
 ·split
  ·exact⟨h,by simp,by simp⟩
  ·split
   ·exact⟨h,by simp,by simp⟩
   ·rename_i e ans next hw
    split
    ·exact⟨h,by simp,by simp⟩
    ·refine⟨?_,doO_lens _ _ _ _ _ _⟩
     rw[doO_ask]
     dsimp only
     obtain⟨-,-,h1,h2⟩:=whichO_facts hw
     by_cases he:e=10
     ·have:=(h2 he).1;omega
     ·rw[h1 he];exact h
theorem which_enc {c:Cf} {a:Au} {inn:Pk} {e:Int} {ans:Pk} {next:List Opt} (ha:(Op.encR a.ask).2=0) (h:whichO c a inn=some (e,ans,next)):(Op.encR next).2=0:=by
 unfold whichO at h
 split at h
 ·unfold askedO at h
  split at h
  ·cases h
  ·split at h
   ·cases h
   ·cases h;exact ha
 ·split at h
  ·split at h
   ·cases h;exact ha
   ·cases h
  ·split at h
   ·unfold learnedO at h
    split at h
    ·cases h
    ·split at h
     ·rename_i h5
      cases h
      exact h5.2
     ·cases h
   ·split at h
    ·cases h;exact ha
    ·split at h
     ·cases h;exact ha
     ·split at h
      ·cases h
      ·split at h
       ·cases h;exact ha
       ·cases h;exact ha
theorem packO_is {c:Cf} {a:Au} {inn:Pk} {tick:Int} (ha:isB a=true):isB (packO c a inn tick).1.1=true:=by
 unfold packO
 split
 ·exact ha
 ·split
  ·exact ha
  ·split
   ·exact ha
   ·rename_i e ans next hw
    split
    ·exact ha
    ·exact doO_is (isB_ask ha (which_enc (isB_parts ha).2.2.2.2.2.1 hw)) _ _ _
end Go.Proofs.YtfkgmbknfnhjoaaGreat
