/- What is answered where one address is taken alone: plain laws. -/
import Derived.Test.YtfkgmbknfnhjoaaGreatZ8
namespace Go.Proofs.YtfkgmbknfnhjoaaGreat
open Go.RowKit
set_option linter.unusedSimpArgs false
set_option linter.unusedVariables false
set_option linter.ambiguousOpen false
open Ne (Rl Opt RulesAt areB wf64 answerO sortK stepS kindO fitI fitB plI nakR lackL lackB goodO)
open Fs (av hasB)
theorem be_putI (k:Nat): ∀n:Nat,be (putB n k)=n%256^k:=by
 induction k with
 |zero=>intro n;show 0=n%1;omega
 |succ k ih=>
  intro n
  rw[show putB n (k+1)=putB (n / 256) k++[UInt8.ofNat n] from rfl,be_snoc,ih]
  have h1:(UInt8.ofNat n).toNat=n%256:=UInt8.toNat_ofNat'
  rw[h1,Nat.pow_succ,Nat.mul_comm (256^k) 256,Nat.mod_mul]
  omega
theorem putB_beI: ∀(k:Nat) (l:List UInt8),l.length=k→putB (be l) k=l
 |0,l,h=>by rw[List.length_eq_zero_iff.1 h];rfl
 |k+1,l,h=>by
  obtain⟨m,x,rfl⟩: ∃m x,l=m++[x]:=⟨l.dropLast,l.getLast (by intro e;rw[e] at h;simp at h),(List.dropLast_concat_getLast _).symm⟩
  have hm:m.length=k:=by simpa using h
  have hx:x.toNat<256:=x.toNat_lt
  rw[be_snoc,show putB (be m*256+x.toNat) (k+1)=putB ((be m*256+x.toNat) / 256) k++[UInt8.ofNat (be m*256+x.toNat)] from rfl]
  rw[show(be m*256+x.toNat) / 256=be m by omega,putB_beI k m hm]
  congr 2
  apply UInt8.toNat_inj.1
  rw[UInt8.toNat_ofNat']
  show(be m*256+x.toNat)%256=x.toNat
  omega
section
variable {p:Int}
theorem fit_r {o:Opt}:fitB o (ruleI p)=true↔o.1=3∧o.2.length=4:=by
 unfold fitB ruleI
 simp only[Bool.and_eq_true,beq_iff_eq]
 constructor
 ·rintro⟨h1,h2⟩;exact⟨h1.symm,by omega⟩
 ·rintro⟨h1,h2⟩;exact⟨h1.symm,by rw[h2];rfl⟩
theorem takes_r {n:Int}:(ruleI p).takes n=(n==p):=by
 unfold Ne.Rl.takes ruleI Ne.takesB
 simp
theorem kind_r {L:List Opt} {i:Nat} {o:Opt} {r:Rl} (h:kindO [ruleI p] L i o=some r):r=ruleI p∧(o.1=3∧o.2.length=4)∧plI (L.take i) 3=none:=by
 obtain⟨hr,hf⟩:=Ne.kindO_mem h
 obtain rfl:r=ruleI p:=by simpa using hr
 have h3:=fit_r.1 hf
 refine⟨rfl,h3,?_⟩
 unfold kindO at h
 split at h
 ·cases h
 ·split at h
  ·cases h
  ·rename_i hh
   rw[h3.1] at hh
   cases hp:plI (L.take i) 3 with
   |none=>rfl
   |some k=>rw[hp] at hh;simp at hh
theorem sort_all (L:List Opt): ∀k,k≤L.length→(sortK [ruleI p] L k).1=[]→ ∀i,i<k→ ∃o,L[i]? =some o∧kindO [ruleI p] L i o=some (ruleI p)
 |0,_,_=>fun i hi=>by omega
 |k+1,hk,h=>by
  rw[Ne.sortK_succ] at h
  have hkl:k<L.length:=by omega
  unfold stepS at h
  rw[List.getElem?_eq_getElem hkl] at h
  dsimp only at h
  cases hd:kindO [ruleI p] L k L[k] with
  |none=>rw[hd] at h;simp at h
  |some r=>
   rw[hd] at h
   have h0:(sortK [ruleI p] L k).1=[]:=by
    dsimp only at h
    split at h
    ·exact h
    ·exact h
   intro i hi
   by_cases hik:i=k
   ·subst hik
    exact⟨_,List.getElem?_eq_getElem hkl,by rw[hd,(kind_r hd).1]⟩
   ·exact sort_all L k (by omega) h0 i (by omega)
theorem one_only {L:List Opt} (h:(sortK [ruleI p] L L.length).1=[]):L=[]∨ ∃d,d.length=4∧L=[(3,d)]:=by
 have ha:=sort_all L L.length (Nat.le_refl _) h
 match L,ha with
 |[],_=>exact .inl rfl
 |[o],ha=>
  obtain⟨o',h1,h2⟩:=ha 0 (by simp)
  simp only[List.getElem?_cons_zero,Option.some.injEq] at h1
  subst h1
  obtain⟨-,⟨h3,h4⟩,-⟩:=kind_r h2
  exact .inr ⟨o.2,h4,by rw[←h3]⟩
 |o1::o2::M,ha=>
  obtain⟨x,h1,h2⟩:=ha 0 (by simp)
  obtain⟨y,h3,h4⟩:=ha 1 (by simp)
  simp only[List.getElem?_cons_zero,Option.some.injEq] at h1
  subst h1
  have h5:=(kind_r h2).2.1.1
  have h6:=(kind_r h4).2.2
  simp[plI,h5] at h6
theorem sort_one {d:List UInt8} (hd:d.length=4):sortK [ruleI p] [(3,d)] 1=if (be d:Int)=p then([],[],[]) else([],[(3,d)],[ruleI p]):=by
 have hk:kindO [ruleI p] [(3,d)] 0 (3,d)=some (ruleI p):=by
  unfold kindO
  rw[Ne.fitI_some (k:=0) (by simp) (fit_r.2 ⟨rfl,hd⟩) (fun j hj=>by omega)]
  rfl
 rw[Ne.sortK_succ]
 unfold stepS sortK
 simp only[List.range_zero,List.foldl_nil,List.getElem?_cons_zero]
 rw[hk]
 dsimp only
 rw[takes_r]
 by_cases h:(be d:Int)=p
 ·rw[if_pos h,if_pos (by simpa using h)]
 ·rw[if_neg h,if_neg (by simpa using h)]
  rfl
theorem ans_one (hp:inB p 1 4294967295=true) {d:List UInt8} (hd:d.length=4):answerO [ruleI p] [(3,d)] 0 4=if (be d:Int)=p then(2,[(3,d)]) else(3,askI p):=by
 have hl:lackL [ruleI p] [(3,d)]=[]:=by unfold lackL lackB plI ruleI;simp
 unfold answerO nakR
 rw[if_neg (by rw[areI hp];simp)]
 simp only[List.length_cons,List.length_nil,Nat.zero_add]
 rw[sort_one hd,hl]
 by_cases h:(be d:Int)=p
 ·rw[if_pos h,if_pos h]
  simp
 ·rw[if_neg h,if_neg h]
  simp[goodO,ruleI,askI]
theorem ans_nil (hp:inB p 1 4294967295=true):answerO [ruleI p] [] 0 4=(3,askI p):=by
 have hl:lackL [ruleI p] []=[ruleI p]:=by unfold lackL lackB plI ruleI;simp
 unfold answerO nakR
 rw[if_neg (by rw[areI hp];simp)]
 simp only[List.length_nil]
 rw[show sortK [ruleI p] [] 0=([],[],[]) from rfl,hl]
 simp[goodO,ruleI,askI]
theorem be_of {d:List UInt8} (hp:inB p 1 4294967295=true) (hd:d.length=4):(be d:Int)=p↔d=putB p.toNat 4:=by
 have h:=inB_of hp
 constructor
 ·intro e
  rw[←e,Int.toNat_natCast,putB_beI 4 d hd]
 ·intro e
  rw[e,be_putI]
  omega
theorem ans_cases (hp:inB p 1 4294967295=true) (L:List Opt):(answerO [ruleI p] L 0 4=(2,L)∧L=askI p)∨(answerO [ruleI p] L 0 4=(3,askI p)∧L≠askI p)∨(answerO [ruleI p] L 0 4=(4,(sortK [ruleI p] L L.length).1)∧L≠askI p∧L≠[]):=by
 by_cases h:(sortK [ruleI p] L L.length).1=[]
 ·rcases one_only h with rfl|⟨d,hd,rfl⟩
  ·exact .inr (.inl ⟨ans_nil hp,by unfold askI;simp⟩)
  ·rw[ans_one hp hd]
   by_cases hb:(be d:Int)=p
   ·rw[if_pos hb]
    exact .inl ⟨rfl,by unfold askI;rw[←(be_of hp hd).1 hb]⟩
   ·rw[if_neg hb]
    refine .inr (.inl ⟨rfl,fun e=>hb ((be_of hp hd).2 ?_)⟩)
    unfold askI at e
    simpa using e
 ·refine .inr (.inr ⟨?_,?_,?_⟩)
  ·unfold answerO
   rw[if_neg (by rw[areI hp];simp),if_pos (List.length_pos_iff.2 h)]
  ·intro e
   apply h
   rw[e]
   unfold askI
   simp only[List.length_cons,List.length_nil,Nat.zero_add]
   rw[sort_one (putB_length _ _)]
   split<;>rfl
  ·intro e
   apply h
   rw[e]
   rfl
end
end Go.Proofs.YtfkgmbknfnhjoaaGreat
