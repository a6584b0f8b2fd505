/- What is answered to a request: plain laws of a control that has asked. -/
import Derived.Test.YtfkgmbknfnhjoaaGreatZ20
import Derived.Test.YtfkgmbknfnhjoaaGreatFY
namespace Go.Proofs.YtfkgmbknfnhjoaaGreat
open Go.RowKit
set_option linter.unusedSimpArgs false
set_option linter.unusedVariables false
set_option linter.ambiguousOpen false
open Ne (Rl Opt RulesAt areB wf64 answerO sortK stepS kindO fitI fitB plI nakR lackL lackB goodO)
open Fs (av hasB)
theorem sort_sub (R:List Rl) (L:List Opt): ∀k,(sortK R L k).1.Sublist (L.take k)
 |0=>by simp[sortK]
 |k+1=>by
  have ih:=sort_sub R L k
  rw[Ne.sortK_succ]
  unfold stepS
  have hs:(L.take k).Sublist (L.take (k+1)):=List.take_sublist_take_left (by omega)
  split
  ·exact ih.trans hs
  ·rename_i o ho
   have hk:k<L.length:=by
    rcases Nat.lt_or_ge k L.length with h|h
    ·exact h
    ·rw[List.getElem?_eq_none h] at ho;cases ho
   split
   ·rw[List.getElem?_eq_getElem hk] at ho
    cases ho
    rw[List.take_succ_eq_append_getElem hk]
    exact ih.append (List.Sublist.refl _)
   ·split
    ·exact ih.trans hs
    ·exact ih.trans hs
theorem encs_sub {A B:List Opt} (h:A.Sublist B):(Op.encs A).length≤(Op.encs B).length:=by
 induction h with
 |slnil=>exact Nat.le_refl _
 |cons a h ih=>
  unfold Op.encs at ih ⊢
  rw[List.flatMap_cons,List.length_append]
  omega
 |cons_cons a h ih=>
  unfold Op.encs at ih ⊢
  rw[List.flatMap_cons,List.flatMap_cons,List.length_append,List.length_append]
  omega
theorem encR_sub {A B:List Opt} (h:A.Sublist B) (hB:(Op.encR B).2=0):(Op.encR A).2=0:=by
 unfold Op.encR at hB ⊢
 have hl:=h.length_le
 have he:=encs_sub h
 split at hB
 ·cases hB
 ·split at hB
  ·rename_i h1 h2
   split at hB
   ·cases hB
   ·have h3:A.all Op.okO=true:=List.all_eq_true.2 fun x hx=>List.all_eq_true.1 h2 x (h.subset hx)
    rw[if_neg (by omega),if_pos h3,if_neg (by omega)]
  ·cases hB
theorem encR_eq {L:List Opt} (h:(Op.encR L).2=0):Op.decR (Op.encR L).1=(L,0):=Op.back_enc (by rw[←h])
theorem encR_inj {A B:List Opt} (h:(Op.encR A).2=0) (h':(Op.encR B).2=0) (he:(Op.encR A).1=(Op.encR B).1):A=B:=by
 have h1:=encR_eq h
 rw[he,encR_eq h'] at h1
 exact(congrArg Prod.fst h1).symm
theorem ans_enc {p:Int} (hp:inB p 1 4294967295=true) {L:List Opt} (h:(Op.encR L).2=0):(Op.encR (answerO [ruleI p] L 0 4).2).2=0:=by
 have hk:(Op.encR (askI p)).2=0:=by rw[encI]
 rcases ans_cases hp L with⟨h1,-⟩|⟨h1,-⟩|⟨h1,-⟩
 ·rw[h1];exact h
 ·rw[h1];exact hk
 ·rw[h1]
  exact encR_sub (by have:=sort_sub [ruleI p] L L.length;rwa [List.take_length] at this) h
theorem told_now {own peer id:Int} {L:List Opt} (h1:inB own 1 4294967295=true) (h2:inB peer 1 4294967295=true) (hj:0≤id∧id≤255) (he:(Op.encR L).2=0):
  (iPackO 3 2 4 5 ⟨6,1,1,askI own,2,5,0⟩ own peer ⟨1,id,(Op.encR L).1⟩ 1).2.1=[⟨(answerO [ruleI peer] L 0 4).1,id,(Op.encR (answerO [ruleI peer] L 0 4).2).1⟩]:=by
 have ha:isB ⟨6,1,1,askI own,2,5,0⟩=true:=isI0 rfl rfl
 have hc:Cp.encErr 1 id (Op.encR L).1.length=0:=by
  have:=encR_len L
  unfold Cp.encErr
  rw[if_neg (by simp[inB];omega),if_neg (by omega)]
 have hf:fineB (cfI 3 2 4 5 peer) ⟨6,1,1,askI own,2,5,0⟩ 1=true:=fineB0 h2 ha rfl
 have hx:=ans_enc h2 he
 unfold iPackO
 rw[if_pos ⟨fineI0 h1 h2 ha rfl,hc⟩,if_neg (show¬(1:Int)=3 by decide),if_pos (show inB 1 1 7=true from rfl)]
 unfold packO
 dsimp only
 rw[if_neg (by decide),if_neg (by rw[hf];simp[hc])]
 unfold whichO askedO
 dsimp only
 rw[if_pos rfl,encR_eq he]
 dsimp only
 rw[if_neg (by simp),show(cfI 3 2 4 5 peer).rules=[ruleI peer] from rfl,show(cfI 3 2 4 5 peer).mf=4 from rfl,if_neg (by rw[hx];simp)]
 dsimp only
 by_cases h7:(answerO [ruleI peer] L 0 4).1=2
 ·rw[if_pos h7,if_neg (by decide)]
  unfold doO
  rw[if_pos ⟨hf,by rfl⟩]
  rfl
 ·rw[if_neg h7,if_neg (by decide)]
  unfold doO
  rw[if_pos ⟨hf,by rfl⟩]
  rfl
theorem askI_inj {a b:Nat} (ha:a≤4294967295) (hb:b≤4294967295):putB a 4=putB b 4↔a=b:=by
 constructor
 ·intro h
  have h1:=congrArg be h
  rw[be_putI,be_putI] at h1
  omega
 ·rintro rfl;rfl
theorem told_one {own peer id:Int} {q:Nat} (hq:q≤4294967295) (h1:inB own 1 4294967295=true) (h2:inB peer 1 4294967295=true) (hj:0≤id∧id≤255):
  (iPackO 3 2 4 5 ⟨6,1,1,askI own,2,5,0⟩ own peer ⟨1,id,[3,6]++putB q 4⟩ 1).2.1=[⟨if (q:Int)=peer then 2 else 3,id,[3,6]++putB peer.toNat 4⟩]:=by
 have hi:=inB_of h2
 have he:Op.encR (askI (q:Int))=([3,6]++putB q 4,0):=by rw[encI,Int.toNat_natCast]
 have h:=told_now h1 h2 hj (L:=askI (q:Int)) (by rw[he])
 rw[he] at h
 dsimp only at h
 rw[h]
 have hb:(be (putB q 4):Int)=(q:Int):=by rw[be_putI];omega
 unfold askI at*
 rw[Int.toNat_natCast,ans_one h2 (putB_length _ _),hb]
 by_cases hqp:(q:Int)=peer
 ·rw[if_pos hqp,if_pos hqp]
  dsimp only
  have he2:Op.encR [((3:Int),putB q 4)]=([3,6]++putB q 4,0):=by
   have:=he
   rw[Int.toNat_natCast] at this
   exact this
  rw[he2]
  have:peer.toNat=q:=by omega
  rw[this]
 ·rw[if_neg hqp,if_neg hqp]
  dsimp only
  have he2:=encI peer
  rw[he2]
theorem toldq_any {own peer id:Int} {L:List Opt} (h1:inB own 1 4294967295=true) (h2:inB peer 1 4294967295=true) (hj:0≤id∧id≤255) (he:(Op.encR L).2=0):
  ∃(c:Int) (d:List UInt8),(iPackO 3 2 4 5 ⟨6,1,1,askI own,2,5,0⟩ own peer ⟨1,id,(Op.encR L).1⟩ 1).2.1=[⟨c,id,d⟩]∧(c=2↔(Op.encR L).1=[3,6]++putB peer.toNat 4)∧((Op.encR L).1=[]→c=3∧d=[3,6]++putB peer.toNat 4):=by
 have hk:=encI peer
 have hk2:(Op.encR (askI peer)).2=0:=by rw[hk]
 refine⟨_,_,told_now h1 h2 hj he,?_⟩
 rcases ans_cases h2 L with⟨h3,h4⟩|⟨h3,h4⟩|⟨h3,h4,h5⟩
 ·rw[h3,h4,hk]
  exact⟨⟨fun _=>rfl,fun _=>rfl⟩,fun h=>absurd h (by simp)⟩
 ·rw[h3,hk]
  refine⟨⟨fun h=>absurd h (show¬(3:Int)=2 by decide),fun h=>absurd (encR_inj he hk2 (by rw[h,hk])) h4⟩,fun _=>⟨rfl,rfl⟩⟩
 ·rw[h3]
  refine⟨⟨fun h=>absurd h (show¬(4:Int)=2 by decide),fun h=>absurd (encR_inj he hk2 (by rw[h,hk])) h4⟩,fun h=>absurd ?_ h5⟩
  have h6:=encR_eq he
  rw[h] at h6
  have h7:(Op.decR [])=([],0):=by rfl
  rw[h7] at h6
  exact(congrArg Prod.fst h6).symm
end Go.Proofs.YtfkgmbknfnhjoaaGreat
