/- The law's settings; a control that has asked, in plain words. -/
import Derived.Test.YtfkgmbknfnhjoaaGreatZ7
import Derived.Test.YtfkgmbknfnhjoaaGreatZ5
import Derived.Test.YtfkgmbknfnhjoaaGreatPX
namespace Go.Proofs.YtfkgmbknfnhjoaaGreat
open Go.RowKit
set_option linter.unusedSimpArgs false
set_option linter.unusedVariables false
set_option linter.ambiguousOpen false
open Ne (Rl Opt RulesAt areB wf64)
open Fs (av hasB)
theorem areI {peer:Int} (h:inB peer 1 4294967295=true):areB [ruleI peer]=true:=by
 have hp:=inB_of h
 unfold areB Ne.goodK
 simp only[List.length_cons,List.length_nil,Nat.zero_add]
 rw[show List.range 1=[0] from rfl]
 have hl:Ne.lim 4=4294967296:=by rfl
 simp[Ne.itemB,Ne.cntB,Rl.ok,Ne.okB,Ne.preB,Ne.kindB,Ne.inL,hl,Ne.takesB,ruleI]
 omega
theorem confI {mc mt mf wt peer:Int} (h:inB peer 1 4294967295=true) (h1:inB mc 1 1000=true) (h2:inB mt 1 1000=true) (h3:inB mf 0 1000=true) (h4:inB wt 1 1048576=true):confB (cfI mc mt mf wt peer)=true:=by
 unfold confB cfI
 simp only[areI h,h1,h2,h3,h4,Bool.and_self]
theorem confI0 {peer:Int} (h:inB peer 1 4294967295=true):confB (cfI 3 2 4 5 peer)=true:=confI h rfl rfl rfl rfl
theorem isI0 {own:Int} {s i r c t k:Int} (h:numsB ⟨s,i,r,askI own,c,t,k⟩=true) (ht:timB ⟨s,i,r,askI own,c,t,k⟩=true):isB ⟨s,i,r,askI own,c,t,k⟩=true:=by
 unfold isB
 rw[h,ht]
 dsimp only
 rw[encI]
 rfl
theorem okI0 {own peer:Int} {a:Au} (h1:inB own 1 4294967295=true) (h2:inB peer 1 4294967295=true) (ha:isB a=true):okI 3 2 4 5 a own peer=true:=by
 unfold okI
 rw[h1,h2,confI0 h2,ha]
 rfl
theorem fineI0 {own peer tick:Int} {a:Au} (h1:inB own 1 4294967295=true) (h2:inB peer 1 4294967295=true) (ha:isB a=true) (ht:inB tick 0 1099511627776=true):fineI 3 2 4 5 a own peer tick=true:=by
 unfold fineI
 rw[okI0 h1 h2 ha,ht]
 rfl
theorem fineB0 {peer tick:Int} {a:Au} (h2:inB peer 1 4294967295=true) (ha:isB a=true) (ht:inB tick 0 1099511627776=true):fineB (cfI 3 2 4 5 peer) a tick=true:=by
 unfold fineB
 rw[confI0 h2,ha,ht]
 rfl
def upA (own:Int):Au:=⟨6,1,1,askI own,2,5,0⟩
theorem open_i {own peer:Int} (h1:inB own 1 4294967295=true) (h2:inB peer 1 4294967295=true):iDoO 3 2 4 5 (newI own) own peer 3 0=(⟨1,0,0,askI own,0,0,0⟩,[],Fs.tabActs 3 0):=by
 have ha:isB (newI own)=true:=isI0 rfl rfl
 unfold iDoO
 rw[if_pos ⟨fineI0 h1 h2 ha rfl,rfl⟩]
 unfold doO
 rw[if_pos ⟨fineB0 h2 ha rfl,by rfl⟩,if_neg (by unfold newI;dsimp only;decide)]
 rfl
theorem up_i {own peer:Int} (h1:inB own 1 4294967295=true) (h2:inB peer 1 4294967295=true):iDoO 3 2 4 5 ⟨1,0,0,askI own,0,0,0⟩ own peer 1 0=(upA own,[⟨1,1,[3,6]++putB own.toNat 4⟩],Fs.tabActs 1 1):=by
 have ha:isB ⟨1,0,0,askI own,0,0,0⟩=true:=isI0 rfl rfl
 unfold iDoO
 rw[if_pos ⟨fineI0 h1 h2 ha rfl,rfl⟩]
 unfold doO
 rw[if_pos ⟨fineB0 h2 ha rfl,by rfl⟩,if_pos (by first|rfl|decide)]
 have he:=encI own
 rw[show([3,6]++putB own.toNat 4:List UInt8)=(Op.encR (askI own)).1 by rw[he]]
 rfl
end Go.Proofs.YtfkgmbknfnhjoaaGreat
