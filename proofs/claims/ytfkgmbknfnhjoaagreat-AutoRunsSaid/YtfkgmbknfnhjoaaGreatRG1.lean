/- Bundle G1. -/
import Derived.Test.YtfkgmbknfnhjoaaGreatRA
set_option maxHeartbeats 2000000
namespace Go.Proofs.YtfkgmbknfnhjoaaGreat.Fs
open Lib (hid)
open Go.RowKit
def tabL:List (List (Option (Int×List Int))):=
 [[some (2,[]),some (6,[5,7]),none,none,none,none,none,none,none,none],
  [none,none,some (0,[]),some (1,[3]),some (0,[]),some (1,[]),some (1,[]),some (1,[]),some (1,[]),some (1,[2])],
  [some (1,[3]),some (1,[]),some (6,[5,7]),some (3,[]),some (5,[]),some (5,[]),some (6,[]),some (7,[]),some (8,[]),some (9,[])],
  [some (0,[]),some (0,[4]),some (2,[]),some (2,[]),some (4,[]),some (4,[]),some (4,[5,10]),some (4,[5,10]),some (4,[5,10]),some (4,[2,5,10])],
  [none,none,none,none,some (4,[10]),some (5,[10]),some (6,[7]),some (6,[7]),some (8,[7]),none],
  [none,none,none,none,some (2,[4]),some (3,[4]),some (3,[4]),some (3,[4]),some (3,[4]),none],
  [none,none,some (2,[11]),some (8,[5,7,8]),some (4,[]),some (5,[]),some (8,[8]),some (9,[8,1]),some (8,[8]),some (8,[2,7,8])],
  [none,none,some (2,[11]),some (6,[5,7,9]),some (4,[]),some (5,[]),some (6,[9]),some (7,[9]),some (6,[9]),some (6,[2,7,9])],
  [none,none,some (2,[11]),some (3,[11]),some (4,[]),some (5,[]),some (7,[5]),some (6,[7]),some (9,[5,1]),some (6,[2,7])],
  [none,none,some (2,[11]),some (3,[11]),some (4,[]),some (5,[]),some (6,[5,7]),some (6,[7]),some (8,[5,7]),some (6,[2,7])],
  [none,none,some (2,[11]),some (3,[11]),some (4,[11]),some (5,[11]),some (6,[11]),some (6,[11]),some (6,[11]),some (5,[2,6,11])],
  [none,none,some (2,[]),some (3,[]),some (2,[4]),some (3,[4]),some (6,[]),some (6,[]),some (8,[]),some (6,[2,7])],
  [none,none,some (2,[12]),some (3,[12]),some (4,[12]),some (5,[12]),some (6,[12]),some (7,[12]),some (8,[12]),some (9,[12])],
  [none,none,some (2,[]),some (3,[]),some (4,[]),some (5,[]),some (6,[]),some (6,[]),some (8,[]),some (9,[])],
  [none,none,some (2,[4]),some (3,[4]),some (2,[4]),some (3,[4]),some (3,[4]),some (3,[4]),some (3,[4]),some (5,[2,5,10])],
  [none,none,some (2,[]),some (3,[]),some (4,[]),some (5,[]),some (6,[]),some (7,[]),some (8,[]),some (9,[13])]]
def rowL:List (List (List UInt8)):=
 [[[50],[105,114,99,32,115,99,114,47,54],[45],[45],[45],[45],[45],[45],[45],[45]],
  [[45],[45],[48],[116,108,115,47,49],[48],[49],[49],[49],[49],[116,108,100,47,49]],
  [[116,108,115,47,49],[49],[105,114,99,32,115,99,114,47,54],[51],[53],[53],[54],[55],[56],[57]],
  [[48],[116,108,102,47,48],[50],[50],[52],[52],[105,114,99,32,115,116,114,47,52],[105,114,99,32,115,116,114,47,52],[105,114,99,32,115,116,114,47,52],[116,108,100,32,105,114,99,32,115,116,114,47,52]],
  [[45],[45],[45],[45],[115,116,114,47,52],[115,116,114,47,53],[115,99,114,47,54],[115,99,114,47,54],[115,99,114,47,56],[45]],
  [[45],[45],[45],[45],[116,108,102,47,50],[116,108,102,47,51],[116,108,102,47,51],[116,108,102,47,51],[116,108,102,47,51],[45]],
  [[45],[45],[115,116,97,47,50],[105,114,99,32,115,99,114,32,115,99,97,47,56],[52],[53],[115,99,97,47,56],[115,99,97,32,116,108,117,47,57],[115,99,97,47,56],[116,108,100,32,115,99,114,32,115,99,97,47,56]],
  [[45],[45],[115,116,97,47,50],[105,114,99,32,115,99,114,32,115,99,110,47,54],[52],[53],[115,99,110,47,54],[115,99,110,47,55],[115,99,110,47,54],[116,108,100,32,115,99,114,32,115,99,110,47,54]],
  [[45],[45],[115,116,97,47,50],[115,116,97,47,51],[52],[53],[105,114,99,47,55],[115,99,114,47,54],[105,114,99,32,116,108,117,47,57],[116,108,100,32,115,99,114,47,54]],
  [[45],[45],[115,116,97,47,50],[115,116,97,47,51],[52],[53],[105,114,99,32,115,99,114,47,54],[115,99,114,47,54],[105,114,99,32,115,99,114,47,56],[116,108,100,32,115,99,114,47,54]],
  [[45],[45],[115,116,97,47,50],[115,116,97,47,51],[115,116,97,47,52],[115,116,97,47,53],[115,116,97,47,54],[115,116,97,47,54],[115,116,97,47,54],[116,108,100,32,122,114,99,32,115,116,97,47,53]],
  [[45],[45],[50],[51],[116,108,102,47,50],[116,108,102,47,51],[54],[54],[56],[116,108,100,32,115,99,114,47,54]],
  [[45],[45],[115,99,106,47,50],[115,99,106,47,51],[115,99,106,47,52],[115,99,106,47,53],[115,99,106,47,54],[115,99,106,47,55],[115,99,106,47,56],[115,99,106,47,57]],
  [[45],[45],[50],[51],[52],[53],[54],[54],[56],[57]],
  [[45],[45],[116,108,102,47,50],[116,108,102,47,51],[116,108,102,47,50],[116,108,102,47,51],[116,108,102,47,51],[116,108,102,47,51],[116,108,102,47,51],[116,108,100,32,105,114,99,32,115,116,114,47,53]],
  [[45],[45],[50],[51],[52],[53],[54],[55],[56],[115,101,114,47,57]]]
def actL:List (List UInt8):=[[],[116,108,117],[116,108,100],[116,108,115],[116,108,102],[105,114,99],[122,114,99],[115,99,114],[115,99,97],[115,99,110],[115,116,114],[115,116,97],[115,99,106],[115,101,114]]
def tabC (e s:Int):Option (Int×List Int):=if 1≤e∧e≤16∧0≤s∧s≤9 then(tabL.getD (e.toNat-1) []).getD s.toNat none else none
def tabOk (e s:Int):Bool:=(tabC e s).isSome
def tabNext (e s:Int):Int:=((tabC e s).map (·.1)).getD 0
def tabActs (e s:Int):List Int:=((tabC e s).map (·.2)).getD []
def inTab (e s:Int):Bool:=decide (1≤e∧e≤16∧0≤s∧s≤9)
def stepErr (s e:Int):Int:=if inTab e s=true then(if tabOk e s=true then 0 else 5) else 140
def av (x:Int):Value:=.int .i64 x
def Told (w:World) (l:List Int) (v:Value) (w':World):Prop:=Below w.heap.size w w'∧w'.ownsRow w.heap.size 104 1 v l.length (l.map av)
def StepP (s e:Int) (w:World) (x:Ending) (w':World):Prop:=
 ∃v,x=.returned (.tuple #[.int .i64 (tabNext e s),v,.int .i64 (stepErr s e)])∧Told w (tabActs e s) v w'
def MYes (e s:Int) (w:World) (x:Ending) (w':World):Prop:= ∃v,x=.returned (.tuple #[.agg #[v,.int .i64 (tabNext e s)],.bool true])∧Told w (tabActs e s) v w'
def MNo (w:World) (x:Ending) (w':World):Prop:= ∃A n c y,x=.returned (.tuple #[.agg #[.slice A n c,.int .i64 y],.bool false])∧Below w.heap.size w w'
theorem ten {s:Int} (h0:0≤s) (h9:s≤9):s=0∨s=1∨s=2∨s=3∨s=4∨s=5∨s=6∨s=7∨s=8∨s=9:=by omega
theorem sixteen {e:Int} (h0:1≤e) (h9:e≤16):e=1∨e=2∨e=3∨e=4∨e=5∨e=6∨e=7∨e=8∨e=9∨e=10∨e=11∨e=12∨e=13∨e=14∨e=15∨e=16:=by omega
theorem tabOk_in {e s:Int} (h:tabOk e s=true):1≤e∧e≤16∧0≤s∧s≤9:=by
 unfold tabOk tabC at h
 split at h
 ·assumption
 ·simp at h
theorem tab_out {e s:Int} (h:tabOk e s=false):tabNext e s=0∧tabActs e s=[]:=by
 unfold tabOk at h
 have:tabC e s=none:=by simpa using h
 simp[tabNext,tabActs,this]
theorem tabOk_out {e s:Int} (h:inTab e s=false):tabOk e s=false:=by
 unfold tabOk tabC
 unfold inTab at h
 rw[if_neg (by simpa using h)];rfl
end Go.Proofs.YtfkgmbknfnhjoaaGreat.Fs
namespace Go.Proofs.YtfkgmbknfnhjoaaGreat.Fs
open Lib (hid)
open Go.RowKit
set_option linter.unusedSimpArgs false
set_option linter.unusedVariables false
theorem lit {w:World} {base g n:Nat} {e:TypeId} {xs:List Value} (h:w.heap[g]? =some (.cells xs.toArray e (0,0)):=by(repeat(first|((refine heap_alloc_at _ _ _ ?_);(simp[go_sem];done))|((refine(heap_ext _ _ _ _ ?_).trans ?_);(focus (simp[go_sem];done)))|((refine(heap_alloc_past _ _ _ ?_).trans ?_);(focus (simp[go_sem];done)))))) (hb:base≤g:=by omega) (hn:n≤maxLen:=by decide) (hs:xs.toArray.size=n*1:=by rfl):w.ownsRow base e 1 (.slice (some ⟨g,0,none⟩) n n) n xs:=
 own_lit h hb hn hs (by simp)
theorem only_any (s:Int) (w:World):Calls Tryz.prog 150 #[.int .i64 s] w fun e w'=>e=.returned (.agg #[.slice none 0 0,.int .i64 s])∧w'=w.alloc (.cells #[.slice none 0 0,.int .i64 s] 142):=by
 go_enter Tryz.func150,Tryz.ntmps150
 go_wp2
 exact bodyPost_ret (v:=.agg #[.slice none 0 0,.int .i64 s]) (by simp[results,Tryz.results150,go_sem]) rfl ⟨rfl,rfl⟩
theorem by_any (s:Int) (A:Option Addr) (n c:Nat) (w:World):Calls Tryz.prog 151 #[.int .i64 s,.slice A n c] w fun e w'=>e=.returned (.agg #[.slice A n c,.int .i64 s])∧w'=w.alloc (.cells #[.slice A n c,.int .i64 s] 142):=by
 go_enter Tryz.func151,Tryz.ntmps151
 go_wp2
 exact bodyPost_ret (v:=.agg #[.slice A n c,.int .i64 s]) (by simp[results,Tryz.results151,go_sem]) rfl ⟨rfl,rfl⟩
theorem stays_any (s:Int) (A:Option Addr) (n c:Nat) (w:World):Calls Tryz.prog 152 #[.int .i64 s,.slice A n c] w fun e w'=>e=.returned (.agg #[.slice A n c,.int .i64 s])∧Below w.heap.size w w':=by
 go_enter Tryz.func152,Tryz.ntmps152
 go_wp2_with (go_at_call 151;refine(by_any _ _ _ _ _).mono ?_;rintro e w1 ⟨rfl,rfl⟩)
 exact bodyPost_ret (v:=.agg #[.slice A n c,.int .i64 s]) (by simp[results,Tryz.results152,go_sem]) rfl ⟨rfl,by exact bel⟩
theorem ends_any (s:Int) (w:World):Calls Tryz.prog 155 #[.int .i64 s] w fun e w'=>e=.returned (.bool (decide (2≤s)&&decide (s≤5)))∧w=w':=by
 by_cases h1:2≤s<;>by_cases h2:s≤5
 all_goals
  go_enter Tryz.func155,Tryz.ntmps155
  go_wp2
  go_ret
  simp[h1,h2]
theorem asks_any (s:Int) (w:World):Calls Tryz.prog 87 #[.int .i64 s] w fun e w'=>e=.returned (.bool (decide (6≤s)&&decide (s≤8)))∧w=w':=by
 by_cases h1:6≤s<;>by_cases h2:s≤8
 all_goals
  go_enter Tryz.func87,Tryz.ntmps87
  go_wp2
  go_ret
  simp[h1,h2]
def lowerS (s:Int):Int:=if s=2∨s=4 then 2 else 3
theorem lower_any (s:Int) (w:World):Calls Tryz.prog 156 #[.int .i64 s] w fun e w'=>e=.returned (.int .i64 (lowerS s))∧w=w':=by
 by_cases h1:s=2
 ·subst h1
  go_enter Tryz.func156,Tryz.ntmps156
  go_wp2
  go_ret
  exact⟨rfl,rfl⟩
 ·by_cases h2:s=4
  ·subst h2
   go_enter Tryz.func156,Tryz.ntmps156
   go_wp2
   go_ret
   exact⟨rfl,rfl⟩
  ·have e1:(s==2)=false:=by simpa using h1
   have e2:(s==4)=false:=by simpa using h2
   have E:=hid (And.intro h1 h2)
   clear h1 h2
   go_enter Tryz.func156,Tryz.ntmps156
   go_wp2
   go_ret
   exact⟨ret_int (by simp[lowerS,E.out]),rfl⟩
theorem known_any (s:Int) (w:World):Calls Tryz.prog 85 #[.int .i64 s] w fun e w'=>e=.returned (.bool (decide (0≤s)&&decide (s≤9)))∧w=w':=by
 by_cases h1:0≤s<;>by_cases h2:s≤9
 all_goals
  go_enter Tryz.func85,Tryz.ntmps85
  go_wp2
  go_ret
  simp[h1,h2]
theorem timed_ref (s:Int) (w:World):Calls Tryz.prog 57 #[.int .i64 s] w fun e w'=>e=.returned (.bool (decide (4≤s)&&decide (s≤8)))∧w=w':=by
 by_cases h1:4≤s<;>by_cases h2:s≤8
 all_goals
  go_enter Tryz.func57,Tryz.ntmps57
  go_wp2
  go_ret
  simp[h1,h2]
end Go.Proofs.YtfkgmbknfnhjoaaGreat.Fs
namespace Go.Proofs.YtfkgmbknfnhjoaaGreat.Fs
open Lib (hid)
open Go.RowKit
set_option linter.unusedSimpArgs false
set_option linter.unusedVariables false
theorem up_yes (s:Int) (w:World) (h:tabOk 1 s=true):Calls Tryz.prog 109 #[.int .i64 s] w (MYes 1 s w):=by
 obtain⟨-,-,h0,h9⟩:=tabOk_in h
 have hs:s=0∨s=1:=by
  rcases ten h0 h9 with rfl|rfl|rfl|rfl|rfl|rfl|rfl|rfl|rfl|rfl<;>first|decide|(exfalso;revert h;decide)
 clear h h0 h9
 rcases hs with rfl|rfl
 all_goals go_enter Tryz.func109,Tryz.ntmps109
 all_goals go_wp2_with (first|(go_at_call 150;refine(only_any _ _).mono ?_;rintro e w1 ⟨rfl,rfl⟩)|(go_at_call 151;refine(by_any _ _ _ _ _).mono ?_;rintro e w1 ⟨rfl,rfl⟩)|(go_at_call 152;refine(stays_any _ _ _ _ _).mono ?_;rintro e w1 ⟨rfl,hb⟩;obtain⟨xs,d,rfl⟩:=ext_of hb;clear hb)|(go_at_call 155;refine(ends_any _ _).mono ?_;rintro e w1 ⟨rfl,rfl⟩)|(go_at_call 87;refine(asks_any _ _).mono ?_;rintro e w1 ⟨rfl,rfl⟩)|(go_at_call 156;refine(lower_any _ _).mono ?_;rintro e w1 ⟨rfl,rfl⟩))
 ·exact bodyPost_ret (v:=.tuple #[.agg #[.slice none 0 0,.int .i64 2],.bool true]) (by simp[results,Tryz.results109,go_sem,lowerS]) rfl ⟨.slice none 0 0,rfl,bel,own_nil _ _ _ _⟩
 ·exact bodyPost_ret (v:=.tuple #[.agg #[.slice (some ⟨w.heap.size+1,0,none⟩) 2 2,.int .i64 6],.bool true]) (by simp[results,Tryz.results109,go_sem,lowerS]) rfl ⟨.slice (some ⟨w.heap.size+1,0,none⟩) 2 2,rfl,bel,lit⟩
theorem up_no (s:Int) (w:World) (h0:0≤s) (h9:s≤9) (h:tabOk 1 s=false):Calls Tryz.prog 109 #[.int .i64 s] w (MNo w):=by
 have hs:s=2∨s=3∨s=4∨s=5∨s=6∨s=7∨s=8∨s=9:=by
  rcases ten h0 h9 with rfl|rfl|rfl|rfl|rfl|rfl|rfl|rfl|rfl|rfl<;>first|decide|(exfalso;revert h;decide)
 clear h h0 h9
 rcases hs with rfl|rfl|rfl|rfl|rfl|rfl|rfl|rfl
 all_goals go_enter Tryz.func109,Tryz.ntmps109
 all_goals go_wp2_with (first|(go_at_call 150;refine(only_any _ _).mono ?_;rintro e w1 ⟨rfl,rfl⟩)|(go_at_call 151;refine(by_any _ _ _ _ _).mono ?_;rintro e w1 ⟨rfl,rfl⟩)|(go_at_call 152;refine(stays_any _ _ _ _ _).mono ?_;rintro e w1 ⟨rfl,hb⟩;obtain⟨xs,d,rfl⟩:=ext_of hb;clear hb)|(go_at_call 155;refine(ends_any _ _).mono ?_;rintro e w1 ⟨rfl,rfl⟩)|(go_at_call 87;refine(asks_any _ _).mono ?_;rintro e w1 ⟨rfl,rfl⟩)|(go_at_call 156;refine(lower_any _ _).mono ?_;rintro e w1 ⟨rfl,rfl⟩))
 ·exact bodyPost_ret (v:=.tuple #[.agg #[.slice none 0 0,.int .i64 0],.bool false]) (by simp[results,Tryz.results109,go_sem]) rfl ⟨_,_,_,_,rfl,bel⟩
 ·exact bodyPost_ret (v:=.tuple #[.agg #[.slice none 0 0,.int .i64 0],.bool false]) (by simp[results,Tryz.results109,go_sem]) rfl ⟨_,_,_,_,rfl,bel⟩
 ·exact bodyPost_ret (v:=.tuple #[.agg #[.slice none 0 0,.int .i64 0],.bool false]) (by simp[results,Tryz.results109,go_sem]) rfl ⟨_,_,_,_,rfl,bel⟩
 ·exact bodyPost_ret (v:=.tuple #[.agg #[.slice none 0 0,.int .i64 0],.bool false]) (by simp[results,Tryz.results109,go_sem]) rfl ⟨_,_,_,_,rfl,bel⟩
 ·exact bodyPost_ret (v:=.tuple #[.agg #[.slice none 0 0,.int .i64 0],.bool false]) (by simp[results,Tryz.results109,go_sem]) rfl ⟨_,_,_,_,rfl,bel⟩
 ·exact bodyPost_ret (v:=.tuple #[.agg #[.slice none 0 0,.int .i64 0],.bool false]) (by simp[results,Tryz.results109,go_sem]) rfl ⟨_,_,_,_,rfl,bel⟩
 ·exact bodyPost_ret (v:=.tuple #[.agg #[.slice none 0 0,.int .i64 0],.bool false]) (by simp[results,Tryz.results109,go_sem]) rfl ⟨_,_,_,_,rfl,bel⟩
 ·exact bodyPost_ret (v:=.tuple #[.agg #[.slice none 0 0,.int .i64 0],.bool false]) (by simp[results,Tryz.results109,go_sem]) rfl ⟨_,_,_,_,rfl,bel⟩
end Go.Proofs.YtfkgmbknfnhjoaaGreat.Fs
namespace Go.Proofs.YtfkgmbknfnhjoaaGreat.Fs
open Lib (hid)
open Go.RowKit
set_option linter.unusedSimpArgs false
set_option linter.unusedVariables false
theorem down_yes (s:Int) (w:World) (h:tabOk 2 s=true):Calls Tryz.prog 110 #[.int .i64 s] w (MYes 2 s w):=by
 obtain⟨-,-,h0,h9⟩:=tabOk_in h
 have hs:s=2∨s=3∨s=4∨s=5∨s=6∨s=7∨s=8∨s=9:=by
  rcases ten h0 h9 with rfl|rfl|rfl|rfl|rfl|rfl|rfl|rfl|rfl|rfl<;>first|decide|(exfalso;revert h;decide)
 clear h h0 h9
 rcases hs with rfl|rfl|rfl|rfl|rfl|rfl|rfl|rfl
 all_goals go_enter Tryz.func110,Tryz.ntmps110
 all_goals go_wp2_with (first|(go_at_call 150;refine(only_any _ _).mono ?_;rintro e w1 ⟨rfl,rfl⟩)|(go_at_call 151;refine(by_any _ _ _ _ _).mono ?_;rintro e w1 ⟨rfl,rfl⟩)|(go_at_call 152;refine(stays_any _ _ _ _ _).mono ?_;rintro e w1 ⟨rfl,hb⟩;obtain⟨xs,d,rfl⟩:=ext_of hb;clear hb)|(go_at_call 155;refine(ends_any _ _).mono ?_;rintro e w1 ⟨rfl,rfl⟩)|(go_at_call 87;refine(asks_any _ _).mono ?_;rintro e w1 ⟨rfl,rfl⟩)|(go_at_call 156;refine(lower_any _ _).mono ?_;rintro e w1 ⟨rfl,rfl⟩))
 ·exact bodyPost_ret (v:=.tuple #[.agg #[.slice none 0 0,.int .i64 0],.bool true]) (by simp[results,Tryz.results110,go_sem,lowerS]) rfl ⟨.slice none 0 0,rfl,bel,own_nil _ _ _ _⟩
 ·exact bodyPost_ret (v:=.tuple #[.agg #[.slice (some ⟨w.heap.size+1,0,none⟩) 1 1,.int .i64 1],.bool true]) (by simp[results,Tryz.results110,go_sem,lowerS]) rfl ⟨.slice (some ⟨w.heap.size+1,0,none⟩) 1 1,rfl,bel,lit⟩
 ·exact bodyPost_ret (v:=.tuple #[.agg #[.slice none 0 0,.int .i64 0],.bool true]) (by simp[results,Tryz.results110,go_sem,lowerS]) rfl ⟨.slice none 0 0,rfl,bel,own_nil _ _ _ _⟩
 ·exact bodyPost_ret (v:=.tuple #[.agg #[.slice none 0 0,.int .i64 1],.bool true]) (by simp[results,Tryz.results110,go_sem,lowerS]) rfl ⟨.slice none 0 0,rfl,bel,own_nil _ _ _ _⟩
 ·exact bodyPost_ret (v:=.tuple #[.agg #[.slice none 0 0,.int .i64 1],.bool true]) (by simp[results,Tryz.results110,go_sem,lowerS]) rfl ⟨.slice none 0 0,rfl,bel,own_nil _ _ _ _⟩
 ·exact bodyPost_ret (v:=.tuple #[.agg #[.slice none 0 0,.int .i64 1],.bool true]) (by simp[results,Tryz.results110,go_sem,lowerS]) rfl ⟨.slice none 0 0,rfl,bel,own_nil _ _ _ _⟩
 ·exact bodyPost_ret (v:=.tuple #[.agg #[.slice none 0 0,.int .i64 1],.bool true]) (by simp[results,Tryz.results110,go_sem,lowerS]) rfl ⟨.slice none 0 0,rfl,bel,own_nil _ _ _ _⟩
 ·exact bodyPost_ret (v:=.tuple #[.agg #[.slice (some ⟨w.heap.size+1,0,none⟩) 1 1,.int .i64 1],.bool true]) (by simp[results,Tryz.results110,go_sem,lowerS]) rfl ⟨.slice (some ⟨w.heap.size+1,0,none⟩) 1 1,rfl,bel,lit⟩
theorem down_no (s:Int) (w:World) (h0:0≤s) (h9:s≤9) (h:tabOk 2 s=false):Calls Tryz.prog 110 #[.int .i64 s] w (MNo w):=by
 have hs:s=0∨s=1:=by
  rcases ten h0 h9 with rfl|rfl|rfl|rfl|rfl|rfl|rfl|rfl|rfl|rfl<;>first|decide|(exfalso;revert h;decide)
 clear h h0 h9
 rcases hs with rfl|rfl
 all_goals go_enter Tryz.func110,Tryz.ntmps110
 all_goals go_wp2_with (first|(go_at_call 150;refine(only_any _ _).mono ?_;rintro e w1 ⟨rfl,rfl⟩)|(go_at_call 151;refine(by_any _ _ _ _ _).mono ?_;rintro e w1 ⟨rfl,rfl⟩)|(go_at_call 152;refine(stays_any _ _ _ _ _).mono ?_;rintro e w1 ⟨rfl,hb⟩;obtain⟨xs,d,rfl⟩:=ext_of hb;clear hb)|(go_at_call 155;refine(ends_any _ _).mono ?_;rintro e w1 ⟨rfl,rfl⟩)|(go_at_call 87;refine(asks_any _ _).mono ?_;rintro e w1 ⟨rfl,rfl⟩)|(go_at_call 156;refine(lower_any _ _).mono ?_;rintro e w1 ⟨rfl,rfl⟩))
 ·exact bodyPost_ret (v:=.tuple #[.agg #[.slice none 0 0,.int .i64 0],.bool false]) (by simp[results,Tryz.results110,go_sem]) rfl ⟨_,_,_,_,rfl,bel⟩
 ·exact bodyPost_ret (v:=.tuple #[.agg #[.slice none 0 0,.int .i64 0],.bool false]) (by simp[results,Tryz.results110,go_sem]) rfl ⟨_,_,_,_,rfl,bel⟩
theorem open_yes (s:Int) (w:World) (h:tabOk 3 s=true):Calls Tryz.prog 111 #[.int .i64 s] w (MYes 3 s w):=by
 obtain⟨-,-,h0,h9⟩:=tabOk_in h
 have hs:=ten h0 h9
 clear h h0 h9
 rcases hs with rfl|rfl|rfl|rfl|rfl|rfl|rfl|rfl|rfl|rfl
 all_goals go_enter Tryz.func111,Tryz.ntmps111
 all_goals go_wp2_with (first|(go_at_call 150;refine(only_any _ _).mono ?_;rintro e w1 ⟨rfl,rfl⟩)|(go_at_call 151;refine(by_any _ _ _ _ _).mono ?_;rintro e w1 ⟨rfl,rfl⟩)|(go_at_call 152;refine(stays_any _ _ _ _ _).mono ?_;rintro e w1 ⟨rfl,hb⟩;obtain⟨xs,d,rfl⟩:=ext_of hb;clear hb)|(go_at_call 155;refine(ends_any _ _).mono ?_;rintro e w1 ⟨rfl,rfl⟩)|(go_at_call 87;refine(asks_any _ _).mono ?_;rintro e w1 ⟨rfl,rfl⟩)|(go_at_call 156;refine(lower_any _ _).mono ?_;rintro e w1 ⟨rfl,rfl⟩))
 ·exact bodyPost_ret (v:=.tuple #[.agg #[.slice (some ⟨w.heap.size+1,0,none⟩) 1 1,.int .i64 1],.bool true]) (by simp[results,Tryz.results111,go_sem,lowerS]) rfl ⟨.slice (some ⟨w.heap.size+1,0,none⟩) 1 1,rfl,bel,lit⟩
 ·exact bodyPost_ret (v:=.tuple #[.agg #[.slice none 0 0,.int .i64 1],.bool true]) (by simp[results,Tryz.results111,go_sem,lowerS]) rfl ⟨.slice none 0 0,rfl,bel,own_nil _ _ _ _⟩
 ·exact bodyPost_ret (v:=.tuple #[.agg #[.slice (some ⟨w.heap.size+1,0,none⟩) 2 2,.int .i64 6],.bool true]) (by simp[results,Tryz.results111,go_sem,lowerS]) rfl ⟨.slice (some ⟨w.heap.size+1,0,none⟩) 2 2,rfl,bel,lit⟩
 ·exact bodyPost_ret (v:=.tuple #[.agg #[.slice none 0 0,.int .i64 3],.bool true]) (by simp[results,Tryz.results111,go_sem,lowerS]) rfl ⟨.slice none 0 0,rfl,bel,own_nil _ _ _ _⟩
 ·exact bodyPost_ret (v:=.tuple #[.agg #[.slice none 0 0,.int .i64 5],.bool true]) (by simp[results,Tryz.results111,go_sem,lowerS]) rfl ⟨.slice none 0 0,rfl,bel,own_nil _ _ _ _⟩
 ·exact bodyPost_ret (v:=.tuple #[.agg #[.slice none 0 0,.int .i64 5],.bool true]) (by simp[results,Tryz.results111,go_sem,lowerS]) rfl ⟨.slice none 0 0,rfl,bel,own_nil _ _ _ _⟩
 ·exact bodyPost_ret (v:=.tuple #[.agg #[.slice none 0 0,.int .i64 6],.bool true]) (by simp[results,Tryz.results111,go_sem,lowerS]) rfl ⟨.slice none 0 0,rfl,bel,own_nil _ _ _ _⟩
 ·exact bodyPost_ret (v:=.tuple #[.agg #[.slice none 0 0,.int .i64 7],.bool true]) (by simp[results,Tryz.results111,go_sem,lowerS]) rfl ⟨.slice none 0 0,rfl,bel,own_nil _ _ _ _⟩
 ·exact bodyPost_ret (v:=.tuple #[.agg #[.slice none 0 0,.int .i64 8],.bool true]) (by simp[results,Tryz.results111,go_sem,lowerS]) rfl ⟨.slice none 0 0,rfl,bel,own_nil _ _ _ _⟩
 ·exact bodyPost_ret (v:=.tuple #[.agg #[.slice none 0 0,.int .i64 9],.bool true]) (by simp[results,Tryz.results111,go_sem,lowerS]) rfl ⟨.slice none 0 0,rfl,bel,own_nil _ _ _ _⟩
theorem open_no (s:Int) (w:World) (h0:0≤s) (h9:s≤9) (h:tabOk 3 s=false):Calls Tryz.prog 111 #[.int .i64 s] w (MNo w):=by
 exfalso;rcases ten h0 h9 with rfl|rfl|rfl|rfl|rfl|rfl|rfl|rfl|rfl|rfl<;>(revert h;decide)
theorem shut_yes (s:Int) (w:World) (h:tabOk 4 s=true):Calls Tryz.prog 112 #[.int .i64 s] w (MYes 4 s w):=by
 obtain⟨-,-,h0,h9⟩:=tabOk_in h
 have hs:=ten h0 h9
 clear h h0 h9
 rcases hs with rfl|rfl|rfl|rfl|rfl|rfl|rfl|rfl|rfl|rfl
 all_goals go_enter Tryz.func112,Tryz.ntmps112
 all_goals go_wp2_with (first|(go_at_call 150;refine(only_any _ _).mono ?_;rintro e w1 ⟨rfl,rfl⟩)|(go_at_call 151;refine(by_any _ _ _ _ _).mono ?_;rintro e w1 ⟨rfl,rfl⟩)|(go_at_call 152;refine(stays_any _ _ _ _ _).mono ?_;rintro e w1 ⟨rfl,hb⟩;obtain⟨xs,d,rfl⟩:=ext_of hb;clear hb)|(go_at_call 155;refine(ends_any _ _).mono ?_;rintro e w1 ⟨rfl,rfl⟩)|(go_at_call 87;refine(asks_any _ _).mono ?_;rintro e w1 ⟨rfl,rfl⟩)|(go_at_call 156;refine(lower_any _ _).mono ?_;rintro e w1 ⟨rfl,rfl⟩))
 ·exact bodyPost_ret (v:=.tuple #[.agg #[.slice none 0 0,.int .i64 0],.bool true]) (by simp[results,Tryz.results112,go_sem,lowerS]) rfl ⟨.slice none 0 0,rfl,bel,own_nil _ _ _ _⟩
 ·exact bodyPost_ret (v:=.tuple #[.agg #[.slice (some ⟨w.heap.size+1,0,none⟩) 1 1,.int .i64 0],.bool true]) (by simp[results,Tryz.results112,go_sem,lowerS]) rfl ⟨.slice (some ⟨w.heap.size+1,0,none⟩) 1 1,rfl,bel,lit⟩
 ·exact bodyPost_ret (v:=.tuple #[.agg #[.slice none 0 0,.int .i64 2],.bool true]) (by simp[results,Tryz.results112,go_sem,lowerS]) rfl ⟨.slice none 0 0,rfl,bel,own_nil _ _ _ _⟩
 ·exact bodyPost_ret (v:=.tuple #[.agg #[.slice none 0 0,.int .i64 2],.bool true]) (by simp[results,Tryz.results112,go_sem,lowerS]) rfl ⟨.slice none 0 0,rfl,bel,own_nil _ _ _ _⟩
 ·exact bodyPost_ret (v:=.tuple #[.agg #[.slice none 0 0,.int .i64 4],.bool true]) (by simp[results,Tryz.results112,go_sem,lowerS]) rfl ⟨.slice none 0 0,rfl,bel,own_nil _ _ _ _⟩
 ·exact bodyPost_ret (v:=.tuple #[.agg #[.slice none 0 0,.int .i64 4],.bool true]) (by simp[results,Tryz.results112,go_sem,lowerS]) rfl ⟨.slice none 0 0,rfl,bel,own_nil _ _ _ _⟩
 ·exact bodyPost_ret (v:=.tuple #[.agg #[.slice (some ⟨w.heap.size+1,0,none⟩) 2 2,.int .i64 4],.bool true]) (by simp[results,Tryz.results112,go_sem,lowerS]) rfl ⟨.slice (some ⟨w.heap.size+1,0,none⟩) 2 2,rfl,bel,lit⟩
 ·exact bodyPost_ret (v:=.tuple #[.agg #[.slice (some ⟨w.heap.size+1,0,none⟩) 2 2,.int .i64 4],.bool true]) (by simp[results,Tryz.results112,go_sem,lowerS]) rfl ⟨.slice (some ⟨w.heap.size+1,0,none⟩) 2 2,rfl,bel,lit⟩
 ·exact bodyPost_ret (v:=.tuple #[.agg #[.slice (some ⟨w.heap.size+1,0,none⟩) 2 2,.int .i64 4],.bool true]) (by simp[results,Tryz.results112,go_sem,lowerS]) rfl ⟨.slice (some ⟨w.heap.size+1,0,none⟩) 2 2,rfl,bel,lit⟩
 ·exact bodyPost_ret (v:=.tuple #[.agg #[.slice (some ⟨w.heap.size+1,0,none⟩) 3 3,.int .i64 4],.bool true]) (by simp[results,Tryz.results112,go_sem,lowerS]) rfl ⟨.slice (some ⟨w.heap.size+1,0,none⟩) 3 3,rfl,bel,lit⟩
theorem shut_no (s:Int) (w:World) (h0:0≤s) (h9:s≤9) (h:tabOk 4 s=false):Calls Tryz.prog 112 #[.int .i64 s] w (MNo w):=by
 exfalso;rcases ten h0 h9 with rfl|rfl|rfl|rfl|rfl|rfl|rfl|rfl|rfl|rfl<;>(revert h;decide)
end Go.Proofs.YtfkgmbknfnhjoaaGreat.Fs
namespace Go.Proofs.YtfkgmbknfnhjoaaGreat.Fs
open Lib (hid)
open Go.RowKit
set_option linter.unusedSimpArgs false
set_option linter.unusedVariables false
theorem again_yes (s:Int) (w:World) (h:tabOk 5 s=true):Calls Tryz.prog 113 #[.int .i64 s] w (MYes 5 s w):=by
 obtain⟨-,-,h0,h9⟩:=tabOk_in h
 have hs:s=4∨s=5∨s=6∨s=7∨s=8:=by
  rcases ten h0 h9 with rfl|rfl|rfl|rfl|rfl|rfl|rfl|rfl|rfl|rfl<;>first|decide|(exfalso;revert h;decide)
 clear h h0 h9
 rcases hs with rfl|rfl|rfl|rfl|rfl
 all_goals go_enter Tryz.func113,Tryz.ntmps113
 all_goals go_wp2_with (first|(go_at_call 150;refine(only_any _ _).mono ?_;rintro e w1 ⟨rfl,rfl⟩)|(go_at_call 151;refine(by_any _ _ _ _ _).mono ?_;rintro e w1 ⟨rfl,rfl⟩)|(go_at_call 152;refine(stays_any _ _ _ _ _).mono ?_;rintro e w1 ⟨rfl,hb⟩;obtain⟨xs,d,rfl⟩:=ext_of hb;clear hb)|(go_at_call 155;refine(ends_any _ _).mono ?_;rintro e w1 ⟨rfl,rfl⟩)|(go_at_call 87;refine(asks_any _ _).mono ?_;rintro e w1 ⟨rfl,rfl⟩)|(go_at_call 156;refine(lower_any _ _).mono ?_;rintro e w1 ⟨rfl,rfl⟩))
 ·exact bodyPost_ret (v:=.tuple #[.agg #[.slice (some ⟨w.heap.size+1,0,none⟩) 1 1,.int .i64 4],.bool true]) (by simp[results,Tryz.results113,go_sem,lowerS]) rfl ⟨.slice (some ⟨w.heap.size+1,0,none⟩) 1 1,rfl,bel,lit⟩
 ·exact bodyPost_ret (v:=.tuple #[.agg #[.slice (some ⟨w.heap.size+1,0,none⟩) 1 1,.int .i64 5],.bool true]) (by simp[results,Tryz.results113,go_sem,lowerS]) rfl ⟨.slice (some ⟨w.heap.size+1,0,none⟩) 1 1,rfl,bel,lit⟩
 ·exact bodyPost_ret (v:=.tuple #[.agg #[.slice (some ⟨w.heap.size+1,0,none⟩) 1 1,.int .i64 6],.bool true]) (by simp[results,Tryz.results113,go_sem,lowerS]) rfl ⟨.slice (some ⟨w.heap.size+1,0,none⟩) 1 1,rfl,bel,lit⟩
 ·exact bodyPost_ret (v:=.tuple #[.agg #[.slice (some ⟨w.heap.size+1,0,none⟩) 1 1,.int .i64 6],.bool true]) (by simp[results,Tryz.results113,go_sem,lowerS]) rfl ⟨.slice (some ⟨w.heap.size+1,0,none⟩) 1 1,rfl,bel,lit⟩
 ·exact bodyPost_ret (v:=.tuple #[.agg #[.slice (some ⟨w.heap.size+1,0,none⟩) 1 1,.int .i64 8],.bool true]) (by simp[results,Tryz.results113,go_sem,lowerS]) rfl ⟨.slice (some ⟨w.heap.size+1,0,none⟩) 1 1,rfl,bel,lit⟩
theorem again_no (s:Int) (w:World) (h0:0≤s) (h9:s≤9) (h:tabOk 5 s=false):Calls Tryz.prog 113 #[.int .i64 s] w (MNo w):=by
 have hs:s=0∨s=1∨s=2∨s=3∨s=9:=by
  rcases ten h0 h9 with rfl|rfl|rfl|rfl|rfl|rfl|rfl|rfl|rfl|rfl<;>first|decide|(exfalso;revert h;decide)
 clear h h0 h9
 rcases hs with rfl|rfl|rfl|rfl|rfl
 all_goals go_enter Tryz.func113,Tryz.ntmps113
 all_goals go_wp2_with (first|(go_at_call 150;refine(only_any _ _).mono ?_;rintro e w1 ⟨rfl,rfl⟩)|(go_at_call 151;refine(by_any _ _ _ _ _).mono ?_;rintro e w1 ⟨rfl,rfl⟩)|(go_at_call 152;refine(stays_any _ _ _ _ _).mono ?_;rintro e w1 ⟨rfl,hb⟩;obtain⟨xs,d,rfl⟩:=ext_of hb;clear hb)|(go_at_call 155;refine(ends_any _ _).mono ?_;rintro e w1 ⟨rfl,rfl⟩)|(go_at_call 87;refine(asks_any _ _).mono ?_;rintro e w1 ⟨rfl,rfl⟩)|(go_at_call 156;refine(lower_any _ _).mono ?_;rintro e w1 ⟨rfl,rfl⟩))
 ·exact bodyPost_ret (v:=.tuple #[.agg #[.slice none 0 0,.int .i64 0],.bool false]) (by simp[results,Tryz.results113,go_sem]) rfl ⟨_,_,_,_,rfl,bel⟩
 ·exact bodyPost_ret (v:=.tuple #[.agg #[.slice none 0 0,.int .i64 0],.bool false]) (by simp[results,Tryz.results113,go_sem]) rfl ⟨_,_,_,_,rfl,bel⟩
 ·exact bodyPost_ret (v:=.tuple #[.agg #[.slice none 0 0,.int .i64 0],.bool false]) (by simp[results,Tryz.results113,go_sem]) rfl ⟨_,_,_,_,rfl,bel⟩
 ·exact bodyPost_ret (v:=.tuple #[.agg #[.slice none 0 0,.int .i64 0],.bool false]) (by simp[results,Tryz.results113,go_sem]) rfl ⟨_,_,_,_,rfl,bel⟩
 ·exact bodyPost_ret (v:=.tuple #[.agg #[.slice none 0 0,.int .i64 0],.bool false]) (by simp[results,Tryz.results113,go_sem]) rfl ⟨_,_,_,_,rfl,bel⟩
theorem tired_yes (s:Int) (w:World) (h:tabOk 6 s=true):Calls Tryz.prog 114 #[.int .i64 s] w (MYes 6 s w):=by
 obtain⟨-,-,h0,h9⟩:=tabOk_in h
 have hs:s=4∨s=5∨s=6∨s=7∨s=8:=by
  rcases ten h0 h9 with rfl|rfl|rfl|rfl|rfl|rfl|rfl|rfl|rfl|rfl<;>first|decide|(exfalso;revert h;decide)
 clear h h0 h9
 rcases hs with rfl|rfl|rfl|rfl|rfl
 all_goals go_enter Tryz.func114,Tryz.ntmps114
 all_goals go_wp2_with (first|(go_at_call 150;refine(only_any _ _).mono ?_;rintro e w1 ⟨rfl,rfl⟩)|(go_at_call 151;refine(by_any _ _ _ _ _).mono ?_;rintro e w1 ⟨rfl,rfl⟩)|(go_at_call 152;refine(stays_any _ _ _ _ _).mono ?_;rintro e w1 ⟨rfl,hb⟩;obtain⟨xs,d,rfl⟩:=ext_of hb;clear hb)|(go_at_call 155;refine(ends_any _ _).mono ?_;rintro e w1 ⟨rfl,rfl⟩)|(go_at_call 87;refine(asks_any _ _).mono ?_;rintro e w1 ⟨rfl,rfl⟩)|(go_at_call 156;refine(lower_any _ _).mono ?_;rintro e w1 ⟨rfl,rfl⟩))
 ·exact bodyPost_ret (v:=.tuple #[.agg #[.slice (some ⟨w.heap.size+1,0,none⟩) 1 1,.int .i64 2],.bool true]) (by simp[results,Tryz.results114,go_sem,lowerS]) rfl ⟨.slice (some ⟨w.heap.size+1,0,none⟩) 1 1,rfl,bel,lit⟩
 ·exact bodyPost_ret (v:=.tuple #[.agg #[.slice (some ⟨w.heap.size+1,0,none⟩) 1 1,.int .i64 3],.bool true]) (by simp[results,Tryz.results114,go_sem,lowerS]) rfl ⟨.slice (some ⟨w.heap.size+1,0,none⟩) 1 1,rfl,bel,lit⟩
 ·exact bodyPost_ret (v:=.tuple #[.agg #[.slice (some ⟨w.heap.size+1,0,none⟩) 1 1,.int .i64 3],.bool true]) (by simp[results,Tryz.results114,go_sem,lowerS]) rfl ⟨.slice (some ⟨w.heap.size+1,0,none⟩) 1 1,rfl,bel,lit⟩
 ·exact bodyPost_ret (v:=.tuple #[.agg #[.slice (some ⟨w.heap.size+1,0,none⟩) 1 1,.int .i64 3],.bool true]) (by simp[results,Tryz.results114,go_sem,lowerS]) rfl ⟨.slice (some ⟨w.heap.size+1,0,none⟩) 1 1,rfl,bel,lit⟩
 ·exact bodyPost_ret (v:=.tuple #[.agg #[.slice (some ⟨w.heap.size+1,0,none⟩) 1 1,.int .i64 3],.bool true]) (by simp[results,Tryz.results114,go_sem,lowerS]) rfl ⟨.slice (some ⟨w.heap.size+1,0,none⟩) 1 1,rfl,bel,lit⟩
theorem tired_no (s:Int) (w:World) (h0:0≤s) (h9:s≤9) (h:tabOk 6 s=false):Calls Tryz.prog 114 #[.int .i64 s] w (MNo w):=by
 have hs:s=0∨s=1∨s=2∨s=3∨s=9:=by
  rcases ten h0 h9 with rfl|rfl|rfl|rfl|rfl|rfl|rfl|rfl|rfl|rfl<;>first|decide|(exfalso;revert h;decide)
 clear h h0 h9
 rcases hs with rfl|rfl|rfl|rfl|rfl
 all_goals go_enter Tryz.func114,Tryz.ntmps114
 all_goals go_wp2_with (first|(go_at_call 150;refine(only_any _ _).mono ?_;rintro e w1 ⟨rfl,rfl⟩)|(go_at_call 151;refine(by_any _ _ _ _ _).mono ?_;rintro e w1 ⟨rfl,rfl⟩)|(go_at_call 152;refine(stays_any _ _ _ _ _).mono ?_;rintro e w1 ⟨rfl,hb⟩;obtain⟨xs,d,rfl⟩:=ext_of hb;clear hb)|(go_at_call 155;refine(ends_any _ _).mono ?_;rintro e w1 ⟨rfl,rfl⟩)|(go_at_call 87;refine(asks_any _ _).mono ?_;rintro e w1 ⟨rfl,rfl⟩)|(go_at_call 156;refine(lower_any _ _).mono ?_;rintro e w1 ⟨rfl,rfl⟩))
 ·exact bodyPost_ret (v:=.tuple #[.agg #[.slice none 0 0,.int .i64 0],.bool false]) (by simp[results,Tryz.results114,go_sem]) rfl ⟨_,_,_,_,rfl,bel⟩
 ·exact bodyPost_ret (v:=.tuple #[.agg #[.slice none 0 0,.int .i64 0],.bool false]) (by simp[results,Tryz.results114,go_sem]) rfl ⟨_,_,_,_,rfl,bel⟩
 ·exact bodyPost_ret (v:=.tuple #[.agg #[.slice none 0 0,.int .i64 0],.bool false]) (by simp[results,Tryz.results114,go_sem]) rfl ⟨_,_,_,_,rfl,bel⟩
 ·exact bodyPost_ret (v:=.tuple #[.agg #[.slice none 0 0,.int .i64 0],.bool false]) (by simp[results,Tryz.results114,go_sem]) rfl ⟨_,_,_,_,rfl,bel⟩
 ·exact bodyPost_ret (v:=.tuple #[.agg #[.slice none 0 0,.int .i64 0],.bool false]) (by simp[results,Tryz.results114,go_sem]) rfl ⟨_,_,_,_,rfl,bel⟩
end Go.Proofs.YtfkgmbknfnhjoaaGreat.Fs
namespace Go.Proofs.YtfkgmbknfnhjoaaGreat.Fs
open Lib (hid)
open Go.RowKit
set_option linter.unusedSimpArgs false
set_option linter.unusedVariables false
theorem ended_yes (s:Int) (w:World) (h:tabOk 11 s=true):Calls Tryz.prog 119 #[.int .i64 s] w (MYes 11 s w):=by
 obtain⟨-,-,h0,h9⟩:=tabOk_in h
 have hs:s=2∨s=3∨s=4∨s=5∨s=6∨s=7∨s=8∨s=9:=by
  rcases ten h0 h9 with rfl|rfl|rfl|rfl|rfl|rfl|rfl|rfl|rfl|rfl<;>first|decide|(exfalso;revert h;decide)
 clear h h0 h9
 rcases hs with rfl|rfl|rfl|rfl|rfl|rfl|rfl|rfl
 all_goals go_enter Tryz.func119,Tryz.ntmps119
 all_goals go_wp2_with (first|(go_at_call 150;refine(only_any _ _).mono ?_;rintro e w1 ⟨rfl,rfl⟩)|(go_at_call 151;refine(by_any _ _ _ _ _).mono ?_;rintro e w1 ⟨rfl,rfl⟩)|(go_at_call 152;refine(stays_any _ _ _ _ _).mono ?_;rintro e w1 ⟨rfl,hb⟩;obtain⟨xs,d,rfl⟩:=ext_of hb;clear hb)|(go_at_call 155;refine(ends_any _ _).mono ?_;rintro e w1 ⟨rfl,rfl⟩)|(go_at_call 87;refine(asks_any _ _).mono ?_;rintro e w1 ⟨rfl,rfl⟩)|(go_at_call 156;refine(lower_any _ _).mono ?_;rintro e w1 ⟨rfl,rfl⟩))
 ·exact bodyPost_ret (v:=.tuple #[.agg #[.slice (some ⟨w.heap.size+1,0,none⟩) 1 1,.int .i64 2],.bool true]) (by simp[results,Tryz.results119,go_sem,lowerS]) rfl ⟨.slice (some ⟨w.heap.size+1,0,none⟩) 1 1,rfl,bel,lit⟩
 ·exact bodyPost_ret (v:=.tuple #[.agg #[.slice (some ⟨w.heap.size+1,0,none⟩) 1 1,.int .i64 3],.bool true]) (by simp[results,Tryz.results119,go_sem,lowerS]) rfl ⟨.slice (some ⟨w.heap.size+1,0,none⟩) 1 1,rfl,bel,lit⟩
 ·exact bodyPost_ret (v:=.tuple #[.agg #[.slice (some ⟨w.heap.size+1,0,none⟩) 1 1,.int .i64 4],.bool true]) (by simp[results,Tryz.results119,go_sem,lowerS]) rfl ⟨.slice (some ⟨w.heap.size+1,0,none⟩) 1 1,rfl,bel,lit⟩
 ·exact bodyPost_ret (v:=.tuple #[.agg #[.slice (some ⟨w.heap.size+1,0,none⟩) 1 1,.int .i64 5],.bool true]) (by simp[results,Tryz.results119,go_sem,lowerS]) rfl ⟨.slice (some ⟨w.heap.size+1,0,none⟩) 1 1,rfl,bel,lit⟩
 ·exact bodyPost_ret (v:=.tuple #[.agg #[.slice (some ⟨w.heap.size+1,0,none⟩) 1 1,.int .i64 6],.bool true]) (by simp[results,Tryz.results119,go_sem,lowerS]) rfl ⟨.slice (some ⟨w.heap.size+1,0,none⟩) 1 1,rfl,bel,lit⟩
 ·exact bodyPost_ret (v:=.tuple #[.agg #[.slice (some ⟨w.heap.size+1,0,none⟩) 1 1,.int .i64 6],.bool true]) (by simp[results,Tryz.results119,go_sem,lowerS]) rfl ⟨.slice (some ⟨w.heap.size+1,0,none⟩) 1 1,rfl,bel,lit⟩
 ·exact bodyPost_ret (v:=.tuple #[.agg #[.slice (some ⟨w.heap.size+1,0,none⟩) 1 1,.int .i64 6],.bool true]) (by simp[results,Tryz.results119,go_sem,lowerS]) rfl ⟨.slice (some ⟨w.heap.size+1,0,none⟩) 1 1,rfl,bel,lit⟩
 ·exact bodyPost_ret (v:=.tuple #[.agg #[.slice (some ⟨w.heap.size+1,0,none⟩) 3 3,.int .i64 5],.bool true]) (by simp[results,Tryz.results119,go_sem,lowerS]) rfl ⟨.slice (some ⟨w.heap.size+1,0,none⟩) 3 3,rfl,bel,lit⟩
theorem ended_no (s:Int) (w:World) (h0:0≤s) (h9:s≤9) (h:tabOk 11 s=false):Calls Tryz.prog 119 #[.int .i64 s] w (MNo w):=by
 have hs:s=0∨s=1:=by
  rcases ten h0 h9 with rfl|rfl|rfl|rfl|rfl|rfl|rfl|rfl|rfl|rfl<;>first|decide|(exfalso;revert h;decide)
 clear h h0 h9
 rcases hs with rfl|rfl
 all_goals go_enter Tryz.func119,Tryz.ntmps119
 all_goals go_wp2_with (first|(go_at_call 150;refine(only_any _ _).mono ?_;rintro e w1 ⟨rfl,rfl⟩)|(go_at_call 151;refine(by_any _ _ _ _ _).mono ?_;rintro e w1 ⟨rfl,rfl⟩)|(go_at_call 152;refine(stays_any _ _ _ _ _).mono ?_;rintro e w1 ⟨rfl,hb⟩;obtain⟨xs,d,rfl⟩:=ext_of hb;clear hb)|(go_at_call 155;refine(ends_any _ _).mono ?_;rintro e w1 ⟨rfl,rfl⟩)|(go_at_call 87;refine(asks_any _ _).mono ?_;rintro e w1 ⟨rfl,rfl⟩)|(go_at_call 156;refine(lower_any _ _).mono ?_;rintro e w1 ⟨rfl,rfl⟩))
 ·exact bodyPost_ret (v:=.tuple #[.agg #[.slice none 0 0,.int .i64 0],.bool false]) (by simp[results,Tryz.results119,go_sem]) rfl ⟨_,_,_,_,rfl,bel⟩
 ·exact bodyPost_ret (v:=.tuple #[.agg #[.slice none 0 0,.int .i64 0],.bool false]) (by simp[results,Tryz.results119,go_sem]) rfl ⟨_,_,_,_,rfl,bel⟩
theorem over_yes (s:Int) (w:World) (h:tabOk 12 s=true):Calls Tryz.prog 120 #[.int .i64 s] w (MYes 12 s w):=by
 obtain⟨-,-,h0,h9⟩:=tabOk_in h
 have hs:s=2∨s=3∨s=4∨s=5∨s=6∨s=7∨s=8∨s=9:=by
  rcases ten h0 h9 with rfl|rfl|rfl|rfl|rfl|rfl|rfl|rfl|rfl|rfl<;>first|decide|(exfalso;revert h;decide)
 clear h h0 h9
 rcases hs with rfl|rfl|rfl|rfl|rfl|rfl|rfl|rfl
 all_goals go_enter Tryz.func120,Tryz.ntmps120
 all_goals go_wp2_with (first|(go_at_call 150;refine(only_any _ _).mono ?_;rintro e w1 ⟨rfl,rfl⟩)|(go_at_call 151;refine(by_any _ _ _ _ _).mono ?_;rintro e w1 ⟨rfl,rfl⟩)|(go_at_call 152;refine(stays_any _ _ _ _ _).mono ?_;rintro e w1 ⟨rfl,hb⟩;obtain⟨xs,d,rfl⟩:=ext_of hb;clear hb)|(go_at_call 155;refine(ends_any _ _).mono ?_;rintro e w1 ⟨rfl,rfl⟩)|(go_at_call 87;refine(asks_any _ _).mono ?_;rintro e w1 ⟨rfl,rfl⟩)|(go_at_call 156;refine(lower_any _ _).mono ?_;rintro e w1 ⟨rfl,rfl⟩))
 ·exact bodyPost_ret (v:=.tuple #[.agg #[.slice none 0 0,.int .i64 2],.bool true]) (by simp[results,Tryz.results120,go_sem,lowerS]) rfl ⟨.slice none 0 0,rfl,bel,own_nil _ _ _ _⟩
 ·exact bodyPost_ret (v:=.tuple #[.agg #[.slice none 0 0,.int .i64 3],.bool true]) (by simp[results,Tryz.results120,go_sem,lowerS]) rfl ⟨.slice none 0 0,rfl,bel,own_nil _ _ _ _⟩
 ·exact bodyPost_ret (v:=.tuple #[.agg #[.slice (some ⟨w.heap.size+1,0,none⟩) 1 1,.int .i64 2],.bool true]) (by simp[results,Tryz.results120,go_sem,lowerS]) rfl ⟨.slice (some ⟨w.heap.size+1,0,none⟩) 1 1,rfl,bel,lit⟩
 ·exact bodyPost_ret (v:=.tuple #[.agg #[.slice (some ⟨w.heap.size+1,0,none⟩) 1 1,.int .i64 3],.bool true]) (by simp[results,Tryz.results120,go_sem,lowerS]) rfl ⟨.slice (some ⟨w.heap.size+1,0,none⟩) 1 1,rfl,bel,lit⟩
 ·exact bodyPost_ret (v:=.tuple #[.agg #[.slice none 0 0,.int .i64 6],.bool true]) (by simp[results,Tryz.results120,go_sem,lowerS]) rfl ⟨.slice none 0 0,rfl,bel,own_nil _ _ _ _⟩
 ·exact bodyPost_ret (v:=.tuple #[.agg #[.slice none 0 0,.int .i64 6],.bool true]) (by simp[results,Tryz.results120,go_sem,lowerS]) rfl ⟨.slice none 0 0,rfl,bel,own_nil _ _ _ _⟩
 ·exact bodyPost_ret (v:=.tuple #[.agg #[.slice none 0 0,.int .i64 8],.bool true]) (by simp[results,Tryz.results120,go_sem,lowerS]) rfl ⟨.slice none 0 0,rfl,bel,own_nil _ _ _ _⟩
 ·exact bodyPost_ret (v:=.tuple #[.agg #[.slice (some ⟨w.heap.size+1,0,none⟩) 2 2,.int .i64 6],.bool true]) (by simp[results,Tryz.results120,go_sem,lowerS]) rfl ⟨.slice (some ⟨w.heap.size+1,0,none⟩) 2 2,rfl,bel,lit⟩
theorem over_no (s:Int) (w:World) (h0:0≤s) (h9:s≤9) (h:tabOk 12 s=false):Calls Tryz.prog 120 #[.int .i64 s] w (MNo w):=by
 have hs:s=0∨s=1:=by
  rcases ten h0 h9 with rfl|rfl|rfl|rfl|rfl|rfl|rfl|rfl|rfl|rfl<;>first|decide|(exfalso;revert h;decide)
 clear h h0 h9
 rcases hs with rfl|rfl
 all_goals go_enter Tryz.func120,Tryz.ntmps120
 all_goals go_wp2_with (first|(go_at_call 150;refine(only_any _ _).mono ?_;rintro e w1 ⟨rfl,rfl⟩)|(go_at_call 151;refine(by_any _ _ _ _ _).mono ?_;rintro e w1 ⟨rfl,rfl⟩)|(go_at_call 152;refine(stays_any _ _ _ _ _).mono ?_;rintro e w1 ⟨rfl,hb⟩;obtain⟨xs,d,rfl⟩:=ext_of hb;clear hb)|(go_at_call 155;refine(ends_any _ _).mono ?_;rintro e w1 ⟨rfl,rfl⟩)|(go_at_call 87;refine(asks_any _ _).mono ?_;rintro e w1 ⟨rfl,rfl⟩)|(go_at_call 156;refine(lower_any _ _).mono ?_;rintro e w1 ⟨rfl,rfl⟩))
 ·exact bodyPost_ret (v:=.tuple #[.agg #[.slice none 0 0,.int .i64 0],.bool false]) (by simp[results,Tryz.results120,go_sem]) rfl ⟨_,_,_,_,rfl,bel⟩
 ·exact bodyPost_ret (v:=.tuple #[.agg #[.slice none 0 0,.int .i64 0],.bool false]) (by simp[results,Tryz.results120,go_sem]) rfl ⟨_,_,_,_,rfl,bel⟩
theorem strange_yes (s:Int) (w:World) (h:tabOk 13 s=true):Calls Tryz.prog 121 #[.int .i64 s] w (MYes 13 s w):=by
 obtain⟨-,-,h0,h9⟩:=tabOk_in h
 have hs:s=2∨s=3∨s=4∨s=5∨s=6∨s=7∨s=8∨s=9:=by
  rcases ten h0 h9 with rfl|rfl|rfl|rfl|rfl|rfl|rfl|rfl|rfl|rfl<;>first|decide|(exfalso;revert h;decide)
 clear h h0 h9
 rcases hs with rfl|rfl|rfl|rfl|rfl|rfl|rfl|rfl
 all_goals go_enter Tryz.func121,Tryz.ntmps121
 all_goals go_wp2_with (first|(go_at_call 150;refine(only_any _ _).mono ?_;rintro e w1 ⟨rfl,rfl⟩)|(go_at_call 151;refine(by_any _ _ _ _ _).mono ?_;rintro e w1 ⟨rfl,rfl⟩)|(go_at_call 152;refine(stays_any _ _ _ _ _).mono ?_;rintro e w1 ⟨rfl,hb⟩;obtain⟨xs,d,rfl⟩:=ext_of hb;clear hb)|(go_at_call 155;refine(ends_any _ _).mono ?_;rintro e w1 ⟨rfl,rfl⟩)|(go_at_call 87;refine(asks_any _ _).mono ?_;rintro e w1 ⟨rfl,rfl⟩)|(go_at_call 156;refine(lower_any _ _).mono ?_;rintro e w1 ⟨rfl,rfl⟩))
 ·exact bodyPost_ret (v:=.tuple #[.agg #[.slice (some ⟨w.heap.size+1,0,none⟩) 1 1,.int .i64 2],.bool true]) (by simp[results,Tryz.results121,go_sem,lowerS]) rfl ⟨.slice (some ⟨w.heap.size+1,0,none⟩) 1 1,rfl,bel,lit⟩
 ·exact bodyPost_ret (v:=.tuple #[.agg #[.slice (some ⟨w.heap.size+1,0,none⟩) 1 1,.int .i64 3],.bool true]) (by simp[results,Tryz.results121,go_sem,lowerS]) rfl ⟨.slice (some ⟨w.heap.size+1,0,none⟩) 1 1,rfl,bel,lit⟩
 ·exact bodyPost_ret (v:=.tuple #[.agg #[.slice (some ⟨w.heap.size+1,0,none⟩) 1 1,.int .i64 4],.bool true]) (by simp[results,Tryz.results121,go_sem,lowerS]) rfl ⟨.slice (some ⟨w.heap.size+1,0,none⟩) 1 1,rfl,bel,lit⟩
 ·exact bodyPost_ret (v:=.tuple #[.agg #[.slice (some ⟨w.heap.size+1,0,none⟩) 1 1,.int .i64 5],.bool true]) (by simp[results,Tryz.results121,go_sem,lowerS]) rfl ⟨.slice (some ⟨w.heap.size+1,0,none⟩) 1 1,rfl,bel,lit⟩
 ·exact bodyPost_ret (v:=.tuple #[.agg #[.slice (some ⟨w.heap.size+1,0,none⟩) 1 1,.int .i64 6],.bool true]) (by simp[results,Tryz.results121,go_sem,lowerS]) rfl ⟨.slice (some ⟨w.heap.size+1,0,none⟩) 1 1,rfl,bel,lit⟩
 ·exact bodyPost_ret (v:=.tuple #[.agg #[.slice (some ⟨w.heap.size+1,0,none⟩) 1 1,.int .i64 7],.bool true]) (by simp[results,Tryz.results121,go_sem,lowerS]) rfl ⟨.slice (some ⟨w.heap.size+1,0,none⟩) 1 1,rfl,bel,lit⟩
 ·exact bodyPost_ret (v:=.tuple #[.agg #[.slice (some ⟨w.heap.size+1,0,none⟩) 1 1,.int .i64 8],.bool true]) (by simp[results,Tryz.results121,go_sem,lowerS]) rfl ⟨.slice (some ⟨w.heap.size+1,0,none⟩) 1 1,rfl,bel,lit⟩
 ·exact bodyPost_ret (v:=.tuple #[.agg #[.slice (some ⟨w.heap.size+1,0,none⟩) 1 1,.int .i64 9],.bool true]) (by simp[results,Tryz.results121,go_sem,lowerS]) rfl ⟨.slice (some ⟨w.heap.size+1,0,none⟩) 1 1,rfl,bel,lit⟩
theorem strange_no (s:Int) (w:World) (h0:0≤s) (h9:s≤9) (h:tabOk 13 s=false):Calls Tryz.prog 121 #[.int .i64 s] w (MNo w):=by
 have hs:s=0∨s=1:=by
  rcases ten h0 h9 with rfl|rfl|rfl|rfl|rfl|rfl|rfl|rfl|rfl|rfl<;>first|decide|(exfalso;revert h;decide)
 clear h h0 h9
 rcases hs with rfl|rfl
 all_goals go_enter Tryz.func121,Tryz.ntmps121
 all_goals go_wp2_with (first|(go_at_call 150;refine(only_any _ _).mono ?_;rintro e w1 ⟨rfl,rfl⟩)|(go_at_call 151;refine(by_any _ _ _ _ _).mono ?_;rintro e w1 ⟨rfl,rfl⟩)|(go_at_call 152;refine(stays_any _ _ _ _ _).mono ?_;rintro e w1 ⟨rfl,hb⟩;obtain⟨xs,d,rfl⟩:=ext_of hb;clear hb)|(go_at_call 155;refine(ends_any _ _).mono ?_;rintro e w1 ⟨rfl,rfl⟩)|(go_at_call 87;refine(asks_any _ _).mono ?_;rintro e w1 ⟨rfl,rfl⟩)|(go_at_call 156;refine(lower_any _ _).mono ?_;rintro e w1 ⟨rfl,rfl⟩))
 ·exact bodyPost_ret (v:=.tuple #[.agg #[.slice (some ⟨w.heap.size+1,0,none⟩) 1 1,.int .i64 0],.bool false]) (by simp[results,Tryz.results121,go_sem]) rfl ⟨_,_,_,_,rfl,bel⟩
 ·exact bodyPost_ret (v:=.tuple #[.agg #[.slice (some ⟨w.heap.size+1,0,none⟩) 1 1,.int .i64 1],.bool false]) (by simp[results,Tryz.results121,go_sem]) rfl ⟨_,_,_,_,rfl,bel⟩
end Go.Proofs.YtfkgmbknfnhjoaaGreat.Fs
namespace Go.Proofs.YtfkgmbknfnhjoaaGreat.Fs
open Lib (hid)
open Go.RowKit
set_option linter.unusedSimpArgs false
set_option linter.unusedVariables false
theorem minor_yes (s:Int) (w:World) (h:tabOk 14 s=true):Calls Tryz.prog 122 #[.int .i64 s] w (MYes 14 s w):=by
 obtain⟨-,-,h0,h9⟩:=tabOk_in h
 have hs:s=2∨s=3∨s=4∨s=5∨s=6∨s=7∨s=8∨s=9:=by
  rcases ten h0 h9 with rfl|rfl|rfl|rfl|rfl|rfl|rfl|rfl|rfl|rfl<;>first|decide|(exfalso;revert h;decide)
 clear h h0 h9
 rcases hs with rfl|rfl|rfl|rfl|rfl|rfl|rfl|rfl
 all_goals go_enter Tryz.func122,Tryz.ntmps122
 all_goals go_wp2_with (first|(go_at_call 150;refine(only_any _ _).mono ?_;rintro e w1 ⟨rfl,rfl⟩)|(go_at_call 151;refine(by_any _ _ _ _ _).mono ?_;rintro e w1 ⟨rfl,rfl⟩)|(go_at_call 152;refine(stays_any _ _ _ _ _).mono ?_;rintro e w1 ⟨rfl,hb⟩;obtain⟨xs,d,rfl⟩:=ext_of hb;clear hb)|(go_at_call 155;refine(ends_any _ _).mono ?_;rintro e w1 ⟨rfl,rfl⟩)|(go_at_call 87;refine(asks_any _ _).mono ?_;rintro e w1 ⟨rfl,rfl⟩)|(go_at_call 156;refine(lower_any _ _).mono ?_;rintro e w1 ⟨rfl,rfl⟩))
 ·exact bodyPost_ret (v:=.tuple #[.agg #[.slice none 0 0,.int .i64 2],.bool true]) (by simp[results,Tryz.results122,go_sem,lowerS]) rfl ⟨.slice none 0 0,rfl,bel,own_nil _ _ _ _⟩
 ·exact bodyPost_ret (v:=.tuple #[.agg #[.slice none 0 0,.int .i64 3],.bool true]) (by simp[results,Tryz.results122,go_sem,lowerS]) rfl ⟨.slice none 0 0,rfl,bel,own_nil _ _ _ _⟩
 ·exact bodyPost_ret (v:=.tuple #[.agg #[.slice none 0 0,.int .i64 4],.bool true]) (by simp[results,Tryz.results122,go_sem,lowerS]) rfl ⟨.slice none 0 0,rfl,bel,own_nil _ _ _ _⟩
 ·exact bodyPost_ret (v:=.tuple #[.agg #[.slice none 0 0,.int .i64 5],.bool true]) (by simp[results,Tryz.results122,go_sem,lowerS]) rfl ⟨.slice none 0 0,rfl,bel,own_nil _ _ _ _⟩
 ·exact bodyPost_ret (v:=.tuple #[.agg #[.slice none 0 0,.int .i64 6],.bool true]) (by simp[results,Tryz.results122,go_sem,lowerS]) rfl ⟨.slice none 0 0,rfl,bel,own_nil _ _ _ _⟩
 ·exact bodyPost_ret (v:=.tuple #[.agg #[.slice none 0 0,.int .i64 6],.bool true]) (by simp[results,Tryz.results122,go_sem,lowerS]) rfl ⟨.slice none 0 0,rfl,bel,own_nil _ _ _ _⟩
 ·exact bodyPost_ret (v:=.tuple #[.agg #[.slice none 0 0,.int .i64 8],.bool true]) (by simp[results,Tryz.results122,go_sem,lowerS]) rfl ⟨.slice none 0 0,rfl,bel,own_nil _ _ _ _⟩
 ·exact bodyPost_ret (v:=.tuple #[.agg #[.slice none 0 0,.int .i64 9],.bool true]) (by simp[results,Tryz.results122,go_sem,lowerS]) rfl ⟨.slice none 0 0,rfl,bel,own_nil _ _ _ _⟩
theorem minor_no (s:Int) (w:World) (h0:0≤s) (h9:s≤9) (h:tabOk 14 s=false):Calls Tryz.prog 122 #[.int .i64 s] w (MNo w):=by
 have hs:s=0∨s=1:=by
  rcases ten h0 h9 with rfl|rfl|rfl|rfl|rfl|rfl|rfl|rfl|rfl|rfl<;>first|decide|(exfalso;revert h;decide)
 clear h h0 h9
 rcases hs with rfl|rfl
 all_goals go_enter Tryz.func122,Tryz.ntmps122
 all_goals go_wp2_with (first|(go_at_call 150;refine(only_any _ _).mono ?_;rintro e w1 ⟨rfl,rfl⟩)|(go_at_call 151;refine(by_any _ _ _ _ _).mono ?_;rintro e w1 ⟨rfl,rfl⟩)|(go_at_call 152;refine(stays_any _ _ _ _ _).mono ?_;rintro e w1 ⟨rfl,hb⟩;obtain⟨xs,d,rfl⟩:=ext_of hb;clear hb)|(go_at_call 155;refine(ends_any _ _).mono ?_;rintro e w1 ⟨rfl,rfl⟩)|(go_at_call 87;refine(asks_any _ _).mono ?_;rintro e w1 ⟨rfl,rfl⟩)|(go_at_call 156;refine(lower_any _ _).mono ?_;rintro e w1 ⟨rfl,rfl⟩))
 ·exact bodyPost_ret (v:=.tuple #[.agg #[.slice none 0 0,.int .i64 0],.bool false]) (by simp[results,Tryz.results122,go_sem]) rfl ⟨_,_,_,_,rfl,bel⟩
 ·exact bodyPost_ret (v:=.tuple #[.agg #[.slice none 0 0,.int .i64 1],.bool false]) (by simp[results,Tryz.results122,go_sem]) rfl ⟨_,_,_,_,rfl,bel⟩
theorem major_yes (s:Int) (w:World) (h:tabOk 15 s=true):Calls Tryz.prog 123 #[.int .i64 s] w (MYes 15 s w):=by
 obtain⟨-,-,h0,h9⟩:=tabOk_in h
 have hs:s=2∨s=3∨s=4∨s=5∨s=6∨s=7∨s=8∨s=9:=by
  rcases ten h0 h9 with rfl|rfl|rfl|rfl|rfl|rfl|rfl|rfl|rfl|rfl<;>first|decide|(exfalso;revert h;decide)
 clear h h0 h9
 rcases hs with rfl|rfl|rfl|rfl|rfl|rfl|rfl|rfl
 all_goals go_enter Tryz.func123,Tryz.ntmps123
 all_goals go_wp2_with (first|(go_at_call 150;refine(only_any _ _).mono ?_;rintro e w1 ⟨rfl,rfl⟩)|(go_at_call 151;refine(by_any _ _ _ _ _).mono ?_;rintro e w1 ⟨rfl,rfl⟩)|(go_at_call 152;refine(stays_any _ _ _ _ _).mono ?_;rintro e w1 ⟨rfl,hb⟩;obtain⟨xs,d,rfl⟩:=ext_of hb;clear hb)|(go_at_call 155;refine(ends_any _ _).mono ?_;rintro e w1 ⟨rfl,rfl⟩)|(go_at_call 87;refine(asks_any _ _).mono ?_;rintro e w1 ⟨rfl,rfl⟩)|(go_at_call 156;refine(lower_any _ _).mono ?_;rintro e w1 ⟨rfl,rfl⟩))
 ·exact bodyPost_ret (v:=.tuple #[.agg #[.slice (some ⟨w.heap.size+1,0,none⟩) 1 1,.int .i64 2],.bool true]) (by simp[results,Tryz.results123,go_sem,lowerS]) rfl ⟨.slice (some ⟨w.heap.size+1,0,none⟩) 1 1,rfl,bel,lit⟩
 ·exact bodyPost_ret (v:=.tuple #[.agg #[.slice (some ⟨w.heap.size+1,0,none⟩) 1 1,.int .i64 3],.bool true]) (by simp[results,Tryz.results123,go_sem,lowerS]) rfl ⟨.slice (some ⟨w.heap.size+1,0,none⟩) 1 1,rfl,bel,lit⟩
 ·exact bodyPost_ret (v:=.tuple #[.agg #[.slice (some ⟨w.heap.size+1,0,none⟩) 1 1,.int .i64 2],.bool true]) (by simp[results,Tryz.results123,go_sem,lowerS]) rfl ⟨.slice (some ⟨w.heap.size+1,0,none⟩) 1 1,rfl,bel,lit⟩
 ·exact bodyPost_ret (v:=.tuple #[.agg #[.slice (some ⟨w.heap.size+1,0,none⟩) 1 1,.int .i64 3],.bool true]) (by simp[results,Tryz.results123,go_sem,lowerS]) rfl ⟨.slice (some ⟨w.heap.size+1,0,none⟩) 1 1,rfl,bel,lit⟩
 ·exact bodyPost_ret (v:=.tuple #[.agg #[.slice (some ⟨w.heap.size+1,0,none⟩) 1 1,.int .i64 3],.bool true]) (by simp[results,Tryz.results123,go_sem,lowerS]) rfl ⟨.slice (some ⟨w.heap.size+1,0,none⟩) 1 1,rfl,bel,lit⟩
 ·exact bodyPost_ret (v:=.tuple #[.agg #[.slice (some ⟨w.heap.size+1,0,none⟩) 1 1,.int .i64 3],.bool true]) (by simp[results,Tryz.results123,go_sem,lowerS]) rfl ⟨.slice (some ⟨w.heap.size+1,0,none⟩) 1 1,rfl,bel,lit⟩
 ·exact bodyPost_ret (v:=.tuple #[.agg #[.slice (some ⟨w.heap.size+1,0,none⟩) 1 1,.int .i64 3],.bool true]) (by simp[results,Tryz.results123,go_sem,lowerS]) rfl ⟨.slice (some ⟨w.heap.size+1,0,none⟩) 1 1,rfl,bel,lit⟩
 ·exact bodyPost_ret (v:=.tuple #[.agg #[.slice (some ⟨w.heap.size+1,0,none⟩) 3 3,.int .i64 5],.bool true]) (by simp[results,Tryz.results123,go_sem,lowerS]) rfl ⟨.slice (some ⟨w.heap.size+1,0,none⟩) 3 3,rfl,bel,lit⟩
theorem major_no (s:Int) (w:World) (h0:0≤s) (h9:s≤9) (h:tabOk 15 s=false):Calls Tryz.prog 123 #[.int .i64 s] w (MNo w):=by
 have hs:s=0∨s=1:=by
  rcases ten h0 h9 with rfl|rfl|rfl|rfl|rfl|rfl|rfl|rfl|rfl|rfl<;>first|decide|(exfalso;revert h;decide)
 clear h h0 h9
 rcases hs with rfl|rfl
 all_goals go_enter Tryz.func123,Tryz.ntmps123
 all_goals go_wp2_with (first|(go_at_call 150;refine(only_any _ _).mono ?_;rintro e w1 ⟨rfl,rfl⟩)|(go_at_call 151;refine(by_any _ _ _ _ _).mono ?_;rintro e w1 ⟨rfl,rfl⟩)|(go_at_call 152;refine(stays_any _ _ _ _ _).mono ?_;rintro e w1 ⟨rfl,hb⟩;obtain⟨xs,d,rfl⟩:=ext_of hb;clear hb)|(go_at_call 155;refine(ends_any _ _).mono ?_;rintro e w1 ⟨rfl,rfl⟩)|(go_at_call 87;refine(asks_any _ _).mono ?_;rintro e w1 ⟨rfl,rfl⟩)|(go_at_call 156;refine(lower_any _ _).mono ?_;rintro e w1 ⟨rfl,rfl⟩))
 ·exact bodyPost_ret (v:=.tuple #[.agg #[.slice none 0 0,.int .i64 0],.bool false]) (by simp[results,Tryz.results123,go_sem]) rfl ⟨_,_,_,_,rfl,bel⟩
 ·exact bodyPost_ret (v:=.tuple #[.agg #[.slice none 0 0,.int .i64 0],.bool false]) (by simp[results,Tryz.results123,go_sem]) rfl ⟨_,_,_,_,rfl,bel⟩
theorem echo_yes (s:Int) (w:World) (h:tabOk 16 s=true):Calls Tryz.prog 124 #[.int .i64 s] w (MYes 16 s w):=by
 obtain⟨-,-,h0,h9⟩:=tabOk_in h
 have hs:s=2∨s=3∨s=4∨s=5∨s=6∨s=7∨s=8∨s=9:=by
  rcases ten h0 h9 with rfl|rfl|rfl|rfl|rfl|rfl|rfl|rfl|rfl|rfl<;>first|decide|(exfalso;revert h;decide)
 clear h h0 h9
 rcases hs with rfl|rfl|rfl|rfl|rfl|rfl|rfl|rfl
 all_goals go_enter Tryz.func124,Tryz.ntmps124
 all_goals go_wp2_with (first|(go_at_call 150;refine(only_any _ _).mono ?_;rintro e w1 ⟨rfl,rfl⟩)|(go_at_call 151;refine(by_any _ _ _ _ _).mono ?_;rintro e w1 ⟨rfl,rfl⟩)|(go_at_call 152;refine(stays_any _ _ _ _ _).mono ?_;rintro e w1 ⟨rfl,hb⟩;obtain⟨xs,d,rfl⟩:=ext_of hb;clear hb)|(go_at_call 155;refine(ends_any _ _).mono ?_;rintro e w1 ⟨rfl,rfl⟩)|(go_at_call 87;refine(asks_any _ _).mono ?_;rintro e w1 ⟨rfl,rfl⟩)|(go_at_call 156;refine(lower_any _ _).mono ?_;rintro e w1 ⟨rfl,rfl⟩))
 ·exact bodyPost_ret (v:=.tuple #[.agg #[.slice none 0 0,.int .i64 2],.bool true]) (by simp[results,Tryz.results124,go_sem,lowerS]) rfl ⟨.slice none 0 0,rfl,bel,own_nil _ _ _ _⟩
 ·exact bodyPost_ret (v:=.tuple #[.agg #[.slice none 0 0,.int .i64 3],.bool true]) (by simp[results,Tryz.results124,go_sem,lowerS]) rfl ⟨.slice none 0 0,rfl,bel,own_nil _ _ _ _⟩
 ·exact bodyPost_ret (v:=.tuple #[.agg #[.slice none 0 0,.int .i64 4],.bool true]) (by simp[results,Tryz.results124,go_sem,lowerS]) rfl ⟨.slice none 0 0,rfl,bel,own_nil _ _ _ _⟩
 ·exact bodyPost_ret (v:=.tuple #[.agg #[.slice none 0 0,.int .i64 5],.bool true]) (by simp[results,Tryz.results124,go_sem,lowerS]) rfl ⟨.slice none 0 0,rfl,bel,own_nil _ _ _ _⟩
 ·exact bodyPost_ret (v:=.tuple #[.agg #[.slice none 0 0,.int .i64 6],.bool true]) (by simp[results,Tryz.results124,go_sem,lowerS]) rfl ⟨.slice none 0 0,rfl,bel,own_nil _ _ _ _⟩
 ·exact bodyPost_ret (v:=.tuple #[.agg #[.slice none 0 0,.int .i64 7],.bool true]) (by simp[results,Tryz.results124,go_sem,lowerS]) rfl ⟨.slice none 0 0,rfl,bel,own_nil _ _ _ _⟩
 ·exact bodyPost_ret (v:=.tuple #[.agg #[.slice none 0 0,.int .i64 8],.bool true]) (by simp[results,Tryz.results124,go_sem,lowerS]) rfl ⟨.slice none 0 0,rfl,bel,own_nil _ _ _ _⟩
 ·exact bodyPost_ret (v:=.tuple #[.agg #[.slice (some ⟨w.heap.size+1,0,none⟩) 1 1,.int .i64 9],.bool true]) (by simp[results,Tryz.results124,go_sem,lowerS]) rfl ⟨.slice (some ⟨w.heap.size+1,0,none⟩) 1 1,rfl,bel,lit⟩
theorem echo_no (s:Int) (w:World) (h0:0≤s) (h9:s≤9) (h:tabOk 16 s=false):Calls Tryz.prog 124 #[.int .i64 s] w (MNo w):=by
 have hs:s=0∨s=1:=by
  rcases ten h0 h9 with rfl|rfl|rfl|rfl|rfl|rfl|rfl|rfl|rfl|rfl<;>first|decide|(exfalso;revert h;decide)
 clear h h0 h9
 rcases hs with rfl|rfl
 all_goals go_enter Tryz.func124,Tryz.ntmps124
 all_goals go_wp2_with (first|(go_at_call 150;refine(only_any _ _).mono ?_;rintro e w1 ⟨rfl,rfl⟩)|(go_at_call 151;refine(by_any _ _ _ _ _).mono ?_;rintro e w1 ⟨rfl,rfl⟩)|(go_at_call 152;refine(stays_any _ _ _ _ _).mono ?_;rintro e w1 ⟨rfl,hb⟩;obtain⟨xs,d,rfl⟩:=ext_of hb;clear hb)|(go_at_call 155;refine(ends_any _ _).mono ?_;rintro e w1 ⟨rfl,rfl⟩)|(go_at_call 87;refine(asks_any _ _).mono ?_;rintro e w1 ⟨rfl,rfl⟩)|(go_at_call 156;refine(lower_any _ _).mono ?_;rintro e w1 ⟨rfl,rfl⟩))
 ·exact bodyPost_ret (v:=.tuple #[.agg #[.slice none 0 0,.int .i64 0],.bool false]) (by simp[results,Tryz.results124,go_sem]) rfl ⟨_,_,_,_,rfl,bel⟩
 ·exact bodyPost_ret (v:=.tuple #[.agg #[.slice none 0 0,.int .i64 1],.bool false]) (by simp[results,Tryz.results124,go_sem]) rfl ⟨_,_,_,_,rfl,bel⟩
end Go.Proofs.YtfkgmbknfnhjoaaGreat.Fs
namespace Go.Proofs.YtfkgmbknfnhjoaaGreat.Fs
open Lib (hid)
open Go.RowKit
set_option linter.unusedSimpArgs false
set_option linter.unusedVariables false
theorem asked7_yes (s:Int) (w:World) (h:tabOk 7 s=true):Calls Tryz.prog 153 #[.int .i64 s,.int .i64 8] w (MYes 7 s w):=by
 obtain⟨-,-,h0,h9⟩:=tabOk_in h
 have hs:s=2∨s=3∨s=4∨s=5∨s=6∨s=7∨s=8∨s=9:=by
  rcases ten h0 h9 with rfl|rfl|rfl|rfl|rfl|rfl|rfl|rfl|rfl|rfl<;>first|decide|(exfalso;revert h;decide)
 clear h h0 h9
 rcases hs with rfl|rfl|rfl|rfl|rfl|rfl|rfl|rfl
 all_goals go_enter Tryz.func153,Tryz.ntmps153
 all_goals go_wp2_with (first|(go_at_call 150;refine(only_any _ _).mono ?_;rintro e w1 ⟨rfl,rfl⟩)|(go_at_call 151;refine(by_any _ _ _ _ _).mono ?_;rintro e w1 ⟨rfl,rfl⟩)|(go_at_call 152;refine(stays_any _ _ _ _ _).mono ?_;rintro e w1 ⟨rfl,hb⟩;obtain⟨xs,d,rfl⟩:=ext_of hb;clear hb)|(go_at_call 155;refine(ends_any _ _).mono ?_;rintro e w1 ⟨rfl,rfl⟩)|(go_at_call 87;refine(asks_any _ _).mono ?_;rintro e w1 ⟨rfl,rfl⟩)|(go_at_call 156;refine(lower_any _ _).mono ?_;rintro e w1 ⟨rfl,rfl⟩))
 ·exact bodyPost_ret (v:=.tuple #[.agg #[.slice (some ⟨w.heap.size+1,0,none⟩) 1 1,.int .i64 2],.bool true]) (by simp[results,Tryz.results153,go_sem]) rfl ⟨.slice (some ⟨w.heap.size+1,0,none⟩) 1 1,rfl,bel,lit⟩
 ·exact bodyPost_ret (v:=.tuple #[.agg #[.slice (some ⟨w.heap.size+1,0,none⟩) 3 3,.int .i64 8],.bool true]) (by simp[results,Tryz.results153,go_sem]) rfl ⟨.slice (some ⟨w.heap.size+1,0,none⟩) 3 3,rfl,bel,lit⟩
 ·exact bodyPost_ret (v:=.tuple #[.agg #[.slice none 0 0,.int .i64 4],.bool true]) (by simp[results,Tryz.results153,go_sem]) rfl ⟨.slice none 0 0,rfl,bel,own_nil _ _ _ _⟩
 ·exact bodyPost_ret (v:=.tuple #[.agg #[.slice none 0 0,.int .i64 5],.bool true]) (by simp[results,Tryz.results153,go_sem]) rfl ⟨.slice none 0 0,rfl,bel,own_nil _ _ _ _⟩
 ·exact bodyPost_ret (v:=.tuple #[.agg #[.slice (some ⟨w.heap.size+1,0,none⟩) 1 1,.int .i64 8],.bool true]) (by simp[results,Tryz.results153,go_sem]) rfl ⟨.slice (some ⟨w.heap.size+1,0,none⟩) 1 1,rfl,bel,lit⟩
 ·exact bodyPost_ret (v:=.tuple #[.agg #[.slice (some ⟨w.heap.size+1,0,none⟩) 2 2,.int .i64 9],.bool true]) (by simp[results,Tryz.results153,go_sem]) rfl ⟨.slice (some ⟨w.heap.size+1,0,none⟩) 2 2,rfl,bel,lit⟩
 ·exact bodyPost_ret (v:=.tuple #[.agg #[.slice (some ⟨w.heap.size+1,0,none⟩) 1 1,.int .i64 8],.bool true]) (by simp[results,Tryz.results153,go_sem]) rfl ⟨.slice (some ⟨w.heap.size+1,0,none⟩) 1 1,rfl,bel,lit⟩
 ·exact bodyPost_ret (v:=.tuple #[.agg #[.slice (some ⟨w.heap.size+1,0,none⟩) 3 3,.int .i64 8],.bool true]) (by simp[results,Tryz.results153,go_sem]) rfl ⟨.slice (some ⟨w.heap.size+1,0,none⟩) 3 3,rfl,bel,lit⟩
theorem asked7_no (s:Int) (w:World) (h0:0≤s) (h9:s≤9) (h:tabOk 7 s=false):Calls Tryz.prog 153 #[.int .i64 s,.int .i64 8] w (MNo w):=by
 have hs:s=0∨s=1:=by
  rcases ten h0 h9 with rfl|rfl|rfl|rfl|rfl|rfl|rfl|rfl|rfl|rfl<;>first|decide|(exfalso;revert h;decide)
 clear h h0 h9
 rcases hs with rfl|rfl
 all_goals go_enter Tryz.func153,Tryz.ntmps153
 all_goals go_wp2_with (first|(go_at_call 150;refine(only_any _ _).mono ?_;rintro e w1 ⟨rfl,rfl⟩)|(go_at_call 151;refine(by_any _ _ _ _ _).mono ?_;rintro e w1 ⟨rfl,rfl⟩)|(go_at_call 152;refine(stays_any _ _ _ _ _).mono ?_;rintro e w1 ⟨rfl,hb⟩;obtain⟨xs,d,rfl⟩:=ext_of hb;clear hb)|(go_at_call 155;refine(ends_any _ _).mono ?_;rintro e w1 ⟨rfl,rfl⟩)|(go_at_call 87;refine(asks_any _ _).mono ?_;rintro e w1 ⟨rfl,rfl⟩)|(go_at_call 156;refine(lower_any _ _).mono ?_;rintro e w1 ⟨rfl,rfl⟩))
 ·exact bodyPost_ret (v:=.tuple #[.agg #[.slice none 0 0,.int .i64 0],.bool false]) (by simp[results,Tryz.results153,go_sem]) rfl ⟨_,_,_,_,rfl,by exact bel⟩
 ·exact bodyPost_ret (v:=.tuple #[.agg #[.slice none 0 0,.int .i64 0],.bool false]) (by simp[results,Tryz.results153,go_sem]) rfl ⟨_,_,_,_,rfl,by exact bel⟩
theorem good_yes (s:Int) (w:World) (h:tabOk 7 s=true):Calls Tryz.prog 115 #[.int .i64 s] w (MYes 7 s w):=by
 have H:=hid h
 clear h
 go_enter Tryz.func115,Tryz.ntmps115
 go_wp2_with (go_at_call 153;refine(asked7_yes s _ H.out).mono ?_;rintro e w1 ⟨v,rfl,hb,ho⟩;obtain⟨xs,d,rfl⟩:=ext_of hb;clear hb;obtain⟨A,c,rfl,-,-⟩:=ownsRow_form ho;have HA:=hid ho;clear ho)
 exact bodyPost_ret (v:=.tuple #[.agg #[.slice A _ c,.int .i64 _],.bool true]) (by simp[results,Tryz.results115,go_sem]) rfl ⟨_,rfl,by exact bel,own_base (own_swap HA.out (by simp) (Nat.le_refl _)) (by simp)⟩
theorem good_no (s:Int) (w:World) (h0:0≤s) (h9:s≤9) (h:tabOk 7 s=false):Calls Tryz.prog 115 #[.int .i64 s] w (MNo w):=by
 have H:=hid (And.intro h0 (And.intro h9 h))
 clear h h0 h9
 go_enter Tryz.func115,Tryz.ntmps115
 go_wp2_with (go_at_call 153;refine(asked7_no s _ H.out.1 H.out.2.1 H.out.2.2).mono ?_;rintro e w1 ⟨A,n,c,y,rfl,hb⟩;obtain⟨xs,d,rfl⟩:=ext_of hb;clear hb)
 exact bodyPost_ret (v:=.tuple #[.agg #[.slice A n c,.int .i64 y],.bool false]) (by simp[results,Tryz.results115,go_sem]) rfl ⟨_,_,_,_,rfl,by exact bel⟩
end Go.Proofs.YtfkgmbknfnhjoaaGreat.Fs
namespace Go.Proofs.YtfkgmbknfnhjoaaGreat.Fs
open Lib (hid)
open Go.RowKit
set_option linter.unusedSimpArgs false
set_option linter.unusedVariables false
theorem asked8_yes (s:Int) (w:World) (h:tabOk 8 s=true):Calls Tryz.prog 153 #[.int .i64 s,.int .i64 9] w (MYes 8 s w):=by
 obtain⟨-,-,h0,h9⟩:=tabOk_in h
 have hs:s=2∨s=3∨s=4∨s=5∨s=6∨s=7∨s=8∨s=9:=by
  rcases ten h0 h9 with rfl|rfl|rfl|rfl|rfl|rfl|rfl|rfl|rfl|rfl<;>first|decide|(exfalso;revert h;decide)
 clear h h0 h9
 rcases hs with rfl|rfl|rfl|rfl|rfl|rfl|rfl|rfl
 all_goals go_enter Tryz.func153,Tryz.ntmps153
 all_goals go_wp2_with (first|(go_at_call 150;refine(only_any _ _).mono ?_;rintro e w1 ⟨rfl,rfl⟩)|(go_at_call 151;refine(by_any _ _ _ _ _).mono ?_;rintro e w1 ⟨rfl,rfl⟩)|(go_at_call 152;refine(stays_any _ _ _ _ _).mono ?_;rintro e w1 ⟨rfl,hb⟩;obtain⟨xs,d,rfl⟩:=ext_of hb;clear hb)|(go_at_call 155;refine(ends_any _ _).mono ?_;rintro e w1 ⟨rfl,rfl⟩)|(go_at_call 87;refine(asks_any _ _).mono ?_;rintro e w1 ⟨rfl,rfl⟩)|(go_at_call 156;refine(lower_any _ _).mono ?_;rintro e w1 ⟨rfl,rfl⟩))
 ·exact bodyPost_ret (v:=.tuple #[.agg #[.slice (some ⟨w.heap.size+1,0,none⟩) 1 1,.int .i64 2],.bool true]) (by simp[results,Tryz.results153,go_sem]) rfl ⟨.slice (some ⟨w.heap.size+1,0,none⟩) 1 1,rfl,bel,lit⟩
 ·exact bodyPost_ret (v:=.tuple #[.agg #[.slice (some ⟨w.heap.size+1,0,none⟩) 3 3,.int .i64 6],.bool true]) (by simp[results,Tryz.results153,go_sem]) rfl ⟨.slice (some ⟨w.heap.size+1,0,none⟩) 3 3,rfl,bel,lit⟩
 ·exact bodyPost_ret (v:=.tuple #[.agg #[.slice none 0 0,.int .i64 4],.bool true]) (by simp[results,Tryz.results153,go_sem]) rfl ⟨.slice none 0 0,rfl,bel,own_nil _ _ _ _⟩
 ·exact bodyPost_ret (v:=.tuple #[.agg #[.slice none 0 0,.int .i64 5],.bool true]) (by simp[results,Tryz.results153,go_sem]) rfl ⟨.slice none 0 0,rfl,bel,own_nil _ _ _ _⟩
 ·exact bodyPost_ret (v:=.tuple #[.agg #[.slice (some ⟨w.heap.size+1,0,none⟩) 1 1,.int .i64 6],.bool true]) (by simp[results,Tryz.results153,go_sem]) rfl ⟨.slice (some ⟨w.heap.size+1,0,none⟩) 1 1,rfl,bel,lit⟩
 ·exact bodyPost_ret (v:=.tuple #[.agg #[.slice (some ⟨w.heap.size+1,0,none⟩) 1 1,.int .i64 7],.bool true]) (by simp[results,Tryz.results153,go_sem]) rfl ⟨.slice (some ⟨w.heap.size+1,0,none⟩) 1 1,rfl,bel,lit⟩
 ·exact bodyPost_ret (v:=.tuple #[.agg #[.slice (some ⟨w.heap.size+1,0,none⟩) 1 1,.int .i64 6],.bool true]) (by simp[results,Tryz.results153,go_sem]) rfl ⟨.slice (some ⟨w.heap.size+1,0,none⟩) 1 1,rfl,bel,lit⟩
 ·exact bodyPost_ret (v:=.tuple #[.agg #[.slice (some ⟨w.heap.size+1,0,none⟩) 3 3,.int .i64 6],.bool true]) (by simp[results,Tryz.results153,go_sem]) rfl ⟨.slice (some ⟨w.heap.size+1,0,none⟩) 3 3,rfl,bel,lit⟩
theorem asked8_no (s:Int) (w:World) (h0:0≤s) (h9:s≤9) (h:tabOk 8 s=false):Calls Tryz.prog 153 #[.int .i64 s,.int .i64 9] w (MNo w):=by
 have hs:s=0∨s=1:=by
  rcases ten h0 h9 with rfl|rfl|rfl|rfl|rfl|rfl|rfl|rfl|rfl|rfl<;>first|decide|(exfalso;revert h;decide)
 clear h h0 h9
 rcases hs with rfl|rfl
 all_goals go_enter Tryz.func153,Tryz.ntmps153
 all_goals go_wp2_with (first|(go_at_call 150;refine(only_any _ _).mono ?_;rintro e w1 ⟨rfl,rfl⟩)|(go_at_call 151;refine(by_any _ _ _ _ _).mono ?_;rintro e w1 ⟨rfl,rfl⟩)|(go_at_call 152;refine(stays_any _ _ _ _ _).mono ?_;rintro e w1 ⟨rfl,hb⟩;obtain⟨xs,d,rfl⟩:=ext_of hb;clear hb)|(go_at_call 155;refine(ends_any _ _).mono ?_;rintro e w1 ⟨rfl,rfl⟩)|(go_at_call 87;refine(asks_any _ _).mono ?_;rintro e w1 ⟨rfl,rfl⟩)|(go_at_call 156;refine(lower_any _ _).mono ?_;rintro e w1 ⟨rfl,rfl⟩))
 ·exact bodyPost_ret (v:=.tuple #[.agg #[.slice none 0 0,.int .i64 0],.bool false]) (by simp[results,Tryz.results153,go_sem]) rfl ⟨_,_,_,_,rfl,by exact bel⟩
 ·exact bodyPost_ret (v:=.tuple #[.agg #[.slice none 0 0,.int .i64 0],.bool false]) (by simp[results,Tryz.results153,go_sem]) rfl ⟨_,_,_,_,rfl,by exact bel⟩
theorem bad_yes (s:Int) (w:World) (h:tabOk 8 s=true):Calls Tryz.prog 116 #[.int .i64 s] w (MYes 8 s w):=by
 have H:=hid h
 clear h
 go_enter Tryz.func116,Tryz.ntmps116
 go_wp2_with (go_at_call 153;refine(asked8_yes s _ H.out).mono ?_;rintro e w1 ⟨v,rfl,hb,ho⟩;obtain⟨xs,d,rfl⟩:=ext_of hb;clear hb;obtain⟨A,c,rfl,-,-⟩:=ownsRow_form ho;have HA:=hid ho;clear ho)
 exact bodyPost_ret (v:=.tuple #[.agg #[.slice A _ c,.int .i64 _],.bool true]) (by simp[results,Tryz.results116,go_sem]) rfl ⟨_,rfl,by exact bel,own_base (own_swap HA.out (by simp) (Nat.le_refl _)) (by simp)⟩
theorem bad_no (s:Int) (w:World) (h0:0≤s) (h9:s≤9) (h:tabOk 8 s=false):Calls Tryz.prog 116 #[.int .i64 s] w (MNo w):=by
 have H:=hid (And.intro h0 (And.intro h9 h))
 clear h h0 h9
 go_enter Tryz.func116,Tryz.ntmps116
 go_wp2_with (go_at_call 153;refine(asked8_no s _ H.out.1 H.out.2.1 H.out.2.2).mono ?_;rintro e w1 ⟨A,n,c,y,rfl,hb⟩;obtain⟨xs,d,rfl⟩:=ext_of hb;clear hb)
 exact bodyPost_ret (v:=.tuple #[.agg #[.slice A n c,.int .i64 y],.bool false]) (by simp[results,Tryz.results116,go_sem]) rfl ⟨_,_,_,_,rfl,by exact bel⟩
end Go.Proofs.YtfkgmbknfnhjoaaGreat.Fs
namespace Go.Proofs.YtfkgmbknfnhjoaaGreat.Fs
open Lib (hid)
open Go.RowKit
set_option linter.unusedSimpArgs false
set_option linter.unusedVariables false
theorem rest9_yes (s:Int) (w:World) (hs:s=2∨s=3∨s=4∨s=5):Calls Tryz.prog 154 #[.int .i64 s] w (MYes 9 s w):=by
 rcases hs with rfl|rfl|rfl|rfl
 all_goals go_enter Tryz.func154,Tryz.ntmps154
 all_goals go_wp2_with (first|(go_at_call 150;refine(only_any _ _).mono ?_;rintro e w1 ⟨rfl,rfl⟩)|(go_at_call 151;refine(by_any _ _ _ _ _).mono ?_;rintro e w1 ⟨rfl,rfl⟩)|(go_at_call 152;refine(stays_any _ _ _ _ _).mono ?_;rintro e w1 ⟨rfl,hb⟩;obtain⟨xs,d,rfl⟩:=ext_of hb;clear hb)|(go_at_call 155;refine(ends_any _ _).mono ?_;rintro e w1 ⟨rfl,rfl⟩)|(go_at_call 87;refine(asks_any _ _).mono ?_;rintro e w1 ⟨rfl,rfl⟩)|(go_at_call 156;refine(lower_any _ _).mono ?_;rintro e w1 ⟨rfl,rfl⟩))
 ·exact bodyPost_ret (v:=.tuple #[.agg #[.slice (some ⟨w.heap.size+1,0,none⟩) 1 1,.int .i64 2],.bool true]) (by simp[results,Tryz.results154,go_sem]) rfl ⟨.slice (some ⟨w.heap.size+1,0,none⟩) 1 1,rfl,bel,lit⟩
 ·exact bodyPost_ret (v:=.tuple #[.agg #[.slice (some ⟨w.heap.size+1,0,none⟩) 1 1,.int .i64 3],.bool true]) (by simp[results,Tryz.results154,go_sem]) rfl ⟨.slice (some ⟨w.heap.size+1,0,none⟩) 1 1,rfl,bel,lit⟩
 ·exact bodyPost_ret (v:=.tuple #[.agg #[.slice none 0 0,.int .i64 4],.bool true]) (by simp[results,Tryz.results154,go_sem]) rfl ⟨.slice none 0 0,rfl,bel,own_nil _ _ _ _⟩
 ·exact bodyPost_ret (v:=.tuple #[.agg #[.slice none 0 0,.int .i64 5],.bool true]) (by simp[results,Tryz.results154,go_sem]) rfl ⟨.slice none 0 0,rfl,bel,own_nil _ _ _ _⟩
theorem acked_yes (s:Int) (w:World) (h:tabOk 9 s=true):Calls Tryz.prog 117 #[.int .i64 s] w (MYes 9 s w):=by
 obtain⟨-,-,h0,h9⟩:=tabOk_in h
 have hs:s=2∨s=3∨s=4∨s=5∨s=6∨s=7∨s=8∨s=9:=by
  rcases ten h0 h9 with rfl|rfl|rfl|rfl|rfl|rfl|rfl|rfl|rfl|rfl<;>first|decide|(exfalso;revert h;decide)
 clear h h0 h9
 rcases hs with rfl|rfl|rfl|rfl|rfl|rfl|rfl|rfl
 all_goals go_enter Tryz.func117,Tryz.ntmps117
 all_goals go_wp2_with (first|(go_at_call 154;refine(rest9_yes _ _ (by decide)).mono ?_;rintro e w1 ⟨v,rfl,hb,ho⟩;obtain⟨xs,d,rfl⟩:=ext_of hb;clear hb;obtain⟨A,c,rfl,-,-⟩:=ownsRow_form ho;have HA:=hid ho;clear ho)|(first|(go_at_call 150;refine(only_any _ _).mono ?_;rintro e w1 ⟨rfl,rfl⟩)|(go_at_call 151;refine(by_any _ _ _ _ _).mono ?_;rintro e w1 ⟨rfl,rfl⟩)|(go_at_call 152;refine(stays_any _ _ _ _ _).mono ?_;rintro e w1 ⟨rfl,hb⟩;obtain⟨xs,d,rfl⟩:=ext_of hb;clear hb)|(go_at_call 155;refine(ends_any _ _).mono ?_;rintro e w1 ⟨rfl,rfl⟩)|(go_at_call 87;refine(asks_any _ _).mono ?_;rintro e w1 ⟨rfl,rfl⟩)|(go_at_call 156;refine(lower_any _ _).mono ?_;rintro e w1 ⟨rfl,rfl⟩)))
 ·exact bodyPost_ret (v:=.tuple #[.agg #[.slice A _ c,.int .i64 _],.bool true]) (by simp[results,Tryz.results117,go_sem]) rfl ⟨_,rfl,by exact bel,own_base (own_swap HA.out (by simp) (Nat.le_refl _)) (by simp)⟩
 ·exact bodyPost_ret (v:=.tuple #[.agg #[.slice A _ c,.int .i64 _],.bool true]) (by simp[results,Tryz.results117,go_sem]) rfl ⟨_,rfl,by exact bel,own_base (own_swap HA.out (by simp) (Nat.le_refl _)) (by simp)⟩
 ·exact bodyPost_ret (v:=.tuple #[.agg #[.slice A _ c,.int .i64 _],.bool true]) (by simp[results,Tryz.results117,go_sem]) rfl ⟨_,rfl,by exact bel,own_base (own_swap HA.out (by simp) (Nat.le_refl _)) (by simp)⟩
 ·exact bodyPost_ret (v:=.tuple #[.agg #[.slice A _ c,.int .i64 _],.bool true]) (by simp[results,Tryz.results117,go_sem]) rfl ⟨_,rfl,by exact bel,own_base (own_swap HA.out (by simp) (Nat.le_refl _)) (by simp)⟩
 ·exact bodyPost_ret (v:=.tuple #[.agg #[.slice (some ⟨w.heap.size+1,0,none⟩) 1 1,.int .i64 7],.bool true]) (by simp[results,Tryz.results117,go_sem]) rfl ⟨.slice (some ⟨w.heap.size+1,0,none⟩) 1 1,rfl,bel,lit⟩
 ·exact bodyPost_ret (v:=.tuple #[.agg #[.slice (some ⟨w.heap.size+1,0,none⟩) 1 1,.int .i64 6],.bool true]) (by simp[results,Tryz.results117,go_sem]) rfl ⟨.slice (some ⟨w.heap.size+1,0,none⟩) 1 1,rfl,bel,lit⟩
 ·exact bodyPost_ret (v:=.tuple #[.agg #[.slice (some ⟨w.heap.size+1,0,none⟩) 2 2,.int .i64 9],.bool true]) (by simp[results,Tryz.results117,go_sem]) rfl ⟨.slice (some ⟨w.heap.size+1,0,none⟩) 2 2,rfl,bel,lit⟩
 ·exact bodyPost_ret (v:=.tuple #[.agg #[.slice (some ⟨w.heap.size+1,0,none⟩) 2 2,.int .i64 6],.bool true]) (by simp[results,Tryz.results117,go_sem]) rfl ⟨.slice (some ⟨w.heap.size+1,0,none⟩) 2 2,rfl,bel,lit⟩
theorem rest9_no (s:Int) (w:World) (hs:s=0∨s=1):Calls Tryz.prog 154 #[.int .i64 s] w (MNo w):=by
 rcases hs with rfl|rfl
 all_goals go_enter Tryz.func154,Tryz.ntmps154
 all_goals go_wp2_with (first|(go_at_call 150;refine(only_any _ _).mono ?_;rintro e w1 ⟨rfl,rfl⟩)|(go_at_call 151;refine(by_any _ _ _ _ _).mono ?_;rintro e w1 ⟨rfl,rfl⟩)|(go_at_call 152;refine(stays_any _ _ _ _ _).mono ?_;rintro e w1 ⟨rfl,hb⟩;obtain⟨xs,d,rfl⟩:=ext_of hb;clear hb)|(go_at_call 155;refine(ends_any _ _).mono ?_;rintro e w1 ⟨rfl,rfl⟩)|(go_at_call 87;refine(asks_any _ _).mono ?_;rintro e w1 ⟨rfl,rfl⟩)|(go_at_call 156;refine(lower_any _ _).mono ?_;rintro e w1 ⟨rfl,rfl⟩))
 ·exact bodyPost_ret (v:=.tuple #[.agg #[.slice none 0 0,.int .i64 0],.bool false]) (by simp[results,Tryz.results154,go_sem]) rfl ⟨_,_,_,_,rfl,bel⟩
 ·exact bodyPost_ret (v:=.tuple #[.agg #[.slice none 0 0,.int .i64 0],.bool false]) (by simp[results,Tryz.results154,go_sem]) rfl ⟨_,_,_,_,rfl,bel⟩
theorem acked_no (s:Int) (w:World) (h0:0≤s) (h9:s≤9) (h:tabOk 9 s=false):Calls Tryz.prog 117 #[.int .i64 s] w (MNo w):=by
 have hs:s=0∨s=1:=by
  rcases ten h0 h9 with rfl|rfl|rfl|rfl|rfl|rfl|rfl|rfl|rfl|rfl<;>first|decide|(exfalso;revert h;decide)
 clear h h0 h9
 rcases hs with rfl|rfl
 all_goals go_enter Tryz.func117,Tryz.ntmps117
 all_goals go_wp2_with (first|(go_at_call 154;refine(rest9_no _ _ (by decide)).mono ?_;rintro e w1 ⟨A,n,c,y,rfl,hb⟩;obtain⟨xs,d,rfl⟩:=ext_of hb;clear hb)|(first|(go_at_call 150;refine(only_any _ _).mono ?_;rintro e w1 ⟨rfl,rfl⟩)|(go_at_call 151;refine(by_any _ _ _ _ _).mono ?_;rintro e w1 ⟨rfl,rfl⟩)|(go_at_call 152;refine(stays_any _ _ _ _ _).mono ?_;rintro e w1 ⟨rfl,hb⟩;obtain⟨xs,d,rfl⟩:=ext_of hb;clear hb)|(go_at_call 155;refine(ends_any _ _).mono ?_;rintro e w1 ⟨rfl,rfl⟩)|(go_at_call 87;refine(asks_any _ _).mono ?_;rintro e w1 ⟨rfl,rfl⟩)|(go_at_call 156;refine(lower_any _ _).mono ?_;rintro e w1 ⟨rfl,rfl⟩)))
 ·exact bodyPost_ret (v:=.tuple #[.agg #[.slice A n c,.int .i64 y],.bool false]) (by simp[results,Tryz.results117,go_sem]) rfl ⟨_,_,_,_,rfl,by exact bel⟩
 ·exact bodyPost_ret (v:=.tuple #[.agg #[.slice A n c,.int .i64 y],.bool false]) (by simp[results,Tryz.results117,go_sem]) rfl ⟨_,_,_,_,rfl,by exact bel⟩
end Go.Proofs.YtfkgmbknfnhjoaaGreat.Fs
namespace Go.Proofs.YtfkgmbknfnhjoaaGreat.Fs
open Lib (hid)
open Go.RowKit
set_option linter.unusedSimpArgs false
set_option linter.unusedVariables false
theorem rest10_yes (s:Int) (w:World) (hs:s=2∨s=3∨s=4∨s=5):Calls Tryz.prog 154 #[.int .i64 s] w (MYes 10 s w):=by
 rcases hs with rfl|rfl|rfl|rfl
 all_goals go_enter Tryz.func154,Tryz.ntmps154
 all_goals go_wp2_with (first|(go_at_call 150;refine(only_any _ _).mono ?_;rintro e w1 ⟨rfl,rfl⟩)|(go_at_call 151;refine(by_any _ _ _ _ _).mono ?_;rintro e w1 ⟨rfl,rfl⟩)|(go_at_call 152;refine(stays_any _ _ _ _ _).mono ?_;rintro e w1 ⟨rfl,hb⟩;obtain⟨xs,d,rfl⟩:=ext_of hb;clear hb)|(go_at_call 155;refine(ends_any _ _).mono ?_;rintro e w1 ⟨rfl,rfl⟩)|(go_at_call 87;refine(asks_any _ _).mono ?_;rintro e w1 ⟨rfl,rfl⟩)|(go_at_call 156;refine(lower_any _ _).mono ?_;rintro e w1 ⟨rfl,rfl⟩))
 ·exact bodyPost_ret (v:=.tuple #[.agg #[.slice (some ⟨w.heap.size+1,0,none⟩) 1 1,.int .i64 2],.bool true]) (by simp[results,Tryz.results154,go_sem]) rfl ⟨.slice (some ⟨w.heap.size+1,0,none⟩) 1 1,rfl,bel,lit⟩
 ·exact bodyPost_ret (v:=.tuple #[.agg #[.slice (some ⟨w.heap.size+1,0,none⟩) 1 1,.int .i64 3],.bool true]) (by simp[results,Tryz.results154,go_sem]) rfl ⟨.slice (some ⟨w.heap.size+1,0,none⟩) 1 1,rfl,bel,lit⟩
 ·exact bodyPost_ret (v:=.tuple #[.agg #[.slice none 0 0,.int .i64 4],.bool true]) (by simp[results,Tryz.results154,go_sem]) rfl ⟨.slice none 0 0,rfl,bel,own_nil _ _ _ _⟩
 ·exact bodyPost_ret (v:=.tuple #[.agg #[.slice none 0 0,.int .i64 5],.bool true]) (by simp[results,Tryz.results154,go_sem]) rfl ⟨.slice none 0 0,rfl,bel,own_nil _ _ _ _⟩
theorem refused_yes (s:Int) (w:World) (h:tabOk 10 s=true):Calls Tryz.prog 118 #[.int .i64 s] w (MYes 10 s w):=by
 obtain⟨-,-,h0,h9⟩:=tabOk_in h
 have hs:s=2∨s=3∨s=4∨s=5∨s=6∨s=7∨s=8∨s=9:=by
  rcases ten h0 h9 with rfl|rfl|rfl|rfl|rfl|rfl|rfl|rfl|rfl|rfl<;>first|decide|(exfalso;revert h;decide)
 clear h h0 h9
 rcases hs with rfl|rfl|rfl|rfl|rfl|rfl|rfl|rfl
 all_goals go_enter Tryz.func118,Tryz.ntmps118
 all_goals go_wp2_with (first|(go_at_call 154;refine(rest10_yes _ _ (by decide)).mono ?_;rintro e w1 ⟨v,rfl,hb,ho⟩;obtain⟨xs,d,rfl⟩:=ext_of hb;clear hb;obtain⟨A,c,rfl,-,-⟩:=ownsRow_form ho;have HA:=hid ho;clear ho)|(first|(go_at_call 150;refine(only_any _ _).mono ?_;rintro e w1 ⟨rfl,rfl⟩)|(go_at_call 151;refine(by_any _ _ _ _ _).mono ?_;rintro e w1 ⟨rfl,rfl⟩)|(go_at_call 152;refine(stays_any _ _ _ _ _).mono ?_;rintro e w1 ⟨rfl,hb⟩;obtain⟨xs,d,rfl⟩:=ext_of hb;clear hb)|(go_at_call 155;refine(ends_any _ _).mono ?_;rintro e w1 ⟨rfl,rfl⟩)|(go_at_call 87;refine(asks_any _ _).mono ?_;rintro e w1 ⟨rfl,rfl⟩)|(go_at_call 156;refine(lower_any _ _).mono ?_;rintro e w1 ⟨rfl,rfl⟩)))
 ·exact bodyPost_ret (v:=.tuple #[.agg #[.slice A _ c,.int .i64 _],.bool true]) (by simp[results,Tryz.results118,go_sem]) rfl ⟨_,rfl,by exact bel,own_base (own_swap HA.out (by simp) (Nat.le_refl _)) (by simp)⟩
 ·exact bodyPost_ret (v:=.tuple #[.agg #[.slice A _ c,.int .i64 _],.bool true]) (by simp[results,Tryz.results118,go_sem]) rfl ⟨_,rfl,by exact bel,own_base (own_swap HA.out (by simp) (Nat.le_refl _)) (by simp)⟩
 ·exact bodyPost_ret (v:=.tuple #[.agg #[.slice A _ c,.int .i64 _],.bool true]) (by simp[results,Tryz.results118,go_sem]) rfl ⟨_,rfl,by exact bel,own_base (own_swap HA.out (by simp) (Nat.le_refl _)) (by simp)⟩
 ·exact bodyPost_ret (v:=.tuple #[.agg #[.slice A _ c,.int .i64 _],.bool true]) (by simp[results,Tryz.results118,go_sem]) rfl ⟨_,rfl,by exact bel,own_base (own_swap HA.out (by simp) (Nat.le_refl _)) (by simp)⟩
 ·exact bodyPost_ret (v:=.tuple #[.agg #[.slice (some ⟨w.heap.size+1,0,none⟩) 2 2,.int .i64 6],.bool true]) (by simp[results,Tryz.results118,go_sem]) rfl ⟨.slice (some ⟨w.heap.size+1,0,none⟩) 2 2,rfl,bel,lit⟩
 ·exact bodyPost_ret (v:=.tuple #[.agg #[.slice (some ⟨w.heap.size+1,0,none⟩) 1 1,.int .i64 6],.bool true]) (by simp[results,Tryz.results118,go_sem]) rfl ⟨.slice (some ⟨w.heap.size+1,0,none⟩) 1 1,rfl,bel,lit⟩
 ·exact bodyPost_ret (v:=.tuple #[.agg #[.slice (some ⟨w.heap.size+1,0,none⟩) 2 2,.int .i64 8],.bool true]) (by simp[results,Tryz.results118,go_sem]) rfl ⟨.slice (some ⟨w.heap.size+1,0,none⟩) 2 2,rfl,bel,lit⟩
 ·exact bodyPost_ret (v:=.tuple #[.agg #[.slice (some ⟨w.heap.size+1,0,none⟩) 2 2,.int .i64 6],.bool true]) (by simp[results,Tryz.results118,go_sem]) rfl ⟨.slice (some ⟨w.heap.size+1,0,none⟩) 2 2,rfl,bel,lit⟩
theorem rest10_no (s:Int) (w:World) (hs:s=0∨s=1):Calls Tryz.prog 154 #[.int .i64 s] w (MNo w):=by
 rcases hs with rfl|rfl
 all_goals go_enter Tryz.func154,Tryz.ntmps154
 all_goals go_wp2_with (first|(go_at_call 150;refine(only_any _ _).mono ?_;rintro e w1 ⟨rfl,rfl⟩)|(go_at_call 151;refine(by_any _ _ _ _ _).mono ?_;rintro e w1 ⟨rfl,rfl⟩)|(go_at_call 152;refine(stays_any _ _ _ _ _).mono ?_;rintro e w1 ⟨rfl,hb⟩;obtain⟨xs,d,rfl⟩:=ext_of hb;clear hb)|(go_at_call 155;refine(ends_any _ _).mono ?_;rintro e w1 ⟨rfl,rfl⟩)|(go_at_call 87;refine(asks_any _ _).mono ?_;rintro e w1 ⟨rfl,rfl⟩)|(go_at_call 156;refine(lower_any _ _).mono ?_;rintro e w1 ⟨rfl,rfl⟩))
 ·exact bodyPost_ret (v:=.tuple #[.agg #[.slice none 0 0,.int .i64 0],.bool false]) (by simp[results,Tryz.results154,go_sem]) rfl ⟨_,_,_,_,rfl,bel⟩
 ·exact bodyPost_ret (v:=.tuple #[.agg #[.slice none 0 0,.int .i64 0],.bool false]) (by simp[results,Tryz.results154,go_sem]) rfl ⟨_,_,_,_,rfl,bel⟩
theorem refused_no (s:Int) (w:World) (h0:0≤s) (h9:s≤9) (h:tabOk 10 s=false):Calls Tryz.prog 118 #[.int .i64 s] w (MNo w):=by
 have hs:s=0∨s=1:=by
  rcases ten h0 h9 with rfl|rfl|rfl|rfl|rfl|rfl|rfl|rfl|rfl|rfl<;>first|decide|(exfalso;revert h;decide)
 clear h h0 h9
 rcases hs with rfl|rfl
 all_goals go_enter Tryz.func118,Tryz.ntmps118
 all_goals go_wp2_with (first|(go_at_call 154;refine(rest10_no _ _ (by decide)).mono ?_;rintro e w1 ⟨A,n,c,y,rfl,hb⟩;obtain⟨xs,d,rfl⟩:=ext_of hb;clear hb)|(first|(go_at_call 150;refine(only_any _ _).mono ?_;rintro e w1 ⟨rfl,rfl⟩)|(go_at_call 151;refine(by_any _ _ _ _ _).mono ?_;rintro e w1 ⟨rfl,rfl⟩)|(go_at_call 152;refine(stays_any _ _ _ _ _).mono ?_;rintro e w1 ⟨rfl,hb⟩;obtain⟨xs,d,rfl⟩:=ext_of hb;clear hb)|(go_at_call 155;refine(ends_any _ _).mono ?_;rintro e w1 ⟨rfl,rfl⟩)|(go_at_call 87;refine(asks_any _ _).mono ?_;rintro e w1 ⟨rfl,rfl⟩)|(go_at_call 156;refine(lower_any _ _).mono ?_;rintro e w1 ⟨rfl,rfl⟩)))
 ·exact bodyPost_ret (v:=.tuple #[.agg #[.slice A n c,.int .i64 y],.bool false]) (by simp[results,Tryz.results118,go_sem]) rfl ⟨_,_,_,_,rfl,by exact bel⟩
 ·exact bodyPost_ret (v:=.tuple #[.agg #[.slice A n c,.int .i64 y],.bool false]) (by simp[results,Tryz.results118,go_sem]) rfl ⟨_,_,_,_,rfl,by exact bel⟩
end Go.Proofs.YtfkgmbknfnhjoaaGreat.Fs
