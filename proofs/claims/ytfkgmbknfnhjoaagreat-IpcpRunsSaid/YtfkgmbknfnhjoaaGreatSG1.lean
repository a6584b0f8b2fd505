/- G1 -/
import Derived.Test.YtfkgmbknfnhjoaaGreatSA
set_option linter.all false
set_option maxHeartbeats 2000000
namespace Go.Proofs.YtfkgmbknfnhjoaaGreat.Fs
open Lib (hid)
open Go.RowKit
def Z8:List (List (Option (Int×List Int))):=
 [[some (2,[]),some (6,[5,7]),none,none,none,none,none,none,none,none],
  [none,none,some (0,[]),some (1,[3]),some (0,[]),some (1,[]),some (1,[]),some (1,[]),some (1,[]),some (1,[2])],
  [some (1,[3]),some (1,[]),some (6,[5,7]),some (3,[]),some (5,[]),some (5,[]),some (6,[]),some (7,[]),some (8,[]),some (9,[])],
  [some (0,[]),some (0,[4]),some (2,[]),some (2,[]),some (4,[]),some (4,[]),some (4,[5,10]),some (4,[5,10]),some (4,[5,10]),some (4,[2,5,10])],
  [none,none,none,none,some (4,[10]),some (5,[10]),some (6,[7]),some (6,[7]),some (8,[7]),none],
  [none,none,none,none,some (2,[4]),some (3,[4]),some (3,[4]),some (3,[4]),some (3,[4]),none],
  [none,none,some (2,[11]),some (8,[5,7,8]),some (4,[]),some (5,[]),some (8,[8]),some (9,[8,1]),some (8,[8]),some (8,[2,7,8])],
  [none,none,some (2,[11]),some (6,[5,7,9]),some (4,[]),some (5,[]),some (6,[9]),some (7,[9]),some (6,[9]),some (6,[2,7,9])],
  [none,none,some (2,[11]),some (3,[11]),some (4,[]),some (5,[]),some (7,[5]),some (6,[7]),some (9,[5,1]),some (6,[2,7])],
  [none,none,some (2,[11]),some (3,[11]),some (4,[]),some (5,[]),some (6,[5,7]),some (6,[7]),some (8,[5,7]),some (6,[2,7])],
  [none,none,some (2,[11]),some (3,[11]),some (4,[11]),some (5,[11]),some (6,[11]),some (6,[11]),some (6,[11]),some (5,[2,6,11])],
  [none,none,some (2,[]),some (3,[]),some (2,[4]),some (3,[4]),some (6,[]),some (6,[]),some (8,[]),some (6,[2,7])],
  [none,none,some (2,[12]),some (3,[12]),some (4,[12]),some (5,[12]),some (6,[12]),some (7,[12]),some (8,[12]),some (9,[12])],
  [none,none,some (2,[]),some (3,[]),some (4,[]),some (5,[]),some (6,[]),some (6,[]),some (8,[]),some (9,[])],
  [none,none,some (2,[4]),some (3,[4]),some (2,[4]),some (3,[4]),some (3,[4]),some (3,[4]),some (3,[4]),some (5,[2,5,10])],
  [none,none,some (2,[]),some (3,[]),some (4,[]),some (5,[]),some (6,[]),some (7,[]),some (8,[]),some (9,[13])]]
def Z4:List (List (List UInt8)):=
 [[[50],[105,114,99,32,115,99,114,47,54],[45],[45],[45],[45],[45],[45],[45],[45]],
  [[45],[45],[48],[116,108,115,47,49],[48],[49],[49],[49],[49],[116,108,100,47,49]],
  [[116,108,115,47,49],[49],[105,114,99,32,115,99,114,47,54],[51],[53],[53],[54],[55],[56],[57]],
  [[48],[116,108,102,47,48],[50],[50],[52],[52],[105,114,99,32,115,116,114,47,52],[105,114,99,32,115,116,114,47,52],[105,114,99,32,115,116,114,47,52],[116,108,100,32,105,114,99,32,115,116,114,47,52]],
  [[45],[45],[45],[45],[115,116,114,47,52],[115,116,114,47,53],[115,99,114,47,54],[115,99,114,47,54],[115,99,114,47,56],[45]],
  [[45],[45],[45],[45],[116,108,102,47,50],[116,108,102,47,51],[116,108,102,47,51],[116,108,102,47,51],[116,108,102,47,51],[45]],
  [[45],[45],[115,116,97,47,50],[105,114,99,32,115,99,114,32,115,99,97,47,56],[52],[53],[115,99,97,47,56],[115,99,97,32,116,108,117,47,57],[115,99,97,47,56],[116,108,100,32,115,99,114,32,115,99,97,47,56]],
  [[45],[45],[115,116,97,47,50],[105,114,99,32,115,99,114,32,115,99,110,47,54],[52],[53],[115,99,110,47,54],[115,99,110,47,55],[115,99,110,47,54],[116,108,100,32,115,99,114,32,115,99,110,47,54]],
  [[45],[45],[115,116,97,47,50],[115,116,97,47,51],[52],[53],[105,114,99,47,55],[115,99,114,47,54],[105,114,99,32,116,108,117,47,57],[116,108,100,32,115,99,114,47,54]],
  [[45],[45],[115,116,97,47,50],[115,116,97,47,51],[52],[53],[105,114,99,32,115,99,114,47,54],[115,99,114,47,54],[105,114,99,32,115,99,114,47,56],[116,108,100,32,115,99,114,47,54]],
  [[45],[45],[115,116,97,47,50],[115,116,97,47,51],[115,116,97,47,52],[115,116,97,47,53],[115,116,97,47,54],[115,116,97,47,54],[115,116,97,47,54],[116,108,100,32,122,114,99,32,115,116,97,47,53]],
  [[45],[45],[50],[51],[116,108,102,47,50],[116,108,102,47,51],[54],[54],[56],[116,108,100,32,115,99,114,47,54]],
  [[45],[45],[115,99,106,47,50],[115,99,106,47,51],[115,99,106,47,52],[115,99,106,47,53],[115,99,106,47,54],[115,99,106,47,55],[115,99,106,47,56],[115,99,106,47,57]],
  [[45],[45],[50],[51],[52],[53],[54],[54],[56],[57]],
  [[45],[45],[116,108,102,47,50],[116,108,102,47,51],[116,108,102,47,50],[116,108,102,47,51],[116,108,102,47,51],[116,108,102,47,51],[116,108,102,47,51],[116,108,100,32,105,114,99,32,115,116,114,47,53]],
  [[45],[45],[50],[51],[52],[53],[54],[55],[56],[115,101,114,47,57]]]
def BZ:List (List UInt8):=[[],[116,108,117],[116,108,100],[116,108,115],[116,108,102],[105,114,99],[122,114,99],[115,99,114],[115,99,97],[115,99,110],[115,116,114],[115,116,97],[115,99,106],[115,101,114]]
def Bt (e s:Int):Option (Int×List Int):=if 1≤e∧e≤16∧0≤s∧s≤9 then(Z8.getD (e.toNat-1) []).getD s.toNat none else none
def bZ (e s:Int):Bool:=(Bt e s).isSome
def aZ (e s:Int):Int:=((Bt e s).map (·.1)).getD 0
def aT (e s:Int):List Int:=((Bt e s).map (·.2)).getD []
def jw (e s:Int):Bool:=decide (1≤e∧e≤16∧0≤s∧s≤9)
def bP (s e:Int):Int:=if jw e s=true then(if bZ e s=true then 0 else 5) else 140
def av (x:Int):Value:=.int .i64 x
def Told (w:World) (l:List Int) (v:Value) (w':World):Prop:=Below w.heap.size w w'∧w'.ownsRow w.heap.size 104 1 v l.length (l.map av)
def iI (s e:Int) (w:World) (x:Ending) (w':World):Prop:=
 ∃v,x=.returned (.tuple #[.int .i64 (aZ e s),v,.int .i64 (bP s e)])∧Told w (aT e s) v w'
def lI (e s:Int) (w:World) (x:Ending) (w':World):Prop:= ∃v,x=.returned (.tuple #[.agg #[v,.int .i64 (aZ e s)],.bool true])∧Told w (aT e s) v w'
def wO (w:World) (x:Ending) (w':World):Prop:= ∃A n c y,x=.returned (.tuple #[.agg #[.slice A n c,.int .i64 y],.bool false])∧Below w.heap.size w w'
theorem ten {s:Int} (h0:0≤s) (h9:s≤9):s=0∨s=1∨s=2∨s=3∨s=4∨s=5∨s=6∨s=7∨s=8∨s=9:=by omega
theorem sixteen {e:Int} (h0:1≤e) (h9:e≤16):e=1∨e=2∨e=3∨e=4∨e=5∨e=6∨e=7∨e=8∨e=9∨e=10∨e=11∨e=12∨e=13∨e=14∨e=15∨e=16:=by omega
theorem eT {e s:Int} (h:bZ e s=true):1≤e∧e≤16∧0≤s∧s≤9:=by
 unfold bZ Bt at h
 split at h
 ·assumption
 ·simp at h
theorem gV {e s:Int} (h:bZ e s=false):aZ e s=0∧aT e s=[]:=by
 unfold bZ at h
 have:Bt e s=none:=by simpa using h
 simp[aZ,aT,this]
theorem mg {e s:Int} (h:jw e s=false):bZ e s=false:=by
 unfold bZ Bt
 unfold jw at h
 rw[if_neg (by simpa using h)];rfl
theorem lit {w:World} {base g n:Nat} {e:TypeId} {xs:List Value} (h:w.heap[g]? =some (.cells xs.toArray e (0,0)):=by(repeat(first|((refine aF _ _ _ ?_);(simp[go_sem];done))|((refine(aO _ _ _ _ ?_).trans ?_);(focus (simp[go_sem];done)))|((refine(aC _ _ _ ?_).trans ?_);(focus (simp[go_sem];done)))))) (hb:base≤g:=by omega) (hn:n≤maxLen:=by decide) (hs:xs.toArray.size=n*1:=by rfl):w.ownsRow base e 1 (.slice (some ⟨g,0,none⟩) n n) n xs:=
 eO h hb hn hs (by simp)
theorem bI (s:Int) (w:World):Calls Tryz.prog 150 #[.int .i64 s] w fun e w'=>e=.returned (.agg #[.slice none 0 0,.int .i64 s])∧w'=w.alloc (.cells #[.slice none 0 0,.int .i64 s] 142):=by
 go_enter Tryz.func150,Tryz.ntmps150
 go_wp2
 exact bodyPost_ret (v:=.agg #[.slice none 0 0,.int .i64 s]) (by simp[results,Tryz.results150,go_sem]) rfl ⟨rfl,rfl⟩
theorem dB (s:Int) (A:Option Addr) (n c:Nat) (w:World):Calls Tryz.prog 151 #[.int .i64 s,.slice A n c] w fun e w'=>e=.returned (.agg #[.slice A n c,.int .i64 s])∧w'=w.alloc (.cells #[.slice A n c,.int .i64 s] 142):=by
 go_enter Tryz.func151,Tryz.ntmps151
 go_wp2
 exact bodyPost_ret (v:=.agg #[.slice A n c,.int .i64 s]) (by simp[results,Tryz.results151,go_sem]) rfl ⟨rfl,rfl⟩
theorem bg (s:Int) (A:Option Addr) (n c:Nat) (w:World):Calls Tryz.prog 152 #[.int .i64 s,.slice A n c] w fun e w'=>e=.returned (.agg #[.slice A n c,.int .i64 s])∧Below w.heap.size w w':=by
 go_enter Tryz.func152,Tryz.ntmps152
 go_wp2_with (go_at_call 151;refine(dB _ _ _ _ _).mono ?_;rintro e w1 ⟨rfl,rfl⟩)
 exact bodyPost_ret (v:=.agg #[.slice A n c,.int .i64 s]) (by simp[results,Tryz.results152,go_sem]) rfl ⟨rfl,by exact aA⟩
theorem bH (s:Int) (w:World):Calls Tryz.prog 155 #[.int .i64 s] w fun e w'=>e=.returned (.bool (decide (2≤s)&&decide (s≤5)))∧w=w':=by
 by_cases h1:2≤s<;>by_cases h2:s≤5
 all_goals
  go_enter Tryz.func155,Tryz.ntmps155
  go_wp2
  go_ret
  simp[h1,h2]
theorem bD (s:Int) (w:World):Calls Tryz.prog 87 #[.int .i64 s] w fun e w'=>e=.returned (.bool (decide (6≤s)&&decide (s≤8)))∧w=w':=by
 by_cases h1:6≤s<;>by_cases h2:s≤8
 all_goals
  go_enter Tryz.func87,Tryz.ntmps87
  go_wp2
  go_ret
  simp[h1,h2]
def aR (s:Int):Int:=if s=2∨s=4 then 2 else 3
theorem bf (s:Int) (w:World):Calls Tryz.prog 156 #[.int .i64 s] w fun e w'=>e=.returned (.int .i64 (aR s))∧w=w':=by
 by_cases h1:s=2
 ·subst h1
  go_enter Tryz.func156,Tryz.ntmps156
  go_wp2
  go_ret
  exact⟨rfl,rfl⟩
 ·by_cases h2:s=4
  ·subst h2
   go_enter Tryz.func156,Tryz.ntmps156
   go_wp2
   go_ret
   exact⟨rfl,rfl⟩
  ·have e1:(s==2)=false:=by simpa using h1
   have e2:(s==4)=false:=by simpa using h2
   have E:=hid (And.intro h1 h2)
   clear h1 h2
   go_enter Tryz.func156,Tryz.ntmps156
   go_wp2
   go_ret
   exact⟨Oq (by simp[aR,E.out]),rfl⟩
theorem oq (s:Int) (w:World):Calls Tryz.prog 85 #[.int .i64 s] w fun e w'=>e=.returned (.bool (decide (0≤s)&&decide (s≤9)))∧w=w':=by
 by_cases h1:0≤s<;>by_cases h2:s≤9
 all_goals
  go_enter Tryz.func85,Tryz.ntmps85
  go_wp2
  go_ret
  simp[h1,h2]
theorem Gb (s:Int) (w:World):Calls Tryz.prog 57 #[.int .i64 s] w fun e w'=>e=.returned (.bool (decide (4≤s)&&decide (s≤8)))∧w=w':=by
 by_cases h1:4≤s<;>by_cases h2:s≤8
 all_goals
  go_enter Tryz.func57,Tryz.ntmps57
  go_wp2
  go_ret
  simp[h1,h2]
theorem UU (s:Int) (w:World) (h:bZ 1 s=true):Calls Tryz.prog 109 #[.int .i64 s] w (lI 1 s w):=by
 obtain⟨-,-,h0,h9⟩:=eT h
 have hs:s=0∨s=1:=by
  rcases ten h0 h9 with rfl|rfl|rfl|rfl|rfl|rfl|rfl|rfl|rfl|rfl<;>first|decide|(exfalso;revert h;decide)
 clear h h0 h9
 rcases hs with rfl|rfl
 all_goals go_enter Tryz.func109,Tryz.ntmps109
 all_goals go_wp2_with (first|((first|(go_at_call 150;refine(bI _ _).mono ?_)|(go_at_call 151;refine(dB _ _ _ _ _).mono ?_)|(go_at_call 155;refine(bH _ _).mono ?_)|(go_at_call 87;refine(bD _ _).mono ?_)|(go_at_call 156;refine(bf _ _).mono ?_));rintro e w1 ⟨rfl,rfl⟩)|(go_at_call 152;refine(bg _ _ _ _ _).mono ?_;rintro e w1 ⟨rfl,hb⟩;obtain⟨xs,d,rfl⟩:=aB hb;clear hb))
 ·exact bodyPost_ret (v:=.tuple #[.agg #[.slice none 0 0,.int .i64 2],.bool true]) (by simp[results,Tryz.results109,go_sem,aR]) rfl ⟨.slice none 0 0,rfl,aA,aN _ _ _ _⟩
 ·exact bodyPost_ret (v:=.tuple #[.agg #[.slice (some ⟨w.heap.size+1,0,none⟩) 2 2,.int .i64 6],.bool true]) (by simp[results,Tryz.results109,go_sem,aR]) rfl ⟨.slice (some ⟨w.heap.size+1,0,none⟩) 2 2,rfl,aA,lit⟩
theorem Xo (s:Int) (w:World) (h0:0≤s) (h9:s≤9) (h:bZ 1 s=false):Calls Tryz.prog 109 #[.int .i64 s] w (wO w):=by
 have hs:s=2∨s=3∨s=4∨s=5∨s=6∨s=7∨s=8∨s=9:=by
  rcases ten h0 h9 with rfl|rfl|rfl|rfl|rfl|rfl|rfl|rfl|rfl|rfl<;>first|decide|(exfalso;revert h;decide)
 clear h h0 h9
 rcases hs with rfl|rfl|rfl|rfl|rfl|rfl|rfl|rfl
 all_goals go_enter Tryz.func109,Tryz.ntmps109
 all_goals go_wp2_with (first|((first|(go_at_call 150;refine(bI _ _).mono ?_)|(go_at_call 151;refine(dB _ _ _ _ _).mono ?_)|(go_at_call 155;refine(bH _ _).mono ?_)|(go_at_call 87;refine(bD _ _).mono ?_)|(go_at_call 156;refine(bf _ _).mono ?_));rintro e w1 ⟨rfl,rfl⟩)|(go_at_call 152;refine(bg _ _ _ _ _).mono ?_;rintro e w1 ⟨rfl,hb⟩;obtain⟨xs,d,rfl⟩:=aB hb;clear hb))
 all_goals
  exact bodyPost_ret (v:=.tuple #[.agg #[.slice none 0 0,.int .i64 0],.bool false]) (by simp[results,Tryz.results109,go_sem]) rfl ⟨_,_,_,_,rfl,aA⟩
theorem Hw (s:Int) (w:World) (h:bZ 2 s=true):Calls Tryz.prog 110 #[.int .i64 s] w (lI 2 s w):=by
 obtain⟨-,-,h0,h9⟩:=eT h
 have hs:s=2∨s=3∨s=4∨s=5∨s=6∨s=7∨s=8∨s=9:=by
  rcases ten h0 h9 with rfl|rfl|rfl|rfl|rfl|rfl|rfl|rfl|rfl|rfl<;>first|decide|(exfalso;revert h;decide)
 clear h h0 h9
 rcases hs with rfl|rfl|rfl|rfl|rfl|rfl|rfl|rfl
 all_goals go_enter Tryz.func110,Tryz.ntmps110
 all_goals go_wp2_with (first|((first|(go_at_call 150;refine(bI _ _).mono ?_)|(go_at_call 151;refine(dB _ _ _ _ _).mono ?_)|(go_at_call 155;refine(bH _ _).mono ?_)|(go_at_call 87;refine(bD _ _).mono ?_)|(go_at_call 156;refine(bf _ _).mono ?_));rintro e w1 ⟨rfl,rfl⟩)|(go_at_call 152;refine(bg _ _ _ _ _).mono ?_;rintro e w1 ⟨rfl,hb⟩;obtain⟨xs,d,rfl⟩:=aB hb;clear hb))
 ·exact bodyPost_ret (v:=.tuple #[.agg #[.slice none 0 0,.int .i64 0],.bool true]) (by simp[results,Tryz.results110,go_sem,aR]) rfl ⟨.slice none 0 0,rfl,aA,aN _ _ _ _⟩
 ·exact bodyPost_ret (v:=.tuple #[.agg #[.slice (some ⟨w.heap.size+1,0,none⟩) 1 1,.int .i64 1],.bool true]) (by simp[results,Tryz.results110,go_sem,aR]) rfl ⟨.slice (some ⟨w.heap.size+1,0,none⟩) 1 1,rfl,aA,lit⟩
 ·exact bodyPost_ret (v:=.tuple #[.agg #[.slice none 0 0,.int .i64 0],.bool true]) (by simp[results,Tryz.results110,go_sem,aR]) rfl ⟨.slice none 0 0,rfl,aA,aN _ _ _ _⟩
 rotate_left
 rotate_left
 rotate_left
 rotate_left
 ·exact bodyPost_ret (v:=.tuple #[.agg #[.slice (some ⟨w.heap.size+1,0,none⟩) 1 1,.int .i64 1],.bool true]) (by simp[results,Tryz.results110,go_sem,aR]) rfl ⟨.slice (some ⟨w.heap.size+1,0,none⟩) 1 1,rfl,aA,lit⟩
 all_goals
  exact bodyPost_ret (v:=.tuple #[.agg #[.slice none 0 0,.int .i64 1],.bool true]) (by simp[results,Tryz.results110,go_sem,aR]) rfl ⟨.slice none 0 0,rfl,aA,aN _ _ _ _⟩
theorem K5 (s:Int) (w:World) (h0:0≤s) (h9:s≤9) (h:bZ 2 s=false):Calls Tryz.prog 110 #[.int .i64 s] w (wO w):=by
 have hs:s=0∨s=1:=by
  rcases ten h0 h9 with rfl|rfl|rfl|rfl|rfl|rfl|rfl|rfl|rfl|rfl<;>first|decide|(exfalso;revert h;decide)
 clear h h0 h9
 rcases hs with rfl|rfl
 all_goals go_enter Tryz.func110,Tryz.ntmps110
 all_goals go_wp2_with (first|((first|(go_at_call 150;refine(bI _ _).mono ?_)|(go_at_call 151;refine(dB _ _ _ _ _).mono ?_)|(go_at_call 155;refine(bH _ _).mono ?_)|(go_at_call 87;refine(bD _ _).mono ?_)|(go_at_call 156;refine(bf _ _).mono ?_));rintro e w1 ⟨rfl,rfl⟩)|(go_at_call 152;refine(bg _ _ _ _ _).mono ?_;rintro e w1 ⟨rfl,hb⟩;obtain⟨xs,d,rfl⟩:=aB hb;clear hb))
 ·exact bodyPost_ret (v:=.tuple #[.agg #[.slice none 0 0,.int .i64 0],.bool false]) (by simp[results,Tryz.results110,go_sem]) rfl ⟨_,_,_,_,rfl,aA⟩
 ·exact bodyPost_ret (v:=.tuple #[.agg #[.slice none 0 0,.int .i64 0],.bool false]) (by simp[results,Tryz.results110,go_sem]) rfl ⟨_,_,_,_,rfl,aA⟩
theorem IZ (s:Int) (w:World) (h:bZ 3 s=true):Calls Tryz.prog 111 #[.int .i64 s] w (lI 3 s w):=by
 obtain⟨-,-,h0,h9⟩:=eT h
 have hs:=ten h0 h9
 clear h h0 h9
 rcases hs with rfl|rfl|rfl|rfl|rfl|rfl|rfl|rfl|rfl|rfl
 all_goals go_enter Tryz.func111,Tryz.ntmps111
 all_goals go_wp2_with (first|((first|(go_at_call 150;refine(bI _ _).mono ?_)|(go_at_call 151;refine(dB _ _ _ _ _).mono ?_)|(go_at_call 155;refine(bH _ _).mono ?_)|(go_at_call 87;refine(bD _ _).mono ?_)|(go_at_call 156;refine(bf _ _).mono ?_));rintro e w1 ⟨rfl,rfl⟩)|(go_at_call 152;refine(bg _ _ _ _ _).mono ?_;rintro e w1 ⟨rfl,hb⟩;obtain⟨xs,d,rfl⟩:=aB hb;clear hb))
 ·exact bodyPost_ret (v:=.tuple #[.agg #[.slice (some ⟨w.heap.size+1,0,none⟩) 1 1,.int .i64 1],.bool true]) (by simp[results,Tryz.results111,go_sem,aR]) rfl ⟨.slice (some ⟨w.heap.size+1,0,none⟩) 1 1,rfl,aA,lit⟩
 ·exact bodyPost_ret (v:=.tuple #[.agg #[.slice none 0 0,.int .i64 1],.bool true]) (by simp[results,Tryz.results111,go_sem,aR]) rfl ⟨.slice none 0 0,rfl,aA,aN _ _ _ _⟩
 ·exact bodyPost_ret (v:=.tuple #[.agg #[.slice (some ⟨w.heap.size+1,0,none⟩) 2 2,.int .i64 6],.bool true]) (by simp[results,Tryz.results111,go_sem,aR]) rfl ⟨.slice (some ⟨w.heap.size+1,0,none⟩) 2 2,rfl,aA,lit⟩
 ·exact bodyPost_ret (v:=.tuple #[.agg #[.slice none 0 0,.int .i64 3],.bool true]) (by simp[results,Tryz.results111,go_sem,aR]) rfl ⟨.slice none 0 0,rfl,aA,aN _ _ _ _⟩
 rotate_left
 rotate_left
 ·exact bodyPost_ret (v:=.tuple #[.agg #[.slice none 0 0,.int .i64 6],.bool true]) (by simp[results,Tryz.results111,go_sem,aR]) rfl ⟨.slice none 0 0,rfl,aA,aN _ _ _ _⟩
 ·exact bodyPost_ret (v:=.tuple #[.agg #[.slice none 0 0,.int .i64 7],.bool true]) (by simp[results,Tryz.results111,go_sem,aR]) rfl ⟨.slice none 0 0,rfl,aA,aN _ _ _ _⟩
 ·exact bodyPost_ret (v:=.tuple #[.agg #[.slice none 0 0,.int .i64 8],.bool true]) (by simp[results,Tryz.results111,go_sem,aR]) rfl ⟨.slice none 0 0,rfl,aA,aN _ _ _ _⟩
 ·exact bodyPost_ret (v:=.tuple #[.agg #[.slice none 0 0,.int .i64 9],.bool true]) (by simp[results,Tryz.results111,go_sem,aR]) rfl ⟨.slice none 0 0,rfl,aA,aN _ _ _ _⟩
 all_goals
  exact bodyPost_ret (v:=.tuple #[.agg #[.slice none 0 0,.int .i64 5],.bool true]) (by simp[results,Tryz.results111,go_sem,aR]) rfl ⟨.slice none 0 0,rfl,aA,aN _ _ _ _⟩
theorem N7 (s:Int) (w:World) (h0:0≤s) (h9:s≤9) (h:bZ 3 s=false):Calls Tryz.prog 111 #[.int .i64 s] w (wO w):=by
 exfalso;rcases ten h0 h9 with rfl|rfl|rfl|rfl|rfl|rfl|rfl|rfl|rfl|rfl<;>(revert h;decide)
theorem JK (s:Int) (w:World) (h:bZ 4 s=true):Calls Tryz.prog 112 #[.int .i64 s] w (lI 4 s w):=by
 obtain⟨-,-,h0,h9⟩:=eT h
 have hs:=ten h0 h9
 clear h h0 h9
 rcases hs with rfl|rfl|rfl|rfl|rfl|rfl|rfl|rfl|rfl|rfl
 all_goals go_enter Tryz.func112,Tryz.ntmps112
 all_goals go_wp2_with (first|((first|(go_at_call 150;refine(bI _ _).mono ?_)|(go_at_call 151;refine(dB _ _ _ _ _).mono ?_)|(go_at_call 155;refine(bH _ _).mono ?_)|(go_at_call 87;refine(bD _ _).mono ?_)|(go_at_call 156;refine(bf _ _).mono ?_));rintro e w1 ⟨rfl,rfl⟩)|(go_at_call 152;refine(bg _ _ _ _ _).mono ?_;rintro e w1 ⟨rfl,hb⟩;obtain⟨xs,d,rfl⟩:=aB hb;clear hb))
 ·exact bodyPost_ret (v:=.tuple #[.agg #[.slice none 0 0,.int .i64 0],.bool true]) (by simp[results,Tryz.results112,go_sem,aR]) rfl ⟨.slice none 0 0,rfl,aA,aN _ _ _ _⟩
 ·exact bodyPost_ret (v:=.tuple #[.agg #[.slice (some ⟨w.heap.size+1,0,none⟩) 1 1,.int .i64 0],.bool true]) (by simp[results,Tryz.results112,go_sem,aR]) rfl ⟨.slice (some ⟨w.heap.size+1,0,none⟩) 1 1,rfl,aA,lit⟩
 ·exact bodyPost_ret (v:=.tuple #[.agg #[.slice none 0 0,.int .i64 2],.bool true]) (by simp[results,Tryz.results112,go_sem,aR]) rfl ⟨.slice none 0 0,rfl,aA,aN _ _ _ _⟩
 ·exact bodyPost_ret (v:=.tuple #[.agg #[.slice none 0 0,.int .i64 2],.bool true]) (by simp[results,Tryz.results112,go_sem,aR]) rfl ⟨.slice none 0 0,rfl,aA,aN _ _ _ _⟩
 ·exact bodyPost_ret (v:=.tuple #[.agg #[.slice none 0 0,.int .i64 4],.bool true]) (by simp[results,Tryz.results112,go_sem,aR]) rfl ⟨.slice none 0 0,rfl,aA,aN _ _ _ _⟩
 ·exact bodyPost_ret (v:=.tuple #[.agg #[.slice none 0 0,.int .i64 4],.bool true]) (by simp[results,Tryz.results112,go_sem,aR]) rfl ⟨.slice none 0 0,rfl,aA,aN _ _ _ _⟩
 rotate_left
 rotate_left
 rotate_left
 ·exact bodyPost_ret (v:=.tuple #[.agg #[.slice (some ⟨w.heap.size+1,0,none⟩) 3 3,.int .i64 4],.bool true]) (by simp[results,Tryz.results112,go_sem,aR]) rfl ⟨.slice (some ⟨w.heap.size+1,0,none⟩) 3 3,rfl,aA,lit⟩
 all_goals
  exact bodyPost_ret (v:=.tuple #[.agg #[.slice (some ⟨w.heap.size+1,0,none⟩) 2 2,.int .i64 4],.bool true]) (by simp[results,Tryz.results112,go_sem,aR]) rfl ⟨.slice (some ⟨w.heap.size+1,0,none⟩) 2 2,rfl,aA,lit⟩
theorem Ox (s:Int) (w:World) (h0:0≤s) (h9:s≤9) (h:bZ 4 s=false):Calls Tryz.prog 112 #[.int .i64 s] w (wO w):=by
 exfalso;rcases ten h0 h9 with rfl|rfl|rfl|rfl|rfl|rfl|rfl|rfl|rfl|rfl<;>(revert h;decide)
theorem EC (s:Int) (w:World) (h:bZ 5 s=true):Calls Tryz.prog 113 #[.int .i64 s] w (lI 5 s w):=by
 obtain⟨-,-,h0,h9⟩:=eT h
 have hs:s=4∨s=5∨s=6∨s=7∨s=8:=by
  rcases ten h0 h9 with rfl|rfl|rfl|rfl|rfl|rfl|rfl|rfl|rfl|rfl<;>first|decide|(exfalso;revert h;decide)
 clear h h0 h9
 rcases hs with rfl|rfl|rfl|rfl|rfl
 all_goals go_enter Tryz.func113,Tryz.ntmps113
 all_goals go_wp2_with (first|((first|(go_at_call 150;refine(bI _ _).mono ?_)|(go_at_call 151;refine(dB _ _ _ _ _).mono ?_)|(go_at_call 155;refine(bH _ _).mono ?_)|(go_at_call 87;refine(bD _ _).mono ?_)|(go_at_call 156;refine(bf _ _).mono ?_));rintro e w1 ⟨rfl,rfl⟩)|(go_at_call 152;refine(bg _ _ _ _ _).mono ?_;rintro e w1 ⟨rfl,hb⟩;obtain⟨xs,d,rfl⟩:=aB hb;clear hb))
 ·exact bodyPost_ret (v:=.tuple #[.agg #[.slice (some ⟨w.heap.size+1,0,none⟩) 1 1,.int .i64 4],.bool true]) (by simp[results,Tryz.results113,go_sem,aR]) rfl ⟨.slice (some ⟨w.heap.size+1,0,none⟩) 1 1,rfl,aA,lit⟩
 ·exact bodyPost_ret (v:=.tuple #[.agg #[.slice (some ⟨w.heap.size+1,0,none⟩) 1 1,.int .i64 5],.bool true]) (by simp[results,Tryz.results113,go_sem,aR]) rfl ⟨.slice (some ⟨w.heap.size+1,0,none⟩) 1 1,rfl,aA,lit⟩
 rotate_left
 rotate_left
 ·exact bodyPost_ret (v:=.tuple #[.agg #[.slice (some ⟨w.heap.size+1,0,none⟩) 1 1,.int .i64 8],.bool true]) (by simp[results,Tryz.results113,go_sem,aR]) rfl ⟨.slice (some ⟨w.heap.size+1,0,none⟩) 1 1,rfl,aA,lit⟩
 all_goals
  exact bodyPost_ret (v:=.tuple #[.agg #[.slice (some ⟨w.heap.size+1,0,none⟩) 1 1,.int .i64 6],.bool true]) (by simp[results,Tryz.results113,go_sem,aR]) rfl ⟨.slice (some ⟨w.heap.size+1,0,none⟩) 1 1,rfl,aA,lit⟩
theorem G8 (s:Int) (w:World) (h0:0≤s) (h9:s≤9) (h:bZ 5 s=false):Calls Tryz.prog 113 #[.int .i64 s] w (wO w):=by
 have hs:s=0∨s=1∨s=2∨s=3∨s=9:=by
  rcases ten h0 h9 with rfl|rfl|rfl|rfl|rfl|rfl|rfl|rfl|rfl|rfl<;>first|decide|(exfalso;revert h;decide)
 clear h h0 h9
 rcases hs with rfl|rfl|rfl|rfl|rfl
 all_goals go_enter Tryz.func113,Tryz.ntmps113
 all_goals go_wp2_with (first|((first|(go_at_call 150;refine(bI _ _).mono ?_)|(go_at_call 151;refine(dB _ _ _ _ _).mono ?_)|(go_at_call 155;refine(bH _ _).mono ?_)|(go_at_call 87;refine(bD _ _).mono ?_)|(go_at_call 156;refine(bf _ _).mono ?_));rintro e w1 ⟨rfl,rfl⟩)|(go_at_call 152;refine(bg _ _ _ _ _).mono ?_;rintro e w1 ⟨rfl,hb⟩;obtain⟨xs,d,rfl⟩:=aB hb;clear hb))
 all_goals
  exact bodyPost_ret (v:=.tuple #[.agg #[.slice none 0 0,.int .i64 0],.bool false]) (by simp[results,Tryz.results113,go_sem]) rfl ⟨_,_,_,_,rfl,aA⟩
theorem Gc (s:Int) (w:World) (h:bZ 6 s=true):Calls Tryz.prog 114 #[.int .i64 s] w (lI 6 s w):=by
 obtain⟨-,-,h0,h9⟩:=eT h
 have hs:s=4∨s=5∨s=6∨s=7∨s=8:=by
  rcases ten h0 h9 with rfl|rfl|rfl|rfl|rfl|rfl|rfl|rfl|rfl|rfl<;>first|decide|(exfalso;revert h;decide)
 clear h h0 h9
 rcases hs with rfl|rfl|rfl|rfl|rfl
 all_goals go_enter Tryz.func114,Tryz.ntmps114
 all_goals go_wp2_with (first|((first|(go_at_call 150;refine(bI _ _).mono ?_)|(go_at_call 151;refine(dB _ _ _ _ _).mono ?_)|(go_at_call 155;refine(bH _ _).mono ?_)|(go_at_call 87;refine(bD _ _).mono ?_)|(go_at_call 156;refine(bf _ _).mono ?_));rintro e w1 ⟨rfl,rfl⟩)|(go_at_call 152;refine(bg _ _ _ _ _).mono ?_;rintro e w1 ⟨rfl,hb⟩;obtain⟨xs,d,rfl⟩:=aB hb;clear hb))
 ·exact bodyPost_ret (v:=.tuple #[.agg #[.slice (some ⟨w.heap.size+1,0,none⟩) 1 1,.int .i64 2],.bool true]) (by simp[results,Tryz.results114,go_sem,aR]) rfl ⟨.slice (some ⟨w.heap.size+1,0,none⟩) 1 1,rfl,aA,lit⟩
 rotate_left
 rotate_left
 rotate_left
 rotate_left
 all_goals
  exact bodyPost_ret (v:=.tuple #[.agg #[.slice (some ⟨w.heap.size+1,0,none⟩) 1 1,.int .i64 3],.bool true]) (by simp[results,Tryz.results114,go_sem,aR]) rfl ⟨.slice (some ⟨w.heap.size+1,0,none⟩) 1 1,rfl,aA,lit⟩
theorem JQ (s:Int) (w:World) (h0:0≤s) (h9:s≤9) (h:bZ 6 s=false):Calls Tryz.prog 114 #[.int .i64 s] w (wO w):=by
 have hs:s=0∨s=1∨s=2∨s=3∨s=9:=by
  rcases ten h0 h9 with rfl|rfl|rfl|rfl|rfl|rfl|rfl|rfl|rfl|rfl<;>first|decide|(exfalso;revert h;decide)
 clear h h0 h9
 rcases hs with rfl|rfl|rfl|rfl|rfl
 all_goals go_enter Tryz.func114,Tryz.ntmps114
 all_goals go_wp2_with (first|((first|(go_at_call 150;refine(bI _ _).mono ?_)|(go_at_call 151;refine(dB _ _ _ _ _).mono ?_)|(go_at_call 155;refine(bH _ _).mono ?_)|(go_at_call 87;refine(bD _ _).mono ?_)|(go_at_call 156;refine(bf _ _).mono ?_));rintro e w1 ⟨rfl,rfl⟩)|(go_at_call 152;refine(bg _ _ _ _ _).mono ?_;rintro e w1 ⟨rfl,hb⟩;obtain⟨xs,d,rfl⟩:=aB hb;clear hb))
 all_goals
  exact bodyPost_ret (v:=.tuple #[.agg #[.slice none 0 0,.int .i64 0],.bool false]) (by simp[results,Tryz.results114,go_sem]) rfl ⟨_,_,_,_,rfl,aA⟩
theorem EU (s:Int) (w:World) (h:bZ 11 s=true):Calls Tryz.prog 119 #[.int .i64 s] w (lI 11 s w):=by
 obtain⟨-,-,h0,h9⟩:=eT h
 have hs:s=2∨s=3∨s=4∨s=5∨s=6∨s=7∨s=8∨s=9:=by
  rcases ten h0 h9 with rfl|rfl|rfl|rfl|rfl|rfl|rfl|rfl|rfl|rfl<;>first|decide|(exfalso;revert h;decide)
 clear h h0 h9
 rcases hs with rfl|rfl|rfl|rfl|rfl|rfl|rfl|rfl
 all_goals go_enter Tryz.func119,Tryz.ntmps119
 all_goals go_wp2_with (first|((first|(go_at_call 150;refine(bI _ _).mono ?_)|(go_at_call 151;refine(dB _ _ _ _ _).mono ?_)|(go_at_call 155;refine(bH _ _).mono ?_)|(go_at_call 87;refine(bD _ _).mono ?_)|(go_at_call 156;refine(bf _ _).mono ?_));rintro e w1 ⟨rfl,rfl⟩)|(go_at_call 152;refine(bg _ _ _ _ _).mono ?_;rintro e w1 ⟨rfl,hb⟩;obtain⟨xs,d,rfl⟩:=aB hb;clear hb))
 ·exact bodyPost_ret (v:=.tuple #[.agg #[.slice (some ⟨w.heap.size+1,0,none⟩) 1 1,.int .i64 2],.bool true]) (by simp[results,Tryz.results119,go_sem,aR]) rfl ⟨.slice (some ⟨w.heap.size+1,0,none⟩) 1 1,rfl,aA,lit⟩
 ·exact bodyPost_ret (v:=.tuple #[.agg #[.slice (some ⟨w.heap.size+1,0,none⟩) 1 1,.int .i64 3],.bool true]) (by simp[results,Tryz.results119,go_sem,aR]) rfl ⟨.slice (some ⟨w.heap.size+1,0,none⟩) 1 1,rfl,aA,lit⟩
 ·exact bodyPost_ret (v:=.tuple #[.agg #[.slice (some ⟨w.heap.size+1,0,none⟩) 1 1,.int .i64 4],.bool true]) (by simp[results,Tryz.results119,go_sem,aR]) rfl ⟨.slice (some ⟨w.heap.size+1,0,none⟩) 1 1,rfl,aA,lit⟩
 ·exact bodyPost_ret (v:=.tuple #[.agg #[.slice (some ⟨w.heap.size+1,0,none⟩) 1 1,.int .i64 5],.bool true]) (by simp[results,Tryz.results119,go_sem,aR]) rfl ⟨.slice (some ⟨w.heap.size+1,0,none⟩) 1 1,rfl,aA,lit⟩
 rotate_left
 rotate_left
 rotate_left
 ·exact bodyPost_ret (v:=.tuple #[.agg #[.slice (some ⟨w.heap.size+1,0,none⟩) 3 3,.int .i64 5],.bool true]) (by simp[results,Tryz.results119,go_sem,aR]) rfl ⟨.slice (some ⟨w.heap.size+1,0,none⟩) 3 3,rfl,aA,lit⟩
 all_goals
  exact bodyPost_ret (v:=.tuple #[.agg #[.slice (some ⟨w.heap.size+1,0,none⟩) 1 1,.int .i64 6],.bool true]) (by simp[results,Tryz.results119,go_sem,aR]) rfl ⟨.slice (some ⟨w.heap.size+1,0,none⟩) 1 1,rfl,aA,lit⟩
theorem Ie (s:Int) (w:World) (h0:0≤s) (h9:s≤9) (h:bZ 11 s=false):Calls Tryz.prog 119 #[.int .i64 s] w (wO w):=by
 have hs:s=0∨s=1:=by
  rcases ten h0 h9 with rfl|rfl|rfl|rfl|rfl|rfl|rfl|rfl|rfl|rfl<;>first|decide|(exfalso;revert h;decide)
 clear h h0 h9
 rcases hs with rfl|rfl
 all_goals go_enter Tryz.func119,Tryz.ntmps119
 all_goals go_wp2_with (first|((first|(go_at_call 150;refine(bI _ _).mono ?_)|(go_at_call 151;refine(dB _ _ _ _ _).mono ?_)|(go_at_call 155;refine(bH _ _).mono ?_)|(go_at_call 87;refine(bD _ _).mono ?_)|(go_at_call 156;refine(bf _ _).mono ?_));rintro e w1 ⟨rfl,rfl⟩)|(go_at_call 152;refine(bg _ _ _ _ _).mono ?_;rintro e w1 ⟨rfl,hb⟩;obtain⟨xs,d,rfl⟩:=aB hb;clear hb))
 ·exact bodyPost_ret (v:=.tuple #[.agg #[.slice none 0 0,.int .i64 0],.bool false]) (by simp[results,Tryz.results119,go_sem]) rfl ⟨_,_,_,_,rfl,aA⟩
 ·exact bodyPost_ret (v:=.tuple #[.agg #[.slice none 0 0,.int .i64 0],.bool false]) (by simp[results,Tryz.results119,go_sem]) rfl ⟨_,_,_,_,rfl,aA⟩
theorem I4 (s:Int) (w:World) (h:bZ 12 s=true):Calls Tryz.prog 120 #[.int .i64 s] w (lI 12 s w):=by
 obtain⟨-,-,h0,h9⟩:=eT h
 have hs:s=2∨s=3∨s=4∨s=5∨s=6∨s=7∨s=8∨s=9:=by
  rcases ten h0 h9 with rfl|rfl|rfl|rfl|rfl|rfl|rfl|rfl|rfl|rfl<;>first|decide|(exfalso;revert h;decide)
 clear h h0 h9
 rcases hs with rfl|rfl|rfl|rfl|rfl|rfl|rfl|rfl
 all_goals go_enter Tryz.func120,Tryz.ntmps120
 all_goals go_wp2_with (first|((first|(go_at_call 150;refine(bI _ _).mono ?_)|(go_at_call 151;refine(dB _ _ _ _ _).mono ?_)|(go_at_call 155;refine(bH _ _).mono ?_)|(go_at_call 87;refine(bD _ _).mono ?_)|(go_at_call 156;refine(bf _ _).mono ?_));rintro e w1 ⟨rfl,rfl⟩)|(go_at_call 152;refine(bg _ _ _ _ _).mono ?_;rintro e w1 ⟨rfl,hb⟩;obtain⟨xs,d,rfl⟩:=aB hb;clear hb))
 ·exact bodyPost_ret (v:=.tuple #[.agg #[.slice none 0 0,.int .i64 2],.bool true]) (by simp[results,Tryz.results120,go_sem,aR]) rfl ⟨.slice none 0 0,rfl,aA,aN _ _ _ _⟩
 ·exact bodyPost_ret (v:=.tuple #[.agg #[.slice none 0 0,.int .i64 3],.bool true]) (by simp[results,Tryz.results120,go_sem,aR]) rfl ⟨.slice none 0 0,rfl,aA,aN _ _ _ _⟩
 ·exact bodyPost_ret (v:=.tuple #[.agg #[.slice (some ⟨w.heap.size+1,0,none⟩) 1 1,.int .i64 2],.bool true]) (by simp[results,Tryz.results120,go_sem,aR]) rfl ⟨.slice (some ⟨w.heap.size+1,0,none⟩) 1 1,rfl,aA,lit⟩
 ·exact bodyPost_ret (v:=.tuple #[.agg #[.slice (some ⟨w.heap.size+1,0,none⟩) 1 1,.int .i64 3],.bool true]) (by simp[results,Tryz.results120,go_sem,aR]) rfl ⟨.slice (some ⟨w.heap.size+1,0,none⟩) 1 1,rfl,aA,lit⟩
 rotate_left
 rotate_left
 ·exact bodyPost_ret (v:=.tuple #[.agg #[.slice none 0 0,.int .i64 8],.bool true]) (by simp[results,Tryz.results120,go_sem,aR]) rfl ⟨.slice none 0 0,rfl,aA,aN _ _ _ _⟩
 ·exact bodyPost_ret (v:=.tuple #[.agg #[.slice (some ⟨w.heap.size+1,0,none⟩) 2 2,.int .i64 6],.bool true]) (by simp[results,Tryz.results120,go_sem,aR]) rfl ⟨.slice (some ⟨w.heap.size+1,0,none⟩) 2 2,rfl,aA,lit⟩
 all_goals
  exact bodyPost_ret (v:=.tuple #[.agg #[.slice none 0 0,.int .i64 6],.bool true]) (by simp[results,Tryz.results120,go_sem,aR]) rfl ⟨.slice none 0 0,rfl,aA,aN _ _ _ _⟩
theorem N_ (s:Int) (w:World) (h0:0≤s) (h9:s≤9) (h:bZ 12 s=false):Calls Tryz.prog 120 #[.int .i64 s] w (wO w):=by
 have hs:s=0∨s=1:=by
  rcases ten h0 h9 with rfl|rfl|rfl|rfl|rfl|rfl|rfl|rfl|rfl|rfl<;>first|decide|(exfalso;revert h;decide)
 clear h h0 h9
 rcases hs with rfl|rfl
 all_goals go_enter Tryz.func120,Tryz.ntmps120
 all_goals go_wp2_with (first|((first|(go_at_call 150;refine(bI _ _).mono ?_)|(go_at_call 151;refine(dB _ _ _ _ _).mono ?_)|(go_at_call 155;refine(bH _ _).mono ?_)|(go_at_call 87;refine(bD _ _).mono ?_)|(go_at_call 156;refine(bf _ _).mono ?_));rintro e w1 ⟨rfl,rfl⟩)|(go_at_call 152;refine(bg _ _ _ _ _).mono ?_;rintro e w1 ⟨rfl,hb⟩;obtain⟨xs,d,rfl⟩:=aB hb;clear hb))
 ·exact bodyPost_ret (v:=.tuple #[.agg #[.slice none 0 0,.int .i64 0],.bool false]) (by simp[results,Tryz.results120,go_sem]) rfl ⟨_,_,_,_,rfl,aA⟩
 ·exact bodyPost_ret (v:=.tuple #[.agg #[.slice none 0 0,.int .i64 0],.bool false]) (by simp[results,Tryz.results120,go_sem]) rfl ⟨_,_,_,_,rfl,aA⟩
theorem Br (s:Int) (w:World) (h:bZ 13 s=true):Calls Tryz.prog 121 #[.int .i64 s] w (lI 13 s w):=by
 obtain⟨-,-,h0,h9⟩:=eT h
 have hs:s=2∨s=3∨s=4∨s=5∨s=6∨s=7∨s=8∨s=9:=by
  rcases ten h0 h9 with rfl|rfl|rfl|rfl|rfl|rfl|rfl|rfl|rfl|rfl<;>first|decide|(exfalso;revert h;decide)
 clear h h0 h9
 rcases hs with rfl|rfl|rfl|rfl|rfl|rfl|rfl|rfl
 all_goals go_enter Tryz.func121,Tryz.ntmps121
 all_goals go_wp2_with (first|((first|(go_at_call 150;refine(bI _ _).mono ?_)|(go_at_call 151;refine(dB _ _ _ _ _).mono ?_)|(go_at_call 155;refine(bH _ _).mono ?_)|(go_at_call 87;refine(bD _ _).mono ?_)|(go_at_call 156;refine(bf _ _).mono ?_));rintro e w1 ⟨rfl,rfl⟩)|(go_at_call 152;refine(bg _ _ _ _ _).mono ?_;rintro e w1 ⟨rfl,hb⟩;obtain⟨xs,d,rfl⟩:=aB hb;clear hb))
 ·exact bodyPost_ret (v:=.tuple #[.agg #[.slice (some ⟨w.heap.size+1,0,none⟩) 1 1,.int .i64 2],.bool true]) (by simp[results,Tryz.results121,go_sem,aR]) rfl ⟨.slice (some ⟨w.heap.size+1,0,none⟩) 1 1,rfl,aA,lit⟩
 ·exact bodyPost_ret (v:=.tuple #[.agg #[.slice (some ⟨w.heap.size+1,0,none⟩) 1 1,.int .i64 3],.bool true]) (by simp[results,Tryz.results121,go_sem,aR]) rfl ⟨.slice (some ⟨w.heap.size+1,0,none⟩) 1 1,rfl,aA,lit⟩
 ·exact bodyPost_ret (v:=.tuple #[.agg #[.slice (some ⟨w.heap.size+1,0,none⟩) 1 1,.int .i64 4],.bool true]) (by simp[results,Tryz.results121,go_sem,aR]) rfl ⟨.slice (some ⟨w.heap.size+1,0,none⟩) 1 1,rfl,aA,lit⟩
 ·exact bodyPost_ret (v:=.tuple #[.agg #[.slice (some ⟨w.heap.size+1,0,none⟩) 1 1,.int .i64 5],.bool true]) (by simp[results,Tryz.results121,go_sem,aR]) rfl ⟨.slice (some ⟨w.heap.size+1,0,none⟩) 1 1,rfl,aA,lit⟩
 ·exact bodyPost_ret (v:=.tuple #[.agg #[.slice (some ⟨w.heap.size+1,0,none⟩) 1 1,.int .i64 6],.bool true]) (by simp[results,Tryz.results121,go_sem,aR]) rfl ⟨.slice (some ⟨w.heap.size+1,0,none⟩) 1 1,rfl,aA,lit⟩
 ·exact bodyPost_ret (v:=.tuple #[.agg #[.slice (some ⟨w.heap.size+1,0,none⟩) 1 1,.int .i64 7],.bool true]) (by simp[results,Tryz.results121,go_sem,aR]) rfl ⟨.slice (some ⟨w.heap.size+1,0,none⟩) 1 1,rfl,aA,lit⟩
 ·exact bodyPost_ret (v:=.tuple #[.agg #[.slice (some ⟨w.heap.size+1,0,none⟩) 1 1,.int .i64 8],.bool true]) (by simp[results,Tryz.results121,go_sem,aR]) rfl ⟨.slice (some ⟨w.heap.size+1,0,none⟩) 1 1,rfl,aA,lit⟩
 ·exact bodyPost_ret (v:=.tuple #[.agg #[.slice (some ⟨w.heap.size+1,0,none⟩) 1 1,.int .i64 9],.bool true]) (by simp[results,Tryz.results121,go_sem,aR]) rfl ⟨.slice (some ⟨w.heap.size+1,0,none⟩) 1 1,rfl,aA,lit⟩
theorem DI (s:Int) (w:World) (h0:0≤s) (h9:s≤9) (h:bZ 13 s=false):Calls Tryz.prog 121 #[.int .i64 s] w (wO w):=by
 have hs:s=0∨s=1:=by
  rcases ten h0 h9 with rfl|rfl|rfl|rfl|rfl|rfl|rfl|rfl|rfl|rfl<;>first|decide|(exfalso;revert h;decide)
 clear h h0 h9
 rcases hs with rfl|rfl
 all_goals go_enter Tryz.func121,Tryz.ntmps121
 all_goals go_wp2_with (first|((first|(go_at_call 150;refine(bI _ _).mono ?_)|(go_at_call 151;refine(dB _ _ _ _ _).mono ?_)|(go_at_call 155;refine(bH _ _).mono ?_)|(go_at_call 87;refine(bD _ _).mono ?_)|(go_at_call 156;refine(bf _ _).mono ?_));rintro e w1 ⟨rfl,rfl⟩)|(go_at_call 152;refine(bg _ _ _ _ _).mono ?_;rintro e w1 ⟨rfl,hb⟩;obtain⟨xs,d,rfl⟩:=aB hb;clear hb))
 ·exact bodyPost_ret (v:=.tuple #[.agg #[.slice (some ⟨w.heap.size+1,0,none⟩) 1 1,.int .i64 0],.bool false]) (by simp[results,Tryz.results121,go_sem]) rfl ⟨_,_,_,_,rfl,aA⟩
 ·exact bodyPost_ret (v:=.tuple #[.agg #[.slice (some ⟨w.heap.size+1,0,none⟩) 1 1,.int .i64 1],.bool false]) (by simp[results,Tryz.results121,go_sem]) rfl ⟨_,_,_,_,rfl,aA⟩
theorem Fz (s:Int) (w:World) (h:bZ 14 s=true):Calls Tryz.prog 122 #[.int .i64 s] w (lI 14 s w):=by
 obtain⟨-,-,h0,h9⟩:=eT h
 have hs:s=2∨s=3∨s=4∨s=5∨s=6∨s=7∨s=8∨s=9:=by
  rcases ten h0 h9 with rfl|rfl|rfl|rfl|rfl|rfl|rfl|rfl|rfl|rfl<;>first|decide|(exfalso;revert h;decide)
 clear h h0 h9
 rcases hs with rfl|rfl|rfl|rfl|rfl|rfl|rfl|rfl
 all_goals go_enter Tryz.func122,Tryz.ntmps122
 all_goals go_wp2_with (first|((first|(go_at_call 150;refine(bI _ _).mono ?_)|(go_at_call 151;refine(dB _ _ _ _ _).mono ?_)|(go_at_call 155;refine(bH _ _).mono ?_)|(go_at_call 87;refine(bD _ _).mono ?_)|(go_at_call 156;refine(bf _ _).mono ?_));rintro e w1 ⟨rfl,rfl⟩)|(go_at_call 152;refine(bg _ _ _ _ _).mono ?_;rintro e w1 ⟨rfl,hb⟩;obtain⟨xs,d,rfl⟩:=aB hb;clear hb))
 ·exact bodyPost_ret (v:=.tuple #[.agg #[.slice none 0 0,.int .i64 2],.bool true]) (by simp[results,Tryz.results122,go_sem,aR]) rfl ⟨.slice none 0 0,rfl,aA,aN _ _ _ _⟩
 ·exact bodyPost_ret (v:=.tuple #[.agg #[.slice none 0 0,.int .i64 3],.bool true]) (by simp[results,Tryz.results122,go_sem,aR]) rfl ⟨.slice none 0 0,rfl,aA,aN _ _ _ _⟩
 ·exact bodyPost_ret (v:=.tuple #[.agg #[.slice none 0 0,.int .i64 4],.bool true]) (by simp[results,Tryz.results122,go_sem,aR]) rfl ⟨.slice none 0 0,rfl,aA,aN _ _ _ _⟩
 ·exact bodyPost_ret (v:=.tuple #[.agg #[.slice none 0 0,.int .i64 5],.bool true]) (by simp[results,Tryz.results122,go_sem,aR]) rfl ⟨.slice none 0 0,rfl,aA,aN _ _ _ _⟩
 rotate_left
 rotate_left
 ·exact bodyPost_ret (v:=.tuple #[.agg #[.slice none 0 0,.int .i64 8],.bool true]) (by simp[results,Tryz.results122,go_sem,aR]) rfl ⟨.slice none 0 0,rfl,aA,aN _ _ _ _⟩
 ·exact bodyPost_ret (v:=.tuple #[.agg #[.slice none 0 0,.int .i64 9],.bool true]) (by simp[results,Tryz.results122,go_sem,aR]) rfl ⟨.slice none 0 0,rfl,aA,aN _ _ _ _⟩
 all_goals
  exact bodyPost_ret (v:=.tuple #[.agg #[.slice none 0 0,.int .i64 6],.bool true]) (by simp[results,Tryz.results122,go_sem,aR]) rfl ⟨.slice none 0 0,rfl,aA,aN _ _ _ _⟩
theorem IV (s:Int) (w:World) (h0:0≤s) (h9:s≤9) (h:bZ 14 s=false):Calls Tryz.prog 122 #[.int .i64 s] w (wO w):=by
 have hs:s=0∨s=1:=by
  rcases ten h0 h9 with rfl|rfl|rfl|rfl|rfl|rfl|rfl|rfl|rfl|rfl<;>first|decide|(exfalso;revert h;decide)
 clear h h0 h9
 rcases hs with rfl|rfl
 all_goals go_enter Tryz.func122,Tryz.ntmps122
 all_goals go_wp2_with (first|((first|(go_at_call 150;refine(bI _ _).mono ?_)|(go_at_call 151;refine(dB _ _ _ _ _).mono ?_)|(go_at_call 155;refine(bH _ _).mono ?_)|(go_at_call 87;refine(bD _ _).mono ?_)|(go_at_call 156;refine(bf _ _).mono ?_));rintro e w1 ⟨rfl,rfl⟩)|(go_at_call 152;refine(bg _ _ _ _ _).mono ?_;rintro e w1 ⟨rfl,hb⟩;obtain⟨xs,d,rfl⟩:=aB hb;clear hb))
 ·exact bodyPost_ret (v:=.tuple #[.agg #[.slice none 0 0,.int .i64 0],.bool false]) (by simp[results,Tryz.results122,go_sem]) rfl ⟨_,_,_,_,rfl,aA⟩
 ·exact bodyPost_ret (v:=.tuple #[.agg #[.slice none 0 0,.int .i64 1],.bool false]) (by simp[results,Tryz.results122,go_sem]) rfl ⟨_,_,_,_,rfl,aA⟩
theorem Fx (s:Int) (w:World) (h:bZ 15 s=true):Calls Tryz.prog 123 #[.int .i64 s] w (lI 15 s w):=by
 obtain⟨-,-,h0,h9⟩:=eT h
 have hs:s=2∨s=3∨s=4∨s=5∨s=6∨s=7∨s=8∨s=9:=by
  rcases ten h0 h9 with rfl|rfl|rfl|rfl|rfl|rfl|rfl|rfl|rfl|rfl<;>first|decide|(exfalso;revert h;decide)
 clear h h0 h9
 rcases hs with rfl|rfl|rfl|rfl|rfl|rfl|rfl|rfl
 all_goals go_enter Tryz.func123,Tryz.ntmps123
 all_goals go_wp2_with (first|((first|(go_at_call 150;refine(bI _ _).mono ?_)|(go_at_call 151;refine(dB _ _ _ _ _).mono ?_)|(go_at_call 155;refine(bH _ _).mono ?_)|(go_at_call 87;refine(bD _ _).mono ?_)|(go_at_call 156;refine(bf _ _).mono ?_));rintro e w1 ⟨rfl,rfl⟩)|(go_at_call 152;refine(bg _ _ _ _ _).mono ?_;rintro e w1 ⟨rfl,hb⟩;obtain⟨xs,d,rfl⟩:=aB hb;clear hb))
 ·exact bodyPost_ret (v:=.tuple #[.agg #[.slice (some ⟨w.heap.size+1,0,none⟩) 1 1,.int .i64 2],.bool true]) (by simp[results,Tryz.results123,go_sem,aR]) rfl ⟨.slice (some ⟨w.heap.size+1,0,none⟩) 1 1,rfl,aA,lit⟩
 rotate_left
 ·exact bodyPost_ret (v:=.tuple #[.agg #[.slice (some ⟨w.heap.size+1,0,none⟩) 1 1,.int .i64 2],.bool true]) (by simp[results,Tryz.results123,go_sem,aR]) rfl ⟨.slice (some ⟨w.heap.size+1,0,none⟩) 1 1,rfl,aA,lit⟩
 rotate_left
 rotate_left
 rotate_left
 rotate_left
 ·exact bodyPost_ret (v:=.tuple #[.agg #[.slice (some ⟨w.heap.size+1,0,none⟩) 3 3,.int .i64 5],.bool true]) (by simp[results,Tryz.results123,go_sem,aR]) rfl ⟨.slice (some ⟨w.heap.size+1,0,none⟩) 3 3,rfl,aA,lit⟩
 all_goals
  exact bodyPost_ret (v:=.tuple #[.agg #[.slice (some ⟨w.heap.size+1,0,none⟩) 1 1,.int .i64 3],.bool true]) (by simp[results,Tryz.results123,go_sem,aR]) rfl ⟨.slice (some ⟨w.heap.size+1,0,none⟩) 1 1,rfl,aA,lit⟩
theorem IL (s:Int) (w:World) (h0:0≤s) (h9:s≤9) (h:bZ 15 s=false):Calls Tryz.prog 123 #[.int .i64 s] w (wO w):=by
 have hs:s=0∨s=1:=by
  rcases ten h0 h9 with rfl|rfl|rfl|rfl|rfl|rfl|rfl|rfl|rfl|rfl<;>first|decide|(exfalso;revert h;decide)
 clear h h0 h9
 rcases hs with rfl|rfl
 all_goals go_enter Tryz.func123,Tryz.ntmps123
 all_goals go_wp2_with (first|((first|(go_at_call 150;refine(bI _ _).mono ?_)|(go_at_call 151;refine(dB _ _ _ _ _).mono ?_)|(go_at_call 155;refine(bH _ _).mono ?_)|(go_at_call 87;refine(bD _ _).mono ?_)|(go_at_call 156;refine(bf _ _).mono ?_));rintro e w1 ⟨rfl,rfl⟩)|(go_at_call 152;refine(bg _ _ _ _ _).mono ?_;rintro e w1 ⟨rfl,hb⟩;obtain⟨xs,d,rfl⟩:=aB hb;clear hb))
 ·exact bodyPost_ret (v:=.tuple #[.agg #[.slice none 0 0,.int .i64 0],.bool false]) (by simp[results,Tryz.results123,go_sem]) rfl ⟨_,_,_,_,rfl,aA⟩
 ·exact bodyPost_ret (v:=.tuple #[.agg #[.slice none 0 0,.int .i64 0],.bool false]) (by simp[results,Tryz.results123,go_sem]) rfl ⟨_,_,_,_,rfl,aA⟩
theorem Ib (s:Int) (w:World) (h:bZ 16 s=true):Calls Tryz.prog 124 #[.int .i64 s] w (lI 16 s w):=by
 obtain⟨-,-,h0,h9⟩:=eT h
 have hs:s=2∨s=3∨s=4∨s=5∨s=6∨s=7∨s=8∨s=9:=by
  rcases ten h0 h9 with rfl|rfl|rfl|rfl|rfl|rfl|rfl|rfl|rfl|rfl<;>first|decide|(exfalso;revert h;decide)
 clear h h0 h9
 rcases hs with rfl|rfl|rfl|rfl|rfl|rfl|rfl|rfl
 all_goals go_enter Tryz.func124,Tryz.ntmps124
 all_goals go_wp2_with (first|((first|(go_at_call 150;refine(bI _ _).mono ?_)|(go_at_call 151;refine(dB _ _ _ _ _).mono ?_)|(go_at_call 155;refine(bH _ _).mono ?_)|(go_at_call 87;refine(bD _ _).mono ?_)|(go_at_call 156;refine(bf _ _).mono ?_));rintro e w1 ⟨rfl,rfl⟩)|(go_at_call 152;refine(bg _ _ _ _ _).mono ?_;rintro e w1 ⟨rfl,hb⟩;obtain⟨xs,d,rfl⟩:=aB hb;clear hb))
 ·exact bodyPost_ret (v:=.tuple #[.agg #[.slice none 0 0,.int .i64 2],.bool true]) (by simp[results,Tryz.results124,go_sem,aR]) rfl ⟨.slice none 0 0,rfl,aA,aN _ _ _ _⟩
 ·exact bodyPost_ret (v:=.tuple #[.agg #[.slice none 0 0,.int .i64 3],.bool true]) (by simp[results,Tryz.results124,go_sem,aR]) rfl ⟨.slice none 0 0,rfl,aA,aN _ _ _ _⟩
 ·exact bodyPost_ret (v:=.tuple #[.agg #[.slice none 0 0,.int .i64 4],.bool true]) (by simp[results,Tryz.results124,go_sem,aR]) rfl ⟨.slice none 0 0,rfl,aA,aN _ _ _ _⟩
 ·exact bodyPost_ret (v:=.tuple #[.agg #[.slice none 0 0,.int .i64 5],.bool true]) (by simp[results,Tryz.results124,go_sem,aR]) rfl ⟨.slice none 0 0,rfl,aA,aN _ _ _ _⟩
 ·exact bodyPost_ret (v:=.tuple #[.agg #[.slice none 0 0,.int .i64 6],.bool true]) (by simp[results,Tryz.results124,go_sem,aR]) rfl ⟨.slice none 0 0,rfl,aA,aN _ _ _ _⟩
 ·exact bodyPost_ret (v:=.tuple #[.agg #[.slice none 0 0,.int .i64 7],.bool true]) (by simp[results,Tryz.results124,go_sem,aR]) rfl ⟨.slice none 0 0,rfl,aA,aN _ _ _ _⟩
 ·exact bodyPost_ret (v:=.tuple #[.agg #[.slice none 0 0,.int .i64 8],.bool true]) (by simp[results,Tryz.results124,go_sem,aR]) rfl ⟨.slice none 0 0,rfl,aA,aN _ _ _ _⟩
 ·exact bodyPost_ret (v:=.tuple #[.agg #[.slice (some ⟨w.heap.size+1,0,none⟩) 1 1,.int .i64 9],.bool true]) (by simp[results,Tryz.results124,go_sem,aR]) rfl ⟨.slice (some ⟨w.heap.size+1,0,none⟩) 1 1,rfl,aA,lit⟩
theorem K6 (s:Int) (w:World) (h0:0≤s) (h9:s≤9) (h:bZ 16 s=false):Calls Tryz.prog 124 #[.int .i64 s] w (wO w):=by
 have hs:s=0∨s=1:=by
  rcases ten h0 h9 with rfl|rfl|rfl|rfl|rfl|rfl|rfl|rfl|rfl|rfl<;>first|decide|(exfalso;revert h;decide)
 clear h h0 h9
 rcases hs with rfl|rfl
 all_goals go_enter Tryz.func124,Tryz.ntmps124
 all_goals go_wp2_with (first|((first|(go_at_call 150;refine(bI _ _).mono ?_)|(go_at_call 151;refine(dB _ _ _ _ _).mono ?_)|(go_at_call 155;refine(bH _ _).mono ?_)|(go_at_call 87;refine(bD _ _).mono ?_)|(go_at_call 156;refine(bf _ _).mono ?_));rintro e w1 ⟨rfl,rfl⟩)|(go_at_call 152;refine(bg _ _ _ _ _).mono ?_;rintro e w1 ⟨rfl,hb⟩;obtain⟨xs,d,rfl⟩:=aB hb;clear hb))
 ·exact bodyPost_ret (v:=.tuple #[.agg #[.slice none 0 0,.int .i64 0],.bool false]) (by simp[results,Tryz.results124,go_sem]) rfl ⟨_,_,_,_,rfl,aA⟩
 ·exact bodyPost_ret (v:=.tuple #[.agg #[.slice none 0 0,.int .i64 1],.bool false]) (by simp[results,Tryz.results124,go_sem]) rfl ⟨_,_,_,_,rfl,aA⟩
theorem Cc (s:Int) (w:World) (h:bZ 7 s=true):Calls Tryz.prog 153 #[.int .i64 s,.int .i64 8] w (lI 7 s w):=by
 obtain⟨-,-,h0,h9⟩:=eT h
 have hs:s=2∨s=3∨s=4∨s=5∨s=6∨s=7∨s=8∨s=9:=by
  rcases ten h0 h9 with rfl|rfl|rfl|rfl|rfl|rfl|rfl|rfl|rfl|rfl<;>first|decide|(exfalso;revert h;decide)
 clear h h0 h9
 rcases hs with rfl|rfl|rfl|rfl|rfl|rfl|rfl|rfl
 all_goals go_enter Tryz.func153,Tryz.ntmps153
 all_goals go_wp2_with (first|((first|(go_at_call 150;refine(bI _ _).mono ?_)|(go_at_call 151;refine(dB _ _ _ _ _).mono ?_)|(go_at_call 155;refine(bH _ _).mono ?_)|(go_at_call 87;refine(bD _ _).mono ?_)|(go_at_call 156;refine(bf _ _).mono ?_));rintro e w1 ⟨rfl,rfl⟩)|(go_at_call 152;refine(bg _ _ _ _ _).mono ?_;rintro e w1 ⟨rfl,hb⟩;obtain⟨xs,d,rfl⟩:=aB hb;clear hb))
 ·exact bodyPost_ret (v:=.tuple #[.agg #[.slice (some ⟨w.heap.size+1,0,none⟩) 1 1,.int .i64 2],.bool true]) (by simp[results,Tryz.results153,go_sem]) rfl ⟨.slice (some ⟨w.heap.size+1,0,none⟩) 1 1,rfl,aA,lit⟩
 rotate_left
 ·exact bodyPost_ret (v:=.tuple #[.agg #[.slice none 0 0,.int .i64 4],.bool true]) (by simp[results,Tryz.results153,go_sem]) rfl ⟨.slice none 0 0,rfl,aA,aN _ _ _ _⟩
 ·exact bodyPost_ret (v:=.tuple #[.agg #[.slice none 0 0,.int .i64 5],.bool true]) (by simp[results,Tryz.results153,go_sem]) rfl ⟨.slice none 0 0,rfl,aA,aN _ _ _ _⟩
 ·exact bodyPost_ret (v:=.tuple #[.agg #[.slice (some ⟨w.heap.size+1,0,none⟩) 1 1,.int .i64 8],.bool true]) (by simp[results,Tryz.results153,go_sem]) rfl ⟨.slice (some ⟨w.heap.size+1,0,none⟩) 1 1,rfl,aA,lit⟩
 ·exact bodyPost_ret (v:=.tuple #[.agg #[.slice (some ⟨w.heap.size+1,0,none⟩) 2 2,.int .i64 9],.bool true]) (by simp[results,Tryz.results153,go_sem]) rfl ⟨.slice (some ⟨w.heap.size+1,0,none⟩) 2 2,rfl,aA,lit⟩
 ·exact bodyPost_ret (v:=.tuple #[.agg #[.slice (some ⟨w.heap.size+1,0,none⟩) 1 1,.int .i64 8],.bool true]) (by simp[results,Tryz.results153,go_sem]) rfl ⟨.slice (some ⟨w.heap.size+1,0,none⟩) 1 1,rfl,aA,lit⟩
 rotate_left
 all_goals
  exact bodyPost_ret (v:=.tuple #[.agg #[.slice (some ⟨w.heap.size+1,0,none⟩) 3 3,.int .i64 8],.bool true]) (by simp[results,Tryz.results153,go_sem]) rfl ⟨.slice (some ⟨w.heap.size+1,0,none⟩) 3 3,rfl,aA,lit⟩
theorem EF (s:Int) (w:World) (h0:0≤s) (h9:s≤9) (h:bZ 7 s=false):Calls Tryz.prog 153 #[.int .i64 s,.int .i64 8] w (wO w):=by
 have hs:s=0∨s=1:=by
  rcases ten h0 h9 with rfl|rfl|rfl|rfl|rfl|rfl|rfl|rfl|rfl|rfl<;>first|decide|(exfalso;revert h;decide)
 clear h h0 h9
 rcases hs with rfl|rfl
 all_goals go_enter Tryz.func153,Tryz.ntmps153
 all_goals go_wp2_with (first|((first|(go_at_call 150;refine(bI _ _).mono ?_)|(go_at_call 151;refine(dB _ _ _ _ _).mono ?_)|(go_at_call 155;refine(bH _ _).mono ?_)|(go_at_call 87;refine(bD _ _).mono ?_)|(go_at_call 156;refine(bf _ _).mono ?_));rintro e w1 ⟨rfl,rfl⟩)|(go_at_call 152;refine(bg _ _ _ _ _).mono ?_;rintro e w1 ⟨rfl,hb⟩;obtain⟨xs,d,rfl⟩:=aB hb;clear hb))
 ·exact bodyPost_ret (v:=.tuple #[.agg #[.slice none 0 0,.int .i64 0],.bool false]) (by simp[results,Tryz.results153,go_sem]) rfl ⟨_,_,_,_,rfl,by exact aA⟩
 ·exact bodyPost_ret (v:=.tuple #[.agg #[.slice none 0 0,.int .i64 0],.bool false]) (by simp[results,Tryz.results153,go_sem]) rfl ⟨_,_,_,_,rfl,by exact aA⟩
theorem Im (s:Int) (w:World) (h:bZ 7 s=true):Calls Tryz.prog 115 #[.int .i64 s] w (lI 7 s w):=by
 have H:=hid h
 clear h
 go_enter Tryz.func115,Tryz.ntmps115
 go_wp2_with (go_at_call 153;refine(Cc s _ H.out).mono ?_;rintro e w1 ⟨v,rfl,hb,ho⟩;obtain⟨xs,d,rfl⟩:=aB hb;clear hb;obtain⟨A,c,rfl,-,-⟩:=ownsRow_form ho;have HA:=hid ho;clear ho)
 exact bodyPost_ret (v:=.tuple #[.agg #[.slice A _ c,.int .i64 _],.bool true]) (by simp[results,Tryz.results115,go_sem]) rfl ⟨_,rfl,by exact aA,aK (dI HA.out (by simp) (aaE _)) (by simp)⟩
theorem K9 (s:Int) (w:World) (h0:0≤s) (h9:s≤9) (h:bZ 7 s=false):Calls Tryz.prog 115 #[.int .i64 s] w (wO w):=by
 have H:=hid (And.intro h0 (And.intro h9 h))
 clear h h0 h9
 go_enter Tryz.func115,Tryz.ntmps115
 go_wp2_with (go_at_call 153;refine(EF s _ H.out.1 H.out.2.1 H.out.2.2).mono ?_;rintro e w1 ⟨A,n,c,y,rfl,hb⟩;obtain⟨xs,d,rfl⟩:=aB hb;clear hb)
 exact bodyPost_ret (v:=.tuple #[.agg #[.slice A n c,.int .i64 y],.bool false]) (by simp[results,Tryz.results115,go_sem]) rfl ⟨_,_,_,_,rfl,by exact aA⟩
theorem Ce (s:Int) (w:World) (h:bZ 8 s=true):Calls Tryz.prog 153 #[.int .i64 s,.int .i64 9] w (lI 8 s w):=by
 obtain⟨-,-,h0,h9⟩:=eT h
 have hs:s=2∨s=3∨s=4∨s=5∨s=6∨s=7∨s=8∨s=9:=by
  rcases ten h0 h9 with rfl|rfl|rfl|rfl|rfl|rfl|rfl|rfl|rfl|rfl<;>first|decide|(exfalso;revert h;decide)
 clear h h0 h9
 rcases hs with rfl|rfl|rfl|rfl|rfl|rfl|rfl|rfl
 all_goals go_enter Tryz.func153,Tryz.ntmps153
 all_goals go_wp2_with (first|((first|(go_at_call 150;refine(bI _ _).mono ?_)|(go_at_call 151;refine(dB _ _ _ _ _).mono ?_)|(go_at_call 155;refine(bH _ _).mono ?_)|(go_at_call 87;refine(bD _ _).mono ?_)|(go_at_call 156;refine(bf _ _).mono ?_));rintro e w1 ⟨rfl,rfl⟩)|(go_at_call 152;refine(bg _ _ _ _ _).mono ?_;rintro e w1 ⟨rfl,hb⟩;obtain⟨xs,d,rfl⟩:=aB hb;clear hb))
 ·exact bodyPost_ret (v:=.tuple #[.agg #[.slice (some ⟨w.heap.size+1,0,none⟩) 1 1,.int .i64 2],.bool true]) (by simp[results,Tryz.results153,go_sem]) rfl ⟨.slice (some ⟨w.heap.size+1,0,none⟩) 1 1,rfl,aA,lit⟩
 rotate_left
 ·exact bodyPost_ret (v:=.tuple #[.agg #[.slice none 0 0,.int .i64 4],.bool true]) (by simp[results,Tryz.results153,go_sem]) rfl ⟨.slice none 0 0,rfl,aA,aN _ _ _ _⟩
 ·exact bodyPost_ret (v:=.tuple #[.agg #[.slice none 0 0,.int .i64 5],.bool true]) (by simp[results,Tryz.results153,go_sem]) rfl ⟨.slice none 0 0,rfl,aA,aN _ _ _ _⟩
 ·exact bodyPost_ret (v:=.tuple #[.agg #[.slice (some ⟨w.heap.size+1,0,none⟩) 1 1,.int .i64 6],.bool true]) (by simp[results,Tryz.results153,go_sem]) rfl ⟨.slice (some ⟨w.heap.size+1,0,none⟩) 1 1,rfl,aA,lit⟩
 ·exact bodyPost_ret (v:=.tuple #[.agg #[.slice (some ⟨w.heap.size+1,0,none⟩) 1 1,.int .i64 7],.bool true]) (by simp[results,Tryz.results153,go_sem]) rfl ⟨.slice (some ⟨w.heap.size+1,0,none⟩) 1 1,rfl,aA,lit⟩
 ·exact bodyPost_ret (v:=.tuple #[.agg #[.slice (some ⟨w.heap.size+1,0,none⟩) 1 1,.int .i64 6],.bool true]) (by simp[results,Tryz.results153,go_sem]) rfl ⟨.slice (some ⟨w.heap.size+1,0,none⟩) 1 1,rfl,aA,lit⟩
 rotate_left
 all_goals
  exact bodyPost_ret (v:=.tuple #[.agg #[.slice (some ⟨w.heap.size+1,0,none⟩) 3 3,.int .i64 6],.bool true]) (by simp[results,Tryz.results153,go_sem]) rfl ⟨.slice (some ⟨w.heap.size+1,0,none⟩) 3 3,rfl,aA,lit⟩
theorem EG (s:Int) (w:World) (h0:0≤s) (h9:s≤9) (h:bZ 8 s=false):Calls Tryz.prog 153 #[.int .i64 s,.int .i64 9] w (wO w):=by
 have hs:s=0∨s=1:=by
  rcases ten h0 h9 with rfl|rfl|rfl|rfl|rfl|rfl|rfl|rfl|rfl|rfl<;>first|decide|(exfalso;revert h;decide)
 clear h h0 h9
 rcases hs with rfl|rfl
 all_goals go_enter Tryz.func153,Tryz.ntmps153
 all_goals go_wp2_with (first|((first|(go_at_call 150;refine(bI _ _).mono ?_)|(go_at_call 151;refine(dB _ _ _ _ _).mono ?_)|(go_at_call 155;refine(bH _ _).mono ?_)|(go_at_call 87;refine(bD _ _).mono ?_)|(go_at_call 156;refine(bf _ _).mono ?_));rintro e w1 ⟨rfl,rfl⟩)|(go_at_call 152;refine(bg _ _ _ _ _).mono ?_;rintro e w1 ⟨rfl,hb⟩;obtain⟨xs,d,rfl⟩:=aB hb;clear hb))
 ·exact bodyPost_ret (v:=.tuple #[.agg #[.slice none 0 0,.int .i64 0],.bool false]) (by simp[results,Tryz.results153,go_sem]) rfl ⟨_,_,_,_,rfl,by exact aA⟩
 ·exact bodyPost_ret (v:=.tuple #[.agg #[.slice none 0 0,.int .i64 0],.bool false]) (by simp[results,Tryz.results153,go_sem]) rfl ⟨_,_,_,_,rfl,by exact aA⟩
theorem KX (s:Int) (w:World) (h:bZ 8 s=true):Calls Tryz.prog 116 #[.int .i64 s] w (lI 8 s w):=by
 have H:=hid h
 clear h
 go_enter Tryz.func116,Tryz.ntmps116
 go_wp2_with (go_at_call 153;refine(Ce s _ H.out).mono ?_;rintro e w1 ⟨v,rfl,hb,ho⟩;obtain⟨xs,d,rfl⟩:=aB hb;clear hb;obtain⟨A,c,rfl,-,-⟩:=ownsRow_form ho;have HA:=hid ho;clear ho)
 exact bodyPost_ret (v:=.tuple #[.agg #[.slice A _ c,.int .i64 _],.bool true]) (by simp[results,Tryz.results116,go_sem]) rfl ⟨_,rfl,by exact aA,aK (dI HA.out (by simp) (aaE _)) (by simp)⟩
theorem TI (s:Int) (w:World) (h0:0≤s) (h9:s≤9) (h:bZ 8 s=false):Calls Tryz.prog 116 #[.int .i64 s] w (wO w):=by
 have H:=hid (And.intro h0 (And.intro h9 h))
 clear h h0 h9
 go_enter Tryz.func116,Tryz.ntmps116
 go_wp2_with (go_at_call 153;refine(EG s _ H.out.1 H.out.2.1 H.out.2.2).mono ?_;rintro e w1 ⟨A,n,c,y,rfl,hb⟩;obtain⟨xs,d,rfl⟩:=aB hb;clear hb)
 exact bodyPost_ret (v:=.tuple #[.agg #[.slice A n c,.int .i64 y],.bool false]) (by simp[results,Tryz.results116,go_sem]) rfl ⟨_,_,_,_,rfl,by exact aA⟩
theorem FN (s:Int) (w:World) (hs:s=2∨s=3∨s=4∨s=5):Calls Tryz.prog 154 #[.int .i64 s] w (lI 9 s w):=by
 rcases hs with rfl|rfl|rfl|rfl
 all_goals go_enter Tryz.func154,Tryz.ntmps154
 all_goals go_wp2_with (first|((first|(go_at_call 150;refine(bI _ _).mono ?_)|(go_at_call 151;refine(dB _ _ _ _ _).mono ?_)|(go_at_call 155;refine(bH _ _).mono ?_)|(go_at_call 87;refine(bD _ _).mono ?_)|(go_at_call 156;refine(bf _ _).mono ?_));rintro e w1 ⟨rfl,rfl⟩)|(go_at_call 152;refine(bg _ _ _ _ _).mono ?_;rintro e w1 ⟨rfl,hb⟩;obtain⟨xs,d,rfl⟩:=aB hb;clear hb))
 ·exact bodyPost_ret (v:=.tuple #[.agg #[.slice (some ⟨w.heap.size+1,0,none⟩) 1 1,.int .i64 2],.bool true]) (by simp[results,Tryz.results154,go_sem]) rfl ⟨.slice (some ⟨w.heap.size+1,0,none⟩) 1 1,rfl,aA,lit⟩
 ·exact bodyPost_ret (v:=.tuple #[.agg #[.slice (some ⟨w.heap.size+1,0,none⟩) 1 1,.int .i64 3],.bool true]) (by simp[results,Tryz.results154,go_sem]) rfl ⟨.slice (some ⟨w.heap.size+1,0,none⟩) 1 1,rfl,aA,lit⟩
 ·exact bodyPost_ret (v:=.tuple #[.agg #[.slice none 0 0,.int .i64 4],.bool true]) (by simp[results,Tryz.results154,go_sem]) rfl ⟨.slice none 0 0,rfl,aA,aN _ _ _ _⟩
 ·exact bodyPost_ret (v:=.tuple #[.agg #[.slice none 0 0,.int .i64 5],.bool true]) (by simp[results,Tryz.results154,go_sem]) rfl ⟨.slice none 0 0,rfl,aA,aN _ _ _ _⟩
theorem EB (s:Int) (w:World) (h:bZ 9 s=true):Calls Tryz.prog 117 #[.int .i64 s] w (lI 9 s w):=by
 obtain⟨-,-,h0,h9⟩:=eT h
 have hs:s=2∨s=3∨s=4∨s=5∨s=6∨s=7∨s=8∨s=9:=by
  rcases ten h0 h9 with rfl|rfl|rfl|rfl|rfl|rfl|rfl|rfl|rfl|rfl<;>first|decide|(exfalso;revert h;decide)
 clear h h0 h9
 rcases hs with rfl|rfl|rfl|rfl|rfl|rfl|rfl|rfl
 all_goals go_enter Tryz.func117,Tryz.ntmps117
 all_goals go_wp2_with (first|(go_at_call 154;refine(FN _ _ (by decide)).mono ?_;rintro e w1 ⟨v,rfl,hb,ho⟩;obtain⟨xs,d,rfl⟩:=aB hb;clear hb;obtain⟨A,c,rfl,-,-⟩:=ownsRow_form ho;have HA:=hid ho;clear ho)|(first|(go_at_call 150;refine(bI _ _).mono ?_;rintro e w1 ⟨rfl,rfl⟩)|(go_at_call 151;refine(dB _ _ _ _ _).mono ?_;rintro e w1 ⟨rfl,rfl⟩)|(go_at_call 152;refine(bg _ _ _ _ _).mono ?_;rintro e w1 ⟨rfl,hb⟩;obtain⟨xs,d,rfl⟩:=aB hb;clear hb)|(go_at_call 155;refine(bH _ _).mono ?_;rintro e w1 ⟨rfl,rfl⟩)|(go_at_call 87;refine(bD _ _).mono ?_;rintro e w1 ⟨rfl,rfl⟩)|(go_at_call 156;refine(bf _ _).mono ?_;rintro e w1 ⟨rfl,rfl⟩)))
 rotate_left
 rotate_left
 rotate_left
 rotate_left
 ·exact bodyPost_ret (v:=.tuple #[.agg #[.slice (some ⟨w.heap.size+1,0,none⟩) 1 1,.int .i64 7],.bool true]) (by simp[results,Tryz.results117,go_sem]) rfl ⟨.slice (some ⟨w.heap.size+1,0,none⟩) 1 1,rfl,aA,lit⟩
 ·exact bodyPost_ret (v:=.tuple #[.agg #[.slice (some ⟨w.heap.size+1,0,none⟩) 1 1,.int .i64 6],.bool true]) (by simp[results,Tryz.results117,go_sem]) rfl ⟨.slice (some ⟨w.heap.size+1,0,none⟩) 1 1,rfl,aA,lit⟩
 ·exact bodyPost_ret (v:=.tuple #[.agg #[.slice (some ⟨w.heap.size+1,0,none⟩) 2 2,.int .i64 9],.bool true]) (by simp[results,Tryz.results117,go_sem]) rfl ⟨.slice (some ⟨w.heap.size+1,0,none⟩) 2 2,rfl,aA,lit⟩
 ·exact bodyPost_ret (v:=.tuple #[.agg #[.slice (some ⟨w.heap.size+1,0,none⟩) 2 2,.int .i64 6],.bool true]) (by simp[results,Tryz.results117,go_sem]) rfl ⟨.slice (some ⟨w.heap.size+1,0,none⟩) 2 2,rfl,aA,lit⟩
 all_goals
  exact bodyPost_ret (v:=.tuple #[.agg #[.slice A _ c,.int .i64 _],.bool true]) (by simp[results,Tryz.results117,go_sem]) rfl ⟨_,rfl,by exact aA,aK (dI HA.out (by simp) (aaE _)) (by simp)⟩
theorem Jb (s:Int) (w:World) (hs:s=0∨s=1):Calls Tryz.prog 154 #[.int .i64 s] w (wO w):=by
 rcases hs with rfl|rfl
 all_goals go_enter Tryz.func154,Tryz.ntmps154
 all_goals go_wp2_with (first|((first|(go_at_call 150;refine(bI _ _).mono ?_)|(go_at_call 151;refine(dB _ _ _ _ _).mono ?_)|(go_at_call 155;refine(bH _ _).mono ?_)|(go_at_call 87;refine(bD _ _).mono ?_)|(go_at_call 156;refine(bf _ _).mono ?_));rintro e w1 ⟨rfl,rfl⟩)|(go_at_call 152;refine(bg _ _ _ _ _).mono ?_;rintro e w1 ⟨rfl,hb⟩;obtain⟨xs,d,rfl⟩:=aB hb;clear hb))
 ·exact bodyPost_ret (v:=.tuple #[.agg #[.slice none 0 0,.int .i64 0],.bool false]) (by simp[results,Tryz.results154,go_sem]) rfl ⟨_,_,_,_,rfl,aA⟩
 ·exact bodyPost_ret (v:=.tuple #[.agg #[.slice none 0 0,.int .i64 0],.bool false]) (by simp[results,Tryz.results154,go_sem]) rfl ⟨_,_,_,_,rfl,aA⟩
theorem G5 (s:Int) (w:World) (h0:0≤s) (h9:s≤9) (h:bZ 9 s=false):Calls Tryz.prog 117 #[.int .i64 s] w (wO w):=by
 have hs:s=0∨s=1:=by
  rcases ten h0 h9 with rfl|rfl|rfl|rfl|rfl|rfl|rfl|rfl|rfl|rfl<;>first|decide|(exfalso;revert h;decide)
 clear h h0 h9
 rcases hs with rfl|rfl
 all_goals go_enter Tryz.func117,Tryz.ntmps117
 all_goals go_wp2_with (first|(go_at_call 154;refine(Jb _ _ (by decide)).mono ?_;rintro e w1 ⟨A,n,c,y,rfl,hb⟩;obtain⟨xs,d,rfl⟩:=aB hb;clear hb)|(first|(go_at_call 150;refine(bI _ _).mono ?_;rintro e w1 ⟨rfl,rfl⟩)|(go_at_call 151;refine(dB _ _ _ _ _).mono ?_;rintro e w1 ⟨rfl,rfl⟩)|(go_at_call 152;refine(bg _ _ _ _ _).mono ?_;rintro e w1 ⟨rfl,hb⟩;obtain⟨xs,d,rfl⟩:=aB hb;clear hb)|(go_at_call 155;refine(bH _ _).mono ?_;rintro e w1 ⟨rfl,rfl⟩)|(go_at_call 87;refine(bD _ _).mono ?_;rintro e w1 ⟨rfl,rfl⟩)|(go_at_call 156;refine(bf _ _).mono ?_;rintro e w1 ⟨rfl,rfl⟩)))
 ·exact bodyPost_ret (v:=.tuple #[.agg #[.slice A n c,.int .i64 y],.bool false]) (by simp[results,Tryz.results117,go_sem]) rfl ⟨_,_,_,_,rfl,by exact aA⟩
 ·exact bodyPost_ret (v:=.tuple #[.agg #[.slice A n c,.int .i64 y],.bool false]) (by simp[results,Tryz.results117,go_sem]) rfl ⟨_,_,_,_,rfl,by exact aA⟩
theorem Dl (s:Int) (w:World) (hs:s=2∨s=3∨s=4∨s=5):Calls Tryz.prog 154 #[.int .i64 s] w (lI 10 s w):=by
 rcases hs with rfl|rfl|rfl|rfl
 all_goals go_enter Tryz.func154,Tryz.ntmps154
 all_goals go_wp2_with (first|((first|(go_at_call 150;refine(bI _ _).mono ?_)|(go_at_call 151;refine(dB _ _ _ _ _).mono ?_)|(go_at_call 155;refine(bH _ _).mono ?_)|(go_at_call 87;refine(bD _ _).mono ?_)|(go_at_call 156;refine(bf _ _).mono ?_));rintro e w1 ⟨rfl,rfl⟩)|(go_at_call 152;refine(bg _ _ _ _ _).mono ?_;rintro e w1 ⟨rfl,hb⟩;obtain⟨xs,d,rfl⟩:=aB hb;clear hb))
 ·exact bodyPost_ret (v:=.tuple #[.agg #[.slice (some ⟨w.heap.size+1,0,none⟩) 1 1,.int .i64 2],.bool true]) (by simp[results,Tryz.results154,go_sem]) rfl ⟨.slice (some ⟨w.heap.size+1,0,none⟩) 1 1,rfl,aA,lit⟩
 ·exact bodyPost_ret (v:=.tuple #[.agg #[.slice (some ⟨w.heap.size+1,0,none⟩) 1 1,.int .i64 3],.bool true]) (by simp[results,Tryz.results154,go_sem]) rfl ⟨.slice (some ⟨w.heap.size+1,0,none⟩) 1 1,rfl,aA,lit⟩
 ·exact bodyPost_ret (v:=.tuple #[.agg #[.slice none 0 0,.int .i64 4],.bool true]) (by simp[results,Tryz.results154,go_sem]) rfl ⟨.slice none 0 0,rfl,aA,aN _ _ _ _⟩
 ·exact bodyPost_ret (v:=.tuple #[.agg #[.slice none 0 0,.int .i64 5],.bool true]) (by simp[results,Tryz.results154,go_sem]) rfl ⟨.slice none 0 0,rfl,aA,aN _ _ _ _⟩
theorem AY (s:Int) (w:World) (h:bZ 10 s=true):Calls Tryz.prog 118 #[.int .i64 s] w (lI 10 s w):=by
 obtain⟨-,-,h0,h9⟩:=eT h
 have hs:s=2∨s=3∨s=4∨s=5∨s=6∨s=7∨s=8∨s=9:=by
  rcases ten h0 h9 with rfl|rfl|rfl|rfl|rfl|rfl|rfl|rfl|rfl|rfl<;>first|decide|(exfalso;revert h;decide)
 clear h h0 h9
 rcases hs with rfl|rfl|rfl|rfl|rfl|rfl|rfl|rfl
 all_goals go_enter Tryz.func118,Tryz.ntmps118
 all_goals go_wp2_with (first|(go_at_call 154;refine(Dl _ _ (by decide)).mono ?_;rintro e w1 ⟨v,rfl,hb,ho⟩;obtain⟨xs,d,rfl⟩:=aB hb;clear hb;obtain⟨A,c,rfl,-,-⟩:=ownsRow_form ho;have HA:=hid ho;clear ho)|(first|(go_at_call 150;refine(bI _ _).mono ?_;rintro e w1 ⟨rfl,rfl⟩)|(go_at_call 151;refine(dB _ _ _ _ _).mono ?_;rintro e w1 ⟨rfl,rfl⟩)|(go_at_call 152;refine(bg _ _ _ _ _).mono ?_;rintro e w1 ⟨rfl,hb⟩;obtain⟨xs,d,rfl⟩:=aB hb;clear hb)|(go_at_call 155;refine(bH _ _).mono ?_;rintro e w1 ⟨rfl,rfl⟩)|(go_at_call 87;refine(bD _ _).mono ?_;rintro e w1 ⟨rfl,rfl⟩)|(go_at_call 156;refine(bf _ _).mono ?_;rintro e w1 ⟨rfl,rfl⟩)))
 rotate_left
 rotate_left
 rotate_left
 rotate_left
 ·exact bodyPost_ret (v:=.tuple #[.agg #[.slice (some ⟨w.heap.size+1,0,none⟩) 2 2,.int .i64 6],.bool true]) (by simp[results,Tryz.results118,go_sem]) rfl ⟨.slice (some ⟨w.heap.size+1,0,none⟩) 2 2,rfl,aA,lit⟩
 ·exact bodyPost_ret (v:=.tuple #[.agg #[.slice (some ⟨w.heap.size+1,0,none⟩) 1 1,.int .i64 6],.bool true]) (by simp[results,Tryz.results118,go_sem]) rfl ⟨.slice (some ⟨w.heap.size+1,0,none⟩) 1 1,rfl,aA,lit⟩
 ·exact bodyPost_ret (v:=.tuple #[.agg #[.slice (some ⟨w.heap.size+1,0,none⟩) 2 2,.int .i64 8],.bool true]) (by simp[results,Tryz.results118,go_sem]) rfl ⟨.slice (some ⟨w.heap.size+1,0,none⟩) 2 2,rfl,aA,lit⟩
 ·exact bodyPost_ret (v:=.tuple #[.agg #[.slice (some ⟨w.heap.size+1,0,none⟩) 2 2,.int .i64 6],.bool true]) (by simp[results,Tryz.results118,go_sem]) rfl ⟨.slice (some ⟨w.heap.size+1,0,none⟩) 2 2,rfl,aA,lit⟩
 all_goals
  exact bodyPost_ret (v:=.tuple #[.agg #[.slice A _ c,.int .i64 _],.bool true]) (by simp[results,Tryz.results118,go_sem]) rfl ⟨_,rfl,by exact aA,aK (dI HA.out (by simp) (aaE _)) (by simp)⟩
theorem FM (s:Int) (w:World) (hs:s=0∨s=1):Calls Tryz.prog 154 #[.int .i64 s] w (wO w):=by
 rcases hs with rfl|rfl
 all_goals go_enter Tryz.func154,Tryz.ntmps154
 all_goals go_wp2_with (first|((first|(go_at_call 150;refine(bI _ _).mono ?_)|(go_at_call 151;refine(dB _ _ _ _ _).mono ?_)|(go_at_call 155;refine(bH _ _).mono ?_)|(go_at_call 87;refine(bD _ _).mono ?_)|(go_at_call 156;refine(bf _ _).mono ?_));rintro e w1 ⟨rfl,rfl⟩)|(go_at_call 152;refine(bg _ _ _ _ _).mono ?_;rintro e w1 ⟨rfl,hb⟩;obtain⟨xs,d,rfl⟩:=aB hb;clear hb))
 ·exact bodyPost_ret (v:=.tuple #[.agg #[.slice none 0 0,.int .i64 0],.bool false]) (by simp[results,Tryz.results154,go_sem]) rfl ⟨_,_,_,_,rfl,aA⟩
 ·exact bodyPost_ret (v:=.tuple #[.agg #[.slice none 0 0,.int .i64 0],.bool false]) (by simp[results,Tryz.results154,go_sem]) rfl ⟨_,_,_,_,rfl,aA⟩
theorem Dk (s:Int) (w:World) (h0:0≤s) (h9:s≤9) (h:bZ 10 s=false):Calls Tryz.prog 118 #[.int .i64 s] w (wO w):=by
 have hs:s=0∨s=1:=by
  rcases ten h0 h9 with rfl|rfl|rfl|rfl|rfl|rfl|rfl|rfl|rfl|rfl<;>first|decide|(exfalso;revert h;decide)
 clear h h0 h9
 rcases hs with rfl|rfl
 all_goals go_enter Tryz.func118,Tryz.ntmps118
 all_goals go_wp2_with (first|(go_at_call 154;refine(FM _ _ (by decide)).mono ?_;rintro e w1 ⟨A,n,c,y,rfl,hb⟩;obtain⟨xs,d,rfl⟩:=aB hb;clear hb)|(first|(go_at_call 150;refine(bI _ _).mono ?_;rintro e w1 ⟨rfl,rfl⟩)|(go_at_call 151;refine(dB _ _ _ _ _).mono ?_;rintro e w1 ⟨rfl,rfl⟩)|(go_at_call 152;refine(bg _ _ _ _ _).mono ?_;rintro e w1 ⟨rfl,hb⟩;obtain⟨xs,d,rfl⟩:=aB hb;clear hb)|(go_at_call 155;refine(bH _ _).mono ?_;rintro e w1 ⟨rfl,rfl⟩)|(go_at_call 87;refine(bD _ _).mono ?_;rintro e w1 ⟨rfl,rfl⟩)|(go_at_call 156;refine(bf _ _).mono ?_;rintro e w1 ⟨rfl,rfl⟩)))
 ·exact bodyPost_ret (v:=.tuple #[.agg #[.slice A n c,.int .i64 y],.bool false]) (by simp[results,Tryz.results118,go_sem]) rfl ⟨_,_,_,_,rfl,by exact aA⟩
 ·exact bodyPost_ret (v:=.tuple #[.agg #[.slice A n c,.int .i64 y],.bool false]) (by simp[results,Tryz.results118,go_sem]) rfl ⟨_,_,_,_,rfl,by exact aA⟩
end Go.Proofs.YtfkgmbknfnhjoaaGreat.Fs
