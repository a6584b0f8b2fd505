/- Z22 Z25 -/
import Derived.Test.YtfkgmbknfnhjoaaGreatSZ9
import Derived.Test.YtfkgmbknfnhjoaaGreatSPT
import Derived.BigQuiet
set_option linter.all false
set_option linter.ambiguousOpen false
set_option maxHeartbeats 16000000
namespace Go.Proofs.YtfkgmbknfnhjoaaGreat
open Lib (hid)
open Go.RowKit
open Ne (Rl bF aD bM dJ)
def uo (Ai:Option Addr) (ni ci:Nat) (st id req cnt ay au own peer ic ii:Int) (E:List aH) (w:World) (x:Ending) (w':World):Prop:=
 ∃A n c,x=.returned (.tuple #[.agg #[.int .i64 st,.int .i64 id,.int .i64 req,.slice A n c,.int .i64 cnt,.int .i64 ay,.int .i64 au,.int .i64 own,.int .i64 peer],.agg #[.int .i64 ic,.int .i64 ii,.slice Ai ni ci]])∧Below w.heap.size w w'∧w'.ownsRow w.heap.size 111 2 (.slice A n c) n (cellsE (mZ E))∧n=(mZ E).length
theorem SK {w:World} {X:Nat} {cs:Array Value} {T:TypeId} (h:w.heap[X]? =some (.cells cs T (0,0))) (hc:cs.size=3) (a b c:Value):
  (((w.setCell ⟨X,0,none⟩ a).setCell ⟨X,1,none⟩ b).setCell ⟨X,2,none⟩ c).heap[X]? =some (.cells #[a,b,c] T (0,0)):=by
 obtain⟨l⟩:=cs
 match l,hc with
 |[x0,x1,x2],_=>
  rw[heap_setCell_same _ X 2 _ _ _ (heap_setCell_same _ X 1 _ _ _ (heap_setCell_same _ X 0 _ _ _ h))]
  rfl
theorem uU {w:World} {X:Nat} {o:Option Obj} (h:w.heap[X]? =o):w.drew.heap[X]? =o:=h
set_option maxRecDepth 100000 in
theorem sG (Aa Ai:Option Addr) (na ca ni ci:Nat) (st id req cnt ay au own peer ic ii:Int) (E:List aH) (w:World) (B:Nat) (hB:B≤w.heap.size) (hE:aJ w B Aa E) (hna:na=E.length) (hla:(na:Int)≤9223372036854775807) (hda: ∀e∈E,(e.d.length:Int)≤9223372036854775807) (hci:ni≤ci) (iF:(ni:Int)≤9223372036854775807):
  Calls Tryz.prog 31 #[.agg #[.int .i64 st,.int .i64 id,.int .i64 req,.slice Aa na ca,.int .i64 cnt,.int .i64 ay,.int .i64 au,.int .i64 own,.int .i64 peer],.agg #[.int .i64 ic,.int .i64 ii,.slice Ai ni ci]] w (uo Ai (min ni 1500) ci st id req cnt ay au own peer ic ii E w):=by
 subst hna
 have HE:=hid hE
 have jr:=hid hda
 have HB:=hid hB
 clear hE hda hB
 have hi0:Option.map (fun x:Addr=>x.add 0) Ai=Ai:=by cases Ai<;>simp[Addr.add]
 obtain⟨q,hq⟩: ∃q,min ni 1500=q:=⟨_,rfl⟩
 rw[hq]
 obtain⟨m,hm⟩: ∃m,(mZ E).length=m:=⟨_,rfl⟩
 have HML:=hid hm
 have VR:=hid (show m=min 70 E.length by rw[←hm];simp[mZ,List.length_take])
 clear hm
 by_cases h2i:ni≤1500
 all_goals
  first
   |have h2j:(ni:Int)≤1500:=by omega
   |have h2j:(1500:Int)<(ni:Int):=by omega
  first
   |have HK:=hid (show ni=q by omega)
   |have HK:=hid (show q=1500 by omega)
  clear hq
  go_enter Tryz.func31,Tryz.ntmps31
  go_upto_region 1 with(fail)
  refine bY (fun W=>W.heap[w.heap.size]? =some (.cells #[.int .i64 st,.int .i64 id,.int .i64 req,.slice Aa E.length ca,.int .i64 cnt,.int .i64 ay,.int .i64 au,.int .i64 own,.int .i64 peer] 60 (0,0))∧W.heap[w.heap.size+1]? =some (.cells #[.int .i64 ic,.int .i64 ii,.slice Ai ni ci] 32 (0,0))∧W.heap[w.heap.size+1+1]? =some (.cells #[.int .i64 0,.int .i64 0,.int .i64 0,.slice none 0 0,.int .i64 0,.int .i64 0,.int .i64 0,.int .i64 0,.int .i64 0] 60 (0,0))∧W.heap[w.heap.size+1+1+1]? =some (.cells #[.int .i64 0,.int .i64 0,.slice none 0 0] 32 (0,0))∧Below w.heap.size w W) ⟨by exact hpa,by exact hpa,by exact hpa,by exact hpa,by exact aA⟩ ?_
  rintro W1 ⟨h0,h1,h2,h3,hbw⟩
  have HB1:=hid hbw
  have hs1:=hbw.size
  have hz1:w.heap.size+1+1+1+1≤W1.heap.size:=by have:=aj h3;omega
  have G0:=hid h0
  have G1:=hid h1
  have G2:=hid h2
  have G3:=hid h3
  clear h0 h1 h2 h3 hbw
  go_wp2_with fail
  go_loopw [7,6] (fun i v wr=> ∃(k c':Nat) (A':Option Addr),k≤E.length∧k≤70∧i=.int .i64 k∧v=.slice A' k c'∧Below W1.heap.size W1 wr∧wr.ownsRow W1.heap.size 111 2 (.slice A' k c') k (cellsE ((E.take k).map aH.lit))) (fun i _ _=>E.length-(intOf i).toNat)
  case atStart=>exact⟨0,0,none,Nat.zero_le _,by omega,rfl,rfl,Below.refl _ _,aN _ _ _ _⟩
  case round=>
   obtain⟨k,c',A',hk,hk7,rfl,rfl,hb,ho⟩:=hrel
   have aQ:=hid hb
   have HO:=hid ho
   have hsz:=hb.size
   have h0:=(hb.block _ (by omega)).trans G0.out
   have h1:=(hb.block _ (by omega)).trans G1.out
   have h2:=(hb.block _ (by omega)).trans G2.out
   have h3:=(hb.block _ (by omega)).trans G3.out
   clear hb ho
   by_cases hlt:k<E.length∧k<70
   ·obtain⟨hlt,h7⟩:=hlt
    have l0:=aj h0
    obtain⟨-,-,-,p3,-,-,-,-,-⟩:=aL h0
    clear h0 h1 h2 h3
    obtain⟨b,o,rfl,tL,hx,hy⟩:=(HE.out.keep ((HB1.out.trans (aQ.out.mono hs1)).mono HB.out)).get hlt
    obtain⟨hd,hdc⟩:=(HE.out.keep ((HB1.out.trans (aQ.out.mono hs1)).mono HB.out)).2 E[k] (List.getElem_mem hlt)
    have hdl:=jr.out E[k] (List.getElem_mem hlt)
    have Gg:=hid (Fu hlt)
    obtain⟨⟨t,d,a,c2⟩,he⟩: ∃e,E[k]=e:=⟨_,rfl⟩
    rw[he] at hx hy hd hdc Gg hdl
    simp only[aH.v] at hy hd hdc hdl
    dsimp only at hx
    clear he hd
    have ha:Option.map (fun x:Addr=>x.add 0) a=a:=by cases a<;>simp[Addr.add]
    by_cases aak:260<d.length
    ·go_wp2_with (at_builtin;go_loud (refine dY W1 rfl (.tmp 35) (.tmp 37) 25 rfl 111 Tryz.underlying25 (.agg #[.int .i64 0,.slice none 0 0]) 2 32 dV rfl (by decide) (by decide) (.slice A' k c') k (cellsE ((E.take k).map aH.lit)) rfl (own_below HO.out (by exact aA)) (wr.heap.size+1+1) (some ⟨wr.heap.size+1,0,none⟩) 1 1 [.int .i64 t,.slice a 260 c2] rfl rfl (by omega) (At.gW _ _ _ _ _ (by simp) rfl) (by intro u hu;simp at hu;rcases hu with rfl|rfl<;>rfl) (by have:=aQ.out;exact aA) ?_);intro A3 c3 w3 ho3 hc3 hb3 hg3;have gZ:=hid ho3;have HB3:=hid hb3;clear ho3 hc3 hb3 hg3)
     go_roundw
     case rel=>exact⟨k+1,c3,A3,by omega,by omega,by go_num,rfl,HB3.out,by rw[Gg.out,wV,show min 260 d.length=260 by omega];exact gZ.out⟩
     case measure=>simp[intOf];omega
    ·go_wp2_with (at_builtin;go_loud (refine dY W1 rfl (.tmp 35) (.tmp 37) 25 rfl 111 Tryz.underlying25 (.agg #[.int .i64 0,.slice none 0 0]) 2 32 dV rfl (by decide) (by decide) (.slice A' k c') k (cellsE ((E.take k).map aH.lit)) rfl (own_below HO.out (by exact aA)) (wr.heap.size+1+1) (some ⟨wr.heap.size+1,0,none⟩) 1 1 [.int .i64 t,.slice a d.length c2] rfl rfl (by omega) (At.gW _ _ _ _ _ (by simp) rfl) (by intro u hu;simp at hu;rcases hu with rfl|rfl<;>rfl) (by have:=aQ.out;exact aA) ?_);intro A3 c3 w3 ho3 hc3 hb3 hg3;have gZ:=hid ho3;have HB3:=hid hb3;clear ho3 hc3 hb3 hg3)
     go_roundw
     case rel=>exact⟨k+1,c3,A3,by omega,by omega,by go_num,rfl,HB3.out,by rw[Gg.out,wV,show min 260 d.length=d.length by omega];exact gZ.out⟩
     case measure=>simp[intOf];omega
   ·have hmE:=VR.out
    obtain rfl:k=m:=by omega
    have HT:=hid (show cellsE ((E.take k).map aH.lit)=cellsE (mZ E) by
     unfold mZ
     rcases Nat.lt_or_ge k E.length with h|h
     ·rw[show k=70 by omega]
     ·rw[List.take_of_length_le h,List.take_of_length_le (by omega)])
    have qR:=hid (show wr.ownsRow W1.heap.size 111 2 (.slice A' k c') k (cellsE (mZ E)) by rw[←HT.out];exact HO.out)
    clear HO HT
    by_cases hl1:k<E.length
    all_goals
     first
      |have c1:(k:Int)<(E.length:Int):=by omega
      |have c1: ¬(k:Int)<(E.length:Int):=by omega
     first
      |have c2:decide ((k:Int)<(E.length:Int))=true:=by simp;omega
      |have c2:decide ((k:Int)<(E.length:Int))=false:=by simp;omega
     try have c3: ¬(k:Int)<70:=by omega
     try have c4:decide ((k:Int)<70)=false:=by simp;omega
     clear hmE
     have l0:=aj h0
     have l1:=aj h1
     have l2:=aj h2
     have l3:=aj h3
     obtain⟨p0,p1,p2,p3,p4,p5,p6,p7,p8⟩:=aL h0
     obtain⟨r0,r1,r2⟩:=cells3 h1
     obtain⟨y0,y1,y2,y3,y4,y5,y6,y7,y8⟩:=aL h2
     obtain⟨z0,z1,z2⟩:=cells3 h3
     have fp:=frees h0
     have fr:=frees h1
     have fy:=frees h2
     have fz:=frees h3
     have H0:=hid h0
     have H1:=hid h1
     have H2:=hid h2
     have H3:=hid h3
     clear h0 h1 h2 h3
     go_upto_region 10 with(fail)
     refine bY (fun W=>W.heap[w.heap.size]? =some (.cells #[.int .i64 st,.int .i64 id,.int .i64 req,.slice A' k c',.int .i64 cnt,.int .i64 ay,.int .i64 au,.int .i64 own,.int .i64 peer] 60 (0,0))∧W.heap[w.heap.size+1]? =some (.cells #[.int .i64 ic,.int .i64 ii,.slice Ai ni ci] 32 (0,0))∧W.heap[w.heap.size+1+1]? =some (.cells #[.int .i64 0,.int .i64 0,.int .i64 0,.slice none 0 0,.int .i64 0,.int .i64 0,.int .i64 0,.int .i64 0,.int .i64 0] 60 (0,0))∧W.heap[w.heap.size+1+1+1]? =some (.cells #[.int .i64 0,.int .i64 0,.slice none 0 0] 32 (0,0))∧Below w.heap.size w W∧W.ownsRow W1.heap.size 111 2 (.slice A' k c') k (cellsE (mZ E))) ⟨yU H0.out rfl,gq H1.out (by omega),gq H2.out (by omega),gq H3.out (by omega),by have h1:=HB1.out;have h2:=aQ.out;exact Below.setCell (h1.trans (h2.mono hs1)) (by dsimp only;omega) _,dx qR.out (fun k hk=>gq rfl (by have:=eu qR.out hk;omega))⟩ ?_
     clear p0 p1 p2 p3 p4 p5 p6 p7 p8 r0 r1 r2 y0 y1 y2 y3 y4 y5 y6 y7 y8 z0 z1 z2 fp fr fy fz l0 l1 l2 l3 H0 H1 H2 H3
     rintro W2 ⟨h0,h1,h2,h3,hbw,ho⟩
     have HB2:=hid hbw
     have hs2:=hbw.size
     have qU:=hid ho
     clear hbw ho
     have l0:=aj h0
     have l1:=aj h1
     have l2:=aj h2
     have l3:=aj h3
     obtain⟨p0,p1,p2,p3,p4,p5,p6,p7,p8⟩:=aL h0
     obtain⟨r0,r1,r2⟩:=cells3 h1
     obtain⟨y0,y1,y2,y3,y4,y5,y6,y7,y8⟩:=aL h2
     obtain⟨z0,z1,z2⟩:=cells3 h3
     have fp:=frees h0
     have fr:=frees h1
     have fy:=frees h2
     have fz:=frees h3
     have H0:=hid h0
     have H1:=hid h1
     have H2:=hid h2
     have H3:=hid h3
     clear h0 h1 h2 h3
     go_upto_region 12 with(fail)
     refine bY (fun W=>W.heap[w.heap.size]? =some (.cells #[.int .i64 st,.int .i64 id,.int .i64 req,.slice A' k c',.int .i64 cnt,.int .i64 ay,.int .i64 au,.int .i64 own,.int .i64 peer] 60 (0,0))∧W.heap[w.heap.size+1]? =some (.cells #[.int .i64 ic,.int .i64 ii,.slice Ai q ci] 32 (0,0))∧W.heap[w.heap.size+1+1]? =some (.cells #[.int .i64 0,.int .i64 0,.int .i64 0,.slice none 0 0,.int .i64 0,.int .i64 0,.int .i64 0,.int .i64 0,.int .i64 0] 60 (0,0))∧W.heap[w.heap.size+1+1+1]? =some (.cells #[.int .i64 0,.int .i64 0,.slice none 0 0] 32 (0,0))∧Below w.heap.size w W∧W.ownsRow W1.heap.size 111 2 (.slice A' k c') k (cellsE (mZ E))) ⟨by first|exact H0.out|exact gq H0.out (by omega),by first|(rw[←HK.out];exact H1.out)|(rw[HK.out];exact yU H1.out rfl),by first|exact H2.out|exact gq H2.out (by omega),by first|exact H3.out|exact gq H3.out (by omega),by have:=HB2.out;exact aA,by first|exact qU.out|exact dx qU.out (fun k hk=>gq rfl (by have:=eu qU.out hk;omega))⟩ ?_
     clear p0 p1 p2 p3 p4 p5 p6 p7 p8 r0 r1 r2 y0 y1 y2 y3 y4 y5 y6 y7 y8 z0 z1 z2 fp fr fy fz l0 l1 l2 l3 H0 H1 H2 H3
     clear HB2 hs2 qU
     rintro W4 ⟨h0,h1,h2,h3,hbw,ho⟩
     have fu:=hid hbw
     have KH:=hid (aK ho (show w.heap.size+1+1+1+1≤W1.heap.size from hz1))
     have hs4:=hbw.size
     clear hbw ho
     have l0:=aj h0
     have l1:=aj h1
     have l2:=aj h2
     have l3:=aj h3
     obtain⟨p0,p1,p2,p3,p4,p5,p6,p7,p8⟩:=aL h0
     obtain⟨r0,r1,r2⟩:=cells3 h1
     obtain⟨y0,y1,y2,y3,y4,y5,y6,y7,y8⟩:=aL h2
     obtain⟨z0,z1,z2⟩:=cells3 h3
     have fp:=frees h0
     have fr:=frees h1
     have fy:=frees h2
     have fz:=frees h3
     have H0:=hid h0
     have H1:=hid h1
     have H2:=hid h2
     have H3:=hid h3
     clear h0 h1 h2 h3
     go_region
     obtain⟨Wf,hWf⟩: ∃Wf,Wf=((((lX W4 (w.heap.size+1+1) ⟨st,id,req,[],cnt,ay,au⟩ (.slice A' k c') own peer).setCell ⟨w.heap.size+1+1+1,0,none⟩ (.int .i64 ic)).setCell ⟨w.heap.size+1+1+1,1,none⟩ (.int .i64 ii)).setCell ⟨w.heap.size+1+1+1,2,none⟩ (.slice Ai q ci)).drew:=⟨_,rfl⟩
     unfold lX at hWf
     dsimp only at hWf
     rw[←hWf]
     have g3:Wf.heap[w.heap.size+1+1]? =some (.cells #[.int .i64 st,.int .i64 id,.int .i64 req,.slice A' k c',.int .i64 cnt,.int .i64 ay,.int .i64 au,.int .i64 own,.int .i64 peer] 60 (0,0)):=by rw[hWf];refine uU ?_;(iterate 3 (with_reducible refine gq ?_ (by omega)));exact rR H2.out rfl _ _ _ _ _ _ _ _ _
     have g4:Wf.heap[w.heap.size+1+1+1]? =some (.cells #[.int .i64 ic,.int .i64 ii,.slice Ai q ci] 32 (0,0)):=by rw[hWf];refine uU ?_;refine SK (cs:=#[.int .i64 0,.int .i64 0,.slice none 0 0]) ?_ rfl _ _ _;(iterate 9 (with_reducible refine gq ?_ (by omega)));exact H3.out
     have hbl:Below w.heap.size w Wf:=by rw[hWf];refine Below.drew ?_;(iterate 12 (with_reducible refine Below.setCell ?_ (by dsimp only;omega) _));exact fu.out
     have hown:Wf.ownsRow w.heap.size 111 2 (.slice A' k c') k (cellsE (mZ E)):=by rw[hWf];refine aK (dx KH.out (fun k hk=>?_)) (show w.heap.size≤w.heap.size+1+1+1+1 by omega);have hle:=eu KH.out hk;refine uU ?_;(iterate 12 (with_reducible refine gq ?_ (by omega)));rfl
     clear hWf
     clear p0 p1 p2 p3 p4 p5 p6 p7 p8 r0 r1 r2 y0 y1 y2 y3 y4 y5 y6 y7 y8 z0 z1 z2 fp fr fy fz l0 l1 l2 l3 H0 H1 H2 H3
     obtain⟨y0,y1,y2,y3,y4,y5,y6,y7,y8⟩:=aL g3
     obtain⟨z0,z1,z2⟩:=cells3 g4
     go_wp2_with fail
     refine bodyPost_ret (v:=.tuple #[.agg #[.int .i64 st,.int .i64 id,.int .i64 req,.slice A' k c',.int .i64 cnt,.int .i64 ay,.int .i64 au,.int .i64 own,.int .i64 peer],.agg #[.int .i64 ic,.int .i64 ii,.slice Ai q ci]]) (by simp[results,Tryz.results31,go_sem,y0,y1,y2,y3,y4,y5,y6,y7,y8,z0,z1,z2]) rfl ⟨A',k,c',rfl,hbl,hown,HML.out.symm⟩
end Go.Proofs.YtfkgmbknfnhjoaaGreat

namespace Go.Proofs.YtfkgmbknfnhjoaaGreat
open Go.RowKit
theorem ML {w w':World} {B:Nat} {A0 A:Option Addr} {E:List aH} {n c base:Nat} (h:aJ w B A0 E) (hB:B≤w.heap.size) (hb:Below w.heap.size w w')
  (ho:w'.ownsRow base 111 2 (.slice A n c) n (cellsE (mZ E))):aJ w' w'.heap.size A (mZ E):=by
 refine⟨At.bq ho,fun e he=>?_⟩
 simp only[mZ,List.mem_map] at he
 obtain⟨x,hx,rfl⟩:=he
 obtain⟨h1,h2⟩:=h.2 x (List.mem_of_mem_take hx)
 refine⟨?_,?_⟩
 ·simp only[aH.lit,List.map_take]
  exact(h1.keep (hb.mono hB)).more (by have:=hb.size;omega)|>.take 260
 ·simp only[aH.lit,List.length_take];omega
theorem IJ (E:List aH):(mZ E).length≤70:=by simp only[mZ,List.length_map,List.length_take];omega
theorem Fv (E:List aH): ∀e∈mZ E,e.d.length≤260:=by
 intro e he
 simp only[mZ,List.mem_map] at he
 obtain⟨x,hx,rfl⟩:=he
 simp only[aH.lit,List.length_take];omega
end Go.Proofs.YtfkgmbknfnhjoaaGreat
