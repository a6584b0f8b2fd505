/- Bundle PU. -/
import Derived.Test.YtfkgmbknfnhjoaaGreatRPT
import Derived.BigQuiet
set_option maxHeartbeats 16000000
namespace Go.Proofs.YtfkgmbknfnhjoaaGreat
open Lib (hid)
open Go.RowKit
set_option linter.unusedSimpArgs false
set_option linter.unusedVariables false
set_option linter.ambiguousOpen false
open Ne (Rl Opt RulesAt areB)
def LightP (Ar Ai:Option Addr) (nr cr ni ci:Nat) (mc mt mf wt st id req cnt tim nak ic ii:Int) (E:List Ent) (w:World) (x:Ending) (w':World):Prop:=
 ∃A n c,x=.returned (.tuple #[.agg #[.slice Ar nr cr,.int .i64 mc,.int .i64 mt,.int .i64 mf,.int .i64 wt],.agg #[.int .i64 st,.int .i64 id,.int .i64 req,.slice A n c,.int .i64 cnt,.int .i64 tim,.int .i64 nak],.agg #[.int .i64 ic,.int .i64 ii,.slice Ai ni ci]])∧Below w.heap.size w w'∧w'.ownsRow w.heap.size 111 2 (.slice A n c) n (cellsE (litE E))∧n=(litE E).length
theorem rows5 {w:World} {X:Nat} {cs:Array Value} {T:TypeId} (h:w.heap[X]? =some (.cells cs T (0,0))) (hc:cs.size=5) (a b c d e:Value):
  (((((w.setCell ⟨X,0,none⟩ a).setCell ⟨X,1,none⟩ b).setCell ⟨X,2,none⟩ c).setCell ⟨X,3,none⟩ d).setCell ⟨X,4,none⟩ e).heap[X]? =some (.cells #[a,b,c,d,e] T (0,0)):=by
 obtain⟨l⟩:=cs
 match l,hc with
 |[x0,x1,x2,x3,x4],_=>
  rw[heap_setCell_same _ X 4 _ _ _ (heap_setCell_same _ X 3 _ _ _ (heap_setCell_same _ X 2 _ _ _ (heap_setCell_same _ X 1 _ _ _ (heap_setCell_same _ X 0 _ _ _ h))))]
  rfl
theorem set_in {w:World} {X i:Nat} {cs cs':Array Value} {T:TypeId} {v:Value} (h:w.heap[X]? =some (.cells cs T (0,0))) (hc:cs.setIfInBounds i v=cs'):(w.setCell ⟨X,i,none⟩ v).heap[X]? =some (.cells cs' T (0,0)):=by
 subst hc;exact heap_setCell_same w X i cs T _ h
theorem set_off {w:World} {X Y i:Nat} {o:Option Obj} {v:Value} (h:w.heap[X]? =o) (hne:X≠Y):(w.setCell ⟨Y,i,none⟩ v).heap[X]? =o:=(heap_setCell_other _ _ _ _ (by simpa using hne)).trans h
theorem row3l {w:World} {X:Nat} {cs:Array Value} {T:TypeId} (h:w.heap[X]? =some (.cells cs T (0,0))) (hc:cs.size=3) (a b c:Value):
  (((w.setCell ⟨X,0,none⟩ a).setCell ⟨X,1,none⟩ b).setCell ⟨X,2,none⟩ c).heap[X]? =some (.cells #[a,b,c] T (0,0)):=by
 obtain⟨l⟩:=cs
 match l,hc with
 |[x0,x1,x2],_=>
  rw[heap_setCell_same _ X 2 _ _ _ (heap_setCell_same _ X 1 _ _ _ (heap_setCell_same _ X 0 _ _ _ h))]
  rfl
theorem hp_drew {w:World} {X:Nat} {o:Option Obj} (h:w.heap[X]? =o):w.drew.heap[X]? =o:=h
set_option maxRecDepth 100000 in
theorem light_any (Ar Aa Ai:Option Addr) (nr cr na ca ni ci:Nat) (mc mt mf wt st id req cnt tim nak ic ii:Int) (E:List Ent) (w:World) (B:Nat) (hB:B≤w.heap.size) (hE:OptsAt w B Aa E) (hna:na=E.length) (hla:(na:Int)≤9223372036854775807) (hda: ∀e∈E,(e.d.length:Int)≤9223372036854775807) (hcr:nr≤cr) (hlr:(nr:Int)≤9223372036854775807) (hci:ni≤ci) (hli:(ni:Int)≤9223372036854775807):Calls Tryz.prog 10 #[.agg #[.slice Ar nr cr,.int .i64 mc,.int .i64 mt,.int .i64 mf,.int .i64 wt],.agg #[.int .i64 st,.int .i64 id,.int .i64 req,.slice Aa na ca,.int .i64 cnt,.int .i64 tim,.int .i64 nak],.agg #[.int .i64 ic,.int .i64 ii,.slice Ai ni ci]] w (LightP Ar Ai (min nr 20) cr (min ni 1500) ci mc mt mf wt st id req cnt tim nak ic ii E w):=by
 have HE:=hid hE
 have HNA:=hid hna
 have HDA:=hid hda
 have HB:=hid hB
 clear hE hna hda hB
 have hr0:Option.map (fun x:Addr=>x.add 0) Ar=Ar:=by cases Ar<;>simp[Addr.add]
 have hi0:Option.map (fun x:Addr=>x.add 0) Ai=Ai:=by cases Ai<;>simp[Addr.add]
 obtain⟨m,hm⟩: ∃m,min nr 20=m:=⟨_,rfl⟩
 obtain⟨k,hk⟩: ∃k,min ni 1500=k:=⟨_,rfl⟩
 rw[hm,hk]
 by_cases h1:nr≤20<;>by_cases h2:ni≤1500
 all_goals
  first
   |have h1i:(nr:Int)≤20:=by omega
   |have h1i:(20:Int)<(nr:Int):=by omega
  first
   |have h2i:(ni:Int)≤1500:=by omega
   |have h2i:(1500:Int)<(ni:Int):=by omega
  first
   |have HM:=hid (show nr=m by omega)
   |have HM:=hid (show m=20 by omega)
  first
   |have HK:=hid (show ni=k by omega)
   |have HK:=hid (show k=1500 by omega)
  clear hm hk h1 h2
  go_enter Tryz.func10,Tryz.ntmps10
  go_upto_region 1 with(fail)
  refine wp_w (fun W=>W.heap[w.heap.size]? =some (.cells #[.slice Ar nr cr,.int .i64 mc,.int .i64 mt,.int .i64 mf,.int .i64 wt] 24 (0,0))∧W.heap[w.heap.size+1]? =some (.cells #[.int .i64 st,.int .i64 id,.int .i64 req,.slice Aa na ca,.int .i64 cnt,.int .i64 tim,.int .i64 nak] 29 (0,0))∧W.heap[w.heap.size+1+1]? =some (.cells #[.int .i64 ic,.int .i64 ii,.slice Ai ni ci] 32 (0,0))∧W.heap[w.heap.size+1+1+1]? =some (.cells #[.slice none 0 0,.int .i64 0,.int .i64 0,.int .i64 0,.int .i64 0] 24 (0,0))∧W.heap[w.heap.size+1+1+1+1]? =some (.cells #[.int .i64 0,.int .i64 0,.int .i64 0,.slice none 0 0,.int .i64 0,.int .i64 0,.int .i64 0] 29 (0,0))∧W.heap[w.heap.size+1+1+1+1+1]? =some (.cells #[.int .i64 0,.int .i64 0,.slice none 0 0] 32 (0,0))∧Below w.heap.size w W) ⟨by exact hpa,by exact hpa,by exact hpa,by exact hpa,by exact hpa,by exact hpa,by exact bel⟩ ?_
  rintro W2 ⟨h0,h1,h2,h3,h4,h5,hbw⟩
  have HB2:=hid hbw
  have hs2:=hbw.size
  have l0:=lt_blk h0
  have l1:=lt_blk h1
  have l2:=lt_blk h2
  have l3:=lt_blk h3
  have l4:=lt_blk h4
  have l5:=lt_blk h5
  obtain⟨p0,p1,p2,p3,p4⟩:=cells5 h0
  obtain⟨q0,q1,q2,q3,q4,q5,q6⟩:=cells7 h1
  obtain⟨r0,r1,r2⟩:=cells3 h2
  obtain⟨x0,x1,x2,x3,x4⟩:=cells5 h3
  obtain⟨y0,y1,y2,y3,y4,y5,y6⟩:=cells7 h4
  obtain⟨z0,z1,z2⟩:=cells3 h5
  have fp0:=frees h0 0
  have fq3:=frees h1 3
  have fr2:=frees h2 2
  have fx:=frees h3
  have fy:=frees h4
  have fz:=frees h5
  have H0:=hid h0
  have H1:=hid h1
  have H2:=hid h2
  have H3:=hid h3
  have H4:=hid h4
  have H5:=hid h5
  clear h0 h1 h2 h3 h4 h5
  try clear hbw
  go_upto_region 3 with(fail)
  refine wp_w (fun W=>W.heap[w.heap.size]? =some (.cells #[.slice Ar m cr,.int .i64 mc,.int .i64 mt,.int .i64 mf,.int .i64 wt] 24 (0,0))∧W.heap[w.heap.size+1]? =some (.cells #[.int .i64 st,.int .i64 id,.int .i64 req,.slice Aa na ca,.int .i64 cnt,.int .i64 tim,.int .i64 nak] 29 (0,0))∧W.heap[w.heap.size+1+1]? =some (.cells #[.int .i64 ic,.int .i64 ii,.slice Ai ni ci] 32 (0,0))∧W.heap[w.heap.size+1+1+1]? =some (.cells #[.slice none 0 0,.int .i64 0,.int .i64 0,.int .i64 0,.int .i64 0] 24 (0,0))∧W.heap[w.heap.size+1+1+1+1]? =some (.cells #[.int .i64 0,.int .i64 0,.int .i64 0,.slice none 0 0,.int .i64 0,.int .i64 0,.int .i64 0] 29 (0,0))∧W.heap[w.heap.size+1+1+1+1+1]? =some (.cells #[.int .i64 0,.int .i64 0,.slice none 0 0] 32 (0,0))∧Below w.heap.size w W) ⟨by first|(rw[←HM.out];exact H0.out)|(rw[HM.out];exact set_in H0.out rfl),by first|exact H1.out|exact set_off H1.out (by omega),by first|exact H2.out|exact set_off H2.out (by omega),by first|exact H3.out|exact set_off H3.out (by omega),by first|exact H4.out|exact set_off H4.out (by omega),by first|exact H5.out|exact set_off H5.out (by omega),by have:=HB2.out;exact bel⟩ ?_
  clear p0 p1 p2 p3 p4 q0 q1 q2 q3 q4 q5 q6 r0 r1 r2 x0 x1 x2 x3 x4 y0 y1 y2 y3 y4 y5 y6 z0 z1 z2 fp0 fq3 fr2 fx fy fz l0 l1 l2 l3 l4 l5 H0 H1 H2 H3 H4 H5
  clear HB2 hs2
  rintro W2 ⟨h0,h1,h2,h3,h4,h5,hbw⟩
  have HB2:=hid hbw
  have hs2:=hbw.size
  have l0:=lt_blk h0
  have l1:=lt_blk h1
  have l2:=lt_blk h2
  have l3:=lt_blk h3
  have l4:=lt_blk h4
  have l5:=lt_blk h5
  obtain⟨p0,p1,p2,p3,p4⟩:=cells5 h0
  obtain⟨q0,q1,q2,q3,q4,q5,q6⟩:=cells7 h1
  obtain⟨r0,r1,r2⟩:=cells3 h2
  obtain⟨x0,x1,x2,x3,x4⟩:=cells5 h3
  obtain⟨y0,y1,y2,y3,y4,y5,y6⟩:=cells7 h4
  obtain⟨z0,z1,z2⟩:=cells3 h5
  have fp0:=frees h0 0
  have fq3:=frees h1 3
  have fr2:=frees h2 2
  have fx:=frees h3
  have fy:=frees h4
  have fz:=frees h5
  have H0:=hid h0
  have H1:=hid h1
  have H2:=hid h2
  have H3:=hid h3
  have H4:=hid h4
  have H5:=hid h5
  clear h0 h1 h2 h3 h4 h5
  try clear hbw
  go_wp2_with fail
  refine(lit_any Aa na ca E _ B (by have:=HB.out;omega) (HE.out.keep (HB2.out.mono HB.out)) HNA.out hla HDA.out).mono ?_
  rintro x w1 ⟨A2,n2,c2,rfl,hb,ho,hn2⟩
  have h0:=(hb.block _ l0).trans H0.out
  have h1:=(hb.block _ l1).trans H1.out
  have h2:=(hb.block _ l2).trans H2.out
  have h3:=(hb.block _ l3).trans H3.out
  have h4:=(hb.block _ l4).trans H4.out
  have h5:=(hb.block _ l5).trans H5.out
  have HB3:=hid (HB2.out.trans (hb.mono hs2))
  have hs3:=hb.size
  have HO:=hid (own_base ho (show w.heap.size≤W2.heap.size from by omega))
  have hX:w.heap.size+5<W2.heap.size:=by omega
  have HOX:=hid ho
  have HN2:=hid hn2
  clear p0 p1 p2 p3 p4 q0 q1 q2 q3 q4 q5 q6 r0 r1 r2 x0 x1 x2 x3 x4 y0 y1 y2 y3 y4 y5 y6 z0 z1 z2 fp0 fq3 fr2 fx fy fz l0 l1 l2 l3 l4 l5 H0 H1 H2 H3 H4 H5
  clear hb ho hn2
  have l0:=lt_blk h0
  have l1:=lt_blk h1
  have l2:=lt_blk h2
  have l3:=lt_blk h3
  have l4:=lt_blk h4
  have l5:=lt_blk h5
  obtain⟨p0,p1,p2,p3,p4⟩:=cells5 h0
  obtain⟨q0,q1,q2,q3,q4,q5,q6⟩:=cells7 h1
  obtain⟨r0,r1,r2⟩:=cells3 h2
  obtain⟨x0,x1,x2,x3,x4⟩:=cells5 h3
  obtain⟨y0,y1,y2,y3,y4,y5,y6⟩:=cells7 h4
  obtain⟨z0,z1,z2⟩:=cells3 h5
  have fp0:=frees h0 0
  have fq3:=frees h1 3
  have fr2:=frees h2 2
  have fx:=frees h3
  have fy:=frees h4
  have fz:=frees h5
  have H0:=hid h0
  have H1:=hid h1
  have H2:=hid h2
  have H3:=hid h3
  have H4:=hid h4
  have H5:=hid h5
  clear h0 h1 h2 h3 h4 h5
  try clear hbw
  go_upto_region 6 with(fail)
  refine wp_w (fun W=>W.heap[w.heap.size]? =some (.cells #[.slice Ar m cr,.int .i64 mc,.int .i64 mt,.int .i64 mf,.int .i64 wt] 24 (0,0))∧W.heap[w.heap.size+1]? =some (.cells #[.int .i64 st,.int .i64 id,.int .i64 req,.slice A2 n2 c2,.int .i64 cnt,.int .i64 tim,.int .i64 nak] 29 (0,0))∧W.heap[w.heap.size+1+1]? =some (.cells #[.int .i64 ic,.int .i64 ii,.slice Ai k ci] 32 (0,0))∧W.heap[w.heap.size+1+1+1]? =some (.cells #[.slice none 0 0,.int .i64 0,.int .i64 0,.int .i64 0,.int .i64 0] 24 (0,0))∧W.heap[w.heap.size+1+1+1+1]? =some (.cells #[.int .i64 0,.int .i64 0,.int .i64 0,.slice none 0 0,.int .i64 0,.int .i64 0,.int .i64 0] 29 (0,0))∧W.heap[w.heap.size+1+1+1+1+1]? =some (.cells #[.int .i64 0,.int .i64 0,.slice none 0 0] 32 (0,0))∧Below w.heap.size w W∧W.ownsRow (w.heap.size+1+1+1+1+1+1) 111 2 (.slice A2 n2 c2) n2 (cellsE (litE E))) ⟨by first|exact set_off H0.out (by omega)|exact set_off (set_off H0.out (by omega)) (by omega),by first|exact set_in H1.out rfl|exact set_off (set_in H1.out rfl) (by omega),by first|(rw[←HK.out];exact set_off H2.out (by omega))|(rw[HK.out];exact set_in (set_off H2.out (by omega)) rfl),by first|exact set_off H3.out (by omega)|exact set_off (set_off H3.out (by omega)) (by omega),by first|exact set_off H4.out (by omega)|exact set_off (set_off H4.out (by omega)) (by omega),by first|exact set_off H5.out (by omega)|exact set_off (set_off H5.out (by omega)) (by omega),by have:=HB3.out;exact bel,by first|exact own_base (own_keep HOX.out (fun k hk=>heap_setCell_other _ _ _ _ (by have:=own_le HOX.out hk;simp;omega))) (by omega)|exact own_base (own_keep HOX.out (fun k hk=>(heap_setCell_other _ _ _ _ (by have:=own_le HOX.out hk;simp;omega)).trans (heap_setCell_other _ _ _ _ (by have:=own_le HOX.out hk;simp;omega)))) (by omega)⟩ ?_
  clear p0 p1 p2 p3 p4 q0 q1 q2 q3 q4 q5 q6 r0 r1 r2 x0 x1 x2 x3 x4 y0 y1 y2 y3 y4 y5 y6 z0 z1 z2 fp0 fq3 fr2 fx fy fz l0 l1 l2 l3 l4 l5 H0 H1 H2 H3 H4 H5
  clear HB3 hs3 HO HOX HB2 hs2 hX
  rintro W4 ⟨h0,h1,h2,h3,h4,h5,hbw,ho⟩
  have HB4:=hid hbw
  have HO4:=hid ho
  have hs4:=hbw.size
  clear ho
  have l0:=lt_blk h0
  have l1:=lt_blk h1
  have l2:=lt_blk h2
  have l3:=lt_blk h3
  have l4:=lt_blk h4
  have l5:=lt_blk h5
  obtain⟨p0,p1,p2,p3,p4⟩:=cells5 h0
  obtain⟨q0,q1,q2,q3,q4,q5,q6⟩:=cells7 h1
  obtain⟨r0,r1,r2⟩:=cells3 h2
  obtain⟨x0,x1,x2,x3,x4⟩:=cells5 h3
  obtain⟨y0,y1,y2,y3,y4,y5,y6⟩:=cells7 h4
  obtain⟨z0,z1,z2⟩:=cells3 h5
  have fp0:=frees h0 0
  have fq3:=frees h1 3
  have fr2:=frees h2 2
  have fx:=frees h3
  have fy:=frees h4
  have fz:=frees h5
  have H0:=hid h0
  have H1:=hid h1
  have H2:=hid h2
  have H3:=hid h3
  have H4:=hid h4
  have H5:=hid h5
  clear h0 h1 h2 h3 h4 h5
  try clear hbw
  have HO5:=hid (own_base HO4.out (show w.heap.size≤w.heap.size+1+1+1+1+1+1 by omega))
  go_region
  obtain⟨Wf,hWf⟩: ∃Wf,Wf=((((((((((((((((W4.setCell ⟨w.heap.size+1+1+1,0,none⟩ (.slice Ar m cr)).setCell ⟨w.heap.size+1+1+1,1,none⟩ (.int .i64 mc)).setCell ⟨w.heap.size+1+1+1,2,none⟩ (.int .i64 mt)).setCell ⟨w.heap.size+1+1+1,3,none⟩ (.int .i64 mf)).setCell ⟨w.heap.size+1+1+1,4,none⟩ (.int .i64 wt)).setCell ⟨w.heap.size+1+1+1+1,0,none⟩ (.int .i64 st)).setCell ⟨w.heap.size+1+1+1+1,1,none⟩ (.int .i64 id)).setCell ⟨w.heap.size+1+1+1+1,2,none⟩ (.int .i64 req)).setCell ⟨w.heap.size+1+1+1+1,3,none⟩ (.slice A2 n2 c2)).setCell ⟨w.heap.size+1+1+1+1,4,none⟩ (.int .i64 cnt)).setCell ⟨w.heap.size+1+1+1+1,5,none⟩ (.int .i64 tim)).setCell ⟨w.heap.size+1+1+1+1,6,none⟩ (.int .i64 nak)).setCell ⟨w.heap.size+1+1+1+1+1,0,none⟩ (.int .i64 ic)).setCell ⟨w.heap.size+1+1+1+1+1,1,none⟩ (.int .i64 ii)).setCell ⟨w.heap.size+1+1+1+1+1,2,none⟩ (.slice Ai k ci))).drew:=⟨_,rfl⟩
  rw[←hWf]
  have g3:Wf.heap[w.heap.size+1+1+1]? =some (.cells #[.slice Ar m cr,.int .i64 mc,.int .i64 mt,.int .i64 mf,.int .i64 wt] 24 (0,0)):=by rw[hWf];refine hp_drew ?_;(iterate 10 (with_reducible refine set_off ?_ (by omega)));exact rows5 H3.out rfl _ _ _ _ _
  have g4:Wf.heap[w.heap.size+1+1+1+1]? =some (.cells #[.int .i64 st,.int .i64 id,.int .i64 req,.slice A2 n2 c2,.int .i64 cnt,.int .i64 tim,.int .i64 nak] 29 (0,0)):=by rw[hWf];refine hp_drew ?_;(iterate 3 (with_reducible refine set_off ?_ (by omega)));refine row7 (cs:=#[.int .i64 0,.int .i64 0,.int .i64 0,.slice none 0 0,.int .i64 0,.int .i64 0,.int .i64 0]) ?_ rfl _ _ _ _ _ _ _;(iterate 5 (with_reducible refine set_off ?_ (by omega)));exact H4.out
  have g5:Wf.heap[w.heap.size+1+1+1+1+1]? =some (.cells #[.int .i64 ic,.int .i64 ii,.slice Ai k ci] 32 (0,0)):=by rw[hWf];refine hp_drew ?_;refine row3l (cs:=#[.int .i64 0,.int .i64 0,.slice none 0 0]) ?_ rfl _ _ _;(iterate 12 (with_reducible refine set_off ?_ (by omega)));exact H5.out
  have hbl:Below w.heap.size w Wf:=by rw[hWf];refine Below.drew ?_;(iterate 15 (with_reducible refine Below.setCell ?_ (by dsimp only;omega) _));exact HB4.out
  have hown:Wf.ownsRow w.heap.size 111 2 (.slice A2 n2 c2) n2 (cellsE (litE E)):=by rw[hWf];refine own_base (own_keep HO4.out (fun k hk=>?_)) (show w.heap.size≤w.heap.size+1+1+1+1+1+1 by omega);have hle:=own_le HO4.out hk;refine hp_drew ?_;(iterate 15 (with_reducible refine set_off ?_ (by omega)));rfl
  clear hWf
  clear p0 p1 p2 p3 p4 q0 q1 q2 q3 q4 q5 q6 r0 r1 r2 x0 x1 x2 x3 x4 y0 y1 y2 y3 y4 y5 y6 z0 z1 z2 fp0 fq3 fr2 fx fy fz l0 l1 l2 l3 l4 l5 H0 H1 H2 H3 H4 H5
  obtain⟨x0,x1,x2,x3,x4⟩:=cells5 g3
  obtain⟨y0,y1,y2,y3,y4,y5,y6⟩:=cells7 g4
  obtain⟨z0,z1,z2⟩:=cells3 g5
  go_wp2_with fail
  refine bodyPost_ret (v:=.tuple #[.agg #[.slice Ar m cr,.int .i64 mc,.int .i64 mt,.int .i64 mf,.int .i64 wt],.agg #[.int .i64 st,.int .i64 id,.int .i64 req,.slice A2 n2 c2,.int .i64 cnt,.int .i64 tim,.int .i64 nak],.agg #[.int .i64 ic,.int .i64 ii,.slice Ai k ci]]) (by simp[results,Tryz.results10,go_sem,x0,x1,x2,x3,x4,y0,y1,y2,y3,y4,y5,y6,z0,z1,z2]) rfl ⟨A2,n2,c2,rfl,hbl,hown,HN2.out⟩
end Go.Proofs.YtfkgmbknfnhjoaaGreat
