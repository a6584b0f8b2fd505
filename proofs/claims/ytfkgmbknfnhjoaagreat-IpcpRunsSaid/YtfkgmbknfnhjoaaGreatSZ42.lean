/- Z42 -/
import Derived.Test.YtfkgmbknfnhjoaaGreatSZ40
import Derived.Test.YtfkgmbknfnhjoaaGreatSZ5
import Derived.Test.YtfkgmbknfnhjoaaGreatSPZ
import Derived.Test.YtfkgmbknfnhjoaaGreatSPU
import Derived.Test.YtfkgmbknfnhjoaaGreatSZ9
set_option linter.all false
set_option linter.ambiguousOpen false
set_option maxHeartbeats 8000000
namespace Go.Proofs.YtfkgmbknfnhjoaaGreat
open Lib (hid)
open Go.RowKit
open Ne (Rl bF aD bM dJ)
open Fs (av hasB)
theorem ou (a b c d e f g h:Int) (A:Option Addr) (n m:Nat) (i:Nat) (x:UInt8):(#[.int .i64 a,.int .i64 b,.int .i64 c,.slice A n m,.int .i64 d,.int .i64 e,.int .i64 f,.int .i64 g,.int .i64 h]:Array Value)[i]?≠some (bv x):=by
 match i with
 |0|1|2|3|4|5|6|7|8=>simp[bv]
 |n+9=>simp
theorem fG.swap {A C:World} {b X:Nat} {v:Value} {out:List Pk} (h:fG A b v out) (hg:A.grownBy C (some X)) (hX:A.heap[X]? =some (.cells #[.int .i64 0,.int .i64 0,.int .i64 0,.slice none 0 0,.int .i64 0,.int .i64 0,.int .i64 0] 29 (0,0))):fG C b v out:=h.other hg hX (f_ _ _ _ _ _ _ _ _ _) (by decide)
theorem dQ.swap {A C:World} {b X:Nat} {v:Value} {out:List bF} (h:dQ A b v out) (hg:A.grownBy C (some X)) (hX:A.heap[X]? =some (.cells #[.int .i64 0,.int .i64 0,.int .i64 0,.slice none 0 0,.int .i64 0,.int .i64 0,.int .i64 0] 29 (0,0))):dQ C b v out:=h.other hg hX (f_ _ _ _ _ _ _ _ _ _) (by decide)
theorem aU.swap {A C:World} {b X:Nat} {v:Value} {l:List Int} (h:aU A b v l) (hg:A.grownBy C (some X)) (hX:A.heap[X]? =some (.cells #[.int .i64 0,.int .i64 0,.int .i64 0,.slice none 0 0,.int .i64 0,.int .i64 0,.int .i64 0] 29 (0,0))):aU C b v l:=aU.other h hg hX (by decide)
theorem aU.zX {A C:World} {b:Nat} {v:Value} {l:List Int} (h:aU A b v l) (hb:Below A.heap.size A C):aU C b v l:=own_below h hb
def j3 (r:Au×List Pk×List Int) (own peer:Int) (w:World) (x:Ending) (w':World):Prop:=
 ∃va vo vd,x=.returned (.tuple #[iH r.1 va own peer,vo,vd])∧Below w.heap.size w w'∧uy w' w'.heap.size va r.1.ask∧sU w' w'.heap.size vo r.2.1∧lG w' w'.heap.size vd r.2.2
def sJ (W:World) (X:Nat) (a:Au) (va:Value):World:=
 ((((((W.setCell ⟨X,0,none⟩ (.int .i64 a.st)).setCell ⟨X,1,none⟩ (.int .i64 a.id)).setCell ⟨X,2,none⟩ (.int .i64 a.req)).setCell ⟨X,3,none⟩ va).setCell ⟨X,4,none⟩ (.int .i64 a.cnt)).setCell ⟨X,5,none⟩ (.int .i64 a.ay)).setCell ⟨X,6,none⟩ (.int .i64 a.au)
theorem iU (W:World) (X:Nat) (a:Au) (va:Value):W.grownBy (sJ W X a va) (some X):=
 aM (aM (aM (aM (aM (aM (bV _ _ _ _) _ _) _ _) _ _) _ _) _ _) _ _
theorem ku {W:World} {X:Nat} {a b c d e f g h i:Value} {T:TypeId} (H:W.heap[X]? =some (.cells #[a,b,c,d,e,f,g,h,i] T (0,0))) (a':Au) (va:Value):(sJ W X a' va).heap[X]? =some (.cells #[.int .i64 a'.st,.int .i64 a'.id,.int .i64 a'.req,va,.int .i64 a'.cnt,.int .i64 a'.ay,.int .i64 a'.au,h,i] T (0,0)):=
 (heap_setCell_same _ X 6 _ _ _ (heap_setCell_same _ X 5 _ _ _ (heap_setCell_same _ X 4 _ _ _ (heap_setCell_same _ X 3 _ _ _ (heap_setCell_same _ X 2 _ _ _ (heap_setCell_same _ X 1 _ _ _ (heap_setCell_same _ X 0 _ _ _ H))))))).trans (by simp only[aaB,aaC,aaD])
def oV (W:World) (X:Nat) (a:Au) (va:Value) (own peer:Int):World:=((sJ W X a va).setCell ⟨X,7,none⟩ (.int .i64 own)).setCell ⟨X,8,none⟩ (.int .i64 peer)
theorem gJ (W:World) (X:Nat) (a:Au) (va:Value) (own peer:Int):W.grownBy (oV W X a va own peer) (some X):=aM (aM (iU W X a va) _ _) _ _
theorem iV {W:World} {X:Nat} {T:TypeId} (H:W.heap[X]? =some (.cells #[.int .i64 0,.int .i64 0,.int .i64 0,.slice none 0 0,.int .i64 0,.int .i64 0,.int .i64 0,.int .i64 0,.int .i64 0] T (0,0))) (a:Au) (va:Value) (own peer:Int):(oV W X a va own peer).heap[X]? =some (.cells #[.int .i64 a.st,.int .i64 a.id,.int .i64 a.req,va,.int .i64 a.cnt,.int .i64 a.ay,.int .i64 a.au,.int .i64 own,.int .i64 peer] T (0,0)):=
 (heap_setCell_same _ X 8 _ _ _ (heap_setCell_same _ X 7 _ _ _ (ku H a va))).trans (by simp only[aaB,aaC,aaD])
theorem j3.no {w W Wf:World} {Z B:Nat} {a:Au} {own peer:Int} {Aa:Option Addr} {na ca:Nat} {E:List aH} (hB:B≤w.heap.size) (hw:Below w.heap.size w W) (hZ:w.heap.size≤Z) (hE:aJ w B Aa E) (hna:na=E.length) (hca:na≤ca) (hL:E.map aH.o=a.ask) (hg:W.grownBy Wf (some Z)):
  j3 (a,[],[]) own peer w (.returned (.tuple #[iH a (.slice Aa na ca) own peer,.slice none 0 0,.slice none 0 0])) Wf:=by
 have hb:Below w.heap.size w Wf:=Below.grown hw hg hw.size (fun k hk=>by cases hk;exact hZ)
 exact⟨_,_,_,rfl,hb,⟨Aa,na,ca,E,rfl,(hE.keep (hb.mono hB)).more (by have:=hb.size;omega),hna,hca,hL⟩,⟨none,0,0,[],rfl,⟨At.nil _ _ _,fun _ h=>by cases h⟩,rfl,aaE _,rfl⟩,⟨none,0,0,rfl,At.nil _ _ _,rfl,aaE _⟩⟩
theorem j3.fin {w W3 W4 Wf:World} {X Z B:Nat} {a a0:Au} {va vo vd:Value} {own peer:Int} {out:List Pk} {acts:List Int} {A0 Aa:Option Addr} {n0 k0 na ca:Nat} {E:List aH} {L:List bF} (hB:B≤w.heap.size) (hw:Below w.heap.size w W3)
  (hX:W3.heap[X]? =some (.cells #[.int .i64 a0.st,.int .i64 a0.id,.int .i64 a0.req,.slice A0 n0 k0,.int .i64 a0.cnt,.int .i64 a0.ay,.int .i64 a0.au,.int .i64 own,.int .i64 peer] 60 (0,0))) (hXw:w.heap.size≤X) (hZ:W3.heap[Z]? =some (.cells #[.int .i64 0,.int .i64 0,.int .i64 0,.slice none 0 0,.int .i64 0,.int .i64 0,.int .i64 0,.int .i64 0,.int .i64 0] 60 (0,0))) (hZw:w.heap.size≤Z) (hXZ:Z≠X)
  (hP: ∃z,fG W3 z vo out) (hA: ∃z,aU W3 z vd acts) (hO:(∃z,dQ W3 z va a.ask)∨(va=.slice Aa na ca∧a.ask=L)) (hE:aJ w B Aa E) (hna:na=E.length) (hca:na≤ca) (hL:E.map aH.o=L) (h4:W3.grownBy W4 (some X)) (hf:W4.grownBy Wf (some Z)):
  j3 (a,out,acts) own peer w (.returned (.tuple #[iH a va own peer,vo,vd])) Wf:=by
 have hb4:Below w.heap.size w W4:=Below.grown hw h4 hw.size (fun k hk=>by cases hk;exact hXw)
 have hb:Below w.heap.size w Wf:=Below.grown hb4 hf hb4.size (fun k hk=>by cases hk;exact hZw)
 have Zh:W4.heap[Z]? =some (.cells #[.int .i64 0,.int .i64 0,.int .i64 0,.slice none 0 0,.int .i64 0,.int .i64 0,.int .i64 0,.int .i64 0,.int .i64 0] 60 (0,0)):=(h4.block Z (aj hZ) (fun e=>hXZ (by cases e;rfl))).trans hZ
 obtain⟨z1,hP⟩:=hP
 obtain⟨z2,hA⟩:=hA
 refine⟨_,_,_,rfl,hb,?_,((hP.other h4 hX (ou _ _ _ _ _ _ _ _ _ _ _) (by decide)).other hf Zh (ou _ _ _ _ _ _ _ _ _ _ _) (by decide)).v,((hA.other h4 hX (by decide)).other hf Zh (by decide)).v⟩
 rcases hO with⟨z3,hO⟩|⟨rfl,e⟩
 ·exact((hO.other h4 hX (ou _ _ _ _ _ _ _ _ _ _ _) (by decide)).other hf Zh (ou _ _ _ _ _ _ _ _ _ _ _) (by decide)).v
 ·exact⟨Aa,na,ca,E,rfl,(hE.keep (hb.mono hB)).more (by have:=hb.size;omega),hna,hca,by rw[hL];exact e.symm⟩
set_option maxRecDepth 100000 in
theorem nU (mr mc mt mf wt ec lo:Int) (st id req cnt ay au own peer:Int) (Aa:Option Addr) (na ca:Nat) (tick:Int) (E:List aH) (L:List bF) (hL:E.map aH.o=L) (w:World) (B:Nat) (hB:B≤w.heap.size) (hE:aJ w B Aa E) (hna:na=E.length) (hp:dJ peer):
  Calls Tryz.prog 104 #[.agg #[.int .i64 mr,.int .i64 mc,.int .i64 mt,.int .i64 mf,.int .i64 wt,.int .i64 ec,.int .i64 lo],.agg #[.int .i64 st,.int .i64 id,.int .i64 req,.slice Aa na ca,.int .i64 cnt,.int .i64 ay,.int .i64 au,.int .i64 own,.int .i64 peer],.int .i64 tick] w fun x w'=>x=.returned (.bool (iD mc mt mf wt ⟨st,id,req,L,cnt,ay,au⟩ own peer tick))∧Below w.heap.size w w':=by
 have HB:=hid hB
 have HE:=hid hE
 have dz:=hid hna
 have HL:=hid hL
 clear hB hE hna hL
 cases h1:rO mc mt mf wt ⟨st,id,req,L,cnt,ay,au⟩ own peer<;>by_cases t0:0≤tick
 all_goals
  have HV:=hid (show iD mc mt mf wt ⟨st,id,req,L,cnt,ay,au⟩ own peer tick=(rO mc mt mf wt ⟨st,id,req,L,cnt,ay,au⟩ own peer&&(decide (0≤tick)&&decide (tick≤1099511627776))) by unfold iD bC;rfl)
  have H1:=hid h1
  clear h1
  go_enter Tryz.func104,Tryz.ntmps104
  go_upto_region 1 with(fail)
  refine bY (fun W=>W.heap[w.heap.size]? =some (.cells #[.int .i64 mr,.int .i64 mc,.int .i64 mt,.int .i64 mf,.int .i64 wt,.int .i64 ec,.int .i64 lo] 64 (0,0))∧W.heap[w.heap.size+1]? =some (.cells #[.int .i64 st,.int .i64 id,.int .i64 req,.slice Aa na ca,.int .i64 cnt,.int .i64 ay,.int .i64 au,.int .i64 own,.int .i64 peer] 60 (0,0))∧Below w.heap.size w W) ⟨by exact hpa,by exact hpa,by exact aA⟩ ?_
  rintro W1 ⟨hc,hn,hb⟩
  have HB1:=hid hb
  obtain⟨c0,c1,c2,c3,c4,c5,c6⟩:=aG hc
  obtain⟨n0,n1,n2,n3,n4,n5,n6,n7,n8⟩:=aL hn
  clear hc hn hb
  go_wp2_with fail
  refine(Ed mr mc mt mf wt ec lo st id req cnt ay au own peer Aa na ca E L HL.out W1 B (by have:=HB1.out.size;have:=HB.out;omega) (HE.out.keep (HB1.out.mono HB.out)) dz.out hp).mono ?_
  rw[H1.out]
  rintro x W2 ⟨rfl,hb⟩
  have HB2:=hid (HB1.out.trans (hb.mono HB1.out.size))
  clear hb c0 c1 c2 c3 c4 c5 c6 n0 n1 n2 n3 n4 n5 n6 n7 n8
  go_wp2_with fail
  go_ret
  exact⟨by rw[HV.out,H1.out];simp[t0]<;>(intros;omega),HB2.out⟩
theorem dQ.Ww {W:World} {b:Nat} {v:Value} {L:List bF} (h:dQ W b v L): ∃A n c,v=.slice A n c:=by
 obtain⟨E,h1,-,-⟩:=h
 obtain⟨A,c,rfl,-,-⟩:=ownsRow_form h1
 exact⟨_,_,_,rfl⟩
theorem kL {w:World} {base:Nat} {v:Value} {out:List Pk} (h:fG w base v out): ∃A c,v=.slice A out.length c:=by
 obtain⟨P,h1,-,h3⟩:=h
 obtain⟨A,c,rfl,-,-⟩:=ownsRow_form h1
 exact⟨A,c,by rw[←h3,List.length_map]⟩
set_option maxRecDepth 100000 in
theorem Jc (mr mc mt mf wt ec lo:Int) (st id req cnt ay au own peer:Int) (Aa:Option Addr) (na ca:Nat) (e tick:Int) (E:List aH) (L:List bF) (hL:E.map aH.o=L) (w:World) (B:Nat) (hB:B≤w.heap.size) (hE:aJ w B Aa E) (hna:na=E.length) (hca:na≤ca) (hla:na≤1000000) (hp:dJ peer):
  Calls Tryz.prog 73 #[.agg #[.int .i64 mr,.int .i64 mc,.int .i64 mt,.int .i64 mf,.int .i64 wt,.int .i64 ec,.int .i64 lo],.agg #[.int .i64 st,.int .i64 id,.int .i64 req,.slice Aa na ca,.int .i64 cnt,.int .i64 ay,.int .i64 au,.int .i64 own,.int .i64 peer],.int .i64 e,.int .i64 tick] w (j3 (iQ mc mt mf wt ⟨st,id,req,L,cnt,ay,au⟩ own peer e tick) own peer w):=by
 have HB:=hid hB
 have HE:=hid hE
 have dz:=hid hna
 have HP:=hid hp
 have HL:=hid hL
 clear hB hE hna hp hL
 cases hf:iD mc mt mf wt ⟨st,id,req,L,cnt,ay,au⟩ own peer tick
 focus
  have HF:=hid hf
  have OW:=hid (show iQ mc mt mf wt ⟨st,id,req,L,cnt,ay,au⟩ own peer e tick=(⟨st,id,req,L,cnt,ay,au⟩,[],[]) by unfold iQ;rw[if_neg (by rw[hf];simp)])
  clear hf
 rotate_left
 focus
  have HF:=hid hf
  by_cases he:bC e 1 4=true
 ·obtain⟨⟨a1,o1,d1⟩,hr⟩: ∃r,jo ⟨[dX peer],mc,mt,mf,wt⟩ ⟨st,id,req,L,cnt,ay,au⟩ e ⟨0,0,[]⟩ ⟨0,0,[]⟩ tick=r:=⟨_,rfl⟩
  have HV:=hid hr
  have HR1:=hid (show iQ mc mt mf wt ⟨st,id,req,L,cnt,ay,au⟩ own peer e tick=(a1,o1,d1) by unfold iQ;rw[if_pos ⟨hf,he⟩];exact hr)
  have BP:=hid (show a1.ask=L by have h:=fU ⟨[dX peer],mc,mt,mf,wt⟩ ⟨st,id,req,L,cnt,ay,au⟩ e ⟨0,0,[]⟩ ⟨0,0,[]⟩ tick;rw[hr] at h;exact h)
  have h4:=rG he
  clear hf hr he
  rcases (show e=1∨e=2∨e=3∨e=4 by omega) with rfl|rfl|rfl|rfl
  all_goals
   clear h4
   go_enter Tryz.func73,Tryz.ntmps73
   go_upto_region 1 with(fail)
   refine bY (fun W=>W.heap[w.heap.size]? =some (.cells #[.int .i64 mr,.int .i64 mc,.int .i64 mt,.int .i64 mf,.int .i64 wt,.int .i64 ec,.int .i64 lo] 64 (0,0))∧W.heap[w.heap.size+1]? =some (.cells #[.int .i64 st,.int .i64 id,.int .i64 req,.slice Aa na ca,.int .i64 cnt,.int .i64 ay,.int .i64 au,.int .i64 own,.int .i64 peer] 60 (0,0))∧W.heap[w.heap.size+1+1]? =some (.cells #[.int .i64 0,.int .i64 0,.int .i64 0,.slice none 0 0,.int .i64 0,.int .i64 0,.int .i64 0,.int .i64 0,.int .i64 0] 60 (0,0))∧Below w.heap.size w W) ⟨by exact hpa,by exact hpa,by exact hpa,by exact aA⟩ ?_
   rintro W1 ⟨hc,hn,hz,hb⟩
   have hzz:w.heap.size+1+1<W1.heap.size:=aj hz
   have HC:=hid hc
   have HN:=hid hn
   have HZ:=hid hz
   have aQ:=hid hb
   have hsw:=hb.size
   have lc:=aj hc
   have ln:=aj hn
   have lz:=aj hz
   obtain⟨c0,c1,c2,c3,c4,c5,c6⟩:=aG hc
   obtain⟨n0,n1,n2,n3,n4,n5,n6,n7,n8⟩:=aL hn
   obtain⟨z0,z1,z2,z3,z4,z5,z6,z7,z8⟩:=aL hz
   have fz:=frees hz
   clear hc hn hz hb
   go_wp2_with fail
   refine(nU mr mc mt mf wt ec lo st id req cnt ay au own peer Aa na ca tick E L HL.out W1 B (by have:=HB.out;omega) (HE.out.keep (aQ.out.mono HB.out)) dz.out HP.out).mono ?_
   rw[HF.out]
   rintro x W2 ⟨rfl,hb⟩
   have hc:=(hb.block _ lc).trans HC.out
   have hn:=(hb.block _ ln).trans HN.out
   have hz:=(hb.block _ lz).trans HZ.out
   replace hb:=aQ.out.trans (hb.mono hsw)
   clear c0 c1 c2 c3 c4 c5 c6 n0 n1 n2 n3 n4 n5 n6 n7 n8 z0 z1 z2 z3 z4 z5 z6 z7 z8 fz lc ln lz HC HN HZ aQ hsw
   have HC:=hid hc
   have HN:=hid hn
   have HZ:=hid hz
   have aQ:=hid hb
   have hsw:=hb.size
   have lc:=aj hc
   have ln:=aj hn
   have lz:=aj hz
   obtain⟨c0,c1,c2,c3,c4,c5,c6⟩:=aG hc
   obtain⟨n0,n1,n2,n3,n4,n5,n6,n7,n8⟩:=aL hn
   obtain⟨z0,z1,z2,z3,z4,z5,z6,z7,z8⟩:=aL hz
   have fz:=frees hz
   clear hc hn hz hb
   go_upto_region 3 with(fail)
   go_cut [11,12,13] (fun s1 s2 s3 wx=> ∃(P:Nat) (A4 Ao Ad:Option Addr) (nx cx no co nd cd:Nat) (W:World),W=wx∧s1=.pointer (some ⟨P,0,none⟩)∧s2=.slice Ao no co∧s3=.slice Ad nd cd∧W.heap[P]? =some (.cells #[.int .i64 a1.st,.int .i64 a1.id,.int .i64 a1.req,.slice A4 nx cx,.int .i64 a1.cnt,.int .i64 a1.ay,.int .i64 a1.au] 29 (0,0))∧Below W2.heap.size W2 W∧(∃z,fG W z (.slice Ao no co) o1)∧(∃z,aU W z (.slice Ad nd cd) d1)∧((∃z,dQ W z (.slice A4 nx cx) a1.ask)∨(Value.slice A4 nx cx=.slice Aa na ca∧a1.ask=L)))
   case first=>
    have zq:=hid (show∀w':World,Below W2.heap.size W2 w'→(w'.cell? ⟨w.heap.size,0,none⟩=some (.int .i64 mr)∧w'.cell? ⟨w.heap.size,1,none⟩=some (.int .i64 mc)∧w'.cell? ⟨w.heap.size,2,none⟩=some (.int .i64 mt)∧w'.cell? ⟨w.heap.size,3,none⟩=some (.int .i64 mf)∧w'.cell? ⟨w.heap.size,4,none⟩=some (.int .i64 wt)∧w'.cell? ⟨w.heap.size,5,none⟩=some (.int .i64 ec)∧w'.cell? ⟨w.heap.size,6,none⟩=some (.int .i64 lo)∧w'.cell? ⟨w.heap.size+1,0,none⟩=some (.int .i64 st)∧w'.cell? ⟨w.heap.size+1,1,none⟩=some (.int .i64 id)∧w'.cell? ⟨w.heap.size+1,2,none⟩=some (.int .i64 req)∧w'.cell? ⟨w.heap.size+1,3,none⟩=some (.slice Aa na ca)∧w'.cell? ⟨w.heap.size+1,4,none⟩=some (.int .i64 cnt)∧w'.cell? ⟨w.heap.size+1,5,none⟩=some (.int .i64 ay)∧w'.cell? ⟨w.heap.size+1,6,none⟩=some (.int .i64 au)∧w'.cell? ⟨w.heap.size+1,7,none⟩=some (.int .i64 own)∧w'.cell? ⟨w.heap.size+1,8,none⟩=some (.int .i64 peer)) from fun w' hb=>⟨(hb.cell (p:=⟨w.heap.size,_,none⟩) lc).trans c0,(hb.cell (p:=⟨w.heap.size,_,none⟩) lc).trans c1,(hb.cell (p:=⟨w.heap.size,_,none⟩) lc).trans c2,(hb.cell (p:=⟨w.heap.size,_,none⟩) lc).trans c3,(hb.cell (p:=⟨w.heap.size,_,none⟩) lc).trans c4,(hb.cell (p:=⟨w.heap.size,_,none⟩) lc).trans c5,(hb.cell (p:=⟨w.heap.size,_,none⟩) lc).trans c6,(hb.cell (p:=⟨w.heap.size+1,_,none⟩) ln).trans n0,(hb.cell (p:=⟨w.heap.size+1,_,none⟩) ln).trans n1,(hb.cell (p:=⟨w.heap.size+1,_,none⟩) ln).trans n2,(hb.cell (p:=⟨w.heap.size+1,_,none⟩) ln).trans n3,(hb.cell (p:=⟨w.heap.size+1,_,none⟩) ln).trans n4,(hb.cell (p:=⟨w.heap.size+1,_,none⟩) ln).trans n5,(hb.cell (p:=⟨w.heap.size+1,_,none⟩) ln).trans n6,(hb.cell (p:=⟨w.heap.size+1,_,none⟩) ln).trans n7,(hb.cell (p:=⟨w.heap.size+1,_,none⟩) ln).trans n8⟩)
    go_region_held3 (fun w'=>w'.cell? ⟨w.heap.size,0,none⟩=some (.int .i64 mr)∧w'.cell? ⟨w.heap.size,1,none⟩=some (.int .i64 mc)∧w'.cell? ⟨w.heap.size,2,none⟩=some (.int .i64 mt)∧w'.cell? ⟨w.heap.size,3,none⟩=some (.int .i64 mf)∧w'.cell? ⟨w.heap.size,4,none⟩=some (.int .i64 wt)∧w'.cell? ⟨w.heap.size,5,none⟩=some (.int .i64 ec)∧w'.cell? ⟨w.heap.size,6,none⟩=some (.int .i64 lo)∧w'.cell? ⟨w.heap.size+1,0,none⟩=some (.int .i64 st)∧w'.cell? ⟨w.heap.size+1,1,none⟩=some (.int .i64 id)∧w'.cell? ⟨w.heap.size+1,2,none⟩=some (.int .i64 req)∧w'.cell? ⟨w.heap.size+1,3,none⟩=some (.slice Aa na ca)∧w'.cell? ⟨w.heap.size+1,4,none⟩=some (.int .i64 cnt)∧w'.cell? ⟨w.heap.size+1,5,none⟩=some (.int .i64 ay)∧w'.cell? ⟨w.heap.size+1,6,none⟩=some (.int .i64 au)∧w'.cell? ⟨w.heap.size+1,7,none⟩=some (.int .i64 own)∧w'.cell? ⟨w.heap.size+1,8,none⟩=some (.int .i64 peer)) (exact zq.out _ (by exact aA)) (first|(go_at_call 42;go_must (refine(kr mr mc mt mf wt ec lo peer HP.out _).mono ?_);rintro e w8 ⟨A8,rfl,nO,su⟩;obtain⟨yZ,d8,rfl⟩:=aB nO;have xU:=hid su;clear nO su)|(go_at_call 15;go_must (refine(qF A8 Aa none none 1 1 na ca 0 0 0 0 [dX peer] mc mt mf wt st id req cnt ay au _ 0 0 0 0 tick E [] [] _ _ (aaE _) (by exact(xU.out.keep (by exact aA)).more (by simp[size_ext,grow])) rfl (by omega) (by exact(HE.out.keep (aQ.out.mono HB.out|>.trans (by have:=HB.out;exact aA))).more (by have:=HB.out;simp[size_ext,grow];omega)) dz.out (At.nil _ _ _) rfl (aaE _) (by omega) (At.nil _ _ _) rfl (aaE _) (by omega)).mono ?_);rw[HL.out,HV.out];unfold zT vV;(try dsimp only);rintro e w6 ⟨vo,vd,rfl,hb6,hP,hA⟩;have wN:=hid hP;have DK:=hid hA;obtain⟨Xq,d6,rfl⟩:=aB hb6;clear hb6 hP hA))
    all_goals
     go_wp2_with fail
     obtain⟨Ao,co,rfl⟩:=kL wN.out
     obtain⟨Ad,cd,rfl⟩:=lJ DK.out
     go_meet
     refine⟨_,Aa,Ao,Ad,na,ca,_,co,_,cd,_,rfl,rfl,rfl,rfl,?_,by exact aA,?_,?_,?_⟩
     ·repeat(first|(with_reducible refine aF _ _ _ ?_;((first|(simp[size_ext,grow];done)|(simp[size_ext,grow];omega))))|(with_reducible refine(aO _ _ _ _ ?_).trans ?_;(focus ((first|(simp[size_ext,grow];done)|(simp[size_ext,grow];omega)))))|(with_reducible refine(aC _ _ _ ?_).trans ?_;(focus ((first|(simp[size_ext,grow];done)|(simp[size_ext,grow];omega))))))
     ·have h5:=wN.out
      first|exact⟨_,fG.below h5 (Below.alloc (Below.refl _ _) (aaE _) _)⟩|(apply Exists.intro;refine fG.swap (X:=?_) h5 ?_ ?_;rotate_left;(repeat(first|with_reducible exact dS _ _ _|with_reducible refine bJ ?_ (by simp[size_ext,grow])|with_reducible refine dL ?_ (by simp[size_ext,grow])));all_goals(repeat(first|(with_reducible refine aF _ _ _ ?_;((first|(simp[size_ext,grow];done)|(simp[size_ext,grow];omega))))|(with_reducible refine(aO _ _ _ _ ?_).trans ?_;(focus ((first|(simp[size_ext,grow];done)|(simp[size_ext,grow];omega)))))|(with_reducible refine(aC _ _ _ ?_).trans ?_;(focus ((first|(simp[size_ext,grow];done)|(simp[size_ext,grow];omega))))))))
     ·have h5:=DK.out
      first|exact⟨_,aU.zX h5 (Below.alloc (Below.refl _ _) (aaE _) _)⟩|(apply Exists.intro;refine aU.swap (X:=?_) h5 ?_ ?_;rotate_left;(repeat(first|with_reducible exact dS _ _ _|with_reducible refine bJ ?_ (by simp[size_ext,grow])|with_reducible refine dL ?_ (by simp[size_ext,grow])));all_goals(repeat(first|(with_reducible refine aF _ _ _ ?_;((first|(simp[size_ext,grow];done)|(simp[size_ext,grow];omega))))|(with_reducible refine(aO _ _ _ _ ?_).trans ?_;(focus ((first|(simp[size_ext,grow];done)|(simp[size_ext,grow];omega)))))|(with_reducible refine(aC _ _ _ ?_).trans ?_;(focus ((first|(simp[size_ext,grow];done)|(simp[size_ext,grow];omega))))))))
     ·exact .inr ⟨rfl,BP.out⟩
   case rest=>
    obtain⟨P,A4,Ao,Ad,nx,cx,no,co,nd,cd,W3,rfl,rfl,rfl,rfl,hrow,hb,hP,hA,hO⟩:=hcut
    have fD:=hid hP
    have BO:=hid hA
    have gZ:=hid hO
    have Ev:=hid hrow
    obtain⟨t0,t1,t2,t3,t4,t5,t6⟩:=aG hrow
    have lP:=aj hrow
    clear hP hA hO hrow
    have hc:=(hb.block _ lc).trans HC.out
    have hn:=(hb.block _ ln).trans HN.out
    have hz:=(hb.block _ lz).trans HZ.out
    replace hb:=aQ.out.trans (hb.mono hsw)
    clear c0 c1 c2 c3 c4 c5 c6 n0 n1 n2 n3 n4 n5 n6 n7 n8 z0 z1 z2 z3 z4 z5 z6 z7 z8 fz lc ln lz HC HN HZ aQ hsw
    have HC:=hid hc
    have HN:=hid hn
    have HZ:=hid hz
    have aQ:=hid hb
    have hsw:=hb.size
    have lc:=aj hc
    have ln:=aj hn
    have lz:=aj hz
    obtain⟨c0,c1,c2,c3,c4,c5,c6⟩:=aG hc
    obtain⟨n0,n1,n2,n3,n4,n5,n6,n7,n8⟩:=aL hn
    obtain⟨z0,z1,z2,z3,z4,z5,z6,z7,z8⟩:=aL hz
    have fz:=frees hz
    clear hc hn hz hb
    have ji:=HN.out
    have fn:=frees ji
    clear ji
    go_upto_region 5 with(fail)
    generalize hWs:World.setCell _ _ _=W4
    have hst:sJ W3 (w.heap.size+1) a1 (.slice A4 nx cx)=W4:=hWs
    have hg4:=iU W3 (w.heap.size+1) a1 (.slice A4 nx cx)
    have hr4:=ku HN.out a1 (.slice A4 nx cx)
    rw[hst] at hg4 hr4
    have BF:=hid hg4
    clear hst hWs
    have pU:=(hg4.block (w.heap.size+1+1) lz (by simp)).trans HZ.out
    clear c0 c1 c2 c3 c4 c5 c6 n0 n1 n2 n3 n4 n5 n6 n7 n8 z0 z1 z2 z3 z4 z5 z6 z7 z8 fz lc ln lz t0 t1 t2 t3 t4 t5 t6 lP fn
    have lz:=aj pU
    have ln:=aj hr4
    obtain⟨n0,n1,n2,n3,n4,n5,n6,n7,n8⟩:=aL hr4
    obtain⟨z0,z1,z2,z3,z4,z5,z6,z7,z8⟩:=aL pU
    have fz:=frees pU
    have xV:=hid pU
    clear hg4 hr4 pU
    go_wp2_with fail
    generalize hWf:World.setCell _ _ _=Wf
    have hst:oV W4 (w.heap.size+1+1) a1 (.slice A4 nx cx) own peer=Wf:=hWf
    have hg:=gJ W4 (w.heap.size+1+1) a1 (.slice A4 nx cx) own peer
    have hr:=iV xV.out a1 (.slice A4 nx cx) own peer
    rw[hst] at hg hr
    clear n0 n1 n2 n3 n4 n5 n6 n7 n8 z0 z1 z2 z3 z4 z5 z6 z7 z8 fz
    obtain⟨u0,u1,u2,u3,u4,u5,u6,u7,u8⟩:=aL hr
    refine bodyPost_ret (v:=.tuple #[iH a1 (.slice A4 nx cx) own peer,.slice Ao no co,.slice Ad nd cd]) (by unfold iH;simp[results,Tryz.results73,go_sem,u0,u1,u2,u3,u4,u5,u6,u7,u8]) rfl ?_
    rw[HR1.out]
    exact j3.fin (a0:=⟨st,id,req,L,cnt,ay,au⟩) HB.out aQ.out HN.out (by omega) HZ.out (by omega) (by omega) fD.out BO.out gZ.out HE.out dz.out hca HL.out BF.out hg
 focus
  have OW:=hid (show iQ mc mt mf wt ⟨st,id,req,L,cnt,ay,au⟩ own peer e tick=(⟨st,id,req,L,cnt,ay,au⟩,[],[]) by unfold iQ;rw[if_neg (by simp[he])])
  have e1:(e==1)=false:=by simp;rintro rfl;exact he rfl
  have f1:(e !=1)=true:=by rw[bne,e1];rfl
  have e2:(e==2)=false:=by simp;rintro rfl;exact he rfl
  have f2:(e !=2)=true:=by rw[bne,e2];rfl
  have e3:(e==3)=false:=by simp;rintro rfl;exact he rfl
  have f3:(e !=3)=true:=by rw[bne,e3];rfl
  have e4:(e==4)=false:=by simp;rintro rfl;exact he rfl
  have f4:(e !=4)=true:=by rw[bne,e4];rfl
  clear hf he
 rotate_left
 all_goals
  go_enter Tryz.func73,Tryz.ntmps73
  go_upto_region 1 with(fail)
  refine bY (fun W=>W.heap[w.heap.size]? =some (.cells #[.int .i64 mr,.int .i64 mc,.int .i64 mt,.int .i64 mf,.int .i64 wt,.int .i64 ec,.int .i64 lo] 64 (0,0))∧W.heap[w.heap.size+1]? =some (.cells #[.int .i64 st,.int .i64 id,.int .i64 req,.slice Aa na ca,.int .i64 cnt,.int .i64 ay,.int .i64 au,.int .i64 own,.int .i64 peer] 60 (0,0))∧W.heap[w.heap.size+1+1]? =some (.cells #[.int .i64 0,.int .i64 0,.int .i64 0,.slice none 0 0,.int .i64 0,.int .i64 0,.int .i64 0,.int .i64 0,.int .i64 0] 60 (0,0))∧Below w.heap.size w W) ⟨by exact hpa,by exact hpa,by exact hpa,by exact aA⟩ ?_
  rintro W1 ⟨hc,hn,hz,hb⟩
  have hzz:w.heap.size+1+1<W1.heap.size:=aj hz
  have HC:=hid hc
  have HN:=hid hn
  have HZ:=hid hz
  have aQ:=hid hb
  have hsw:=hb.size
  have lc:=aj hc
  have ln:=aj hn
  have lz:=aj hz
  obtain⟨c0,c1,c2,c3,c4,c5,c6⟩:=aG hc
  obtain⟨n0,n1,n2,n3,n4,n5,n6,n7,n8⟩:=aL hn
  obtain⟨z0,z1,z2,z3,z4,z5,z6,z7,z8⟩:=aL hz
  have fz:=frees hz
  clear hc hn hz hb
  go_wp2_with fail
  refine(nU mr mc mt mf wt ec lo st id req cnt ay au own peer Aa na ca tick E L HL.out W1 B (by have:=HB.out;omega) (HE.out.keep (aQ.out.mono HB.out)) dz.out HP.out).mono ?_
  rw[HF.out]
  rintro x W2 ⟨rfl,hb⟩
  have hc:=(hb.block _ lc).trans HC.out
  have hn:=(hb.block _ ln).trans HN.out
  have hz:=(hb.block _ lz).trans HZ.out
  replace hb:=aQ.out.trans (hb.mono hsw)
  clear c0 c1 c2 c3 c4 c5 c6 n0 n1 n2 n3 n4 n5 n6 n7 n8 z0 z1 z2 z3 z4 z5 z6 z7 z8 fz lc ln lz HC HN HZ aQ hsw
  have HC:=hid hc
  have HN:=hid hn
  have HZ:=hid hz
  have aQ:=hid hb
  have hsw:=hb.size
  have lc:=aj hc
  have ln:=aj hn
  have lz:=aj hz
  obtain⟨c0,c1,c2,c3,c4,c5,c6⟩:=aG hc
  obtain⟨n0,n1,n2,n3,n4,n5,n6,n7,n8⟩:=aL hn
  obtain⟨z0,z1,z2,z3,z4,z5,z6,z7,z8⟩:=aL hz
  have fz:=frees hz
  clear hc hn hz hb
  go_wp2_with fail
  generalize hWf:World.setCell _ _ _=Wf
  have hst:oV W2 (w.heap.size+1+1) ⟨st,id,req,L,cnt,ay,au⟩ (.slice Aa na ca) own peer=Wf:=hWf
  have hg:=gJ W2 (w.heap.size+1+1) ⟨st,id,req,L,cnt,ay,au⟩ (.slice Aa na ca) own peer
  have hr:=iV HZ.out ⟨st,id,req,L,cnt,ay,au⟩ (.slice Aa na ca) own peer
  rw[hst] at hg hr
  clear c0 c1 c2 c3 c4 c5 c6 n0 n1 n2 n3 n4 n5 n6 n7 n8 z0 z1 z2 z3 z4 z5 z6 z7 z8 fz lc ln lz
  obtain⟨u0,u1,u2,u3,u4,u5,u6,u7,u8⟩:=aL hr
  refine bodyPost_ret (v:=.tuple #[.agg #[.int .i64 st,.int .i64 id,.int .i64 req,.slice Aa na ca,.int .i64 cnt,.int .i64 ay,.int .i64 au,.int .i64 own,.int .i64 peer],.slice none 0 0,.slice none 0 0]) (by simp[results,Tryz.results73,go_sem,u0,u1,u2,u3,u4,u5,u6,u7,u8]) rfl ?_
  rw[OW.out]
  exact j3.no HB.out aQ.out (by omega) HE.out dz.out hca HL.out hg
set_option maxRecDepth 100000 in
theorem Dm (mr mc mt mf wt ec lo:Int) (st id req cnt ay au own peer:Int) (Aa:Option Addr) (na ca:Nat) (tick:Int) (E:List aH) (L:List bF) (hL:E.map aH.o=L) (w:World) (B:Nat) (hB:B≤w.heap.size) (hE:aJ w B Aa E) (hna:na=E.length) (hca:na≤ca) (hla:na≤1000000) (hp:dJ peer):
  Calls Tryz.prog 75 #[.agg #[.int .i64 mr,.int .i64 mc,.int .i64 mt,.int .i64 mf,.int .i64 wt,.int .i64 ec,.int .i64 lo],.agg #[.int .i64 st,.int .i64 id,.int .i64 req,.slice Aa na ca,.int .i64 cnt,.int .i64 ay,.int .i64 au,.int .i64 own,.int .i64 peer],.int .i64 tick] w (j3 (fM mc mt mf wt ⟨st,id,req,L,cnt,ay,au⟩ own peer tick) own peer w):=by
 have HB:=hid hB
 have HE:=hid hE
 have dz:=hid hna
 have HP:=hid hp
 have HL:=hid hL
 clear hB hE hna hp hL
 cases hf:iD mc mt mf wt ⟨st,id,req,L,cnt,ay,au⟩ own peer tick
 focus
  have HF:=hid hf
  have OW:=hid (show fM mc mt mf wt ⟨st,id,req,L,cnt,ay,au⟩ own peer tick=(⟨st,id,req,L,cnt,ay,au⟩,[],[]) by unfold fM;rw[if_neg (by rw[hf];simp)])
  clear hf
 rotate_left
 focus
  have HF:=hid hf
  obtain⟨⟨a1,o1,d1⟩,hr⟩: ∃r,mh ⟨[dX peer],mc,mt,mf,wt⟩ ⟨st,id,req,L,cnt,ay,au⟩ tick=r:=⟨_,rfl⟩
  have HV:=hid hr
  have HR1:=hid (show fM mc mt mf wt ⟨st,id,req,L,cnt,ay,au⟩ own peer tick=(a1,o1,d1) by unfold fM;rw[if_pos hf];exact hr)
  have BP:=hid (show a1.ask=L by have h:=Bu ⟨[dX peer],mc,mt,mf,wt⟩ ⟨st,id,req,L,cnt,ay,au⟩ tick;rw[hr] at h;exact h)
  clear hf hr
 rotate_left
 all_goals
  go_enter Tryz.func75,Tryz.ntmps75
  go_upto_region 1 with(fail)
  refine bY (fun W=>W.heap[w.heap.size]? =some (.cells #[.int .i64 mr,.int .i64 mc,.int .i64 mt,.int .i64 mf,.int .i64 wt,.int .i64 ec,.int .i64 lo] 64 (0,0))∧W.heap[w.heap.size+1]? =some (.cells #[.int .i64 st,.int .i64 id,.int .i64 req,.slice Aa na ca,.int .i64 cnt,.int .i64 ay,.int .i64 au,.int .i64 own,.int .i64 peer] 60 (0,0))∧W.heap[w.heap.size+1+1]? =some (.cells #[.int .i64 0,.int .i64 0,.int .i64 0,.slice none 0 0,.int .i64 0,.int .i64 0,.int .i64 0,.int .i64 0,.int .i64 0] 60 (0,0))∧Below w.heap.size w W) ⟨by exact hpa,by exact hpa,by exact hpa,by exact aA⟩ ?_
  rintro W1 ⟨hc,hn,hz,hb⟩
  have hzz:w.heap.size+1+1<W1.heap.size:=aj hz
  have HC:=hid hc
  have HN:=hid hn
  have HZ:=hid hz
  have aQ:=hid hb
  have hsw:=hb.size
  have lc:=aj hc
  have ln:=aj hn
  have lz:=aj hz
  obtain⟨c0,c1,c2,c3,c4,c5,c6⟩:=aG hc
  obtain⟨n0,n1,n2,n3,n4,n5,n6,n7,n8⟩:=aL hn
  obtain⟨z0,z1,z2,z3,z4,z5,z6,z7,z8⟩:=aL hz
  have fz:=frees hz
  clear hc hn hz hb
  go_wp2_with fail
  refine(nU mr mc mt mf wt ec lo st id req cnt ay au own peer Aa na ca tick E L HL.out W1 B (by have:=HB.out;omega) (HE.out.keep (aQ.out.mono HB.out)) dz.out HP.out).mono ?_
  rw[HF.out]
  rintro x W2 ⟨rfl,hb⟩
  have hc:=(hb.block _ lc).trans HC.out
  have hn:=(hb.block _ ln).trans HN.out
  have hz:=(hb.block _ lz).trans HZ.out
  replace hb:=aQ.out.trans (hb.mono hsw)
  clear c0 c1 c2 c3 c4 c5 c6 n0 n1 n2 n3 n4 n5 n6 n7 n8 z0 z1 z2 z3 z4 z5 z6 z7 z8 fz lc ln lz HC HN HZ aQ hsw
  have HC:=hid hc
  have HN:=hid hn
  have HZ:=hid hz
  have aQ:=hid hb
  have hsw:=hb.size
  have lc:=aj hc
  have ln:=aj hn
  have lz:=aj hz
  obtain⟨c0,c1,c2,c3,c4,c5,c6⟩:=aG hc
  obtain⟨n0,n1,n2,n3,n4,n5,n6,n7,n8⟩:=aL hn
  obtain⟨z0,z1,z2,z3,z4,z5,z6,z7,z8⟩:=aL hz
  have fz:=frees hz
  clear hc hn hz hb
 ·go_wp2_with fail
  generalize hWf:World.setCell _ _ _=Wf
  have hst:oV W2 (w.heap.size+1+1) ⟨st,id,req,L,cnt,ay,au⟩ (.slice Aa na ca) own peer=Wf:=hWf
  have hg:=gJ W2 (w.heap.size+1+1) ⟨st,id,req,L,cnt,ay,au⟩ (.slice Aa na ca) own peer
  have hr:=iV HZ.out ⟨st,id,req,L,cnt,ay,au⟩ (.slice Aa na ca) own peer
  rw[hst] at hg hr
  clear c0 c1 c2 c3 c4 c5 c6 n0 n1 n2 n3 n4 n5 n6 n7 n8 z0 z1 z2 z3 z4 z5 z6 z7 z8 fz lc ln lz
  obtain⟨u0,u1,u2,u3,u4,u5,u6,u7,u8⟩:=aL hr
  refine bodyPost_ret (v:=.tuple #[.agg #[.int .i64 st,.int .i64 id,.int .i64 req,.slice Aa na ca,.int .i64 cnt,.int .i64 ay,.int .i64 au,.int .i64 own,.int .i64 peer],.slice none 0 0,.slice none 0 0]) (by simp[results,Tryz.results75,go_sem,u0,u1,u2,u3,u4,u5,u6,u7,u8]) rfl ?_
  rw[OW.out]
  exact j3.no HB.out aQ.out (by omega) HE.out dz.out hca HL.out hg
 ·go_upto_region 3 with(fail)
  go_cut [9,10,11] (fun s1 s2 s3 wx=> ∃(P:Nat) (A4 Ao Ad:Option Addr) (nx cx no co nd cd:Nat) (W:World),W=wx∧s1=.pointer (some ⟨P,0,none⟩)∧s2=.slice Ao no co∧s3=.slice Ad nd cd∧W.heap[P]? =some (.cells #[.int .i64 a1.st,.int .i64 a1.id,.int .i64 a1.req,.slice A4 nx cx,.int .i64 a1.cnt,.int .i64 a1.ay,.int .i64 a1.au] 29 (0,0))∧Below W2.heap.size W2 W∧(∃z,fG W z (.slice Ao no co) o1)∧(∃z,aU W z (.slice Ad nd cd) d1)∧((∃z,dQ W z (.slice A4 nx cx) a1.ask)∨(Value.slice A4 nx cx=.slice Aa na ca∧a1.ask=L)))
  case first=>
   have zq:=hid (show∀w':World,Below W2.heap.size W2 w'→(w'.cell? ⟨w.heap.size,0,none⟩=some (.int .i64 mr)∧w'.cell? ⟨w.heap.size,1,none⟩=some (.int .i64 mc)∧w'.cell? ⟨w.heap.size,2,none⟩=some (.int .i64 mt)∧w'.cell? ⟨w.heap.size,3,none⟩=some (.int .i64 mf)∧w'.cell? ⟨w.heap.size,4,none⟩=some (.int .i64 wt)∧w'.cell? ⟨w.heap.size,5,none⟩=some (.int .i64 ec)∧w'.cell? ⟨w.heap.size,6,none⟩=some (.int .i64 lo)∧w'.cell? ⟨w.heap.size+1,0,none⟩=some (.int .i64 st)∧w'.cell? ⟨w.heap.size+1,1,none⟩=some (.int .i64 id)∧w'.cell? ⟨w.heap.size+1,2,none⟩=some (.int .i64 req)∧w'.cell? ⟨w.heap.size+1,3,none⟩=some (.slice Aa na ca)∧w'.cell? ⟨w.heap.size+1,4,none⟩=some (.int .i64 cnt)∧w'.cell? ⟨w.heap.size+1,5,none⟩=some (.int .i64 ay)∧w'.cell? ⟨w.heap.size+1,6,none⟩=some (.int .i64 au)∧w'.cell? ⟨w.heap.size+1,7,none⟩=some (.int .i64 own)∧w'.cell? ⟨w.heap.size+1,8,none⟩=some (.int .i64 peer)) from fun w' hb=>⟨(hb.cell (p:=⟨w.heap.size,_,none⟩) lc).trans c0,(hb.cell (p:=⟨w.heap.size,_,none⟩) lc).trans c1,(hb.cell (p:=⟨w.heap.size,_,none⟩) lc).trans c2,(hb.cell (p:=⟨w.heap.size,_,none⟩) lc).trans c3,(hb.cell (p:=⟨w.heap.size,_,none⟩) lc).trans c4,(hb.cell (p:=⟨w.heap.size,_,none⟩) lc).trans c5,(hb.cell (p:=⟨w.heap.size,_,none⟩) lc).trans c6,(hb.cell (p:=⟨w.heap.size+1,_,none⟩) ln).trans n0,(hb.cell (p:=⟨w.heap.size+1,_,none⟩) ln).trans n1,(hb.cell (p:=⟨w.heap.size+1,_,none⟩) ln).trans n2,(hb.cell (p:=⟨w.heap.size+1,_,none⟩) ln).trans n3,(hb.cell (p:=⟨w.heap.size+1,_,none⟩) ln).trans n4,(hb.cell (p:=⟨w.heap.size+1,_,none⟩) ln).trans n5,(hb.cell (p:=⟨w.heap.size+1,_,none⟩) ln).trans n6,(hb.cell (p:=⟨w.heap.size+1,_,none⟩) ln).trans n7,(hb.cell (p:=⟨w.heap.size+1,_,none⟩) ln).trans n8⟩)
   go_region_held3 (fun w'=>w'.cell? ⟨w.heap.size,0,none⟩=some (.int .i64 mr)∧w'.cell? ⟨w.heap.size,1,none⟩=some (.int .i64 mc)∧w'.cell? ⟨w.heap.size,2,none⟩=some (.int .i64 mt)∧w'.cell? ⟨w.heap.size,3,none⟩=some (.int .i64 mf)∧w'.cell? ⟨w.heap.size,4,none⟩=some (.int .i64 wt)∧w'.cell? ⟨w.heap.size,5,none⟩=some (.int .i64 ec)∧w'.cell? ⟨w.heap.size,6,none⟩=some (.int .i64 lo)∧w'.cell? ⟨w.heap.size+1,0,none⟩=some (.int .i64 st)∧w'.cell? ⟨w.heap.size+1,1,none⟩=some (.int .i64 id)∧w'.cell? ⟨w.heap.size+1,2,none⟩=some (.int .i64 req)∧w'.cell? ⟨w.heap.size+1,3,none⟩=some (.slice Aa na ca)∧w'.cell? ⟨w.heap.size+1,4,none⟩=some (.int .i64 cnt)∧w'.cell? ⟨w.heap.size+1,5,none⟩=some (.int .i64 ay)∧w'.cell? ⟨w.heap.size+1,6,none⟩=some (.int .i64 au)∧w'.cell? ⟨w.heap.size+1,7,none⟩=some (.int .i64 own)∧w'.cell? ⟨w.heap.size+1,8,none⟩=some (.int .i64 peer)) (exact zq.out _ (by exact aA)) (first|(go_at_call 42;go_must (refine(kr mr mc mt mf wt ec lo peer HP.out _).mono ?_);rintro e w8 ⟨A8,rfl,nO,su⟩;obtain⟨yZ,d8,rfl⟩:=aB nO;have xU:=hid su;clear nO su)|(go_at_call 17;go_must (refine(yS A8 Aa 1 1 na ca [dX peer] mc mt mf wt st id req cnt ay au tick E _ _ (aaE _) (by exact(xU.out.keep (by exact aA)).more (by simp[size_ext,grow])) rfl (by omega) (by exact(HE.out.keep (aQ.out.mono HB.out|>.trans (by have:=HB.out;exact aA))).more (by have:=HB.out;simp[size_ext,grow];omega)) dz.out).mono ?_);rw[HL.out,HV.out];unfold zT vV;(try dsimp only);rintro e w6 ⟨vo,vd,rfl,hb6,hP,hA⟩;have wN:=hid hP;have DK:=hid hA;obtain⟨Xq,d6,rfl⟩:=aB hb6;clear hb6 hP hA))
   all_goals
    go_wp2_with fail
    obtain⟨Ao,co,rfl⟩:=kL wN.out
    obtain⟨Ad,cd,rfl⟩:=lJ DK.out
    go_meet
    refine⟨_,Aa,Ao,Ad,na,ca,_,co,_,cd,_,rfl,rfl,rfl,rfl,?_,by exact aA,?_,?_,?_⟩
    ·repeat(first|(with_reducible refine aF _ _ _ ?_;((first|(simp[size_ext,grow];done)|(simp[size_ext,grow];omega))))|(with_reducible refine(aO _ _ _ _ ?_).trans ?_;(focus ((first|(simp[size_ext,grow];done)|(simp[size_ext,grow];omega)))))|(with_reducible refine(aC _ _ _ ?_).trans ?_;(focus ((first|(simp[size_ext,grow];done)|(simp[size_ext,grow];omega))))))
    ·have h5:=wN.out
     first|exact⟨_,fG.below h5 (Below.alloc (Below.refl _ _) (aaE _) _)⟩|(apply Exists.intro;refine fG.swap (X:=?_) h5 ?_ ?_;rotate_left;(repeat(first|with_reducible exact dS _ _ _|with_reducible refine bJ ?_ (by simp[size_ext,grow])|with_reducible refine dL ?_ (by simp[size_ext,grow])));all_goals(repeat(first|(with_reducible refine aF _ _ _ ?_;((first|(simp[size_ext,grow];done)|(simp[size_ext,grow];omega))))|(with_reducible refine(aO _ _ _ _ ?_).trans ?_;(focus ((first|(simp[size_ext,grow];done)|(simp[size_ext,grow];omega)))))|(with_reducible refine(aC _ _ _ ?_).trans ?_;(focus ((first|(simp[size_ext,grow];done)|(simp[size_ext,grow];omega))))))))
    ·have h5:=DK.out
     first|exact⟨_,aU.zX h5 (Below.alloc (Below.refl _ _) (aaE _) _)⟩|(apply Exists.intro;refine aU.swap (X:=?_) h5 ?_ ?_;rotate_left;(repeat(first|with_reducible exact dS _ _ _|with_reducible refine bJ ?_ (by simp[size_ext,grow])|with_reducible refine dL ?_ (by simp[size_ext,grow])));all_goals(repeat(first|(with_reducible refine aF _ _ _ ?_;((first|(simp[size_ext,grow];done)|(simp[size_ext,grow];omega))))|(with_reducible refine(aO _ _ _ _ ?_).trans ?_;(focus ((first|(simp[size_ext,grow];done)|(simp[size_ext,grow];omega)))))|(with_reducible refine(aC _ _ _ ?_).trans ?_;(focus ((first|(simp[size_ext,grow];done)|(simp[size_ext,grow];omega))))))))
    ·exact .inr ⟨rfl,BP.out⟩
  case rest=>
   obtain⟨P,A4,Ao,Ad,nx,cx,no,co,nd,cd,W3,rfl,rfl,rfl,rfl,hrow,hb,hP,hA,hO⟩:=hcut
   have fD:=hid hP
   have BO:=hid hA
   have gZ:=hid hO
   have Ev:=hid hrow
   obtain⟨t0,t1,t2,t3,t4,t5,t6⟩:=aG hrow
   have lP:=aj hrow
   clear hP hA hO hrow
   have hc:=(hb.block _ lc).trans HC.out
   have hn:=(hb.block _ ln).trans HN.out
   have hz:=(hb.block _ lz).trans HZ.out
   replace hb:=aQ.out.trans (hb.mono hsw)
   clear c0 c1 c2 c3 c4 c5 c6 n0 n1 n2 n3 n4 n5 n6 n7 n8 z0 z1 z2 z3 z4 z5 z6 z7 z8 fz lc ln lz HC HN HZ aQ hsw
   have HC:=hid hc
   have HN:=hid hn
   have HZ:=hid hz
   have aQ:=hid hb
   have hsw:=hb.size
   have lc:=aj hc
   have ln:=aj hn
   have lz:=aj hz
   obtain⟨c0,c1,c2,c3,c4,c5,c6⟩:=aG hc
   obtain⟨n0,n1,n2,n3,n4,n5,n6,n7,n8⟩:=aL hn
   obtain⟨z0,z1,z2,z3,z4,z5,z6,z7,z8⟩:=aL hz
   have fz:=frees hz
   clear hc hn hz hb
   have ji:=HN.out
   have fn:=frees ji
   clear ji
   go_upto_region 5 with(fail)
   generalize hWs:World.setCell _ _ _=W4
   have hst:sJ W3 (w.heap.size+1) a1 (.slice A4 nx cx)=W4:=hWs
   have hg4:=iU W3 (w.heap.size+1) a1 (.slice A4 nx cx)
   have hr4:=ku HN.out a1 (.slice A4 nx cx)
   rw[hst] at hg4 hr4
   have BF:=hid hg4
   clear hst hWs
   have pU:=(hg4.block (w.heap.size+1+1) lz (by simp)).trans HZ.out
   clear c0 c1 c2 c3 c4 c5 c6 n0 n1 n2 n3 n4 n5 n6 n7 n8 z0 z1 z2 z3 z4 z5 z6 z7 z8 fz lc ln lz t0 t1 t2 t3 t4 t5 t6 lP fn
   have lz:=aj pU
   have ln:=aj hr4
   obtain⟨n0,n1,n2,n3,n4,n5,n6,n7,n8⟩:=aL hr4
   obtain⟨z0,z1,z2,z3,z4,z5,z6,z7,z8⟩:=aL pU
   have fz:=frees pU
   have xV:=hid pU
   clear hg4 hr4 pU
   go_wp2_with fail
   generalize hWf:World.setCell _ _ _=Wf
   have hst:oV W4 (w.heap.size+1+1) a1 (.slice A4 nx cx) own peer=Wf:=hWf
   have hg:=gJ W4 (w.heap.size+1+1) a1 (.slice A4 nx cx) own peer
   have hr:=iV xV.out a1 (.slice A4 nx cx) own peer
   rw[hst] at hg hr
   clear n0 n1 n2 n3 n4 n5 n6 n7 n8 z0 z1 z2 z3 z4 z5 z6 z7 z8 fz
   obtain⟨u0,u1,u2,u3,u4,u5,u6,u7,u8⟩:=aL hr
   refine bodyPost_ret (v:=.tuple #[iH a1 (.slice A4 nx cx) own peer,.slice Ao no co,.slice Ad nd cd]) (by unfold iH;simp[results,Tryz.results75,go_sem,u0,u1,u2,u3,u4,u5,u6,u7,u8]) rfl ?_
   rw[HR1.out]
   exact j3.fin (a0:=⟨st,id,req,L,cnt,ay,au⟩) HB.out aQ.out HN.out (by omega) HZ.out (by omega) (by omega) fD.out BO.out gZ.out HE.out dz.out hca HL.out BF.out hg
end Go.Proofs.YtfkgmbknfnhjoaaGreat
