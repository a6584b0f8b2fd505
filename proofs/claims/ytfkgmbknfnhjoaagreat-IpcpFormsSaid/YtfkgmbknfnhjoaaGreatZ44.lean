/- IpcpForms: its walk. -/
import Derived.Test.YtfkgmbknfnhjoaaGreatZ43
import Derived.Test.YtfkgmbknfnhjoaaGreatZ22
import Derived.Test.YtfkgmbknfnhjoaaGreatZ25
import Derived.Test.YtfkgmbknfnhjoaaGreatZ10
set_option maxHeartbeats 16000000
namespace Go.Proofs.YtfkgmbknfnhjoaaGreat
open Lib (hid)
open Go.RowKit
set_option linter.unusedSimpArgs false
set_option linter.unusedVariables false
set_option linter.ambiguousOpen false
open Ne (Rl Opt RulesAt areB wf64)
open Fs (av hasB)
theorem next9_any (st id req cnt tim nak own peer:Int) (v:Value) (w:World):Calls Tryz.prog 33 #[.agg #[.int .i64 st,.int .i64 id,.int .i64 req,v,.int .i64 cnt,.int .i64 tim,.int .i64 nak,.int .i64 own,.int .i64 peer]] w fun x w'=>x=.returned (.int .i64 tim)∧Below w.heap.size w w':=by
 go_enter Tryz.func33,Tryz.ntmps33
 go_wp2_with fail
 go_ret
 exact⟨rfl,by exact bel⟩
def nA (own peer:Int):Au×Int×Int×Int:=if inB own 1 4294967295=true∧inB peer 1 4294967295=true then(newI own,own,peer,0) else(⟨0,0,0,[],0,0,0⟩,0,0,180)
def NewV (own peer:Int) (w:World) (x:Ending) (w':World):Prop:=
 ∃va,x=.returned (.tuple #[npV (nA own peer).1 va (nA own peer).2.1 (nA own peer).2.2.1,.int .i64 (nA own peer).2.2.2])∧Below w.heap.size w w'∧OptsV w' w'.heap.size va (nA own peer).1.ask
theorem OptsO.opV {w:World} {b:Nat} {v:Value} {L:List Opt} (h:OptsO w b v L):OptsV w w.heap.size v L:=by
 obtain⟨A,n,c,rfl⟩:=h.form'
 obtain⟨E,h1,h2,h3,h4⟩:=h.opened
 exact⟨A,n,c,E,rfl,h1,h2,h3,h4⟩
theorem NewV.no {own peer:Int} {w w':World} {x:Ending} (h: ¬(inB own 1 4294967295=true∧inB peer 1 4294967295=true)) (hx:NoP w x w'):NewV own peer w x w':=by
 obtain⟨rfl,hb⟩:=hx
 unfold NewV nA
 rw[if_neg h]
 exact⟨.slice none 0 0,rfl,hb,none,0,0,[],rfl,⟨At.nil _ _ _,fun _ h=>by cases h⟩,rfl,Nat.le_refl _,rfl⟩
theorem inew_any (own peer:Int) (w:World):Calls Tryz.prog 35 #[.int .i64 own,.int .i64 peer] w (NewV own peer w):=by
 by_cases h:inB own 1 4294967295=true∧inB peer 1 4294967295=true
 ·refine(inew_yes own peer w h.1 h.2).mono ?_
  rintro x w' ⟨va,rfl,hb,ho⟩
  unfold NewV nA
  rw[if_pos h]
  exact⟨va,rfl,hb,ho.opV⟩
 ·exact(inew_no own peer w h).mono fun x w' hx=>NewV.no h hx
theorem rinew_any (own peer:Int) (w:World):Calls Tryz.prog 38 #[.int .i64 own,.int .i64 peer] w (NewV own peer w):=by
 by_cases h:inB own 1 4294967295=true∧inB peer 1 4294967295=true
 ·refine(rinew_yes own peer w h.1 h.2).mono ?_
  rintro x w' ⟨va,rfl,hb,ho⟩
  unfold NewV nA
  rw[if_pos h]
  exact⟨va,rfl,hb,ho⟩
 ·exact(rinew_no own peer w h).mono fun x w' hx=>NewV.no h hx
theorem nA_ask (own peer:Int):(nA own peer).1.ask.length≤1:=by
 unfold nA
 split<;>simp[newI,askI]
set_option maxRecDepth 100000 in
theorem ipcpForms_walk (mr mc mt mf wt ec lo st id req cnt tim nak nown npeer own peer:Int) (Aa:Option Addr) (na ca:Nat) (E:List Ent) (w:World) (hE:OptsAt w w.heap.size Aa E) (hna:na=E.length) (hla:(na:Int)≤9223372036854775807) (hda: ∀e∈E,(e.d.length:Int)≤9223372036854775807) (hp1:wf64 npeer) (hp2:wf64 peer):
  Calls Tryz.prog 9 #[.agg #[.int .i64 mr,.int .i64 mc,.int .i64 mt,.int .i64 mf,.int .i64 wt,.int .i64 ec,.int .i64 lo],.agg #[.int .i64 st,.int .i64 id,.int .i64 req,.slice Aa na ca,.int .i64 cnt,.int .i64 tim,.int .i64 nak,.int .i64 nown,.int .i64 npeer],.int .i64 own,.int .i64 peer] w fun x w'=>x=.returned (.bool true)∧Below w.heap.size w w':=by
 have HE:=hid hE
 have HNA:=hid hna
 have HDA:=hid hda
 have HP1:=hid hp1
 have HP2:=hid hp2
 clear hE hna hda hp1 hp2
 go_enter Tryz.func9,Tryz.ntmps9
 go_upto_region 1 with(fail)
 refine wp_w (fun W=>W.heap[w.heap.size]? =some (.cells #[.int .i64 mr,.int .i64 mc,.int .i64 mt,.int .i64 mf,.int .i64 wt,.int .i64 ec,.int .i64 lo] 64 (0,0))∧W.heap[w.heap.size+1]? =some (.cells #[.int .i64 st,.int .i64 id,.int .i64 req,.slice Aa na ca,.int .i64 cnt,.int .i64 tim,.int .i64 nak,.int .i64 nown,.int .i64 npeer] 60 (0,0))∧Below w.heap.size w W) ⟨by exact hpa,by exact hpa,by exact bel⟩ ?_
 rintro W1 ⟨hc,hn,hb⟩
 have HC1:=hid hc
 have HN1:=hid hn
 have HB1:=hid hb
 have hs1:=hb.size
 have ln1:=lt_blk hn
 obtain⟨n0,n1,n2',n3,n4,n5',n6',n7,n8⟩:=cells9 hn
 clear hc hn hb
 go_wp2_with fail
 refine(light18_any Aa none na ca 0 0 st id req cnt tim nak nown npeer 0 0 E W1 w.heap.size hs1 (HE.out.keep HB1.out) HNA.out hla HDA.out (Nat.le_refl _) (by omega)).mono ?_
 rw[show min 0 1500=0 from rfl]
 unfold Light18P
 rintro x W2 ⟨A2,n2,c2,rfl,hb,hown,hn2⟩
 have HC2:=hid ((hb.block _ (by omega)).trans HC1.out)
 have HN2:=hid ((hb.block _ ln1).trans HN1.out)
 have HB2:=hid (HB1.out.trans (hb.mono hs1))
 have HW2:=hid hown
 have HNF:=hid hn2
 have hs2:=HB2.out.size
 clear hb hown hn2 n0 n1 n2' n3 n4 n5' n6' n7 n8
 have hn9:=HN2.out
 obtain⟨n0,n1,n2',n3,n4,n5',n6',n7,n8⟩:=cells9 hn9
 have fn:=frees hn9
 have ln2:=lt_blk hn9
 clear hn9
 go_upto_region 3 with(fail)
 generalize hWs:World.setCell _ _ _=W3
 have hst:set9i W2 (w.heap.size+1) ⟨st,id,req,[],cnt,tim,nak⟩ (.slice A2 n2 c2) nown npeer=W3:=hWs
 have hg:=set9i_grown W2 (w.heap.size+1) ⟨st,id,req,[],cnt,tim,nak⟩ (.slice A2 n2 c2) nown npeer
 have hr:=set9i_row HN2.out rfl ⟨st,id,req,[],cnt,tim,nak⟩ (.slice A2 n2 c2) nown npeer
 rw[hst] at hg hr
 clear hst hWs n0 n1 n2' n3 n4 n5' n6' n7 n8 fn
 have HC3:=hid ((hg.block _ (by omega) (fun e=>by have:=Option.some.inj e;omega)).trans HC2.out)
 have HN3:=hid (show W3.heap[w.heap.size+1]? =some (.cells #[.int .i64 st,.int .i64 id,.int .i64 req,.slice A2 n2 c2,.int .i64 cnt,.int .i64 tim,.int .i64 nak,.int .i64 nown,.int .i64 npeer] 60 (0,0)) from hr)
 have HB3:=hid (Below.grown HB2.out hg hs2 (fun k hk=>by have:=Option.some.inj hk;omega))
 have hs3:=HB3.out.size
 have ho3:=own_keep HW2.out (fun k hk=>hg.block k (own_lt HW2.out hk) (fun e=>by have h1:=Option.some.inj e;have:=own_le HW2.out hk;omega))
 have HE3:=hid (lit_at9 HE.out (Nat.le_refl _) HB3.out ho3)
 have hn70:n2≤70:=by have:=lit_len9 E;have:=HNF.out;omega
 clear hg hr ho3 HW2 HC2 HN2 HB2 hs2 ln2
 generalize litE E=F at HE3 HNF
 obtain⟨L,hL⟩: ∃L,F.map Ent.o=L:=⟨_,rfl⟩
 have HL:=hid hL
 clear hL
 have lc3:=lt_blk HC3.out
 have ln3:=lt_blk HN3.out
 obtain⟨c0,c1,c2',c3,c4,c5',c6'⟩:=cells7 HC3.out
 obtain⟨n0,n1,nn2,n3,n4,n5',n6',n7,n8⟩:=cells9 HN3.out
 obtain⟨ok,hok⟩: ∃b,okI mc mt mf wt ⟨st,id,req,L,cnt,tim,nak⟩ nown npeer=b:=⟨_,rfl⟩
 have HOK:=hid hok
 clear hok
 go_wp2_with fail
 refine(ris_any mr mc mt mf wt ec lo st id req cnt tim nak nown npeer A2 n2 c2 F L HL.out W3 W3.heap.size (Nat.le_refl _) HE3.out HNF.out HP1.out).mono ?_
 rw[HOK.out]
 rintro x W4 ⟨rfl,hb⟩
 have HC4:=hid ((hb.block _ lc3).trans HC3.out)
 have HN4:=hid ((hb.block _ ln3).trans HN3.out)
 have HB4:=hid (HB3.out.trans (hb.mono hs3))
 have HE4:=hid ((HE3.out.keep hb).more hb.size)
 have hs4:=HB4.out.size
 clear hb HC3 HN3 HB3 HE3 hs3 lc3 ln3 c0 c1 c2' c3 c4 c5' c6' n0 n1 nn2 n3 n4 n5' n6' n7 n8
 go_upto_if 22 with(fail)
 go_cut [9] (fun s9 wx=>s9=.int .i64 (checkI mc mt mf wt ⟨st,id,req,L,cnt,tim,nak⟩ nown npeer)∧W4=wx)
 case first=>
  cases ok
  all_goals
   go_wp2_with fail
   go_meet
   exact⟨by unfold checkI;rw[HOK.out];rfl,rfl⟩
 case rest=>
  obtain⟨rfl,rfl⟩:=hcut
  obtain⟨⟨a,o2,q2,e2⟩,hna⟩: ∃r,nA own peer=r:=⟨_,rfl⟩
  have HNA9:=hid hna
  have hal:a.ask.length≤1:=by have h:=nA_ask own peer;rw[hna] at h;exact h
  clear hna
  go_wp2_with fail
  refine(inew_any own peer W4).mono ?_
  unfold NewV npV
  rw[HNA9.out]
  dsimp only
  rintro x W5 ⟨va,rfl,hb,A5,n5,c5,E5,rfl,p5,q5,r5,e5⟩
  have HC5:=hid ((hb.block _ (lt_blk HC4.out)).trans HC4.out)
  have HN5:=hid ((hb.block _ (lt_blk HN4.out)).trans HN4.out)
  have HB5:=hid (HB4.out.trans (hb.mono hs4))
  have HE5:=hid ((HE4.out.keep hb).more hb.size)
  have HP5:=hid p5
  have HNX:=hid q5
  have HLX:=hid e5
  have hnx:n5≤1000000:=by have h:=congrArg List.length e5;rw[List.length_map] at h;omega
  have hs5:=HB5.out.size
  clear hb p5 q5 r5 e5 HC4 HN4 HB4 HE4 hs4
  go_upto_region 6 with(fail)
  obtain⟨X,hX⟩: ∃X,X=W5.heap.size:=⟨_,rfl⟩
  rw[←hX]
  refine wp_w (fun W=>W.heap[X]? =some (.cells #[.int .i64 a.st,.int .i64 a.id,.int .i64 a.req,.slice A5 n5 c5,.int .i64 a.cnt,.int .i64 a.tim,.int .i64 a.nak,.int .i64 o2,.int .i64 q2] 60 (0,0))∧Below W5.heap.size W5 W) ⟨by rw[hX];exact heap_alloc_new _ _,(Below.refl _ _).alloc (Nat.le_refl _) _⟩ ?_
  clear hX
  rintro W6 ⟨hx,hb⟩
  have HX6:=hid hx
  have HC6:=hid ((hb.block _ (lt_blk HC5.out)).trans HC5.out)
  have HN6:=hid ((hb.block _ (lt_blk HN5.out)).trans HN5.out)
  have HB6:=hid (HB5.out.trans (hb.mono hs5))
  have HE6:=hid ((HE5.out.keep hb).more hb.size)
  have HP6:=hid ((HP5.out.keep hb).more hb.size)
  have hs6:=HB6.out.size
  clear hx hb HC5 HN5 HB5 HE5 HP5 hs5
  go_wp2_with fail
  refine(rinew_any own peer W6).mono ?_
  unfold NewV npV
  rw[HNA9.out]
  dsimp only
  rintro x W7 ⟨va,rfl,hb,A6,n6,c6,E6,rfl,p6,q6,r6,e6⟩
  have HX7:=hid ((hb.block _ (lt_blk HX6.out)).trans HX6.out)
  have HC7:=hid ((hb.block _ (lt_blk HC6.out)).trans HC6.out)
  have HN7:=hid ((hb.block _ (lt_blk HN6.out)).trans HN6.out)
  have HB7:=hid (HB6.out.trans (hb.mono hs6))
  have HE7:=hid ((HE6.out.keep hb).more hb.size)
  have HP7:=hid ((HP6.out.keep hb).more hb.size)
  have HQ7:=hid p6
  have HNY:=hid q6
  have HLY:=hid e6
  have hny:n6≤1000000:=by have h:=congrArg List.length e6;rw[List.length_map] at h;omega
  have hs7:=HB7.out.size
  clear hb p6 q6 r6 e6 HX6 HC6 HN6 HB6 HE6 HP6 hs6
  go_upto_region 7 with(fail)
  obtain⟨Y,hY⟩: ∃Y,Y=W7.heap.size:=⟨_,rfl⟩
  rw[←hY]
  refine wp_w (fun W=>W.heap[Y]? =some (.cells #[.int .i64 a.st,.int .i64 a.id,.int .i64 a.req,.slice A6 n6 c6,.int .i64 a.cnt,.int .i64 a.tim,.int .i64 a.nak,.int .i64 o2,.int .i64 q2] 60 (0,0))∧Below W7.heap.size W7 W) ⟨by rw[hY];exact heap_alloc_new _ _,(Below.refl _ _).alloc (Nat.le_refl _) _⟩ ?_
  clear hY
  rintro W8 ⟨hy,hb⟩
  have HY:=hid hy
  have HX:=hid ((hb.block _ (lt_blk HX7.out)).trans HX7.out)
  have HC:=hid ((hb.block _ (lt_blk HC7.out)).trans HC7.out)
  have HN:=hid ((hb.block _ (lt_blk HN7.out)).trans HN7.out)
  have HB8:=hid (HB7.out.trans (hb.mono hs7))
  have HEN:=hid ((HE7.out.keep hb).more hb.size)
  have HEX:=hid ((HP7.out.keep hb).more hb.size)
  have HEY:=hid ((HQ7.out.keep hb).more hb.size)
  have HNN:=hid HNF.out
  have hnn:n2≤1000000:=by omega
  have hs8:=HB8.out.size
  have HSS:=hid (sameI_self a o2 q2)
  have HSN:=hid (sameI_self ⟨st,id,req,L,cnt,tim,nak⟩ nown npeer)
  clear hy hb HX7 HC7 HN7 HB7 HE7 HP7 HQ7 hs7 HNF
  go_cut [60] (fun s wx=> ∃W,W=wx∧s=.bool false∧Below W8.heap.size W8 W)
  case first=>
   obtain⟨c0,c1,c2',c3,c4,c5',c6'⟩:=cells7 (show W8.heap[w.heap.size]? =some (.cells #[.int .i64 mr,.int .i64 mc,.int .i64 mt,.int .i64 mf,.int .i64 wt,.int .i64 ec,.int .i64 lo] 64 (0,0)) from HC.out)
   obtain⟨n0,n1,nn2,n3,n4,n5',n6',n7,n8⟩:=cells9 (show W8.heap[w.heap.size+1]? =some (.cells #[.int .i64 st,.int .i64 id,.int .i64 req,.slice A2 n2 c2,.int .i64 cnt,.int .i64 tim,.int .i64 nak,.int .i64 nown,.int .i64 npeer] 60 (0,0)) from HN.out)
   obtain⟨x0,x1,x2,x3,x4,x5,x6,x7,x8⟩:=cells9 (show W8.heap[X]? =some (.cells #[.int .i64 a.st,.int .i64 a.id,.int .i64 a.req,.slice A5 n5 c5,.int .i64 a.cnt,.int .i64 a.tim,.int .i64 a.nak,.int .i64 o2,.int .i64 q2] 60 (0,0)) from HX.out)
   obtain⟨y0,y1,y2,y3,y4,y5,y6,y7,y8⟩:=cells9 (show W8.heap[Y]? =some (.cells #[.int .i64 a.st,.int .i64 a.id,.int .i64 a.req,.slice A6 n6 c6,.int .i64 a.cnt,.int .i64 a.tim,.int .i64 a.nak,.int .i64 o2,.int .i64 q2] 60 (0,0)) from HY.out)
   have lc:=lt_blk HC.out
   have ln:=lt_blk HN.out
   have lx:=lt_blk HX.out
   have ly:=lt_blk HY.out
   have HSR:=hid (show∀w':World,Below W8.heap.size W8 w'→(w'.cell? ⟨w.heap.size,0,none⟩=some (.int .i64 mr)∧w'.cell? ⟨w.heap.size,1,none⟩=some (.int .i64 mc)∧w'.cell? ⟨w.heap.size,2,none⟩=some (.int .i64 mt)∧w'.cell? ⟨w.heap.size,3,none⟩=some (.int .i64 mf)∧w'.cell? ⟨w.heap.size,4,none⟩=some (.int .i64 wt)∧w'.cell? ⟨w.heap.size,5,none⟩=some (.int .i64 ec)∧w'.cell? ⟨w.heap.size,6,none⟩=some (.int .i64 lo)∧w'.cell? ⟨w.heap.size+1,0,none⟩=some (.int .i64 st)∧w'.cell? ⟨w.heap.size+1,1,none⟩=some (.int .i64 id)∧w'.cell? ⟨w.heap.size+1,2,none⟩=some (.int .i64 req)∧w'.cell? ⟨w.heap.size+1,3,none⟩=some (.slice A2 n2 c2)∧w'.cell? ⟨w.heap.size+1,4,none⟩=some (.int .i64 cnt)∧w'.cell? ⟨w.heap.size+1,5,none⟩=some (.int .i64 tim)∧w'.cell? ⟨w.heap.size+1,6,none⟩=some (.int .i64 nak)∧w'.cell? ⟨w.heap.size+1,7,none⟩=some (.int .i64 nown)∧w'.cell? ⟨w.heap.size+1,8,none⟩=some (.int .i64 npeer)∧w'.cell? ⟨X,0,none⟩=some (.int .i64 a.st)∧w'.cell? ⟨X,1,none⟩=some (.int .i64 a.id)∧w'.cell? ⟨X,2,none⟩=some (.int .i64 a.req)∧w'.cell? ⟨X,3,none⟩=some (.slice A5 n5 c5)∧w'.cell? ⟨X,4,none⟩=some (.int .i64 a.cnt)∧w'.cell? ⟨X,5,none⟩=some (.int .i64 a.tim)∧w'.cell? ⟨X,6,none⟩=some (.int .i64 a.nak)∧w'.cell? ⟨X,7,none⟩=some (.int .i64 o2)∧w'.cell? ⟨X,8,none⟩=some (.int .i64 q2)∧w'.cell? ⟨Y,0,none⟩=some (.int .i64 a.st)∧w'.cell? ⟨Y,1,none⟩=some (.int .i64 a.id)∧w'.cell? ⟨Y,2,none⟩=some (.int .i64 a.req)∧w'.cell? ⟨Y,3,none⟩=some (.slice A6 n6 c6)∧w'.cell? ⟨Y,4,none⟩=some (.int .i64 a.cnt)∧w'.cell? ⟨Y,5,none⟩=some (.int .i64 a.tim)∧w'.cell? ⟨Y,6,none⟩=some (.int .i64 a.nak)∧w'.cell? ⟨Y,7,none⟩=some (.int .i64 o2)∧w'.cell? ⟨Y,8,none⟩=some (.int .i64 q2)) from fun w' hb=>⟨(hb.cell (p:=⟨w.heap.size,_,none⟩) lc).trans c0,(hb.cell (p:=⟨w.heap.size,_,none⟩) lc).trans c1,(hb.cell (p:=⟨w.heap.size,_,none⟩) lc).trans c2',(hb.cell (p:=⟨w.heap.size,_,none⟩) lc).trans c3,(hb.cell (p:=⟨w.heap.size,_,none⟩) lc).trans c4,(hb.cell (p:=⟨w.heap.size,_,none⟩) lc).trans c5',(hb.cell (p:=⟨w.heap.size,_,none⟩) lc).trans c6',(hb.cell (p:=⟨w.heap.size+1,_,none⟩) ln).trans n0,(hb.cell (p:=⟨w.heap.size+1,_,none⟩) ln).trans n1,(hb.cell (p:=⟨w.heap.size+1,_,none⟩) ln).trans nn2,(hb.cell (p:=⟨w.heap.size+1,_,none⟩) ln).trans n3,(hb.cell (p:=⟨w.heap.size+1,_,none⟩) ln).trans n4,(hb.cell (p:=⟨w.heap.size+1,_,none⟩) ln).trans n5',(hb.cell (p:=⟨w.heap.size+1,_,none⟩) ln).trans n6',(hb.cell (p:=⟨w.heap.size+1,_,none⟩) ln).trans n7,(hb.cell (p:=⟨w.heap.size+1,_,none⟩) ln).trans n8,(hb.cell (p:=⟨X,_,none⟩) lx).trans x0,(hb.cell (p:=⟨X,_,none⟩) lx).trans x1,(hb.cell (p:=⟨X,_,none⟩) lx).trans x2,(hb.cell (p:=⟨X,_,none⟩) lx).trans x3,(hb.cell (p:=⟨X,_,none⟩) lx).trans x4,(hb.cell (p:=⟨X,_,none⟩) lx).trans x5,(hb.cell (p:=⟨X,_,none⟩) lx).trans x6,(hb.cell (p:=⟨X,_,none⟩) lx).trans x7,(hb.cell (p:=⟨X,_,none⟩) lx).trans x8,(hb.cell (p:=⟨Y,_,none⟩) ly).trans y0,(hb.cell (p:=⟨Y,_,none⟩) ly).trans y1,(hb.cell (p:=⟨Y,_,none⟩) ly).trans y2,(hb.cell (p:=⟨Y,_,none⟩) ly).trans y3,(hb.cell (p:=⟨Y,_,none⟩) ly).trans y4,(hb.cell (p:=⟨Y,_,none⟩) ly).trans y5,(hb.cell (p:=⟨Y,_,none⟩) ly).trans y6,(hb.cell (p:=⟨Y,_,none⟩) ly).trans y7,(hb.cell (p:=⟨Y,_,none⟩) ly).trans y8⟩)
   go_region_held3 (fun w'=>w'.cell? ⟨w.heap.size,0,none⟩=some (.int .i64 mr)∧w'.cell? ⟨w.heap.size,1,none⟩=some (.int .i64 mc)∧w'.cell? ⟨w.heap.size,2,none⟩=some (.int .i64 mt)∧w'.cell? ⟨w.heap.size,3,none⟩=some (.int .i64 mf)∧w'.cell? ⟨w.heap.size,4,none⟩=some (.int .i64 wt)∧w'.cell? ⟨w.heap.size,5,none⟩=some (.int .i64 ec)∧w'.cell? ⟨w.heap.size,6,none⟩=some (.int .i64 lo)∧w'.cell? ⟨w.heap.size+1,0,none⟩=some (.int .i64 st)∧w'.cell? ⟨w.heap.size+1,1,none⟩=some (.int .i64 id)∧w'.cell? ⟨w.heap.size+1,2,none⟩=some (.int .i64 req)∧w'.cell? ⟨w.heap.size+1,3,none⟩=some (.slice A2 n2 c2)∧w'.cell? ⟨w.heap.size+1,4,none⟩=some (.int .i64 cnt)∧w'.cell? ⟨w.heap.size+1,5,none⟩=some (.int .i64 tim)∧w'.cell? ⟨w.heap.size+1,6,none⟩=some (.int .i64 nak)∧w'.cell? ⟨w.heap.size+1,7,none⟩=some (.int .i64 nown)∧w'.cell? ⟨w.heap.size+1,8,none⟩=some (.int .i64 npeer)∧w'.cell? ⟨X,0,none⟩=some (.int .i64 a.st)∧w'.cell? ⟨X,1,none⟩=some (.int .i64 a.id)∧w'.cell? ⟨X,2,none⟩=some (.int .i64 a.req)∧w'.cell? ⟨X,3,none⟩=some (.slice A5 n5 c5)∧w'.cell? ⟨X,4,none⟩=some (.int .i64 a.cnt)∧w'.cell? ⟨X,5,none⟩=some (.int .i64 a.tim)∧w'.cell? ⟨X,6,none⟩=some (.int .i64 a.nak)∧w'.cell? ⟨X,7,none⟩=some (.int .i64 o2)∧w'.cell? ⟨X,8,none⟩=some (.int .i64 q2)∧w'.cell? ⟨Y,0,none⟩=some (.int .i64 a.st)∧w'.cell? ⟨Y,1,none⟩=some (.int .i64 a.id)∧w'.cell? ⟨Y,2,none⟩=some (.int .i64 a.req)∧w'.cell? ⟨Y,3,none⟩=some (.slice A6 n6 c6)∧w'.cell? ⟨Y,4,none⟩=some (.int .i64 a.cnt)∧w'.cell? ⟨Y,5,none⟩=some (.int .i64 a.tim)∧w'.cell? ⟨Y,6,none⟩=some (.int .i64 a.nak)∧w'.cell? ⟨Y,7,none⟩=some (.int .i64 o2)∧w'.cell? ⟨Y,8,none⟩=some (.int .i64 q2)) (exact HSR.out _ (by exact bel)) (first|((go_at_call 39;with_reducible (show Calls Tryz.prog 39 #[.agg #[.int .i64 a.st,.int .i64 a.id,.int .i64 a.req,.slice A5 n5 c5,.int .i64 a.cnt,.int .i64 a.tim,.int .i64 a.nak,.int .i64 o2,.int .i64 q2],.agg #[.int .i64 a.st,.int .i64 a.id,.int .i64 a.req,.slice A6 n6 c6,.int .i64 a.cnt,.int .i64 a.tim,.int .i64 a.nak,.int .i64 o2,.int .i64 q2]] _ _);go_must (refine(rsameI_any a.st a.id a.req a.cnt a.tim a.nak o2 q2 a.st a.id a.req a.cnt a.tim a.nak o2 q2 A5 A6 n5 n6 c5 c6 E5 E6 (a.ask) (a.ask) HLX.out HLY.out _ W8.heap.size (by first|exact Nat.le_refl _|(simp[size_ext,grow];done)|(simp[size_ext,grow];omega)) (by exact HEX.out.keep (by exact bel)) (by exact HEY.out.keep (by exact bel)) HNX.out HNY.out hnx).mono ?_);rw[HSS.out];rintro e w3 ⟨rfl,hb3⟩;obtain⟨xs3,d3,rfl⟩:=ext_of hb3;clear hb3))|((go_at_call 37;go_must (refine(icheck_any mr mc mt mf wt ec lo st id req cnt tim nak nown npeer A2 n2 c2 F L HL.out _ W8.heap.size (by first|exact Nat.le_refl _|(simp[size_ext,grow];done)|(simp[size_ext,grow];omega)) (by exact HEN.out.keep (by exact bel)) HNN.out HP1.out).mono ?_);rintro e w4 ⟨rfl,hb4⟩;obtain⟨xs4,d4,rfl⟩:=ext_of hb4;clear hb4))|((go_at_call 41;go_must (refine(iauto_any mr mc mt mf wt ec lo peer HP2.out _).mono ?_);rintro e w5 ⟨A8,rfl,hb5,hR8⟩;obtain⟨xs5,d5,rfl⟩:=ext_of hb5;have HR8:=hid hR8;clear hb5 hR8))|((go_at_call 42;go_must (refine(rauto_any mr mc mt mf wt ec lo peer HP2.out _).mono ?_);rintro e w6 ⟨A9,rfl,hb6,hR9⟩;obtain⟨xs6,d6,rfl⟩:=ext_of hb6;have HR9:=hid hR9;clear hb6 hR9))|((go_at_call 40;go_must (refine(sameConf_any A8 A9 mc mt mf wt peer _ _ (Nat.le_refl _) (by exact(HR8.out.keep (by exact bel)).more (by first|exact Nat.le_refl _|(simp[size_ext,grow];done)|(simp[size_ext,grow];omega))) (by exact(HR9.out.keep (by exact bel)).more (by first|exact Nat.le_refl _|(simp[size_ext,grow];done)|(simp[size_ext,grow];omega)))).mono ?_);rintro e w7 ⟨rfl,hb7⟩;obtain⟨xs7,d7,rfl⟩:=ext_of hb7;clear hb7)))
   all_goals
    go_wp2_with fail
    go_meet
    exact⟨_,rfl,rfl,by exact bel⟩
  case rest=>
   obtain⟨W9,rfl,rfl,hb⟩:=hcut
   replace HC:=hid ((hb.block _ (lt_blk HC.out)).trans HC.out)
   replace HN:=hid ((hb.block _ (lt_blk HN.out)).trans HN.out)
   replace HX:=hid ((hb.block _ (lt_blk HX.out)).trans HX.out)
   replace HY:=hid ((hb.block _ (lt_blk HY.out)).trans HY.out)
   have HB9:=hid (HB8.out.trans (hb.mono hs8))
   replace HEN:=hid ((HEN.out.keep hb).more hb.size)
   replace HEX:=hid ((HEX.out.keep hb).more hb.size)
   clear hb HEY HB8 hs8
   have hs9:=HB9.out.size
   obtain⟨b,hb⟩: ∃b,sameI ⟨st,id,req,L,cnt,tim,nak⟩ a nown npeer o2 q2=b:=⟨_,rfl⟩
   have HSX:=hid hb
   clear hb
   go_upto_region 9 with(fail)
   obtain⟨c0,c1,c2',c3,c4,c5',c6'⟩:=cells7 (show W9.heap[w.heap.size]? =some (.cells #[.int .i64 mr,.int .i64 mc,.int .i64 mt,.int .i64 mf,.int .i64 wt,.int .i64 ec,.int .i64 lo] 64 (0,0)) from HC.out)
   obtain⟨n0,n1,nn2,n3,n4,n5',n6',n7,n8⟩:=cells9 (show W9.heap[w.heap.size+1]? =some (.cells #[.int .i64 st,.int .i64 id,.int .i64 req,.slice A2 n2 c2,.int .i64 cnt,.int .i64 tim,.int .i64 nak,.int .i64 nown,.int .i64 npeer] 60 (0,0)) from HN.out)
   obtain⟨x0,x1,x2,x3,x4,x5,x6,x7,x8⟩:=cells9 (show W9.heap[X]? =some (.cells #[.int .i64 a.st,.int .i64 a.id,.int .i64 a.req,.slice A5 n5 c5,.int .i64 a.cnt,.int .i64 a.tim,.int .i64 a.nak,.int .i64 o2,.int .i64 q2] 60 (0,0)) from HX.out)
   obtain⟨y0,y1,y2,y3,y4,y5,y6,y7,y8⟩:=cells9 (show W9.heap[Y]? =some (.cells #[.int .i64 a.st,.int .i64 a.id,.int .i64 a.req,.slice A6 n6 c6,.int .i64 a.cnt,.int .i64 a.tim,.int .i64 a.nak,.int .i64 o2,.int .i64 q2] 60 (0,0)) from HY.out)
   have lc:=lt_blk HC.out
   have ln:=lt_blk HN.out
   have lx:=lt_blk HX.out
   have ly:=lt_blk HY.out
   have HSR:=hid (show∀w':World,Below W9.heap.size W9 w'→(w'.cell? ⟨w.heap.size,0,none⟩=some (.int .i64 mr)∧w'.cell? ⟨w.heap.size,1,none⟩=some (.int .i64 mc)∧w'.cell? ⟨w.heap.size,2,none⟩=some (.int .i64 mt)∧w'.cell? ⟨w.heap.size,3,none⟩=some (.int .i64 mf)∧w'.cell? ⟨w.heap.size,4,none⟩=some (.int .i64 wt)∧w'.cell? ⟨w.heap.size,5,none⟩=some (.int .i64 ec)∧w'.cell? ⟨w.heap.size,6,none⟩=some (.int .i64 lo)∧w'.cell? ⟨w.heap.size+1,0,none⟩=some (.int .i64 st)∧w'.cell? ⟨w.heap.size+1,1,none⟩=some (.int .i64 id)∧w'.cell? ⟨w.heap.size+1,2,none⟩=some (.int .i64 req)∧w'.cell? ⟨w.heap.size+1,3,none⟩=some (.slice A2 n2 c2)∧w'.cell? ⟨w.heap.size+1,4,none⟩=some (.int .i64 cnt)∧w'.cell? ⟨w.heap.size+1,5,none⟩=some (.int .i64 tim)∧w'.cell? ⟨w.heap.size+1,6,none⟩=some (.int .i64 nak)∧w'.cell? ⟨w.heap.size+1,7,none⟩=some (.int .i64 nown)∧w'.cell? ⟨w.heap.size+1,8,none⟩=some (.int .i64 npeer)∧w'.cell? ⟨X,0,none⟩=some (.int .i64 a.st)∧w'.cell? ⟨X,1,none⟩=some (.int .i64 a.id)∧w'.cell? ⟨X,2,none⟩=some (.int .i64 a.req)∧w'.cell? ⟨X,3,none⟩=some (.slice A5 n5 c5)∧w'.cell? ⟨X,4,none⟩=some (.int .i64 a.cnt)∧w'.cell? ⟨X,5,none⟩=some (.int .i64 a.tim)∧w'.cell? ⟨X,6,none⟩=some (.int .i64 a.nak)∧w'.cell? ⟨X,7,none⟩=some (.int .i64 o2)∧w'.cell? ⟨X,8,none⟩=some (.int .i64 q2)∧w'.cell? ⟨Y,0,none⟩=some (.int .i64 a.st)∧w'.cell? ⟨Y,1,none⟩=some (.int .i64 a.id)∧w'.cell? ⟨Y,2,none⟩=some (.int .i64 a.req)∧w'.cell? ⟨Y,3,none⟩=some (.slice A6 n6 c6)∧w'.cell? ⟨Y,4,none⟩=some (.int .i64 a.cnt)∧w'.cell? ⟨Y,5,none⟩=some (.int .i64 a.tim)∧w'.cell? ⟨Y,6,none⟩=some (.int .i64 a.nak)∧w'.cell? ⟨Y,7,none⟩=some (.int .i64 o2)∧w'.cell? ⟨Y,8,none⟩=some (.int .i64 q2)) from fun w' hb=>⟨(hb.cell (p:=⟨w.heap.size,_,none⟩) lc).trans c0,(hb.cell (p:=⟨w.heap.size,_,none⟩) lc).trans c1,(hb.cell (p:=⟨w.heap.size,_,none⟩) lc).trans c2',(hb.cell (p:=⟨w.heap.size,_,none⟩) lc).trans c3,(hb.cell (p:=⟨w.heap.size,_,none⟩) lc).trans c4,(hb.cell (p:=⟨w.heap.size,_,none⟩) lc).trans c5',(hb.cell (p:=⟨w.heap.size,_,none⟩) lc).trans c6',(hb.cell (p:=⟨w.heap.size+1,_,none⟩) ln).trans n0,(hb.cell (p:=⟨w.heap.size+1,_,none⟩) ln).trans n1,(hb.cell (p:=⟨w.heap.size+1,_,none⟩) ln).trans nn2,(hb.cell (p:=⟨w.heap.size+1,_,none⟩) ln).trans n3,(hb.cell (p:=⟨w.heap.size+1,_,none⟩) ln).trans n4,(hb.cell (p:=⟨w.heap.size+1,_,none⟩) ln).trans n5',(hb.cell (p:=⟨w.heap.size+1,_,none⟩) ln).trans n6',(hb.cell (p:=⟨w.heap.size+1,_,none⟩) ln).trans n7,(hb.cell (p:=⟨w.heap.size+1,_,none⟩) ln).trans n8,(hb.cell (p:=⟨X,_,none⟩) lx).trans x0,(hb.cell (p:=⟨X,_,none⟩) lx).trans x1,(hb.cell (p:=⟨X,_,none⟩) lx).trans x2,(hb.cell (p:=⟨X,_,none⟩) lx).trans x3,(hb.cell (p:=⟨X,_,none⟩) lx).trans x4,(hb.cell (p:=⟨X,_,none⟩) lx).trans x5,(hb.cell (p:=⟨X,_,none⟩) lx).trans x6,(hb.cell (p:=⟨X,_,none⟩) lx).trans x7,(hb.cell (p:=⟨X,_,none⟩) lx).trans x8,(hb.cell (p:=⟨Y,_,none⟩) ly).trans y0,(hb.cell (p:=⟨Y,_,none⟩) ly).trans y1,(hb.cell (p:=⟨Y,_,none⟩) ly).trans y2,(hb.cell (p:=⟨Y,_,none⟩) ly).trans y3,(hb.cell (p:=⟨Y,_,none⟩) ly).trans y4,(hb.cell (p:=⟨Y,_,none⟩) ly).trans y5,(hb.cell (p:=⟨Y,_,none⟩) ly).trans y6,(hb.cell (p:=⟨Y,_,none⟩) ly).trans y7,(hb.cell (p:=⟨Y,_,none⟩) ly).trans y8⟩)
   go_region_held3 (fun w'=>w'.cell? ⟨w.heap.size,0,none⟩=some (.int .i64 mr)∧w'.cell? ⟨w.heap.size,1,none⟩=some (.int .i64 mc)∧w'.cell? ⟨w.heap.size,2,none⟩=some (.int .i64 mt)∧w'.cell? ⟨w.heap.size,3,none⟩=some (.int .i64 mf)∧w'.cell? ⟨w.heap.size,4,none⟩=some (.int .i64 wt)∧w'.cell? ⟨w.heap.size,5,none⟩=some (.int .i64 ec)∧w'.cell? ⟨w.heap.size,6,none⟩=some (.int .i64 lo)∧w'.cell? ⟨w.heap.size+1,0,none⟩=some (.int .i64 st)∧w'.cell? ⟨w.heap.size+1,1,none⟩=some (.int .i64 id)∧w'.cell? ⟨w.heap.size+1,2,none⟩=some (.int .i64 req)∧w'.cell? ⟨w.heap.size+1,3,none⟩=some (.slice A2 n2 c2)∧w'.cell? ⟨w.heap.size+1,4,none⟩=some (.int .i64 cnt)∧w'.cell? ⟨w.heap.size+1,5,none⟩=some (.int .i64 tim)∧w'.cell? ⟨w.heap.size+1,6,none⟩=some (.int .i64 nak)∧w'.cell? ⟨w.heap.size+1,7,none⟩=some (.int .i64 nown)∧w'.cell? ⟨w.heap.size+1,8,none⟩=some (.int .i64 npeer)∧w'.cell? ⟨X,0,none⟩=some (.int .i64 a.st)∧w'.cell? ⟨X,1,none⟩=some (.int .i64 a.id)∧w'.cell? ⟨X,2,none⟩=some (.int .i64 a.req)∧w'.cell? ⟨X,3,none⟩=some (.slice A5 n5 c5)∧w'.cell? ⟨X,4,none⟩=some (.int .i64 a.cnt)∧w'.cell? ⟨X,5,none⟩=some (.int .i64 a.tim)∧w'.cell? ⟨X,6,none⟩=some (.int .i64 a.nak)∧w'.cell? ⟨X,7,none⟩=some (.int .i64 o2)∧w'.cell? ⟨X,8,none⟩=some (.int .i64 q2)∧w'.cell? ⟨Y,0,none⟩=some (.int .i64 a.st)∧w'.cell? ⟨Y,1,none⟩=some (.int .i64 a.id)∧w'.cell? ⟨Y,2,none⟩=some (.int .i64 a.req)∧w'.cell? ⟨Y,3,none⟩=some (.slice A6 n6 c6)∧w'.cell? ⟨Y,4,none⟩=some (.int .i64 a.cnt)∧w'.cell? ⟨Y,5,none⟩=some (.int .i64 a.tim)∧w'.cell? ⟨Y,6,none⟩=some (.int .i64 a.nak)∧w'.cell? ⟨Y,7,none⟩=some (.int .i64 o2)∧w'.cell? ⟨Y,8,none⟩=some (.int .i64 q2)) (exact HSR.out _ (by exact bel)) (first|((go_at_call 33;go_must (refine(next9_any _ _ _ _ _ _ _ _ _ _).mono ?_);rintro e w1 ⟨rfl,hb1⟩;obtain⟨xs1,d1,rfl⟩:=ext_of hb1;clear hb1))|((go_at_call 32;go_must (refine(agreed_any _ _ _ _ _ _ _ _ _ _).mono ?_);rintro e w2 ⟨rfl,hb2⟩;obtain⟨xs2,d2,rfl⟩:=ext_of hb2;clear hb2))|((go_at_call 43;with_reducible (show Calls Tryz.prog 43 #[.agg #[.int .i64 st,.int .i64 id,.int .i64 req,.slice A2 n2 c2,.int .i64 cnt,.int .i64 tim,.int .i64 nak,.int .i64 nown,.int .i64 npeer],.agg #[.int .i64 a.st,.int .i64 a.id,.int .i64 a.req,.slice A5 n5 c5,.int .i64 a.cnt,.int .i64 a.tim,.int .i64 a.nak,.int .i64 o2,.int .i64 q2]] _ _);go_must (refine(isameI_any st id req cnt tim nak nown npeer a.st a.id a.req a.cnt a.tim a.nak o2 q2 A2 A5 n2 n5 c2 c5 F E5 (L) (a.ask) HL.out HLX.out _ W9.heap.size (by first|exact Nat.le_refl _|(simp[size_ext,grow];done)|(simp[size_ext,grow];omega)) (by exact HEN.out.keep (by exact bel)) (by exact HEX.out.keep (by exact bel)) HNN.out HNX.out hnn).mono ?_);rw[HSX.out];rintro e w3 ⟨rfl,hb3⟩;obtain⟨xs3,d3,rfl⟩:=ext_of hb3;clear hb3))|((go_at_call 39;with_reducible (show Calls Tryz.prog 39 #[.agg #[.int .i64 st,.int .i64 id,.int .i64 req,.slice A2 n2 c2,.int .i64 cnt,.int .i64 tim,.int .i64 nak,.int .i64 nown,.int .i64 npeer],.agg #[.int .i64 a.st,.int .i64 a.id,.int .i64 a.req,.slice A5 n5 c5,.int .i64 a.cnt,.int .i64 a.tim,.int .i64 a.nak,.int .i64 o2,.int .i64 q2]] _ _);go_must (refine(rsameI_any st id req cnt tim nak nown npeer a.st a.id a.req a.cnt a.tim a.nak o2 q2 A2 A5 n2 n5 c2 c5 F E5 (L) (a.ask) HL.out HLX.out _ W9.heap.size (by first|exact Nat.le_refl _|(simp[size_ext,grow];done)|(simp[size_ext,grow];omega)) (by exact HEN.out.keep (by exact bel)) (by exact HEX.out.keep (by exact bel)) HNN.out HNX.out hnn).mono ?_);rw[HSX.out];rintro e w4 ⟨rfl,hb4⟩;obtain⟨xs4,d4,rfl⟩:=ext_of hb4;clear hb4))|((go_at_call 43;with_reducible (show Calls Tryz.prog 43 #[.agg #[.int .i64 st,.int .i64 id,.int .i64 req,.slice A2 n2 c2,.int .i64 cnt,.int .i64 tim,.int .i64 nak,.int .i64 nown,.int .i64 npeer],.agg #[.int .i64 st,.int .i64 id,.int .i64 req,.slice A2 n2 c2,.int .i64 cnt,.int .i64 tim,.int .i64 nak,.int .i64 nown,.int .i64 npeer]] _ _);go_must (refine(isameI_any st id req cnt tim nak nown npeer st id req cnt tim nak nown npeer A2 A2 n2 n2 c2 c2 F F (L) (L) HL.out HL.out _ W9.heap.size (by first|exact Nat.le_refl _|(simp[size_ext,grow];done)|(simp[size_ext,grow];omega)) (by exact HEN.out.keep (by exact bel)) (by exact HEN.out.keep (by exact bel)) HNN.out HNN.out hnn).mono ?_);rw[HSN.out];rintro e w5 ⟨rfl,hb5⟩;obtain⟨xs5,d5,rfl⟩:=ext_of hb5;clear hb5))|((go_at_call 26;go_must (refine(awake18_any _).mono ?_);rintro e w6 ⟨rfl,hb6⟩;obtain⟨xs6,d6,rfl⟩:=ext_of hb6;clear hb6)))
   all_goals
    go_wp2_with fail
    go_ret
    exact⟨rfl,by have h:=HB9.out;exact bel⟩
end Go.Proofs.YtfkgmbknfnhjoaaGreat
