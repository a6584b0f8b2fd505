/- The law's settings, and a control that has asked. -/
import Derived.Test.YtfkgmbknfnhjoaaGreatZ8
set_option maxHeartbeats 8000000
namespace Go.Proofs.YtfkgmbknfnhjoaaGreat
open Lib (hid)
open Go.RowKit
set_option linter.unusedSimpArgs false
set_option linter.unusedVariables false
set_option linter.ambiguousOpen false
open Ne (Rl Opt RulesAt areB wf64)
open Fs (av hasB)
theorem conf_any (w:World):Calls Tryz.prog 28 #[] w fun x w'=>x=.returned (.agg #[.int .i64 1492,.int .i64 3,.int .i64 2,.int .i64 4,.int .i64 5,.int .i64 0,.int .i64 1])∧Below w.heap.size w w':=by
 go_enter Tryz.func28,Tryz.ntmps28
 go_wp2_with fail
 exact bodyPost_ret (v:=.agg #[.int .i64 1492,.int .i64 3,.int .i64 2,.int .i64 4,.int .i64 5,.int .i64 0,.int .i64 1]) (by simp[results,Tryz.results28,go_sem]) rfl ⟨rfl,by exact bel⟩
theorem OptsO.opened {W:World} {b:Nat} {A:Option Addr} {n c:Nat} {L:List Opt} (h:OptsO W b (.slice A n c) L): ∃E,OptsAt W W.heap.size A E∧n=E.length∧n≤c∧E.map Ent.o=L:=by
 obtain⟨E,hE,he⟩:=h
 obtain⟨A5,c5,hv5,hc5,-⟩:=ownsRow_form hE.1
 cases hv5
 exact⟨E,hE.at,rfl,hc5,he⟩
theorem askI_ents {E:List Ent} {own:Int} (h:E.map Ent.o=askI own):E.length=1∧ ∀e∈E,e.d.length=4:=by
 have h1:=congrArg List.length h
 rw[List.length_map] at h1
 refine⟨h1,fun e he=>?_⟩
 have h2:e.o∈askI own:=by rw[←h];exact List.mem_map_of_mem he
 unfold askI at h2
 simp only[List.mem_singleton] at h2
 have h3:=congrArg (fun x=>x.2.length) h2
 simpa[Ent.o,putB_length] using h3
def npC (a:Au) (va:Value) (own peer:Int):Array Value:=#[.int .i64 a.st,.int .i64 a.id,.int .i64 a.req,va,.int .i64 a.cnt,.int .i64 a.tim,.int .i64 a.nak,.int .i64 own,.int .i64 peer]
def set9i (W:World) (X:Nat) (a:Au) (va:Value) (own peer:Int):World:=
 ((((((((W.setCell ⟨X,0,none⟩ (.int .i64 a.st)).setCell ⟨X,1,none⟩ (.int .i64 a.id)).setCell ⟨X,2,none⟩ (.int .i64 a.req)).setCell ⟨X,3,none⟩ va).setCell ⟨X,4,none⟩ (.int .i64 a.cnt)).setCell ⟨X,5,none⟩ (.int .i64 a.tim)).setCell ⟨X,6,none⟩ (.int .i64 a.nak)).setCell ⟨X,7,none⟩ (.int .i64 own)).setCell ⟨X,8,none⟩ (.int .i64 peer)
theorem set9i_row {W:World} {X:Nat} {cs:Array Value} (h:W.heap[X]? =some (.cells cs 60 (0,0))) (hc:cs.size=9) (a:Au) (va:Value) (own peer:Int):(set9i W X a va own peer).heap[X]? =some (.cells (npC a va own peer) 60 (0,0)):=row9 h hc _ _ _ _ _ _ _ _ _
theorem set9i_grown (W:World) (X:Nat) (a:Au) (va:Value) (own peer:Int):W.grownBy (set9i W X a va own peer) (some X):=
 grown_store (grown_store (grown_store (grown_store (grown_store (grown_store (grown_store (grown_store (grown_set _ _ _ _) _ _) _ _) _ _) _ _) _ _) _ _) _ _) _ _
theorem np_stored {w W W1:World} {X:Nat} {a:Au} {v:Value} {own peer:Int} {cs:Array Value} (hb:Below W.heap.size W W1) (hw:Below w.heap.size w W) (hr:W.heap[X]? =some (.cells cs 60 (0,0))) (hc:cs.size=9) (hX:w.heap.size≤X) (ho:OptsO W1 W.heap.size v a.ask):
  (set9i W1 X a v own peer).heap[X]? =some (.cells (npC a v own peer) 60 (0,0))∧Below w.heap.size w (set9i W1 X a v own peer)∧OptsO (set9i W1 X a v own peer) W.heap.size v a.ask∧W1.grownBy (set9i W1 X a v own peer) (some X):=by
 have hr1:=(hb.block _ (lt_blk hr)).trans hr
 have hg:=set9i_grown W1 X a v own peer
 exact⟨set9i_row hr1 hc _ _ _ _,Below.grown (hw.trans (hb.mono hw.size)) hg (Nat.le_trans hw.size hb.size) (fun k hk=>by cases hk;exact hX),ho.oth hg hr1 (by decide) (by decide),hg⟩
def UpP (own peer:Int) (w:World) (x:Ending) (w':World):Prop:=
 ∃va vo,x=.returned (.tuple #[npV (upA own) va own peer,vo,.bool true])∧Below w.heap.size w w'∧OptsO w' w.heap.size va (askI own)∧PksO w' w.heap.size vo [⟨1,1,[3,6]++putB own.toNat 4⟩]
set_option maxRecDepth 100000 in
theorem up_any (own peer:Int) (w:World) (h1:inB own 1 4294967295=true) (h2:inB peer 1 4294967295=true):Calls Tryz.prog 27 #[.agg #[.int .i64 1492,.int .i64 3,.int .i64 2,.int .i64 4,.int .i64 5,.int .i64 0,.int .i64 1],.int .i64 own,.int .i64 peer] w (UpP own peer w):=by
 have hwf:wf64 peer:=by have:=inB_of h2;unfold wf64;omega
 have HOP:=hid (open_i h1 h2)
 have HUP:=hid (up_i h1 h2)
 have H1:=hid h1
 have H2:=hid h2
 clear h1 h2
 go_enter Tryz.func27,Tryz.ntmps27
 go_upto_region 1 with(fail)
 refine wp_w (fun W=>W.heap[w.heap.size]? =some (.cells #[.int .i64 1492,.int .i64 3,.int .i64 2,.int .i64 4,.int .i64 5,.int .i64 0,.int .i64 1] 64 (0,0))∧W.heap[w.heap.size+1]? =some (.cells #[.int .i64 0,.int .i64 0,.int .i64 0,.slice none 0 0,.int .i64 0,.int .i64 0,.int .i64 0,.int .i64 0,.int .i64 0] 60 (0,0))∧Below w.heap.size w W) ⟨by exact hpa,by exact hpa,by exact bel⟩ ?_
 rintro W1 ⟨hc,hz,hb⟩
 have HC1:=hid hc
 have HZ1:=hid hz
 have HB1:=hid hb
 have lc:=lt_blk hc
 have lz:=lt_blk hz
 have hs1:=hb.size
 clear hc hz hb
 go_wp2_with fail
 refine(inew_yes own peer _ H1.out H2.out).mono ?_
 unfold NewP
 rintro x W2 ⟨va,rfl,hb,ho⟩
 obtain⟨A2,n2,c2,rfl⟩:=ho.form'
 unfold npV newI
 dsimp only
 have HB2:=hid (HB1.out.trans (hb.mono hs1))
 have hs2:=HB2.out.size
 have HC2:=hid ((hb.block _ lc).trans HC1.out)
 have HZ2:=hid ((hb.block _ lz).trans HZ1.out)
 have HO2:=hid ho
 have hlt2:w.heap.size+1+1≤W2.heap.size:=by have:=hb.size;omega
 clear ho hb lc lz
 go_upto_region 2 with(fail)
 refine wp_w (fun W=>W.heap[w.heap.size]? =some (.cells #[.int .i64 1492,.int .i64 3,.int .i64 2,.int .i64 4,.int .i64 5,.int .i64 0,.int .i64 1] 64 (0,0))∧W.heap[w.heap.size+1]? =some (.cells #[.int .i64 0,.int .i64 0,.int .i64 0,.slice none 0 0,.int .i64 0,.int .i64 0,.int .i64 0,.int .i64 0,.int .i64 0] 60 (0,0))∧W.heap[W2.heap.size]? =some (.cells (npC (newI own) (.slice A2 n2 c2) own peer) 60 (0,0))∧Below w.heap.size w W∧OptsO W W1.heap.size (.slice A2 n2 c2) (askI own)) ⟨by exact alc_off HC2.out,by exact alc_off HZ2.out,by exact heap_alloc_new _ _,by exact Below.alloc HB2.out hs2 _,by exact HO2.out.blw ((Below.refl _ _).alloc (Nat.le_refl _) _)⟩ ?_
 rintro W4 ⟨hc,hz,hn,hb,ho⟩
 have HC4:=hid hc
 have HZ4:=hid hz
 have HN4:=hid hn
 have HB4:=hid hb
 have hs4:=hb.size
 have lc4:=lt_blk hc
 have lz4:=lt_blk hz
 have ln4:=lt_blk hn
 obtain⟨c0,c1,c2x,c3,c4,c5,c6⟩:=cells7 hc
 obtain⟨n0,n1,n2x,n3,n4,n5,n6,n7,n8⟩:=cells9 (show W4.heap[W2.heap.size]? =some (.cells #[.int .i64 0,.int .i64 0,.int .i64 0,.slice A2 n2 c2,.int .i64 0,.int .i64 0,.int .i64 0,.int .i64 own,.int .i64 peer] 60 (0,0)) from hn)
 have fn:=frees hn
 have HOX4:=hid ho
 obtain⟨E4,hE,hn,hcc,he⟩:=ho.opened
 have HE4:=hid hE
 have HNN4:=hid hn
 have HEE4:=hid he
 have HEN4:=hid (askI_ents he)
 clear hc hz hn hb ho hE he
 go_wp2_with fail
 refine(ido_any 1492 3 2 4 5 0 1 0 0 0 0 0 0 own peer A2 n2 c2 3 0 E4 (askI own) HEE4.out _ W4.heap.size (Nat.le_refl _) HE4.out HNN4.out (by have:=HEN4.out.1;have:=HNN4.out;omega) (fun e he=>by have:=HEN4.out.2 e he;omega) hwf).mono ?_
 rw[show iDoO 3 2 4 5 ⟨0,0,0,askI own,0,0,0⟩ own peer 3 0=_ from HOP.out]
 unfold IDoP
 rintro x Wk ⟨va,vo,vd,rfl,hb,ho,hp,ha⟩
 obtain⟨A5,An5,Ac5,rfl⟩:=ho.form'
 obtain⟨A6,An6,Ac6,rfl⟩:=hp.form'
 obtain⟨A7,An7,Ac7,rfl⟩:=ha.form'
 unfold npV
 dsimp only at ho hp ha ⊢
 clear c0 c1 c2x c3 c4 c5 c6 n0 n1 n2x n3 n4 n5 n6 n7 n8 fn
 have hnk:=(hb.block _ ln4).trans HN4.out
 obtain⟨n0,n1,n2x,n3,n4,n5,n6,n7,n8⟩:=cells9 (show Wk.heap[W2.heap.size]? =some (.cells #[.int .i64 0,.int .i64 0,.int .i64 0,.slice A2 n2 c2,.int .i64 0,.int .i64 0,.int .i64 0,.int .i64 own,.int .i64 peer] 60 (0,0)) from hnk)
 have fn:=frees hnk
 have lnk:=lt_blk hnk
 have HBK:=hid hb
 have HOK:=hid ho
 have HPK:=hid hp
 clear hb ho hp ha hnk
 go_upto_region 3 with(fail)
 generalize hWf:World.setCell _ _ _=W5
 have hst:set9i Wk W2.heap.size ⟨1,0,0,askI own,0,0,0⟩ (.slice A5 An5 Ac5) own peer=W5:=hWf
 have h5:=np_stored (own:=own) (peer:=peer) (a:=⟨1,0,0,askI own,0,0,0⟩) HBK.out HB4.out HN4.out rfl hs2 HOK.out
 rw[hst] at h5
 obtain⟨hr5,hb5,ho5,hg5⟩:=h5
 clear hst hWf n0 n1 n2x n3 n4 n5 n6 n7 n8 fn
 refine wp_w (fun W=>W.heap[w.heap.size]? =some (.cells #[.int .i64 1492,.int .i64 3,.int .i64 2,.int .i64 4,.int .i64 5,.int .i64 0,.int .i64 1] 64 (0,0))∧W.heap[w.heap.size+1]? =some (.cells #[.int .i64 0,.int .i64 0,.int .i64 0,.slice none 0 0,.int .i64 0,.int .i64 0,.int .i64 0,.int .i64 0,.int .i64 0] 60 (0,0))∧W.heap[W2.heap.size]? =some (.cells (npC ⟨1,0,0,askI own,0,0,0⟩ (.slice A5 An5 Ac5) own peer) 60 (0,0))∧Below w.heap.size w W∧OptsO W W4.heap.size (.slice A5 An5 Ac5) (askI own)) ⟨(hg5.block _ (by have:=HBK.out.size;omega) (by simp;omega)).trans ((HBK.out.block _ lc4).trans HC4.out),(hg5.block _ (by have:=HBK.out.size;omega) (by simp;omega)).trans ((HBK.out.block _ lz4).trans HZ4.out),hr5,hb5,ho5⟩ ?_
 clear hr5 hb5 ho5 hg5 lnk
 rintro W5 ⟨hc,hz,hn,hb,ho⟩
 have HC5:=hid hc
 have HZ5:=hid hz
 have HN5:=hid hn
 have HB5:=hid hb
 have hs5:=hb.size
 have lc5:=lt_blk hc
 have lz5:=lt_blk hz
 have ln5:=lt_blk hn
 obtain⟨c0,c1,c2x,c3,c4,c5,c6⟩:=cells7 hc
 obtain⟨n0,n1,n2x,n3,n4,n5,n6,n7,n8⟩:=cells9 (show W5.heap[W2.heap.size]? =some (.cells #[.int .i64 1,.int .i64 0,.int .i64 0,.slice A5 An5 Ac5,.int .i64 0,.int .i64 0,.int .i64 0,.int .i64 own,.int .i64 peer] 60 (0,0)) from hn)
 have fn:=frees hn
 have HOX5:=hid ho
 obtain⟨E5,hE,hn,hcc,he⟩:=ho.opened
 have HE5:=hid hE
 have HNN5:=hid hn
 have HEE5:=hid he
 have HEN5:=hid (askI_ents he)
 clear hc hz hn hb ho hE he
 go_wp2_with fail
 refine(ido_any 1492 3 2 4 5 0 1 1 0 0 0 0 0 own peer A5 An5 Ac5 1 0 E5 (askI own) HEE5.out _ W5.heap.size (Nat.le_refl _) HE5.out HNN5.out (by have:=HEN5.out.1;have:=HNN5.out;omega) (fun e he=>by have:=HEN5.out.2 e he;omega) hwf).mono ?_
 rw[show iDoO 3 2 4 5 ⟨1,0,0,askI own,0,0,0⟩ own peer 1 0=_ from HUP.out]
 unfold IDoP
 rintro x Wk ⟨va,vo,vd,rfl,hb,ho,hp,ha⟩
 obtain⟨B5,Bn5,Bc5,rfl⟩:=ho.form'
 obtain⟨B6,Bn6,Bc6,rfl⟩:=hp.form'
 obtain⟨B7,Bn7,Bc7,rfl⟩:=ha.form'
 unfold npV
 dsimp only at ho hp ha ⊢
 clear c0 c1 c2x c3 c4 c5 c6 n0 n1 n2x n3 n4 n5 n6 n7 n8 fn
 have hnk:=(hb.block _ ln5).trans HN5.out
 obtain⟨n0,n1,n2x,n3,n4,n5,n6,n7,n8⟩:=cells9 (show Wk.heap[W2.heap.size]? =some (.cells #[.int .i64 1,.int .i64 0,.int .i64 0,.slice A5 An5 Ac5,.int .i64 0,.int .i64 0,.int .i64 0,.int .i64 own,.int .i64 peer] 60 (0,0)) from hnk)
 have fn:=frees hnk
 have lnk:=lt_blk hnk
 have HBK:=hid hb
 have HOK:=hid ho
 have HPK:=hid hp
 clear hb ho hp ha hnk
 go_upto_region 4 with(fail)
 generalize hWf:World.setCell _ _ _=W6
 have hst:set9i Wk W2.heap.size (upA own) (.slice B5 Bn5 Bc5) own peer=W6:=hWf
 have h5:=np_stored (own:=own) (peer:=peer) (a:=upA own) HBK.out HB5.out HN5.out rfl hs2 HOK.out
 rw[hst] at h5
 obtain⟨hr6,hb6,ho6,hg6⟩:=h5
 have HZ6:=hid ((hg6.block _ (by have:=HBK.out.size;omega) (by simp;omega)).trans ((HBK.out.block _ lz5).trans HZ5.out))
 have hrk:=(HBK.out.block _ ln5).trans HN5.out
 have HP6:=hid (HPK.out.oth hg6 hrk (by decide) (by decide))
 have HO6:=hid ho6
 have HB6:=hid hb6
 have hs6:=hb6.size
 clear hst hWf n0 n1 n2x n3 n4 n5 n6 n7 n8 fn hrk hg6 lnk
 unfold upA at hr6
 obtain⟨n0,n1,n2x,n3,n4,n5,n6,n7,n8⟩:=cells9 (show W6.heap[W2.heap.size]? =some (.cells #[.int .i64 6,.int .i64 1,.int .i64 1,.slice B5 Bn5 Bc5,.int .i64 2,.int .i64 5,.int .i64 0,.int .i64 own,.int .i64 peer] 60 (0,0)) from hr6)
 have ln6:=lt_blk hr6
 obtain⟨z0,z1,z2,z3,z4,z5,z6,z7,z8⟩:=cells9 HZ6.out
 have fz:=frees HZ6.out
 have lz6:=lt_blk HZ6.out
 clear hr6 hb6 ho6
 go_wp2_with fail
 generalize hWf:World.setCell _ _ _=W7
 have hst:set9i W6 (w.heap.size+1) (upA own) (.slice B5 Bn5 Bc5) own peer=W7:=hWf
 have hg7:=set9i_grown W6 (w.heap.size+1) (upA own) (.slice B5 Bn5 Bc5) own peer
 have hr7:=set9i_row HZ6.out rfl (upA own) (.slice B5 Bn5 Bc5) own peer
 rw[hst] at hg7 hr7
 clear hst hWf n0 n1 n2x n3 n4 n5 n6 n7 n8 z0 z1 z2 z3 z4 z5 z6 z7 z8 fz
 obtain⟨u0,u1,u2,u3,u4,u5,u6,u7,u8⟩:=cells9 (show W7.heap[w.heap.size+1]? =some (.cells #[.int .i64 6,.int .i64 1,.int .i64 1,.slice B5 Bn5 Bc5,.int .i64 2,.int .i64 5,.int .i64 0,.int .i64 own,.int .i64 peer] 60 (0,0)) from hr7)
 refine bodyPost_ret (v:=.tuple #[npV (upA own) (.slice B5 Bn5 Bc5) own peer,.slice B6 Bn6 Bc6,.bool true]) (by unfold npV upA;simp[results,Tryz.results27,go_sem,u0,u1,u2,u3,u4,u5,u6,u7,u8]) rfl ?_
 exact⟨_,_,rfl,Below.grown HB6.out hg7 hs6 (fun k hk=>by cases hk;omega),(HO6.out.oth hg7 HZ6.out (by decide) (by decide)).bas (by omega),(HP6.out.oth hg7 HZ6.out (by decide) (by decide)).bas (by omega)⟩
end Go.Proofs.YtfkgmbknfnhjoaaGreat
