/- ipcp.New. -/
import Derived.Test.YtfkgmbknfnhjoaaGreatZ4
set_option maxHeartbeats 8000000
namespace Go.Proofs.YtfkgmbknfnhjoaaGreat
open Lib (hid)
open Go.RowKit
set_option linter.unusedSimpArgs false
set_option linter.unusedVariables false
set_option linter.ambiguousOpen false
open Ne (Rl Opt RulesAt areB wf64)
open Fs (av hasB)
def askI (own:Int):List Opt:=[(3,putB own.toNat 4)]
def newI (own:Int):Au:=⟨0,0,0,askI own,0,0,0⟩
theorem encI (own:Int):Op.encR (askI own)=([3,6]++putB own.toNat 4,0):=by
 have h1:Op.encs (askI own)=[3,6]++putB own.toNat 4:=by
  unfold Op.encs askI
  simp[Op.encO,putB_length]
 have h2:(askI own).all Op.okO=true:=by
  unfold askI
  simp[Op.okO,inB,putB_length]
 unfold Op.encR
 rw[if_neg (by simp[askI]),if_pos h2,h1,if_neg (by simp[putB_length])]
theorem newI_new (own:Int):auNew (askI own)=newI own∧errNew (askI own)=0:=by
 unfold auNew errNew
 rw[encI]
 exact⟨rfl,rfl⟩
theorem inB_of {n a b:Int} (h:inB n a b=true):a≤n∧n≤b:=by
 unfold inB at h
 simpa using h
def NewP (own peer:Int) (w:World) (x:Ending) (w':World):Prop:=
 ∃va,x=.returned (.tuple #[npV (newI own) va own peer,.int .i64 0])∧Below w.heap.size w w'∧OptsO w' w.heap.size va (askI own)
set_option maxRecDepth 100000 in
theorem inew_yes (own peer:Int) (w:World) (h1:inB own 1 4294967295=true) (h2:inB peer 1 4294967295=true):Calls Tryz.prog 35 #[.int .i64 own,.int .i64 peer] w (NewP own peer w):=by
 have hown:=inB_of h1
 have HM:=hid (show Op.makeB 3 4 own=true by unfold Op.makeB;simp;omega)
 go_enter Tryz.func35,Tryz.ntmps35
 go_upto_region 1 with(fail)
 refine wp_w (fun W=>W.heap[w.heap.size]? =some (.cells #[.int .i64 0,.int .i64 0,.int .i64 0,.slice none 0 0,.int .i64 0,.int .i64 0,.int .i64 0,.int .i64 0,.int .i64 0] 60 (0,0))∧Below w.heap.size w W) ⟨heap_alloc_new _ _,by exact bel⟩ ?_
 rintro W1 ⟨hz,hb⟩
 have HZ1:=hid hz
 have HB1:=hid hb
 have hs1:=hb.size
 have lz:=lt_blk hz
 clear hz hb
 go_wp2_with (first|(go_at_call 72;refine(within_it _ _ _ _ (by assumption)).mono ?_;rintro e w9 ⟨rfl,rfl⟩)|(go_at_call 72;refine(within_if _ _ _ _ (by assumption)).mono ?_;rintro e w9 ⟨rfl,rfl⟩))
 refine(Op.make_any 3 4 own _ (by omega)).mono ?_
 unfold Op.MakeP
 rw[HM.out]
 rintro x W2 ⟨⟨t,d,a,c⟩,rfl,hb,ho,he⟩
 simp only[Ent.o,Op.makeO,if_true,Prod.mk.injEq] at he
 obtain⟨rfl,rfl⟩:=he
 have hl4:(putB own.toNat (4:Int).toNat).length=4:=putB_length own.toNat 4
 unfold Ent.v at ho ⊢
 dsimp only at ho ⊢
 generalize hd:putB own.toNat (4:Int).toNat=d at ho hl4 ⊢
 have HD:=hid hd
 have hdl:d.length=4:=hl4
 rw[hdl] at ho ⊢
 obtain⟨A',c',hv,hc4,-⟩:=ownsRow_form ho
 cases hv
 have HO2:=hid ho
 have HB2:=hid hb
 have hs2:=hb.size
 have HZ2:=hid ((hb.block _ lz).trans HZ1.out)
 clear hb ho hd hl4
 have HAS:=hid (show([⟨3,d,a,c⟩]:List Ent).map Ent.o=askI own by unfold askI;rw[←HD.out];rfl)
 go_wp2_with fail
 refine(new_any (some ⟨W2.heap.size+1,0,none⟩) 1 1 [⟨3,d,a,c⟩] (askI own) HAS.out _ _ (Nat.le_refl _) ⟨?_,fun e he=>?_⟩ rfl (by omega) (fun e he=>?_)).mono ?_
 ·exact(At.newN (W2.alloc _) _ _ _ (W2.heap.size+1) (by simp) (by simp[cellsE,Ent.v,hdl])).more (by simp)
 ·simp only[List.mem_singleton] at he
  subst he
  exact⟨((At.of_own HO2.out).keep (by exact bel)).more (by simp;omega),by dsimp only;omega⟩
 ·simp only[List.mem_singleton] at he
  subst he
  dsimp only
  omega
 rw[(newI_new own).1,(newI_new own).2]
 rintro x W3 ⟨v,rfl,E4,A4,n4,c4,rfl,he,hn,hc,hb3,ho4⟩
 have HB3:=hid (show Below W2.heap.size W2 W3 from Below.trans (by exact bel) (hb3.mono (by simp;omega)))
 have HO4:=hid (show OptsO W3 W2.heap.size (.slice A4 n4 c4) (askI own) from ⟨E4,OwnOpts.base ho4 (by simp;omega),he⟩)
 have hs3:=HB3.out.size
 clear he hn hc hb3 ho4
 unfold newI
 dsimp only
 have HZ3:=hid ((HB3.out.block _ (lt_blk HZ2.out)).trans HZ2.out)
 have lz3:=lt_blk HZ3.out
 have HBW3:=hid ((HB1.out.trans (HB2.out.mono hs1)).trans (HB3.out.mono (Nat.le_trans hs1 hs2)))
 clear h1 h2 hown hdl hc4
 go_upto_region 5 with(fail)
 refine wp_w (fun W=>W.heap[w.heap.size]? =some (.cells #[.int .i64 0,.int .i64 0,.int .i64 0,.slice none 0 0,.int .i64 0,.int .i64 0,.int .i64 0,.int .i64 0,.int .i64 0] 60 (0,0))∧W.heap[W3.heap.size]? =some (.cells #[.int .i64 0,.int .i64 0,.int .i64 0,.slice A4 n4 c4,.int .i64 0,.int .i64 0,.int .i64 0] 29 (0,0))∧Below W3.heap.size W3 W) ⟨by exact alc_off HZ3.out,heap_alloc_new _ _,by exact bel⟩ ?_
 rintro W4 ⟨hz,ht,hb⟩
 have HZ4:=hid hz
 have HB4:=hid hb
 have HO5:=hid ((HO4.out.blw hb).bas (b':=w.heap.size) (by omega))
 have lz4:=lt_blk hz
 obtain⟨t0,t1,t2,t3,t4,t5,t6⟩:=cells7 ht
 obtain⟨z0,z1,z2,z3,z4,z5,z6,z7,z8⟩:=cells9 hz
 have fz:=frees hz
 clear hz ht hb
 go_wp2_with fail
 generalize hWf:World.setCell _ _ _=Wf
 have hgr:W4.grownBy Wf (some (w.heap.size)):=by rw[←hWf];exact grn
 have hrow:=(show Wf.heap[w.heap.size]? =some (.cells #[_,_,_,_,_,_,_,_,_] 60 (0,0)) by rw[←hWf];exact row9 HZ4.out rfl _ _ _ _ _ _ _ _ _)
 clear hWf z0 z1 z2 z3 z4 z5 z6 z7 z8 fz t0 t1 t2 t3 t4 t5 t6
 obtain⟨u0,u1,u2,u3,u4,u5,u6,u7,u8⟩:=cells9 hrow
 refine bodyPost_ret (v:=.tuple #[npV (newI own) (.slice A4 n4 c4) own peer,.int .i64 0]) (by unfold npV newI;simp[results,Tryz.results35,go_sem,u0,u1,u2,u3,u4,u5,u6,u7,u8]) rfl ?_
 exact⟨_,rfl,Below.grown (HBW3.out.trans (HB4.out.mono HBW3.out.size)) hgr (Nat.le_trans HBW3.out.size HB4.out.size) (fun k hk=>by cases hk;exact Nat.le_refl _),HO5.out.oth hgr HZ4.out (by decide) (by decide)⟩
end Go.Proofs.YtfkgmbknfnhjoaaGreat
