/- New controls by both, and none. -/
import Derived.Test.YtfkgmbknfnhjoaaGreatZ41
import Derived.Test.YtfkgmbknfnhjoaaGreatZ40
set_option maxHeartbeats 8000000
namespace Go.Proofs.YtfkgmbknfnhjoaaGreat
open Lib (hid)
open Go.RowKit
set_option linter.unusedSimpArgs false
set_option linter.unusedVariables false
set_option linter.ambiguousOpen false
open Ne (Rl Opt RulesAt areB wf64)
theorem setz_row {W:World} {X:Nat} {T:TypeId} (H:W.heap[X]? =some (.cells #[.int .i64 0,.int .i64 0,.int .i64 0,.slice none 0 0,.int .i64 0,.int .i64 0,.int .i64 0,.int .i64 0,.int .i64 0] T (0,0))):(((((((((W.setCell ⟨X,0,none⟩ (.int .i64 0)).setCell ⟨X,1,none⟩ (.int .i64 0)).setCell ⟨X,2,none⟩ (.int .i64 0)).setCell ⟨X,3,none⟩ (.slice none 0 0)).setCell ⟨X,4,none⟩ (.int .i64 0)).setCell ⟨X,5,none⟩ (.int .i64 0)).setCell ⟨X,6,none⟩ (.int .i64 0)).setCell ⟨X,7,none⟩ (.int .i64 0)).setCell ⟨X,8,none⟩ (.int .i64 0)).heap[X]? =some (.cells #[.int .i64 0,.int .i64 0,.int .i64 0,.slice none 0 0,.int .i64 0,.int .i64 0,.int .i64 0,.int .i64 0,.int .i64 0] T (0,0)):=row9 H rfl _ _ _ _ _ _ _ _ _
def NoP (w:World) (x:Ending) (w':World):Prop:=x=.returned (.tuple #[.agg #[.int .i64 0,.int .i64 0,.int .i64 0,.slice none 0 0,.int .i64 0,.int .i64 0,.int .i64 0,.int .i64 0,.int .i64 0],.int .i64 180])∧Below w.heap.size w w'
set_option maxRecDepth 100000 in
theorem inew_no (own peer:Int) (w:World) (h: ¬(inB own 1 4294967295=true∧inB peer 1 4294967295=true)):Calls Tryz.prog 35 #[.int .i64 own,.int .i64 peer] w (NoP w):=by
 cases h1:inB own 1 4294967295
 ·clear h
  go_enter Tryz.func35,Tryz.ntmps35
  go_upto_region 1 with(fail)
  refine wp_w (fun W=>W.heap[w.heap.size]? =some (.cells #[.int .i64 0,.int .i64 0,.int .i64 0,.slice none 0 0,.int .i64 0,.int .i64 0,.int .i64 0,.int .i64 0,.int .i64 0] 60 (0,0))∧Below w.heap.size w W) ⟨heap_alloc_new _ _,by exact bel⟩ ?_
  rintro W1 ⟨hz,hb⟩
  have HZ1:=hid hz
  have HB1:=hid hb
  have hs1:=hb.size
  have lz:=lt_blk hz
  obtain⟨z0,z1,z2,z3,z4,z5,z6,z7,z8⟩:=cells9 hz
  have fz:=frees hz
  clear hz hb
  go_wp2_with (first|(go_at_call 72;refine(within_it _ _ _ _ (by assumption)).mono ?_;rintro e w9 ⟨rfl,rfl⟩)|(go_at_call 72;refine(within_if _ _ _ _ (by assumption)).mono ?_;rintro e w9 ⟨rfl,rfl⟩))
  generalize hWf:World.setCell _ _ _=Wf
  have hr:Wf.heap[w.heap.size]? =some (.cells #[.int .i64 0,.int .i64 0,.int .i64 0,.slice none 0 0,.int .i64 0,.int .i64 0,.int .i64 0,.int .i64 0,.int .i64 0] 60 (0,0)):=by rw[←hWf];exact setz_row HZ1.out
  have hbf:Below w.heap.size w Wf:=by rw[←hWf];exact Below.setCell (Below.setCell (Below.setCell (Below.setCell (Below.setCell (Below.setCell (Below.setCell (Below.setCell (Below.setCell HB1.out (Nat.le_refl _) _) (Nat.le_refl _) _) (Nat.le_refl _) _) (Nat.le_refl _) _) (Nat.le_refl _) _) (Nat.le_refl _) _) (Nat.le_refl _) _) (Nat.le_refl _) _) (Nat.le_refl _) _
  clear hWf z0 z1 z2 z3 z4 z5 z6 z7 z8 fz
  obtain⟨u0,u1,u2,u3,u4,u5,u6,u7,u8⟩:=cells9 hr
  refine bodyPost_ret (v:=.tuple #[.agg #[.int .i64 0,.int .i64 0,.int .i64 0,.slice none 0 0,.int .i64 0,.int .i64 0,.int .i64 0,.int .i64 0,.int .i64 0],.int .i64 180]) (by simp[results,Tryz.results35,go_sem,u0,u1,u2,u3,u4,u5,u6,u7,u8]) rfl ⟨rfl,hbf⟩
 ·have h2:inB peer 1 4294967295=false:=by
   cases h3:inB peer 1 4294967295
   ·rfl
   ·exact absurd ⟨h1,h3⟩ h
  clear h
  go_enter Tryz.func35,Tryz.ntmps35
  go_upto_region 1 with(fail)
  refine wp_w (fun W=>W.heap[w.heap.size]? =some (.cells #[.int .i64 0,.int .i64 0,.int .i64 0,.slice none 0 0,.int .i64 0,.int .i64 0,.int .i64 0,.int .i64 0,.int .i64 0] 60 (0,0))∧Below w.heap.size w W) ⟨heap_alloc_new _ _,by exact bel⟩ ?_
  rintro W1 ⟨hz,hb⟩
  have HZ1:=hid hz
  have HB1:=hid hb
  have hs1:=hb.size
  have lz:=lt_blk hz
  obtain⟨z0,z1,z2,z3,z4,z5,z6,z7,z8⟩:=cells9 hz
  have fz:=frees hz
  clear hz hb
  go_wp2_with (first|(go_at_call 72;refine(within_it _ _ _ _ (by assumption)).mono ?_;rintro e w9 ⟨rfl,rfl⟩)|(go_at_call 72;refine(within_if _ _ _ _ (by assumption)).mono ?_;rintro e w9 ⟨rfl,rfl⟩))
  generalize hWf:World.setCell _ _ _=Wf
  have hr:Wf.heap[w.heap.size]? =some (.cells #[.int .i64 0,.int .i64 0,.int .i64 0,.slice none 0 0,.int .i64 0,.int .i64 0,.int .i64 0,.int .i64 0,.int .i64 0] 60 (0,0)):=by rw[←hWf];exact setz_row HZ1.out
  have hbf:Below w.heap.size w Wf:=by rw[←hWf];exact Below.setCell (Below.setCell (Below.setCell (Below.setCell (Below.setCell (Below.setCell (Below.setCell (Below.setCell (Below.setCell HB1.out (Nat.le_refl _) _) (Nat.le_refl _) _) (Nat.le_refl _) _) (Nat.le_refl _) _) (Nat.le_refl _) _) (Nat.le_refl _) _) (Nat.le_refl _) _) (Nat.le_refl _) _) (Nat.le_refl _) _
  clear hWf z0 z1 z2 z3 z4 z5 z6 z7 z8 fz
  obtain⟨u0,u1,u2,u3,u4,u5,u6,u7,u8⟩:=cells9 hr
  refine bodyPost_ret (v:=.tuple #[.agg #[.int .i64 0,.int .i64 0,.int .i64 0,.slice none 0 0,.int .i64 0,.int .i64 0,.int .i64 0,.int .i64 0,.int .i64 0],.int .i64 180]) (by simp[results,Tryz.results35,go_sem,u0,u1,u2,u3,u4,u5,u6,u7,u8]) rfl ⟨rfl,hbf⟩
set_option maxRecDepth 100000 in
theorem rinew_no (own peer:Int) (w:World) (h: ¬(inB own 1 4294967295=true∧inB peer 1 4294967295=true)):Calls Tryz.prog 38 #[.int .i64 own,.int .i64 peer] w (NoP w):=by
 have h':own<1∨4294967295<own∨peer<1∨4294967295<peer:=by
  unfold inB at h
  simp at h
  omega
 clear h
 by_cases a1:own<1
 ·go_enter Tryz.func38,Tryz.ntmps38
  go_upto_region 1 with(fail)
  refine wp_w (fun W=>W.heap[w.heap.size]? =some (.cells #[.int .i64 0,.int .i64 0,.int .i64 0,.slice none 0 0,.int .i64 0,.int .i64 0,.int .i64 0,.int .i64 0,.int .i64 0] 60 (0,0))∧Below w.heap.size w W) ⟨heap_alloc_new _ _,by exact bel⟩ ?_
  rintro W1 ⟨hz,hb⟩
  have HZ1:=hid hz
  have HB1:=hid hb
  have hs1:=hb.size
  have lz:=lt_blk hz
  obtain⟨z0,z1,z2,z3,z4,z5,z6,z7,z8⟩:=cells9 hz
  have fz:=frees hz
  clear hz hb
  go_wp2_with fail
  generalize hWf:World.setCell _ _ _=Wf
  have hr:Wf.heap[w.heap.size]? =some (.cells #[.int .i64 0,.int .i64 0,.int .i64 0,.slice none 0 0,.int .i64 0,.int .i64 0,.int .i64 0,.int .i64 0,.int .i64 0] 60 (0,0)):=by rw[←hWf];exact setz_row HZ1.out
  have hbf:Below w.heap.size w Wf:=by rw[←hWf];exact Below.setCell (Below.setCell (Below.setCell (Below.setCell (Below.setCell (Below.setCell (Below.setCell (Below.setCell (Below.setCell HB1.out (Nat.le_refl _) _) (Nat.le_refl _) _) (Nat.le_refl _) _) (Nat.le_refl _) _) (Nat.le_refl _) _) (Nat.le_refl _) _) (Nat.le_refl _) _) (Nat.le_refl _) _) (Nat.le_refl _) _
  clear hWf z0 z1 z2 z3 z4 z5 z6 z7 z8 fz
  obtain⟨u0,u1,u2,u3,u4,u5,u6,u7,u8⟩:=cells9 hr
  refine bodyPost_ret (v:=.tuple #[.agg #[.int .i64 0,.int .i64 0,.int .i64 0,.slice none 0 0,.int .i64 0,.int .i64 0,.int .i64 0,.int .i64 0,.int .i64 0],.int .i64 180]) (by simp[results,Tryz.results38,go_sem,u0,u1,u2,u3,u4,u5,u6,u7,u8]) rfl ⟨rfl,hbf⟩
 ·by_cases a2:4294967295<own
  ·go_enter Tryz.func38,Tryz.ntmps38
   go_upto_region 1 with(fail)
   refine wp_w (fun W=>W.heap[w.heap.size]? =some (.cells #[.int .i64 0,.int .i64 0,.int .i64 0,.slice none 0 0,.int .i64 0,.int .i64 0,.int .i64 0,.int .i64 0,.int .i64 0] 60 (0,0))∧Below w.heap.size w W) ⟨heap_alloc_new _ _,by exact bel⟩ ?_
   rintro W1 ⟨hz,hb⟩
   have HZ1:=hid hz
   have HB1:=hid hb
   have hs1:=hb.size
   have lz:=lt_blk hz
   obtain⟨z0,z1,z2,z3,z4,z5,z6,z7,z8⟩:=cells9 hz
   have fz:=frees hz
   clear hz hb
   go_wp2_with fail
   generalize hWf:World.setCell _ _ _=Wf
   have hr:Wf.heap[w.heap.size]? =some (.cells #[.int .i64 0,.int .i64 0,.int .i64 0,.slice none 0 0,.int .i64 0,.int .i64 0,.int .i64 0,.int .i64 0,.int .i64 0] 60 (0,0)):=by rw[←hWf];exact setz_row HZ1.out
   have hbf:Below w.heap.size w Wf:=by rw[←hWf];exact Below.setCell (Below.setCell (Below.setCell (Below.setCell (Below.setCell (Below.setCell (Below.setCell (Below.setCell (Below.setCell HB1.out (Nat.le_refl _) _) (Nat.le_refl _) _) (Nat.le_refl _) _) (Nat.le_refl _) _) (Nat.le_refl _) _) (Nat.le_refl _) _) (Nat.le_refl _) _) (Nat.le_refl _) _) (Nat.le_refl _) _
   clear hWf z0 z1 z2 z3 z4 z5 z6 z7 z8 fz
   obtain⟨u0,u1,u2,u3,u4,u5,u6,u7,u8⟩:=cells9 hr
   refine bodyPost_ret (v:=.tuple #[.agg #[.int .i64 0,.int .i64 0,.int .i64 0,.slice none 0 0,.int .i64 0,.int .i64 0,.int .i64 0,.int .i64 0,.int .i64 0],.int .i64 180]) (by simp[results,Tryz.results38,go_sem,u0,u1,u2,u3,u4,u5,u6,u7,u8]) rfl ⟨rfl,hbf⟩
  ·by_cases a3:peer<1
   ·go_enter Tryz.func38,Tryz.ntmps38
    go_upto_region 1 with(fail)
    refine wp_w (fun W=>W.heap[w.heap.size]? =some (.cells #[.int .i64 0,.int .i64 0,.int .i64 0,.slice none 0 0,.int .i64 0,.int .i64 0,.int .i64 0,.int .i64 0,.int .i64 0] 60 (0,0))∧Below w.heap.size w W) ⟨heap_alloc_new _ _,by exact bel⟩ ?_
    rintro W1 ⟨hz,hb⟩
    have HZ1:=hid hz
    have HB1:=hid hb
    have hs1:=hb.size
    have lz:=lt_blk hz
    obtain⟨z0,z1,z2,z3,z4,z5,z6,z7,z8⟩:=cells9 hz
    have fz:=frees hz
    clear hz hb
    go_wp2_with fail
    generalize hWf:World.setCell _ _ _=Wf
    have hr:Wf.heap[w.heap.size]? =some (.cells #[.int .i64 0,.int .i64 0,.int .i64 0,.slice none 0 0,.int .i64 0,.int .i64 0,.int .i64 0,.int .i64 0,.int .i64 0] 60 (0,0)):=by rw[←hWf];exact setz_row HZ1.out
    have hbf:Below w.heap.size w Wf:=by rw[←hWf];exact Below.setCell (Below.setCell (Below.setCell (Below.setCell (Below.setCell (Below.setCell (Below.setCell (Below.setCell (Below.setCell HB1.out (Nat.le_refl _) _) (Nat.le_refl _) _) (Nat.le_refl _) _) (Nat.le_refl _) _) (Nat.le_refl _) _) (Nat.le_refl _) _) (Nat.le_refl _) _) (Nat.le_refl _) _) (Nat.le_refl _) _
    clear hWf z0 z1 z2 z3 z4 z5 z6 z7 z8 fz
    obtain⟨u0,u1,u2,u3,u4,u5,u6,u7,u8⟩:=cells9 hr
    refine bodyPost_ret (v:=.tuple #[.agg #[.int .i64 0,.int .i64 0,.int .i64 0,.slice none 0 0,.int .i64 0,.int .i64 0,.int .i64 0,.int .i64 0,.int .i64 0],.int .i64 180]) (by simp[results,Tryz.results38,go_sem,u0,u1,u2,u3,u4,u5,u6,u7,u8]) rfl ⟨rfl,hbf⟩
   ·have a4:4294967295<peer:=by omega
    go_enter Tryz.func38,Tryz.ntmps38
    go_upto_region 1 with(fail)
    refine wp_w (fun W=>W.heap[w.heap.size]? =some (.cells #[.int .i64 0,.int .i64 0,.int .i64 0,.slice none 0 0,.int .i64 0,.int .i64 0,.int .i64 0,.int .i64 0,.int .i64 0] 60 (0,0))∧Below w.heap.size w W) ⟨heap_alloc_new _ _,by exact bel⟩ ?_
    rintro W1 ⟨hz,hb⟩
    have HZ1:=hid hz
    have HB1:=hid hb
    have hs1:=hb.size
    have lz:=lt_blk hz
    obtain⟨z0,z1,z2,z3,z4,z5,z6,z7,z8⟩:=cells9 hz
    have fz:=frees hz
    clear hz hb
    go_wp2_with fail
    generalize hWf:World.setCell _ _ _=Wf
    have hr:Wf.heap[w.heap.size]? =some (.cells #[.int .i64 0,.int .i64 0,.int .i64 0,.slice none 0 0,.int .i64 0,.int .i64 0,.int .i64 0,.int .i64 0,.int .i64 0] 60 (0,0)):=by rw[←hWf];exact setz_row HZ1.out
    have hbf:Below w.heap.size w Wf:=by rw[←hWf];exact Below.setCell (Below.setCell (Below.setCell (Below.setCell (Below.setCell (Below.setCell (Below.setCell (Below.setCell (Below.setCell HB1.out (Nat.le_refl _) _) (Nat.le_refl _) _) (Nat.le_refl _) _) (Nat.le_refl _) _) (Nat.le_refl _) _) (Nat.le_refl _) _) (Nat.le_refl _) _) (Nat.le_refl _) _) (Nat.le_refl _) _
    clear hWf z0 z1 z2 z3 z4 z5 z6 z7 z8 fz
    obtain⟨u0,u1,u2,u3,u4,u5,u6,u7,u8⟩:=cells9 hr
    refine bodyPost_ret (v:=.tuple #[.agg #[.int .i64 0,.int .i64 0,.int .i64 0,.slice none 0 0,.int .i64 0,.int .i64 0,.int .i64 0,.int .i64 0,.int .i64 0],.int .i64 180]) (by simp[results,Tryz.results38,go_sem,u0,u1,u2,u3,u4,u5,u6,u7,u8]) rfl ⟨rfl,hbf⟩
theorem rnew_ok (A:Option Addr) (n c:Nat) (E:List Ent) (L:List Opt) (hL:E.map Ent.o=L) (w:World) (B:Nat) (hB:B≤w.heap.size) (hE:OptsAt w B A E) (hn:n=E.length) (he:(Op.encR L).2=0):
  Calls Tryz.prog 79 #[.slice A n c] w fun x w'=>x=.returned (.tuple #[.agg #[.int .i64 0,.int .i64 0,.int .i64 0,.slice A n c,.int .i64 0,.int .i64 0,.int .i64 0],.int .i64 0])∧Below w.heap.size w w':=by
 have HB:=hid hB
 have HE:=hid hE
 have HN:=hid hn
 have HL:=hid hL
 have HENC:=hid he
 clear hB hE hn hL he
 go_enter Tryz.func79,Tryz.ntmps79
 go_wp2_with (go_at_call 18;refine(Op.renc_any A n c E _ B (by have:=HB.out;simp;omega) (by exact HE.out.keep (by have:=HB.out;exact bel)) HN.out).mono ?_;rw[HL.out];unfold Op.EncP;rw[HENC.out];rintro e w2 ⟨v,rfl,hb,-⟩;obtain⟨xs2,d2,rfl⟩:=ext_of hb;clear hb)
 refine bodyPost_ret (v:=.tuple #[.agg #[.int .i64 0,.int .i64 0,.int .i64 0,.slice A n c,.int .i64 0,.int .i64 0,.int .i64 0],.int .i64 0]) (by simp[results,Tryz.results79,go_sem]) rfl ⟨rfl,by exact bel⟩
theorem at_row9 {w:World} {cs:Array Value} {X:Nat} {T:TypeId} {l:List Value} {B:Nat} (h:w.heap[X]? =some (.cells cs T (0,0))) (hl:cs.toList=l) (hB:X<B):At w B (some ⟨X,0,none⟩) l:=by
 subst hl
 refine .inr ⟨X,0,rfl,hB,fun j u hu=>?_⟩
 rw[Nat.zero_add,cell_of_row w X j cs T (0,0) h]
 simpa using hu
theorem one_at {W:World} {X B base c:Nat} {A:Option Addr} {d:List UInt8} {T T2:TypeId} (h:W.heap[X]? =some (.cells #[.int .i64 3,.slice A d.length c] T (0,0))) (hB:X<B) (hs:W.heap.size≤B) (ho:W.ownsRow base T2 1 (.slice A d.length c) d.length (d.map bv)):OptsAt W B (some ⟨X,0,none⟩) [⟨3,d,A,c⟩]:=by
 obtain⟨A',c',hv,hc,-⟩:=ownsRow_form ho
 cases hv
 refine⟨at_row9 h rfl hB,fun e he=>?_⟩
 obtain rfl:e=⟨3,d,A,c⟩:=by simpa using he
 exact⟨(At.of_own ho).more hs,hc⟩
def RNewP (own peer:Int) (w:World) (x:Ending) (w':World):Prop:=
 ∃va,x=.returned (.tuple #[npV (newI own) va own peer,.int .i64 0])∧Below w.heap.size w w'∧OptsV w' w'.heap.size va (askI own)
set_option maxRecDepth 100000 in
theorem rinew_yes (own peer:Int) (w:World) (h1:inB own 1 4294967295=true) (h2:inB peer 1 4294967295=true):Calls Tryz.prog 38 #[.int .i64 own,.int .i64 peer] w (RNewP own peer w):=by
 have b1:=inB_of h1
 have b2:=inB_of h2
 clear h1 h2
 obtain⟨o,rfl⟩:=Int.eq_ofNat_of_zero_le (show 0≤own by omega)
 have a1: ¬(o:Int)<1:=by omega
 have a2: ¬(4294967295:Int)<(o:Int):=by omega
 have a3: ¬peer<1:=by omega
 have a4: ¬(4294967295:Int)<peer:=by omega
 have hw3:IntKind.u64.wrap (o:Int)=(o:Int):=IntWalk.u64_in _ (by omega)
 go_enter Tryz.func38,Tryz.ntmps38
 go_upto_region 1 with(fail)
 refine wp_w (fun W=>W.heap[w.heap.size]? =some (.cells #[.int .i64 0,.int .i64 0,.int .i64 0,.slice none 0 0,.int .i64 0,.int .i64 0,.int .i64 0,.int .i64 0,.int .i64 0] 60 (0,0))∧Below w.heap.size w W) ⟨heap_alloc_new _ _,by exact bel⟩ ?_
 rintro W1 ⟨hz,hb⟩
 have HZ1:=hid hz
 have HB1:=hid hb
 have hs1:=hb.size
 have lz:=lt_blk hz
 obtain⟨z0,z1,z2,z3,z4,z5,z6,z7,z8⟩:=cells9 hz
 have fz:=frees hz
 clear hz hb
 go_wp2_with fail
 refine(rput_yes o 4 _ (by omega) (by omega) (by omega)).mono ?_
 unfold PutP
 rintro x W2 ⟨v2,rfl,hb,ho⟩
 obtain⟨A2,c2,rfl,hc2,-⟩:=ownsRow_form ho
 have HB2:=hid (HB1.out.trans (hb.mono hs1))
 have HZ2:=hid ((hb.block _ lz).trans HZ1.out)
 have hs2:=HB2.out.size
 have lz2:=lt_blk HZ2.out
 have hl4:(putB o 4).length=4:=putB_length o 4
 obtain⟨d,hd⟩: ∃d,putB o 4=d:=⟨_,rfl⟩
 have HD:=hid hd
 rw[hd] at ho hl4
 have HD4:=hid (show(4:Nat)=d.length from hl4.symm)
 have HO2:=hid (show W2.ownsRow W1.heap.size 5 1 (.slice A2 d.length c2) d.length (d.map bv) by rw[←HD4.out];exact ho)
 have HE3:=hid (show Op.encR (askI (o:Int))=_ from encI _)
 have lzw:w.heap.size<W1.heap.size:=lz
 clear hb ho z0 z1 z2 z3 z4 z5 z6 z7 z8 fz lz hl4 hd
 go_wp2_with fail
 have HR:=hid (heap_alloc_new W2 (.cells #[.int .i64 3,.slice A2 4 c2] 111 (0,0)))
 have HEA:=hid (one_at (X:=W2.heap.size) (B:=(W2.alloc (.cells #[.int .i64 3,.slice A2 4 c2] 111 (0,0))).heap.size) (by rw[←HD4.out];exact HR.out) (by simp) (Nat.le_refl _) (own_below HO2.out ((Below.refl _ _).alloc (Nat.le_refl _) _)))
 have HK:=hid (show([⟨3,d,A2,c2⟩]:List Ent).map Ent.o=askI (o:Int) by unfold askI;rw[Int.toNat_natCast,HD.out];rfl)
 refine(rnew_ok (some ⟨W2.heap.size,0,none⟩) 1 1 [⟨3,d,A2,c2⟩] (askI (o:Int)) HK.out _ _ (Nat.le_refl _) HEA.out rfl (by rw[HE3.out])).mono ?_
 rintro x W3 ⟨rfl,hb⟩
 have HR3:=hid ((hb.block _ (lt_blk HR.out)).trans HR.out)
 have HO3:=hid (own_below (own_below HO2.out ((Below.refl _ _).alloc (Nat.le_refl _) (.cells #[.int .i64 3,.slice A2 4 c2] 111 (0,0)))) hb)
 have HQ3:=hid (show Below W2.heap.size W2 W3 from((Below.refl _ _).alloc (Nat.le_refl _) _).trans (hb.mono (by simp)))
 have HZ3:=hid ((HQ3.out.block _ lz2).trans HZ2.out)
 have HB3:=hid (HB2.out.trans (HQ3.out.mono hs2))
 have hs3:=HB3.out.size
 have lz3:=lt_blk HZ3.out
 have hs23:W2.heap.size<W3.heap.size:=lt_blk HR3.out
 clear hb
 go_upto_region 4 with(fail)
 obtain⟨T,hT⟩: ∃T,T=W3.heap.size:=⟨_,rfl⟩
 rw[←hT]
 refine wp_w (fun W=>W.heap[T]? =some (.cells #[.int .i64 0,.int .i64 0,.int .i64 0,.slice (some ⟨W2.heap.size,0,none⟩) 1 1,.int .i64 0,.int .i64 0,.int .i64 0] 29 (0,0))∧W.heap[w.heap.size]? =some (.cells #[.int .i64 0,.int .i64 0,.int .i64 0,.slice none 0 0,.int .i64 0,.int .i64 0,.int .i64 0,.int .i64 0,.int .i64 0] 60 (0,0))∧Below W3.heap.size W3 W) ⟨by rw[hT];exact heap_alloc_new _ _,alc_off HZ3.out,(Below.refl _ _).alloc (Nat.le_refl _) _⟩ ?_
 rintro W4 ⟨ht,hz,hb⟩
 have HZ4:=hid hz
 have HB4:=hid hb
 have lT:=lt_blk ht
 obtain⟨t0,t1,t2,t3,t4,t5,t6⟩:=cells7 ht
 obtain⟨z0,z1,z2,z3,z4,z5,z6,z7,z8⟩:=cells9 hz
 have fz:=frees hz
 have lz:=lt_blk hz
 clear ht hz hb hT
 go_wp2_with fail
 generalize hWf:World.setCell _ _ _=Wf
 have hr:Wf.heap[w.heap.size]? =some (.cells #[.int .i64 0,.int .i64 0,.int .i64 0,.slice (some ⟨W2.heap.size,0,none⟩) 1 1,.int .i64 0,.int .i64 0,.int .i64 0,.int .i64 (o:Int),.int .i64 peer] 60 (0,0)):=by rw[←hWf];exact row9 HZ4.out rfl _ _ _ _ _ _ _ _ _
 have hg:W4.grownBy Wf (some w.heap.size):=by rw[←hWf];exact grown_store (grown_store (grown_store (grown_store (grown_store (grown_store (grown_store (grown_store (grown_set _ _ _ _) _ _) _ _) _ _) _ _) _ _) _ _) _ _) _ _
 clear hWf z0 z1 z2 z3 z4 z5 z6 z7 z8 fz t0 t1 t2 t3 t4 t5 t6
 have hbf:Below w.heap.size w Wf:=Below.grown (HB3.out.trans (HB4.out.mono hs3)) hg (by have:=HB4.out.size;omega) (fun k hk=>by cases hk;exact Nat.le_refl _)
 have hro:Wf.heap[W2.heap.size]? =some (.cells #[.int .i64 3,.slice A2 d.length c2] 111 (0,0)):=by
  rw[←HD4.out]
  exact(hg.block _ (by have:=HB4.out.size;omega) (fun e=>by have:=Option.some.inj e;omega)).trans ((HB4.out.block _ hs23).trans HR3.out)
 have ho4:=own_below HO3.out HB4.out
 have hof:=own_keep ho4 (fun k hk=>hg.block k (own_lt ho4 hk) (fun e=>by have h1:=Option.some.inj e;have:=own_le ho4 hk;omega))
 obtain⟨u0,u1,u2,u3,u4,u5,u6,u7,u8⟩:=cells9 hr
 have hlt:W2.heap.size<Wf.heap.size:=lt_blk hro
 have hfin:RNewP (o:Int) peer w (.returned (.tuple #[npV (newI (o:Int)) (.slice (some ⟨W2.heap.size,0,none⟩) 1 1) (o:Int) peer,.int .i64 0])) Wf:=⟨_,rfl,hbf,some ⟨W2.heap.size,0,none⟩,1,1,[⟨3,d,A2,c2⟩],rfl,one_at hro hlt (Nat.le_refl _) hof,rfl,Nat.le_refl _,HK.out⟩
 refine bodyPost_ret (v:=.tuple #[npV (newI (o:Int)) (.slice (some ⟨W2.heap.size,0,none⟩) 1 1) (o:Int) peer,.int .i64 0]) (by unfold npV newI;simp[results,Tryz.results38,go_sem,u0,u1,u2,u3,u4,u5,u6,u7,u8]) rfl ?_
 exact hfin
end Go.Proofs.YtfkgmbknfnhjoaaGreat
