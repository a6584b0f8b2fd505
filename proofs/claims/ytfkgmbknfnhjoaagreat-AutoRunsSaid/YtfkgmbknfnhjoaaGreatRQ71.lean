/- Two automata side by side in one world: the program's and the reference's; the contracts said of plain automata. -/
import Derived.Test.YtfkgmbknfnhjoaaGreatRQ71a
import Derived.Test.YtfkgmbknfnhjoaaGreatRPS
import Derived.Test.YtfkgmbknfnhjoaaGreatRPZ
namespace Go.Proofs.YtfkgmbknfnhjoaaGreat
open Go.RowKit
set_option linter.unusedSimpArgs false
set_option linter.unusedVariables false
set_option linter.ambiguousOpen false
open Ne (Rl Opt RulesAt areB)
open Fs (av hasB)
theorem no_bytesA {a:Au} {A:Option Addr} {n m:Nat} (i:Nat) (x:UInt8):(auC a (.slice A n m))[i]?≠some (bv x):=no_bytes7 _ _ _ _ _ _ _ _ _ i x
structure Two (w W:World) (T U:Nat) (cc:Array Value) (a1:Au) (v1:Value) (a2:Au) (v2:Value):Prop where
 conf:W.heap[w.heap.size]? =some (.cells cc 24 (0,0))
 r1:W.heap[T]? =some (.cells (auC a1 v1) 29 (0,0))
 r2:W.heap[U]? =some (.cells (auC a2 v2) 29 (0,0))
 o1: ∃b,OptsO W b v1 a1.ask
 o2: ∃b,OptsR W b v2 a2.ask
 bel:Below w.heap.size w W
 t:w.heap.size<T
 u:T<U
theorem OptsR.form {W:World} {b:Nat} {v:Value} {L:List Opt} (h:OptsR W b v L): ∃A n c,v=.slice A n c:=by
 obtain⟨E,h,-⟩:=h
 obtain⟨A,c,rfl,-,-⟩:=ownsRow_form h
 exact⟨_,_,_,rfl⟩
section
variable {w W W':World} {T U:Nat} {cc:Array Value} {a1 a2 a':Au} {v1 v2 v':Value}
theorem Two.lt (h:Two w W T U cc a1 v1 a2 v2):U<W.heap.size:=lt_blk h.r2
theorem Two.below (h:Two w W T U cc a1 v1 a2 v2) (hb:Below W.heap.size W W'):Two w W' T U cc a1 v1 a2 v2:=by
 have hl:=h.lt
 have h1:=h.t
 have h2:=h.u
 obtain⟨b1,o1⟩:=h.o1
 obtain⟨b2,o2⟩:=h.o2
 exact⟨(hb.block _ (by omega)).trans h.conf,(hb.block _ (by omega)).trans h.r1,(hb.block _ (by omega)).trans h.r2,⟨b1,o1.below hb⟩,⟨b2,o2.below hb⟩,h.bel.trans (hb.mono h.bel.size),h1,h2⟩
theorem Two.off {X:Nat} {cur:Array Value} {e':TypeId} (h:Two w W T U cc a1 v1 a2 v2) (hg:W.grownBy W' (some X)) (hX:W.heap[X]? =some (.cells cur e' (0,0))) (hn: ∀(i:Nat) (x:UInt8),cur[i]?≠some (bv x)) (hu:U<X) (h1:e'≠111) (h2:e'≠5):Two w W' T U cc a1 v1 a2 v2:=by
 have g1:=h.t
 have g2:=h.u
 obtain⟨b1,o1⟩:=h.o1
 obtain⟨b2,o2⟩:=h.o2
 exact⟨(hg.block _ (lt_blk h.conf) (fun e=>by cases e;omega)).trans h.conf,(hg.block _ (lt_blk h.r1) (fun e=>by cases e;omega)).trans h.r1,(hg.block _ (lt_blk h.r2) (fun e=>by cases e;omega)).trans h.r2,⟨b1,o1.other hg hX h1 h2⟩,⟨b2,o2.other hg hX hn h1⟩,Below.grown h.bel hg h.bel.size (fun k hk=>by cases hk;omega),g1,g2⟩
theorem Two.store1 (h:Two w W T U cc a1 v1 a2 v2) (ho: ∃b,OptsO W b v' a'.ask):Two w (set7 W T a' v') T U cc a' v' a2 v2:=by
 have g1:=h.t
 have g2:=h.u
 have hg:=grown7 W T a' v'
 obtain⟨b0,o0⟩:=h.o1
 obtain⟨A,n,m,rfl⟩:=o0.form
 obtain⟨b1,o1⟩:=ho
 obtain⟨b2,o2⟩:=h.o2
 exact⟨set7_off h.conf (by omega),set7_row h.r1,set7_off h.r2 (by omega),⟨b1,o1.other hg h.r1 (by decide) (by decide)⟩,⟨b2,o2.other hg h.r1 no_bytesA (by decide)⟩,Below.grown h.bel hg h.bel.size (fun k hk=>by cases hk;omega),g1,g2⟩
theorem Two.store2 (h:Two w W T U cc a1 v1 a2 v2) (ho: ∃b,OptsR W b v' a'.ask):Two w (set7 W U a' v') T U cc a1 v1 a' v':=by
 have g1:=h.t
 have g2:=h.u
 have hg:=grown7 W U a' v'
 obtain⟨b0,o0⟩:=h.o2
 obtain⟨A,n,m,rfl⟩:=o0.form
 obtain⟨b1,o1⟩:=h.o1
 obtain⟨b2,o2⟩:=ho
 exact⟨set7_off h.conf (by omega),set7_off h.r1 (by omega),set7_row h.r2,⟨b1,o1.other hg h.r2 (by decide) (by decide)⟩,⟨b2,o2.other hg h.r2 no_bytesA (by decide)⟩,Below.grown h.bel hg h.bel.size (fun k hk=>by cases hk;omega),g1,g2⟩
theorem Two.prog {vo vd:Value} {out:List Pk} {acts:List Int} {q P:Nat} {rc:Array Value} (h:Two w W T U cc a1 v1 a2 v2) (hb:Below W.heap.size W W') (hO:OptsO W' q v' a'.ask) (hP:PksO W' q vo out) (hA:ActsO W' q vd acts) (hr:W.heap[P]? =some (.cells rc 32 (0,0))):
  Two w (set7 W' T a' v') T U cc a' v' a2 v2∧PksO (set7 W' T a' v') q vo out∧ActsO (set7 W' T a' v') q vd acts∧(set7 W' T a' v').heap[P]? =some (.cells rc 32 (0,0))∧W.heap.size≤(set7 W' T a' v').heap.size:=by
 have h2:=h.below hb
 have hg:=grown7 W' T a' v'
 have hr2:=(hb.block _ (lt_blk hr)).trans hr
 refine⟨h2.store1 ⟨q,hO⟩,hP.other hg h2.r1 (by decide) (by decide),hA.other hg h2.r1 (by decide),set7_off hr2 (fun e=>?_),Nat.le_trans hb.size hg.size⟩
 subst e
 rw[h2.r1] at hr2
 exact absurd (Obj.cells.inj (Option.some.inj hr2)).2.1 (by decide)
theorem Two.ref {vo vd wo wd:Value} {out:List Pk} {acts:List Int} {q q2 P:Nat} {rc:Array Value} (h:Two w W T U cc a1 v1 a2 v2) (hp:PksO W q vo out) (ha:ActsO W q vd acts) (hb:Below W.heap.size W W') (hO:(v'=v2∧a'.ask=a2.ask)∨OptsR W' q2 v' a'.ask) (hP:PksR W' q2 wo out) (hA:ActsO W' q2 wd acts):
  Two w (set7 W' U a' v') T U cc a1 v1 a' v'∧PksV (set7 W' U a' v') (set7 W' U a' v').heap.size vo out∧PksV (set7 W' U a' v') (set7 W' U a' v').heap.size wo out∧ActsV (set7 W' U a' v') (set7 W' U a' v').heap.size vd acts∧ActsV (set7 W' U a' v') (set7 W' U a' v').heap.size wd acts:=by
 have h2:=h.below hb
 have hg:=grown7 W' U a' v'
 obtain⟨b0,o0⟩:=h2.o2
 obtain⟨A,n,m,rfl⟩:=o0.form
 have ho: ∃b,OptsR W' b v' a'.ask:=by
  rcases hO with⟨rfl,he⟩|hO
  ·exact⟨b0,by rw[he];exact o0⟩
  ·exact⟨_,hO⟩
 exact⟨h2.store2 ho,((hp.below hb).other hg h2.r2 (by decide) (by decide)).v,(hP.other hg h2.r2 no_bytesA (by decide)).v,((ha.below hb).other hg h2.r2 (by decide)).v,(hA.other hg h2.r2 (by decide)).v⟩
theorem Two.v1s (h:Two w W T U cc a1 v1 a2 v2):OptsV W W.heap.size v1 a1.ask:=let ⟨_,o⟩:=h.o1;o.v
theorem Two.v2s (h:Two w W T U cc a1 v1 a2 v2):OptsV W W.heap.size v2 a2.ask:=let ⟨_,o⟩:=h.o2;o.v
end
section
variable (c:Cf) (Ar:Option Addr) (nr cr:Nat) (a:Au) (v:Value) (i:Pk) (Ai:Option Addr) (ni ci:Nat) (e tick:Int) (w:World) (B:Nat) (hB:B≤w.heap.size) (hR:RulesAt w B Ar c.rules) (hnr:nr=c.rules.length) (hlr:nr≤20) (ha:isB a=true) (hv:OptsV w B v a.ask)
include hB hR hnr hlr ha hv
omit ha in
theorem rtim_v:Calls Tryz.prog 17 #[.agg #[.slice Ar nr cr,.int .i64 c.mc,.int .i64 c.mt,.int .i64 c.mf,.int .i64 c.wt],auV a v,.int .i64 tick] w (RDoP (timO c a tick) v w):=by
 obtain⟨A,n,c',E,rfl,hE,hn,hc,he⟩:=hv
 have h:=rtimeout_any Ar A nr cr n c' c.rules c.mc c.mt c.mf c.wt a.st a.id a.req a.cnt a.tim a.nak tick E w B hB hR hnr (by omega) hE hn
 rw[he] at h
 exact h
omit hR hnr hlr ha in
theorem renc_v {A:Option Addr} {n m:Nat} (hv2:v=.slice A n m):Calls Tryz.prog 18 #[v] w (Op.EncP w a.ask):=by
 obtain⟨A,n,c',E,rfl,hE,hn,hc,he⟩:=hv
 have h:=Op.renc_any A n c' E w B hB hE hn
 rw[he] at h
 exact h
variable (hI:At w B Ai (i.data.map bv)) (hni:ni=i.data.length) (hci:ni≤ci) (hli:ni≤400000000)
include hI hni hci hli
omit ha in
theorem rdo_v:Calls Tryz.prog 15 #[.agg #[.slice Ar nr cr,.int .i64 c.mc,.int .i64 c.mt,.int .i64 c.mf,.int .i64 c.wt],auV a v,.int .i64 e,.agg #[.int .i64 i.code,.int .i64 i.id,.slice Ai ni ci],.agg #[.int .i64 i.code,.int .i64 i.id,.slice Ai ni ci],.int .i64 tick] w (RDoP (doO c a e i i tick) v w):=by
 obtain⟨A,n,c',E,rfl,hE,hn,hc,he⟩:=hv
 have h:=rdo_any Ar A Ai Ai nr cr n c' ni ci ni ci c.rules c.mc c.mt c.mf c.wt a.st a.id a.req a.cnt a.tim a.nak e i.code i.id i.code i.id tick E i.data i.data w B hB hR hnr (by omega) hE hn hI hni hci hli hI hni hci hli
 rw[he] at h
 exact h
theorem rpack_v:Calls Tryz.prog 20 #[.agg #[.slice Ar nr cr,.int .i64 c.mc,.int .i64 c.mt,.int .i64 c.mf,.int .i64 c.wt],auV a v,.agg #[.int .i64 i.code,.int .i64 i.id,.slice Ai ni ci],.int .i64 tick] w (RPackP (packO c a i tick) v a.ask w):=by
 obtain⟨A,n,c',E,rfl,hE,hn,hc,he⟩:=hv
 have hs:=is_small ha
 rw[←he] at hs
 have h:=rpack_any Ar A Ai nr cr n c' ni ci c.rules c.mc c.mt c.mf c.wt a.st a.id a.req a.cnt a.tim a.nak i.code i.id tick E i.data w B hB hR hnr (by omega) hE hn hc (by have:=hs.1;rw[List.length_map] at this;omega) hI hni hci hli
 rw[he] at h
 exact h
end
end Go.Proofs.YtfkgmbknfnhjoaaGreat
