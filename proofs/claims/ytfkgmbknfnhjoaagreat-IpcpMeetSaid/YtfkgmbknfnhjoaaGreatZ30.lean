/- Two controls that have each other's addresses: the memory of both. -/
import Derived.Test.YtfkgmbknfnhjoaaGreatZ10
import Derived.Test.YtfkgmbknfnhjoaaGreatQ54
import Derived.Test.YtfkgmbknfnhjoaaGreatZ21
namespace Go.Proofs.YtfkgmbknfnhjoaaGreat
open Go.RowKit
set_option linter.unusedSimpArgs false
set_option linter.unusedVariables false
set_option linter.ambiguousOpen false
open Ne (Rl Opt RulesAt areB wf64 answerO)
open Fs (av hasB)
theorem mine_packs {own peer:Int} {i:Nat} {p:Pk} (h1:inB own 1 4294967295=true) (h2:inB peer 1 4294967295=true) (ha:isB (mAu (cfI 3 2 4 5 peer) (askI own) i)=true) (hp:p.code=1∨p.code=2) (hl:Cp.encErr p.code p.id p.data.length=0):
  iPackO 3 2 4 5 (mAu (cfI 3 2 4 5 peer) (askI own) i) own peer p 1=(packO (cfI 3 2 4 5 peer) (mAu (cfI 3 2 4 5 peer) (askI own) i) p 1).1:=by
 unfold iPackO
 rw[if_pos ⟨fineI0 h1 h2 ha rfl,hl⟩,if_neg (by omega),if_pos (by rcases hp with h|h<;>rw[h]<;>rfl)]
theorem mPk_enc {x y:List Opt} {i j:Nat}: ∀p∈mPk x y i j,(p.code=1∨p.code=2)∧Cp.encErr p.code p.id p.data.length=0:=by
 intro p hp
 have h:=List.mem_of_mem_drop hp
 split at h<;>simp at h<;>(try rcases h with rfl|rfl)<;>(try subst h)
 ·exact⟨.inl rfl,enc_small 1 (by omega) (by omega)⟩
 ·exact⟨.inr rfl,enc_small 2 (by omega) (by omega)⟩
 ·exact⟨.inl rfl,enc_small 1 (by omega) (by omega)⟩
theorem takes_mine {own peer:Int} (h2:inB peer 1 4294967295=true):(answerO [ruleI peer] (askI peer) 0 4).1=2:=by
 rcases ans_cases h2 (askI peer) with⟨h,-⟩|⟨-,h⟩|⟨-,h,-⟩
 ·rw[h]
 ·exact absurd rfl h
 ·exact absurd rfl h
theorem meetI_step {own peer:Int} {i j:Nat} {p:Pk} {rest:List Pk} (h1:inB own 1 4294967295=true) (h2:inB peer 1 4294967295=true) (hok:mOk i j) (hp:mPk (askI own) (askI peer) i j=p::rest):
  ∃acts,iPackO 3 2 4 5 (mAu (cfI 3 2 4 5 peer) (askI own) i) own peer p 1=(mAu (cfI 3 2 4 5 peer) (askI own) (i+1),mOut (askI peer) i,acts)∧rest=mPk (askI own) (askI peer) (i+1) j∧mPk (askI peer) (askI own) j i++mOut (askI peer) i=mPk (askI peer) (askI own) j (i+1)∧mOk (i+1) j∧(mOut (askI peer) i).length≤1:=by
 have hx:(Op.encR (askI own)).2=0:=by rw[encI]
 have hy:(Op.encR (askI peer)).2=0:=by rw[encI]
 have hc:=confI0 h2
 obtain⟨acts,h3,h4⟩:=meet_step hok hp hc hx hy (takes_mine (own:=own) h2)
 obtain⟨h5,h6⟩:=mPk_enc (x:=askI own) (y:=askI peer) (i:=i) (j:=j) p (by rw[hp];exact List.mem_cons_self ..)
 exact⟨acts,by rw[mine_packs h1 h2 (mAu_is hc hx i) h5 h6,h3],h4⟩
structure MeetN (w W:World) (T U:Nat) (a:Au) (va:Value) (b:Au) (vb:Value) (o q:Int) (A1:Option Addr) (n1 c1:Nat) (P1:List Pe) (A2:Option Addr) (n2 c2:Nat) (P2:List Pe):Prop where
 ra:W.heap[T]? =some (.cells (npC a va o q) 60 (0,0))
 rb:W.heap[U]? =some (.cells (npC b vb q o) 60 (0,0))
 oa: ∃q,OptsO W q va a.ask
 ob: ∃q,OptsO W q vb b.ask
 t1:Tl W w.heap.size A1 n1 c1 P1
 t2:Tl W w.heap.size A2 n2 c2 P2
 ne: ∀g,tlB A1=some g→tlB A2≠some g
 tu:T≠U
 ht:w.heap.size≤T
 hu:w.heap.size≤U
 bel:Below w.heap.size w W
section
variable {w W W':World} {T U:Nat} {a b a':Au} {va vb v':Value} {o q:Int} {A1 A2:Option Addr} {n1 c1 n2 c2:Nat} {P1 P2:List Pe}
theorem MeetN.swap (h:MeetN w W T U a va b vb o q A1 n1 c1 P1 A2 n2 c2 P2):MeetN w W U T b vb a va q o A2 n2 c2 P2 A1 n1 c1 P1:=
 ⟨h.rb,h.ra,h.ob,h.oa,h.t2,h.t1,fun g h1 h2=>h.ne g h2 h1,fun e=>h.tu e.symm,h.hu,h.ht,h.bel⟩
theorem MeetN.below (h:MeetN w W T U a va b vb o q A1 n1 c1 P1 A2 n2 c2 P2) (hb:Below W.heap.size W W'):MeetN w W' T U a va b vb o q A1 n1 c1 P1 A2 n2 c2 P2:=by
 obtain⟨q1,o1⟩:=h.oa
 obtain⟨q2,o2⟩:=h.ob
 exact⟨(hb.block _ (lt_blk h.ra)).trans h.ra,(hb.block _ (lt_blk h.rb)).trans h.rb,⟨q1,o1.blw hb⟩,⟨q2,o2.blw hb⟩,h.t1.below hb,h.t2.below hb,h.ne,h.tu,h.ht,h.hu,h.bel.trans (hb.mono h.bel.size)⟩
theorem MeetN.storeA (h:MeetN w W T U a va b vb o q A1 n1 c1 P1 A2 n2 c2 P2) (ho: ∃q,OptsO W q v' a'.ask):MeetN w (set9i W T a' v' o q) T U a' v' b vb o q A1 n1 c1 P1 A2 n2 c2 P2:=by
 have hg:=set9i_grown W T a' v' o q
 obtain⟨q1,o1⟩:=ho
 obtain⟨q2,o2⟩:=h.ob
 exact⟨set9i_row h.ra rfl a' v' o q,(hg.block U (lt_blk h.rb) (fun e=>h.tu (by cases e;rfl))).trans h.rb,⟨q1,o1.oth hg h.ra (by decide) (by decide)⟩,⟨q2,o2.oth hg h.ra (by decide) (by decide)⟩,h.t1.stays hg (tl_off h.t1 h.ra (by decide)) h.ra (by decide),h.t2.stays hg (tl_off h.t2 h.ra (by decide)) h.ra (by decide),h.ne,h.tu,h.ht,h.hu,Below.grown h.bel hg h.bel.size (fun k hk=>by cases hk;exact h.ht)⟩
theorem MeetN.pop {e:Pe} {g f:Nat} (h:MeetN w W T U a va b vb o q (some ⟨g,f,none⟩) n1 c1 (e::P1) A2 n2 c2 P2):MeetN w W T U a va b vb o q (some ⟨g,f+3,none⟩) (n1-1) (c1-1) P1 A2 n2 c2 P2:=
 ⟨h.ra,h.rb,h.oa,h.ob,h.t1.pop,h.t2,h.ne,h.tu,h.ht,h.hu,h.bel⟩
theorem MeetN.pop1 {e:Pe} {g f:Nat} (h:MeetN w W T U a va b vb o q (some ⟨g,f,none⟩) n1 c1 (e::P1) A2 n2 c2 P2) (hc:c1=1):MeetN w W T U a va b vb o q (some ⟨g,f,none⟩) (n1-1) 0 P1 A2 n2 c2 P2:=
 ⟨h.ra,h.rb,h.oa,h.ob,h.t1.pop1 hc,h.t2,h.ne,h.tu,h.ht,h.hu,h.bel⟩
theorem MeetN.app {A':Option Addr} {n' c':Nat} {P':List Pe} (h:MeetN w W T U a va b vb o q A1 n1 c1 P1 A2 n2 c2 P2) (ht:Tl W' w.heap.size A' n' c' P') (hg:W.grownBy W' (tlB A2)) (hb:tlB A'=tlB A2∨ ∃g,tlB A'=some g∧W.heap.size≤g):
  MeetN w W' T U a va b vb o q A1 n1 c1 P1 A' n' c' P':=by
 have hk: ∀(k:Nat) (cur:Array Value) (e':TypeId),e'≠32→W.heap[k]? =some (.cells cur e' (0,0))→W'.heap[k]? =some (.cells cur e' (0,0)):=fun k cur e' hn hc=>(hg.block k (lt_blk hc) (fun e=>tl_off h.t2 hc hn e.symm)).trans hc
 have hrow:tlB A2=none∨ ∃g cur,tlB A2=some g∧W.heap[g]? =some (.cells cur 32 (0,0))∧w.heap.size≤g:=by
  rcases h.t2.row with⟨rfl,-⟩|⟨g,o,cur,rfl,hl,hgg,-⟩
  ·exact .inl rfl
  ·exact .inr ⟨g,cur,rfl,hgg,hl⟩
 have ho: ∀(q:Nat) (v:Value) (L:List Opt),OptsO W q v L→OptsO W' q v L:=fun q v L h1=>by
  rcases hrow with h0|⟨g,cur,h0,hgg,-⟩
  ·rw[h0] at hg
   obtain⟨E,h1,he⟩:=h1
   exact⟨E,⟨own_stays h1.1 hg (fun r e=>by cases e),fun x hx=>own_stays (h1.2 x hx) hg (fun r e=>by cases e)⟩,he⟩
  ·rw[h0] at hg
   exact h1.oth hg hgg (by decide) (by decide)
 obtain⟨q1,o1⟩:=h.oa
 obtain⟨q2,o2⟩:=h.ob
 refine⟨hk _ _ _ (by decide) h.ra,hk _ _ _ (by decide) h.rb,⟨q1,ho _ _ _ o1⟩,⟨q2,ho _ _ _ o2⟩,?_,ht,?_,h.tu,h.ht,h.hu,?_⟩
 ·rcases hrow with h0|⟨g,cur,h0,hgg,-⟩
  ·rw[h0] at hg
   refine⟨h.t1.len,h.t1.le,fun e he=>?_,?_⟩
   ·obtain⟨q,hd⟩:=h.t1.data e he
    exact⟨q,own_stays hd hg fun r e2=>by cases e2⟩
   ·rcases h.t1.row with h1|⟨g,o,cur,rfl,hlo,hgg,hs,hc⟩
    ·exact .inl h1
    ·exact .inr ⟨g,o,cur,rfl,hlo,(hg.block g (lt_blk hgg) (fun e2=>by cases e2)).trans hgg,hs,hc⟩
  ·rw[h0] at hg
   exact h.t1.stays hg (fun e=>h.ne g e h0) hgg (by decide)
 ·intro g h1 h2
  rcases hb with hb|⟨g2,hb,hge⟩
  ·rw[hb] at h2;exact h.ne g h1 h2
  ·rw[hb] at h2
   cases h2
   have:=h.t1.lt g h1
   omega
 ·refine Below.grown h.bel hg h.bel.size (fun k hk2=>?_)
  rcases hrow with h0|⟨g,cur,h0,hgg,hl⟩
  ·rw[h0] at hk2;cases hk2
  ·rw[h0] at hk2;cases hk2;exact hl
end
def MeetJ (w:World) (T U:Nat) (o q:Int) (s20 s23 i:Value) (W:World):Prop:=
 ∃(k j:Nat) (A1 A2 B1 B2:Option Addr) (n1 c1 n2 c2 m1 e1 m2 e2:Nat) (P1 P2:List Pe),s20=.slice A2 n2 c2∧s23=.slice A1 n1 c1∧i=.int .i64 ((k+j:Nat):Int)∧mOk k j∧P1.map Pe.o=mPk (askI o) (askI q) k j∧P2.map Pe.o=mPk (askI q) (askI o) j k∧
  MeetN w W T U (mAu (cfI 3 2 4 5 q) (askI o) k) (.slice B1 m1 e1) (mAu (cfI 3 2 4 5 o) (askI q) j) (.slice B2 m2 e2) o q A1 n1 c1 P1 A2 n2 c2 P2
end Go.Proofs.YtfkgmbknfnhjoaaGreat
