/- PV Q47 FY PX Z8 Z9 -/
import Derived.Test.YtfkgmbknfnhjoaaGreatSPU
import Derived.Test.YtfkgmbknfnhjoaaGreatSPK
import Derived.Test.YtfkgmbknfnhjoaaGreatSQ46
import Derived.Test.YtfkgmbknfnhjoaaGreatSN4
import Derived.Test.YtfkgmbknfnhjoaaGreatSZ7
import Derived.Test.YtfkgmbknfnhjoaaGreatSZ5
set_option linter.all false
set_option linter.ambiguousOpen false
namespace Go.Proofs.YtfkgmbknfnhjoaaGreat
open Go.RowKit
open Ne (Rl bF aD bM)
open Fs (av hasB)
theorem Bu (c:Cf) (a:Au) (tick:Int):(mh c a tick).1.ask=a.ask:=by
 unfold mh
 split
 ·rfl
 ·exact fU ..
theorem F8 (v1 v2:Value) (l:List Pk) (w:World) (B:Nat) (hB:B≤w.heap.size) (h1:sU w B v1 l) (h2:sU w B v2 l) (hl:l.length≤1000000):
  Calls Tryz.prog 22 #[v1,v2] w fun x w'=>x=.returned (.bool true)∧Below w.heap.size w w':=by
 obtain⟨A1,n1,c1,P1,rfl,p1,hn1,hc1,e1⟩:=h1
 obtain⟨A2,n2,c2,P2,rfl,p2,hn2,hc2,e2⟩:=h2
 have:n1=l.length:=by rw[hn1,←e1,List.length_map]
 exact yT A1 A2 n1 n2 c1 c2 P1 P2 w B hB p1 p2 hn1 hn2 (e1.trans e2.symm) (by omega)
theorem Dy (v1 v2:Value) (l:List Int) (w:World) (B:Nat) (hB:B≤w.heap.size) (h1:lG w B v1 l) (h2:lG w B v2 l) (hl:l.length≤1000000):
  Calls Tryz.prog 23 #[v1,v2] w fun x w'=>x=.returned (.bool true)∧Below w.heap.size w w':=by
 obtain⟨A1,n1,c1,rfl,p1,hn1,hc1⟩:=h1
 obtain⟨A2,n2,c2,rfl,p2,hn2,hc2⟩:=h2
 exact Fs.Bg A1 A2 n1 n2 c1 c2 l w B hB p1 p2 hn1 hn2 (by omega)
theorem F4 (c:Cf) (inn ans:Pk) (tick:Int) (acts:List Int) (l:List Int) (s:Au×List Pk) (h1:s.2.length≤10) (h2:l.length≤3):(fO c inn ans tick acts s l).2.length≤13:=by
 have:=qI c inn ans tick acts l s
 omega
theorem nI (c:Cf) (a:Au) (e:Int) (inn ans:Pk) (tick:Int):(jo c a e inn ans tick).2.1.length≤13∧(jo c a e inn ans tick).2.2.length≤3:=by
 unfold jo
 split
 ·exact⟨F4 _ _ _ _ _ _ _ (by simp) (Fs.mK _ _),Fs.mK _ _⟩
 ·simp
theorem vB (c:Cf) (a:Au) (inn:Pk) (tick:Int) (h:a.ask.length≤1000):(eP c a inn tick).1.1.ask.length≤1000∧(eP c a inn tick).1.2.1.length≤13∧(eP c a inn tick).1.2.2.length≤3:=by
 unfold eP
 split
 ·exact⟨h,by simp,by simp⟩
 ·split
  ·exact⟨h,by simp,by simp⟩
  ·split
   ·exact⟨h,by simp,by simp⟩
   ·rename_i e ans next hw
    split
    ·exact⟨h,by simp,by simp⟩
    ·refine⟨?_,nI _ _ _ _ _ _⟩
     rw[fU]
     dsimp only
     obtain⟨-,-,h1,h2⟩:=mO hw
     by_cases he:e=10
     ·have:=(h2 he).1;omega
     ·rw[h1 he];exact h
theorem xM {c:Cf} {a:Au} {inn:Pk} {e:Int} {ans:Pk} {next:List bF} (ha:(Op.encR a.ask).2=0) (h:bK c a inn=some (e,ans,next)):(Op.encR next).2=0:=by
 unfold bK at h
 split at h
 ·unfold fV at h
  split at h
  ·cases h
  ·split at h
   ·cases h
   ·cases h;exact ha
 ·split at h
  ·split at h
   ·cases h;exact ha
   ·cases h
  ·split at h
   ·unfold cZ at h
    split at h
    ·cases h
    ·split at h
     ·rename_i h5
      cases h
      exact h5.2
     ·cases h
   ·split at h
    ·cases h;exact ha
    ·split at h
     ·cases h;exact ha
     ·split at h
      ·cases h
      ·split at h
       ·cases h;exact ha
       ·cases h;exact ha
theorem I6 {c:Cf} {a:Au} {inn:Pk} {tick:Int} (ha:fA a=true):fA (eP c a inn tick).1.1=true:=by
 unfold eP
 split
 ·exact ha
 ·split
  ·exact ha
  ·split
   ·exact ha
   ·rename_i e ans next hw
    split
    ·exact ha
    ·exact uL (Ll ha (xM (rM ha).2.2.2.2.2.1 hw)) _ _ _
end Go.Proofs.YtfkgmbknfnhjoaaGreat

namespace Go.Proofs.YtfkgmbknfnhjoaaGreat
open Go.RowKit
section
variable {P:Program} {ops:Array Oper} {Q:Exit→Act→World→Prop} {md:Region.Mode} {S:World→Prop} {z:Nat}
theorem Ik {listed:Array Bool} {i b:Nat} (h:i≠b):(listed.setIfInBounds i true).getD b true=listed.getD b true:=by
 rw[Array.getD_eq_getD_getElem?,Array.getElem?_setIfInBounds_ne h,←Array.getD_eq_getD_getElem?]
theorem wD {i:Nat} {oi:Oper} {v:Value} (Bs:List Nat) (hzB:z∈Bs) (hz:i≠z) (hi:ops[i]? =some oi) (hsel: ∀(j:Nat) (o:Oper) cs b,ops[j]? =some o→o.op≠ .select cs b)
  (hQ: ∀c a w,Q (.panic c) (a.put oi.dst v) w→Q (.panic c) a w) (hB: ∀b∈Bs,∃c,(c=i∨c∈Bs)∧mM md ops b c=true):
  ∀(fuel:Nat) (listed:Array Bool) (a:Act) (w:World),
   (∀b∈Bs,listed.getD b true=false)→
   (∀j oj,ops[j]? =some oj→j≠i→listed.getD j true=false→(∀e∈oj.after,Region.binds md e=true→e.on≠i)→oi.apart ops oj=true)→
   i∈Region.ready md ops listed→YieldsIf P ops S oi v a→S w→SC z S listed w→
   eF P md ops Q z S fuel (listed.setIfInBounds i true) (a.put oi.dst v) w→eF P md ops Q z S (fuel+1) listed a w:=by
 intro fuel
 induction fuel with
 |zero=>
  intro listed a w hc _ hr hy hT hS H
  refine⟨fun h=>(by rw[h] at hr;cases hr),fun j hj=>?_⟩
  by_cases hji:j=i
  ·subst hji;exact hy.wpOp hi hT ⟨hS.set hz,H⟩
  ·have:=ready_mono hj hji
   rw[H.1] at this
   cases this
 |succ fuel ih=>
  intro listed a w hc hfree hr hy hT hS H
  refine⟨fun h=>(by rw[h] at hr;cases hr),fun j hj=>?_⟩
  by_cases hji:j=i
  ·subst hji;exact hy.wpOp hi hT ⟨hS.set hz,H⟩
  ·have h1:=H.2 j (ready_mono hj hji)
   obtain⟨hjun,oj,hoj,hall⟩:=mem_ready.1 hj
   have Pz: ∀c,listed.getD c true=false→ ∀e∈oj.after,Region.binds md e=true→e.on≠c:=fun c h0 e he hb heq=>by
    have h1:=hall e he hb
    rw[heq] at h1
    rcases Nat.lt_or_ge c listed.size with h'|h'
    ·simp[h'] at h0 h1;rw[h0] at h1;cases h1
    ·simp[Array.getElem?_eq_none h'] at h1
   have hnot:=Pz i (mem_ready.1 hr).1
   have hjB:j∉Bs:=fun hjb=>by
    obtain⟨c,hcc,hw⟩:=hB j hjb
    obtain⟨ed,he,hb,ho⟩:=Bw hw hoj
    rcases hcc with rfl|hcb
    ·exact hnot ed he hb ho
    ·exact Pz c (hc c hcb) ed he hb ho
   have h2:=wpOp_putIf hoj (hfree j oj hoj hji hjun hnot) (fun cs b=>hsel i oi cs b hi) (fun cs b=>hsel j oj cs b hoj) hQ hy h1
   have hfree': ∀k ok,ops[k]? =some ok→k≠i→(listed.setIfInBounds j true).getD k true=false→
     (∀e∈ok.after,Region.binds md e=true→e.on≠i)→oi.apart ops ok=true:=fun k ok hk hki hun hno=>by
    refine hfree k ok hk hki ?_ hno
    by_cases hjk:j=k
    ·subst hjk;exact hjun
    ·rw[getD_set_ne true hjk] at hun;exact hun
   have hback: ∀w',SC z S ((listed.setIfInBounds i true).setIfInBounds j true) w'→SC z S (listed.setIfInBounds j true) w':=fun w' h4 h5=>h4 (by
    rw[Array.setIfInBounds_comm _ _ (Ne.symm hji),oF hz];exact h5)
   have hc': ∀b∈Bs,(listed.setIfInBounds j true).getD b true=false:=fun b hb=>by
    have hjb:j≠b:=fun e=>hjB (by rw[e];exact hb)
    rw[Ik hjb];exact hc b hb
   refine wpOp_mono (fun a' w' h3=>⟨hback w' h3.2.1,ih (listed.setIfInBounds j true) a' w' hc' hfree' (ready_mono hr (Ne.symm hji)) h3.1 (hback w' h3.2.1 (hc' z hzB)) (hback w' h3.2.1) ?_⟩) h2
   rw[Array.setIfInBounds_comm _ _ hji]
   exact h3.2.2
def chainB (md:Region.Mode) (ops:Array Oper) (listed:Array Bool) (i z:Nat) (Bs:List Nat):Bool:=Bs.contains z&&(decide (i≠z)&&Bs.all fun b=> !listed.getD b true&&(mM md ops b i||Bs.any fun c=>mM md ops b c))
theorem Xm {i:Nat} {oi:Oper} {v:Value} {fuel:Nat} {listed:Array Bool} {a:Act} {w:World} (Bs:List Nat) (hi:ops[i]? =some oi)
  (hs:Region.noSelect ops=true) (hf:Region.free md ops listed i=true) (hr:(Region.ready md ops listed).contains i=true) (hw:chainB md ops listed i z Bs=true)
  (hQ: ∀c a w,Q (.panic c) (a.put oi.dst v) w→Q (.panic c) a w) (hS:S w) (hg:Region.wanted oi (yielded ops a.tmps)=true) (hy: ∀w,S w→(execOp a.eval oi).run P w=.ok (.value v) w)
  (h:eF P md ops Q z S fuel (listed.setIfInBounds i true) (a.put oi.dst v) w):eF P md ops Q z S (fuel+1) listed a w:=by
 unfold chainB at hw
 simp only[Bool.and_eq_true,List.contains_eq_mem,decide_eq_true_eq,List.all_eq_true,Bool.not_eq_true',Bool.or_eq_true,List.any_eq_true] at hw
 obtain⟨h1,h2,h3⟩:=hw
 exact wD Bs h1 h2 hi (Region.noSelect_spec hs) hQ (fun b hb=>by
  rcases (h3 b hb).2 with h4|⟨c,h4,h5⟩
  ·exact⟨i,.inl rfl,h4⟩
  ·exact⟨c,.inr h4,h5⟩) fuel listed a w (fun b hb=>(h3 b hb).1) (Region.free_spec hi hf) (by simpa using hr) (.inl ⟨hg,hy⟩) hS (fun _=>hS) h
theorem tkT (i:Nat) (Bs:List Nat) {oi:Oper} {v:Value} {fuel:Nat} {listed:Array Bool} {a:Act} {w:World} (hS:S w) (hy: ∀w,S w→(execOp a.eval oi).run P w=.ok (.value v) w) (h:eF P md ops Q z S fuel (listed.setIfInBounds i true) (a.put oi.dst v) w) (hi:ops[i]? =some oi:=by rfl)
  (hs:Region.noSelect ops=true:=by as_aux_lemma=>kernel_rfl) (hf:Region.free md ops listed i=true:=by as_aux_lemma=>kernel_rfl) (hr:(Region.ready md ops listed).contains i=true:=by as_aux_lemma=>kernel_rfl) (hw:chainB md ops listed i z Bs=true:=by as_aux_lemma=>kernel_rfl)
  (hQ: ∀c a w,Q (.panic c) (a.put oi.dst v) w→Q (.panic c) a w:=by exact fun _ _ _ h=>h) (hg:Region.wanted oi (yielded ops a.tmps)=true:=by rfl):eF P md ops Q z S (fuel+1) listed a w:=Xm Bs hi hs hf hr hw hQ hS hg hy h
end
end Go.Proofs.YtfkgmbknfnhjoaaGreat

namespace Go.Proofs.YtfkgmbknfnhjoaaGreat.Ne
open Go.RowKit
end Go.Proofs.YtfkgmbknfnhjoaaGreat.Ne

namespace Go.Proofs.YtfkgmbknfnhjoaaGreat
open Go.RowKit
open Ne (Rl bF aD bM aS)
open Fs (av hasB)
theorem Hr {n:Int} (h0:0≤n) (h1:n≤1000):0≤dec n∧dec n≤1000:=by unfold dec;split<;>omega
end Go.Proofs.YtfkgmbknfnhjoaaGreat

namespace Go.Proofs.YtfkgmbknfnhjoaaGreat
open Go.RowKit
open Ne (Rl bF aD bM dJ)
open Fs (av hasB)
theorem YT {peer:Int} (h:bC peer 1 4294967295=true):bM [dX peer]=true:=by
 have hp:=rG h
 unfold bM Ne.nN
 simp only[List.length_cons,List.length_nil,Nat.zero_add]
 rw[show List.range 1=[0] from rfl]
 have hl:Ne.lim 4=4294967296:=by rfl
 simp[Ne.u_,Ne.mF,Rl.ok,Ne.okB,Ne.preB,Ne.lV,Ne.eG,hl,Ne.dG,dX]
 omega
theorem Wp {mc mt mf wt peer:Int} (h:bC peer 1 4294967295=true) (h1:bC mc 1 1000=true) (h2:bC mt 1 1000=true) (h3:bC mf 0 1000=true) (h4:bC wt 1 1048576=true):dA (vY mc mt mf wt peer)=true:=by
 unfold dA vY
 simp only[YT h,h1,h2,h3,h4,Bool.and_self]
theorem Ho {peer:Int} (h:bC peer 1 4294967295=true):dA (vY 3 2 4 5 peer)=true:=Wp h rfl rfl rfl rfl
theorem WY {own:Int} {s i r c t k:Int} (h:fF ⟨s,i,r,fH own,c,t,k⟩=true) (ht:oN ⟨s,i,r,fH own,c,t,k⟩=true):fA ⟨s,i,r,fH own,c,t,k⟩=true:=by
 unfold fA
 rw[h,ht]
 dsimp only
 rw[encI]
 rfl
theorem ZV {own peer:Int} {a:Au} (h1:bC own 1 4294967295=true) (h2:bC peer 1 4294967295=true) (ha:fA a=true):rO 3 2 4 5 a own peer=true:=by
 unfold rO
 rw[h1,h2,Ho h2,ha]
 rfl
theorem Ii {own peer tick:Int} {a:Au} (h1:bC own 1 4294967295=true) (h2:bC peer 1 4294967295=true) (ha:fA a=true) (ht:bC tick 0 1099511627776=true):iD 3 2 4 5 a own peer tick=true:=by
 unfold iD
 rw[ZV h1 h2 ha,ht]
 rfl
theorem Ih {peer tick:Int} {a:Au} (h2:bC peer 1 4294967295=true) (ha:fA a=true) (ht:bC tick 0 1099511627776=true):dn (vY 3 2 4 5 peer) a tick=true:=by
 unfold dn
 rw[Ho h2,ha,ht]
 rfl
def JU (own:Int):Au:=⟨6,1,1,fH own,2,5,0⟩
theorem UC {own peer:Int} (h1:bC own 1 4294967295=true) (h2:bC peer 1 4294967295=true):iQ 3 2 4 5 (tq own) own peer 3 0=(⟨1,0,0,fH own,0,0,0⟩,[],Fs.aT 3 0):=by
 have ha:fA (tq own)=true:=WY rfl rfl
 unfold iQ
 rw[if_pos ⟨Ii h1 h2 ha rfl,rfl⟩]
 unfold jo
 rw[if_pos ⟨Ih h2 ha rfl,by rfl⟩,if_neg (by unfold tq;dsimp only;decide)]
 rfl
theorem Z9 {own peer:Int} (h1:bC own 1 4294967295=true) (h2:bC peer 1 4294967295=true):iQ 3 2 4 5 ⟨1,0,0,fH own,0,0,0⟩ own peer 1 0=(JU own,[⟨1,1,[3,6]++bX own.toNat 4⟩],Fs.aT 1 1):=by
 have ha:fA ⟨1,0,0,fH own,0,0,0⟩=true:=WY rfl rfl
 unfold iQ
 rw[if_pos ⟨Ii h1 h2 ha rfl,rfl⟩]
 unfold jo
 rw[if_pos ⟨Ih h2 ha rfl,by rfl⟩,if_pos (by first|rfl|decide)]
 have he:=encI own
 rw[show([3,6]++bX own.toNat 4:List UInt8)=(Op.encR (fH own)).1 by rw[he]]
 rfl
end Go.Proofs.YtfkgmbknfnhjoaaGreat

set_option maxHeartbeats 8000000
namespace Go.Proofs.YtfkgmbknfnhjoaaGreat
open Lib (hid)
open Go.RowKit
open Ne (Rl bF aD bM dJ)
open Fs (av hasB)
theorem Ae (w:World):Calls Tryz.prog 28 #[] w fun x w'=>x=.returned (.agg #[.int .i64 1492,.int .i64 3,.int .i64 2,.int .i64 4,.int .i64 5,.int .i64 0,.int .i64 1])∧Below w.heap.size w w':=by
 go_enter Tryz.func28,Tryz.ntmps28
 go_wp2_with fail
 exact bodyPost_ret (v:=.agg #[.int .i64 1492,.int .i64 3,.int .i64 2,.int .i64 4,.int .i64 5,.int .i64 0,.int .i64 1]) (by simp[results,Tryz.results28,go_sem]) rfl ⟨rfl,by exact aA⟩
theorem bA.opened {W:World} {b:Nat} {A:Option Addr} {n c:Nat} {L:List bF} (h:bA W b (.slice A n c) L): ∃E,aJ W W.heap.size A E∧n=E.length∧n≤c∧E.map aH.o=L:=by
 obtain⟨E,hE,he⟩:=h
 obtain⟨A5,c5,hv5,CF,-⟩:=ownsRow_form hE.1
 cases hv5
 exact⟨E,hE.at,rfl,CF,he⟩
theorem qZ {E:List aH} {own:Int} (h:E.map aH.o=fH own):E.length=1∧ ∀e∈E,e.d.length=4:=by
 have h1:=congrArg List.length h
 rw[List.length_map] at h1
 refine⟨h1,fun e he=>?_⟩
 have h2:e.o∈fH own:=by rw[←h];exact List.mem_map_of_mem he
 unfold fH at h2
 simp only[List.mem_singleton] at h2
 have h3:=congrArg (fun x=>x.2.length) h2
 simpa[aH.o,aP] using h3
def SG (a:Au) (va:Value) (own peer:Int):Array Value:=#[.int .i64 a.st,.int .i64 a.id,.int .i64 a.req,va,.int .i64 a.cnt,.int .i64 a.ay,.int .i64 a.au,.int .i64 own,.int .i64 peer]
def lX (W:World) (X:Nat) (a:Au) (va:Value) (own peer:Int):World:=
 ((((((((W.setCell ⟨X,0,none⟩ (.int .i64 a.st)).setCell ⟨X,1,none⟩ (.int .i64 a.id)).setCell ⟨X,2,none⟩ (.int .i64 a.req)).setCell ⟨X,3,none⟩ va).setCell ⟨X,4,none⟩ (.int .i64 a.cnt)).setCell ⟨X,5,none⟩ (.int .i64 a.ay)).setCell ⟨X,6,none⟩ (.int .i64 a.au)).setCell ⟨X,7,none⟩ (.int .i64 own)).setCell ⟨X,8,none⟩ (.int .i64 peer)
theorem oD {W:World} {X:Nat} {cs:Array Value} (h:W.heap[X]? =some (.cells cs 60 (0,0))) (hc:cs.size=9) (a:Au) (va:Value) (own peer:Int):(lX W X a va own peer).heap[X]? =some (.cells (SG a va own peer) 60 (0,0)):=rR h hc _ _ _ _ _ _ _ _ _
theorem kX (W:World) (X:Nat) (a:Au) (va:Value) (own peer:Int):W.grownBy (lX W X a va own peer) (some X):=
 aM (aM (aM (aM (aM (aM (aM (aM (bV _ _ _ _) _ _) _ _) _ _) _ _) _ _) _ _) _ _) _ _
theorem xD {w W W1:World} {X:Nat} {a:Au} {v:Value} {own peer:Int} {cs:Array Value} (hb:Below W.heap.size W W1) (hw:Below w.heap.size w W) (hr:W.heap[X]? =some (.cells cs 60 (0,0))) (hc:cs.size=9) (hX:w.heap.size≤X) (ho:bA W1 W.heap.size v a.ask):
  (lX W1 X a v own peer).heap[X]? =some (.cells (SG a v own peer) 60 (0,0))∧Below w.heap.size w (lX W1 X a v own peer)∧bA (lX W1 X a v own peer) W.heap.size v a.ask∧W1.grownBy (lX W1 X a v own peer) (some X):=by
 have hr1:=(hb.block _ (aj hr)).trans hr
 have hg:=kX W1 X a v own peer
 exact⟨oD hr1 hc _ _ _ _,Below.grown (hw.trans (hb.mono hw.size)) hg (aaF hw.size hb.size) (fun k hk=>by cases hk;exact hX),ho.zx hg hr1 (by decide) (by decide),hg⟩
def UpP (own peer:Int) (w:World) (x:Ending) (w':World):Prop:=
 ∃va vo,x=.returned (.tuple #[iH (JU own) va own peer,vo,.bool true])∧Below w.heap.size w w'∧bA w' w.heap.size va (fH own)∧dP w' w.heap.size vo [⟨1,1,[3,6]++bX own.toNat 4⟩]
set_option maxRecDepth 100000 in
theorem UR (own peer:Int) (w:World) (h1:bC own 1 4294967295=true) (h2:bC peer 1 4294967295=true):Calls Tryz.prog 27 #[.agg #[.int .i64 1492,.int .i64 3,.int .i64 2,.int .i64 4,.int .i64 5,.int .i64 0,.int .i64 1],.int .i64 own,.int .i64 peer] w (UpP own peer w):=by
 have hwf:dJ peer:=by have:=rG h2;unfold dJ;omega
 have OZ:=hid (UC h1 h2)
 have HUP:=hid (Z9 h1 h2)
 have H1:=hid h1
 have H2:=hid h2
 clear h1 h2
 go_enter Tryz.func27,Tryz.ntmps27
 go_upto_region 1 with(fail)
 refine bY (fun W=>W.heap[w.heap.size]? =some (.cells #[.int .i64 1492,.int .i64 3,.int .i64 2,.int .i64 4,.int .i64 5,.int .i64 0,.int .i64 1] 64 (0,0))∧W.heap[w.heap.size+1]? =some (.cells #[.int .i64 0,.int .i64 0,.int .i64 0,.slice none 0 0,.int .i64 0,.int .i64 0,.int .i64 0,.int .i64 0,.int .i64 0] 60 (0,0))∧Below w.heap.size w W) ⟨by exact hpa,by exact hpa,by exact aA⟩ ?_
 rintro W1 ⟨hc,hz,hb⟩
 have zi:=hid hc
 have HZ1:=hid hz
 have HB1:=hid hb
 have lc:=aj hc
 have lz:=aj hz
 have hs1:=hb.size
 clear hc hz hb
 go_wp2_with fail
 refine(Az own peer _ H1.out H2.out).mono ?_
 unfold Tz
 rintro x W2 ⟨va,rfl,hb,ho⟩
 obtain⟨A2,n2,c2,rfl⟩:=ho.form'
 unfold iH tq
 dsimp only
 have HB2:=hid (HB1.out.trans (hb.mono hs1))
 have hs2:=HB2.out.size
 have xR:=hid ((hb.block _ lc).trans zi.out)
 have HZ2:=hid ((hb.block _ lz).trans HZ1.out)
 have j_:=hid ho
 have hlt2:w.heap.size+1+1≤W2.heap.size:=by have:=hb.size;omega
 clear ho hb lc lz
 go_upto_region 2 with(fail)
 refine bY (fun W=>W.heap[w.heap.size]? =some (.cells #[.int .i64 1492,.int .i64 3,.int .i64 2,.int .i64 4,.int .i64 5,.int .i64 0,.int .i64 1] 64 (0,0))∧W.heap[w.heap.size+1]? =some (.cells #[.int .i64 0,.int .i64 0,.int .i64 0,.slice none 0 0,.int .i64 0,.int .i64 0,.int .i64 0,.int .i64 0,.int .i64 0] 60 (0,0))∧W.heap[W2.heap.size]? =some (.cells (SG (tq own) (.slice A2 n2 c2) own peer) 60 (0,0))∧Below w.heap.size w W∧bA W W1.heap.size (.slice A2 n2 c2) (fH own)) ⟨by exact kP xR.out,by exact kP HZ2.out,by exact heap_alloc_new _ _,by exact Below.alloc HB2.out hs2 _,by exact j_.out.vW ((Below.refl _ _).alloc (aaE _) _)⟩ ?_
 rintro W4 ⟨hc,hz,hn,hb,ho⟩
 have Vb:=hid hc
 have xV:=hid hz
 have wL:=hid hn
 have fu:=hid hb
 have hs4:=hb.size
 have lc4:=aj hc
 have lz4:=aj hz
 have ln4:=aj hn
 obtain⟨c0,c1,YX,c3,c4,c5,c6⟩:=aG hc
 obtain⟨n0,n1,NS,n3,n4,n5,n6,n7,n8⟩:=aL (show W4.heap[W2.heap.size]? =some (.cells #[.int .i64 0,.int .i64 0,.int .i64 0,.slice A2 n2 c2,.int .i64 0,.int .i64 0,.int .i64 0,.int .i64 own,.int .i64 peer] 60 (0,0)) from hn)
 have fn:=frees hn
 have aag:=hid ho
 obtain⟨E4,hE,hn,hcc,he⟩:=ho.opened
 have rX:=hid hE
 have VT:=hid hn
 have Yv:=hid he
 have KA:=hid (qZ he)
 clear hc hz hn hb ho hE he
 go_wp2_with fail
 refine(yJ 1492 3 2 4 5 0 1 0 0 0 0 0 0 own peer A2 n2 c2 3 0 E4 (fH own) Yv.out _ W4.heap.size (aaE _) rX.out VT.out (by have:=KA.out.1;have:=VT.out;omega) (fun e he=>by have:=KA.out.2 e he;omega) hwf).mono ?_
 rw[show iQ 3 2 4 5 ⟨0,0,0,fH own,0,0,0⟩ own peer 3 0=_ from OZ.out]
 unfold lg
 rintro x Wk ⟨va,vo,vd,rfl,hb,ho,hp,ha⟩
 obtain⟨A5,U7,U6,rfl⟩:=ho.form'
 obtain⟨A6,An6,Ac6,rfl⟩:=hp.form'
 obtain⟨A7,An7,Ac7,rfl⟩:=ha.form'
 unfold iH
 dsimp only at ho hp ha ⊢
 clear c0 c1 YX c3 c4 c5 c6 n0 n1 NS n3 n4 n5 n6 n7 n8 fn
 have hnk:=(hb.block _ ln4).trans wL.out
 obtain⟨n0,n1,NS,n3,n4,n5,n6,n7,n8⟩:=aL (show Wk.heap[W2.heap.size]? =some (.cells #[.int .i64 0,.int .i64 0,.int .i64 0,.slice A2 n2 c2,.int .i64 0,.int .i64 0,.int .i64 0,.int .i64 own,.int .i64 peer] 60 (0,0)) from hnk)
 have fn:=frees hnk
 have ZP:=aj hnk
 have J3:=hid hb
 have jU:=hid ho
 have GL:=hid hp
 clear hb ho hp ha hnk
 go_upto_region 3 with(fail)
 generalize hWf:World.setCell _ _ _=W5
 have hst:lX Wk W2.heap.size ⟨1,0,0,fH own,0,0,0⟩ (.slice A5 U7 U6) own peer=W5:=hWf
 have h5:=xD (own:=own) (peer:=peer) (a:=⟨1,0,0,fH own,0,0,0⟩) J3.out fu.out wL.out rfl hs2 jU.out
 rw[hst] at h5
 obtain⟨sW,hb5,lN,hg5⟩:=h5
 clear hst hWf n0 n1 NS n3 n4 n5 n6 n7 n8 fn
 refine bY (fun W=>W.heap[w.heap.size]? =some (.cells #[.int .i64 1492,.int .i64 3,.int .i64 2,.int .i64 4,.int .i64 5,.int .i64 0,.int .i64 1] 64 (0,0))∧W.heap[w.heap.size+1]? =some (.cells #[.int .i64 0,.int .i64 0,.int .i64 0,.slice none 0 0,.int .i64 0,.int .i64 0,.int .i64 0,.int .i64 0,.int .i64 0] 60 (0,0))∧W.heap[W2.heap.size]? =some (.cells (SG ⟨1,0,0,fH own,0,0,0⟩ (.slice A5 U7 U6) own peer) 60 (0,0))∧Below w.heap.size w W∧bA W W4.heap.size (.slice A5 U7 U6) (fH own)) ⟨(hg5.block _ (by have:=J3.out.size;omega) (by simp;omega)).trans ((J3.out.block _ lc4).trans Vb.out),(hg5.block _ (by have:=J3.out.size;omega) (by simp;omega)).trans ((J3.out.block _ lz4).trans xV.out),sW,hb5,lN⟩ ?_
 clear sW hb5 lN hg5 ZP
 rintro W5 ⟨hc,hz,hn,hb,ho⟩
 have Xw:=hid hc
 have uj:=hid hz
 have zN:=hid hn
 have dO:=hid hb
 have hs5:=hb.size
 have lc5:=aj hc
 have lz5:=aj hz
 have ln5:=aj hn
 obtain⟨c0,c1,YX,c3,c4,c5,c6⟩:=aG hc
 obtain⟨n0,n1,NS,n3,n4,n5,n6,n7,n8⟩:=aL (show W5.heap[W2.heap.size]? =some (.cells #[.int .i64 1,.int .i64 0,.int .i64 0,.slice A5 U7 U6,.int .i64 0,.int .i64 0,.int .i64 0,.int .i64 own,.int .i64 peer] 60 (0,0)) from hn)
 have fn:=frees hn
 have aah:=hid ho
 obtain⟨E5,hE,hn,hcc,he⟩:=ho.opened
 have zl:=hid hE
 have VU:=hid hn
 have Yw:=hid he
 have VL:=hid (qZ he)
 clear hc hz hn hb ho hE he
 go_wp2_with fail
 refine(yJ 1492 3 2 4 5 0 1 1 0 0 0 0 0 own peer A5 U7 U6 1 0 E5 (fH own) Yw.out _ W5.heap.size (aaE _) zl.out VU.out (by have:=VL.out.1;have:=VU.out;omega) (fun e he=>by have:=VL.out.2 e he;omega) hwf).mono ?_
 rw[show iQ 3 2 4 5 ⟨1,0,0,fH own,0,0,0⟩ own peer 1 0=_ from HUP.out]
 unfold lg
 rintro x Wk ⟨va,vo,vd,rfl,hb,ho,hp,ha⟩
 obtain⟨B5,S_,S9,rfl⟩:=ho.form'
 obtain⟨B6,Bn6,Bc6,rfl⟩:=hp.form'
 obtain⟨B7,Bn7,Bc7,rfl⟩:=ha.form'
 unfold iH
 dsimp only at ho hp ha ⊢
 clear c0 c1 YX c3 c4 c5 c6 n0 n1 NS n3 n4 n5 n6 n7 n8 fn
 have hnk:=(hb.block _ ln5).trans zN.out
 obtain⟨n0,n1,NS,n3,n4,n5,n6,n7,n8⟩:=aL (show Wk.heap[W2.heap.size]? =some (.cells #[.int .i64 1,.int .i64 0,.int .i64 0,.slice A5 U7 U6,.int .i64 0,.int .i64 0,.int .i64 0,.int .i64 own,.int .i64 peer] 60 (0,0)) from hnk)
 have fn:=frees hnk
 have ZP:=aj hnk
 have J3:=hid hb
 have jU:=hid ho
 have GL:=hid hp
 clear hb ho hp ha hnk
 go_upto_region 4 with(fail)
 generalize hWf:World.setCell _ _ _=W6
 have hst:lX Wk W2.heap.size (JU own) (.slice B5 S_ S9) own peer=W6:=hWf
 have h5:=xD (own:=own) (peer:=peer) (a:=JU own) J3.out dO.out zN.out rfl hs2 jU.out
 rw[hst] at h5
 obtain⟨vS,hb6,Vs,BL⟩:=h5
 have Vj:=hid ((BL.block _ (by have:=J3.out.size;omega) (by simp;omega)).trans ((J3.out.block _ lz5).trans uj.out))
 have J_:=(J3.out.block _ ln5).trans zN.out
 have wN:=hid (GL.out.zx BL J_ (by decide) (by decide))
 have KH:=hid Vs
 have lC:=hid hb6
 have hs6:=hb6.size
 clear hst hWf n0 n1 NS n3 n4 n5 n6 n7 n8 fn J_ BL ZP
 unfold JU at vS
 obtain⟨n0,n1,NS,n3,n4,n5,n6,n7,n8⟩:=aL (show W6.heap[W2.heap.size]? =some (.cells #[.int .i64 6,.int .i64 1,.int .i64 1,.slice B5 S_ S9,.int .i64 2,.int .i64 5,.int .i64 0,.int .i64 own,.int .i64 peer] 60 (0,0)) from vS)
 have ln6:=aj vS
 obtain⟨z0,z1,z2,z3,z4,z5,z6,z7,z8⟩:=aL Vj.out
 have fz:=frees Vj.out
 have lz6:=aj Vj.out
 clear vS hb6 Vs
 go_wp2_with fail
 generalize hWf:World.setCell _ _ _=W7
 have hst:lX W6 (w.heap.size+1) (JU own) (.slice B5 S_ S9) own peer=W7:=hWf
 have vZ:=kX W6 (w.heap.size+1) (JU own) (.slice B5 S_ S9) own peer
 have hr7:=oD Vj.out rfl (JU own) (.slice B5 S_ S9) own peer
 rw[hst] at vZ hr7
 clear hst hWf n0 n1 NS n3 n4 n5 n6 n7 n8 z0 z1 z2 z3 z4 z5 z6 z7 z8 fz
 obtain⟨u0,u1,u2,u3,u4,u5,u6,u7,u8⟩:=aL (show W7.heap[w.heap.size+1]? =some (.cells #[.int .i64 6,.int .i64 1,.int .i64 1,.slice B5 S_ S9,.int .i64 2,.int .i64 5,.int .i64 0,.int .i64 own,.int .i64 peer] 60 (0,0)) from hr7)
 refine bodyPost_ret (v:=.tuple #[iH (JU own) (.slice B5 S_ S9) own peer,.slice B6 Bn6 Bc6,.bool true]) (by unfold iH JU;simp[results,Tryz.results27,go_sem,u0,u1,u2,u3,u4,u5,u6,u7,u8]) rfl ?_
 exact⟨_,_,rfl,Below.grown lC.out vZ hs6 (fun k hk=>by cases hk;omega),(KH.out.zx vZ Vj.out (by decide) (by decide)).yg (by omega),(wN.out.zx vZ Vj.out (by decide) (by decide)).yg (by omega)⟩
end Go.Proofs.YtfkgmbknfnhjoaaGreat
