/- A region that draws: what its loads read need hold only till one operation comes up that waits for them all. -/
import Derived.Test.YtfkgmbknfnhjoaaGreatRA
import Derived.Orders
import Derived.Deep.RegionHeld3
namespace Go.Proofs.YtfkgmbknfnhjoaaGreat
open Go.RowKit
set_option linter.unusedSimpArgs false
set_option linter.unusedVariables false
section
variable {P:Program} {ops:Array Oper} {Q:Exit→Act→World→Prop} {md:Region.Mode} {S:World→Prop} {z:Nat}
def SC (z:Nat) (S:World→Prop) (listed:Array Bool) (w:World):Prop:=listed.getD z true=false→S w
def wpAnyC (P:Program) (md:Region.Mode) (ops:Array Oper) (Q:Exit→Act→World→Prop) (z:Nat) (S:World→Prop):Nat→Array Bool→Act→World→Prop
 |0,listed,a,w=>Region.ready md ops listed=[]∧Q .normal a w
 |fuel+1,listed,a,w=>
  (Region.ready md ops listed=[]→Q .normal a w)∧
  ∀i∈Region.ready md ops listed,wpOp P ops Q i (fun a' w'=>SC z S (listed.setIfInBounds i true) w'∧wpAnyC P md ops Q z S fuel (listed.setIfInBounds i true) a' w') a w
theorem wpAny_of_c: ∀(fuel:Nat) (listed:Array Bool) (a:Act) (w:World),wpAnyC P md ops Q z S fuel listed a w→wpAny P md ops Q fuel listed a w
 |0,_,_,_,h=>h
 |fuel+1,_,_,_,h=>⟨h.1,fun i hi=>wpOp_mono (fun a' w' h'=>wpAny_of_c fuel _ a' w' h'.2) (h.2 i hi)⟩
def waitsB (md:Region.Mode) (ops:Array Oper) (z i:Nat):Bool:=((ops[z]?).map fun o=>o.after.any fun e=>Region.binds md e&&e.on==i).getD false
theorem waits_of {i:Nat} {o:Oper} (h:waitsB md ops z i=true) (ho:ops[z]? =some o): ∃e∈o.after,Region.binds md e=true∧e.on=i:=by
 unfold waitsB at h
 rw[ho] at h
 simp only[Option.map_some,Option.getD_some,Array.any_eq_true'] at h
 obtain⟨e,he,h2⟩:=h
 simp only[Bool.and_eq_true,beq_iff_eq] at h2
 exact⟨e,he,h2.1,h2.2⟩
theorem set_off_z {listed:Array Bool} {i:Nat} (h:i≠z):(listed.setIfInBounds i true).getD z true=listed.getD z true:=by
 rw[Array.getD_eq_getD_getElem?,Array.getElem?_setIfInBounds_ne h,←Array.getD_eq_getD_getElem?]
theorem SC.set {listed:Array Bool} {i:Nat} {w:World} (h:i≠z) (hS:SC z S listed w):SC z S (listed.setIfInBounds i true) w:=fun h1=>hS (by rwa [set_off_z h] at h1)
theorem wpAnyC_first {T:World→Prop} {i:Nat} {oi:Oper} {v:Value} (hz:i≠z) (hi:ops[i]? =some oi) (hsel: ∀(j:Nat) (o:Oper) cs b,ops[j]? =some o→o.op≠ .select cs b)
  (hQ: ∀c a w,Q (.panic c) (a.put oi.dst v) w→Q (.panic c) a w):
  ∀(fuel:Nat) (listed:Array Bool) (a:Act) (w:World),
   ((∀w,T w)∨(listed.getD z true=false∧(∀w,S w→T w)∧waitsB md ops z i=true))→
   (∀j oj,ops[j]? =some oj→j≠i→listed.getD j true=false→(∀e∈oj.after,Region.binds md e=true→e.on≠i)→oi.apart ops oj=true)→
   i∈Region.ready md ops listed→YieldsIf P ops T oi v a→T w→SC z S listed w→
   wpAnyC P md ops Q z S fuel (listed.setIfInBounds i true) (a.put oi.dst v) w→wpAnyC P md ops Q z S (fuel+1) listed a w:=by
 intro fuel
 induction fuel with
 |zero=>
  intro listed a w hc _ hr hy hT hS H
  refine⟨fun h=>(by rw[h] at hr;cases hr),fun j hj=>?_⟩
  by_cases hji:j=i
  ·subst hji;exact hy.wpOp hi hT ⟨hS.set hz,H⟩
  ·have:=ready_mono hj hji
   rw[H.1] at this
   cases this
 |succ fuel ih=>
  intro listed a w hc hfree hr hy hT hS H
  refine⟨fun h=>(by rw[h] at hr;cases hr),fun j hj=>?_⟩
  by_cases hji:j=i
  ·subst hji;exact hy.wpOp hi hT ⟨hS.set hz,H⟩
  ·have h1:=H.2 j (ready_mono hj hji)
   obtain⟨hjun,oj,hoj,hall⟩:=mem_ready.1 hj
   have hnot: ∀e∈oj.after,Region.binds md e=true→e.on≠i:=fun e he hb heq=>by
    have h1:=hall e he hb
    have h0:=(mem_ready.1 hr).1
    rw[heq] at h1
    rcases Nat.lt_or_ge i listed.size with h'|h'
    ·simp[h'] at h0 h1;rw[h0] at h1;cases h1
    ·simp[Array.getElem?_eq_none h'] at h1
   have h2:=wpOp_putIf hoj (hfree j oj hoj hji hjun hnot) (fun cs b=>hsel i oi cs b hi) (fun cs b=>hsel j oj cs b hoj) hQ hy h1
   have hfree': ∀k ok,ops[k]? =some ok→k≠i→(listed.setIfInBounds j true).getD k true=false→
     (∀e∈ok.after,Region.binds md e=true→e.on≠i)→oi.apart ops ok=true:=fun k ok hk hki hun hno=>by
    refine hfree k ok hk hki ?_ hno
    by_cases hjk:j=k
    ·subst hjk;exact hjun
    ·rw[getD_set_ne true hjk] at hun;exact hun
   have hback: ∀w',SC z S ((listed.setIfInBounds i true).setIfInBounds j true) w'→SC z S (listed.setIfInBounds j true) w':=fun w' h4 h5=>h4 (by
    rw[Array.setIfInBounds_comm _ _ (Ne.symm hji),set_off_z hz];exact h5)
   have hc':(∀w,T w)∨((listed.setIfInBounds j true).getD z true=false∧(∀w,S w→T w)∧waitsB md ops z i=true):=by
    rcases hc with hc|⟨c1,c2,c3⟩
    ·exact .inl hc
    ·refine .inr ⟨?_,c2,c3⟩
     have hjz:j≠z:=fun e=>by
      subst e
      obtain⟨ed,he,hb,ho⟩:=waits_of c3 hoj
      exact hnot ed he hb ho
     rw[set_off_z hjz];exact c1
   refine wpOp_mono (fun a' w' h3=>⟨hback w' h3.2.1,ih (listed.setIfInBounds j true) a' w' hc' hfree' (ready_mono hr (Ne.symm hji)) h3.1 ?_ (hback w' h3.2.1) ?_⟩) h2
   ·rcases hc' with hc|⟨c1,c2,c3⟩
    ·exact hc _
    ·exact c2 _ (hback w' h3.2.1 c1)
   ·rw[Array.setIfInBounds_comm _ _ hji]
    exact h3.2.2
theorem takeL {i:Nat} {oi:Oper} {v:Value} {fuel:Nat} {listed:Array Bool} {a:Act} {w:World} (hi:ops[i]? =some oi)
  (hs:Region.noSelect ops=true) (hf:Region.free md ops listed i=true) (hr:(Region.ready md ops listed).contains i=true) (hw:(waitsB md ops z i&&(!listed.getD z true&&decide (i≠z)))=true)
  (hQ: ∀c a w,Q (.panic c) (a.put oi.dst v) w→Q (.panic c) a w) (hS:S w) (hg:Region.wanted oi (yielded ops a.tmps)=true) (hy: ∀w,S w→(execOp a.eval oi).run P w=.ok (.value v) w)
  (h:wpAnyC P md ops Q z S fuel (listed.setIfInBounds i true) (a.put oi.dst v) w):wpAnyC P md ops Q z S (fuel+1) listed a w:=by
 simp only[Bool.and_eq_true,Bool.not_eq_true',decide_eq_true_eq] at hw
 exact wpAnyC_first (T:=S) hw.2.2 hi (Region.noSelect_spec hs) hQ fuel listed a w (.inr ⟨hw.2.1,fun _ h=>h,hw.1⟩) (Region.free_spec hi hf) (by simpa using hr) (.inl ⟨hg,hy⟩) hS (fun _=>hS) h
theorem takeW {i:Nat} {oi:Oper} {v:Value} {fuel:Nat} {listed:Array Bool} {a:Act} {w:World} (hi:ops[i]? =some oi)
  (hs:Region.noSelect ops=true) (hf:Region.free md ops listed i=true) (hr:(Region.ready md ops listed).contains i=true) (hw:decide (i≠z)=true)
  (hQ: ∀c a w,Q (.panic c) (a.put oi.dst v) w→Q (.panic c) a w) (hS:SC z S listed w) (hg:Region.wanted oi (yielded ops a.tmps)=true) (hy: ∀w,(execOp a.eval oi).run P w=.ok (.value v) w)
  (h:wpAnyC P md ops Q z S fuel (listed.setIfInBounds i true) (a.put oi.dst v) w):wpAnyC P md ops Q z S (fuel+1) listed a w:=
 wpAnyC_first (T:=fun _=>True) (by simpa using hw) hi (Region.noSelect_spec hs) hQ fuel listed a w (.inl fun _=>trivial) (Region.free_spec hi hf) (by simpa using hr) (.inl ⟨hg,fun w _=>hy w⟩) trivial hS h
theorem stepZ {i:Nat} {o:Oper} {fuel:Nat} {listed:Array Bool} {a:Act} {w:World} (ho:ops[i]? =some o) (hr:Region.ready md ops listed=[i])
  (h: ∀K':Act→World→Prop,(∀a w,SC z S (listed.setIfInBounds i true) w→wpAnyC P md ops Q z S fuel (listed.setIfInBounds i true) a w→K' a w)→if Region.wanted o (yielded ops a.tmps)=true then Oper.wp P o a w K' Q else K' (a.put o.dst undef) w):
  wpAnyC P md ops Q z S (fuel+1) listed a w:=by
 refine⟨fun h0=>(by rw[hr] at h0;cases h0),fun j hj=>?_⟩
 rw[hr,List.mem_singleton] at hj
 subst hj
 exact wpOp_step ho (fun K' hK=>h K' (fun a w hS hW=>hK a w ⟨hS,hW⟩))
theorem stepP {i:Nat} {o:Oper} {fuel:Nat} {listed:Array Bool} {a:Act} {w:World} (ho:ops[i]? =some o) (hr:Region.ready md ops listed=[i]) (hz:(listed.setIfInBounds i true).getD z true=true)
  (h: ∀K':Act→World→Prop,Shut (∀a w,wpAnyC P md ops Q z S fuel (listed.setIfInBounds i true) a w→K' a w)→if Region.wanted o (yielded ops a.tmps)=true then Oper.wp P o a w K' Q else K' (a.put o.dst undef) w):
  wpAnyC P md ops Q z S (fuel+1) listed a w:=
 stepZ ho hr fun K' hK=>h K' fun a w hW=>hK a w (fun h1=>by rw[hz] at h1;cases h1) hW
theorem doneC {listed:Array Bool} {a:Act} {w:World} (hr:Region.ready md ops listed=[]) (h:Q .normal a w): ∀fuel,wpAnyC P md ops Q z S fuel listed a w
 |0=>⟨hr,h⟩
 |_+1=>⟨fun _=>h,by rw[hr];simp⟩
theorem wp_region_c {id:Nat} {a:Act} {w:World} (z:Nat) (S:World→Prop) (hm:P.follows .mixedOrders=true) (hS:S w.drew)
  (h:S w.drew→wpAnyC P .any ops Q z S ops.size (Array.replicate ops.size false) a w.drew):(Code.region id ops true).wp P Q a w:=
 wp_region_any hm (wpAny_of_c _ _ _ _ (h hS))
theorem sc_of {listed:Array Bool} {w:World} (h:S w):SC z S listed w:=fun _=>h
theorem sc_past {listed:Array Bool} {w:World} (h:listed.getD z true=true):SC z S listed w:=fun h1=>by rw[h] at h1;cases h1
theorem tkL (i:Nat) {oi:Oper} {v:Value} {fuel:Nat} {listed:Array Bool} {a:Act} {w:World} (hS:S w) (hy: ∀w,S w→(execOp a.eval oi).run P w=.ok (.value v) w) (h:wpAnyC P md ops Q z S fuel (listed.setIfInBounds i true) (a.put oi.dst v) w) (hi:ops[i]? =some oi:=by rfl)
  (hs:Region.noSelect ops=true:=by as_aux_lemma=>kernel_rfl) (hf:Region.free md ops listed i=true:=by as_aux_lemma=>kernel_rfl) (hr:(Region.ready md ops listed).contains i=true:=by as_aux_lemma=>kernel_rfl) (hw:(waitsB md ops z i&&(!listed.getD z true&&decide (i≠z)))=true:=by as_aux_lemma=>kernel_rfl)
  (hQ: ∀c a w,Q (.panic c) (a.put oi.dst v) w→Q (.panic c) a w:=by exact fun _ _ _ h=>h) (hg:Region.wanted oi (yielded ops a.tmps)=true:=by rfl):wpAnyC P md ops Q z S (fuel+1) listed a w:=takeL hi hs hf hr hw hQ hS hg hy h
theorem tkW (i:Nat) {oi:Oper} {v:Value} {fuel:Nat} {listed:Array Bool} {a:Act} {w:World} (hS:SC z S listed w) (hy: ∀w,(execOp a.eval oi).run P w=.ok (.value v) w) (h:wpAnyC P md ops Q z S fuel (listed.setIfInBounds i true) (a.put oi.dst v) w) (hi:ops[i]? =some oi:=by rfl)
  (hs:Region.noSelect ops=true:=by as_aux_lemma=>kernel_rfl) (hf:Region.free md ops listed i=true:=by as_aux_lemma=>kernel_rfl) (hr:(Region.ready md ops listed).contains i=true:=by as_aux_lemma=>kernel_rfl) (hw:decide (i≠z)=true:=by as_aux_lemma=>kernel_rfl)
  (hQ: ∀c a w,Q (.panic c) (a.put oi.dst v) w→Q (.panic c) a w:=by exact fun _ _ _ h=>h) (hg:Region.wanted oi (yielded ops a.tmps)=true:=by rfl):wpAnyC P md ops Q z S (fuel+1) listed a w:=takeW hi hs hf hr hw hQ hS hg hy h
end
end Go.Proofs.YtfkgmbknfnhjoaaGreat
