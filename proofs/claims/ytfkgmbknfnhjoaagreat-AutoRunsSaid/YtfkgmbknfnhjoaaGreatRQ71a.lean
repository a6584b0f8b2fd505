/- The program's contracts said of plain automata; an automaton's cells. -/
import Derived.Test.YtfkgmbknfnhjoaaGreatRPV
import Derived.Test.YtfkgmbknfnhjoaaGreatRPL
namespace Go.Proofs.YtfkgmbknfnhjoaaGreat
open Go.RowKit
set_option linter.unusedSimpArgs false
set_option linter.unusedVariables false
set_option linter.ambiguousOpen false
open Ne (Rl Opt RulesAt areB)
open Fs (av hasB)
def auC (a:Au) (v:Value):Array Value:=#[.int .i64 a.st,.int .i64 a.id,.int .i64 a.req,v,.int .i64 a.cnt,.int .i64 a.tim,.int .i64 a.nak]
def set7 (W:World) (T:Nat) (a:Au) (v:Value):World:=
 ((((((W.setCell ⟨T,0,none⟩ (.int .i64 a.st)).setCell ⟨T,1,none⟩ (.int .i64 a.id)).setCell ⟨T,2,none⟩ (.int .i64 a.req)).setCell ⟨T,3,none⟩ v).setCell ⟨T,4,none⟩ (.int .i64 a.cnt)).setCell ⟨T,5,none⟩ (.int .i64 a.tim)).setCell ⟨T,6,none⟩ (.int .i64 a.nak)
theorem grown7 (W:World) (T:Nat) (a:Au) (v:Value):W.grownBy (set7 W T a v) (some T):=
 grown_store (grown_store (grown_store (grown_store (grown_store (grown_store (grown_set _ _ _ _) _ _) _ _) _ _) _ _) _ _) _ _
theorem set7_row {W:World} {T:Nat} {a a':Au} {v v':Value} (h:W.heap[T]? =some (.cells (auC a v) 29 (0,0))):(set7 W T a' v').heap[T]? =some (.cells (auC a' v') 29 (0,0)):=row7 h rfl _ _ _ _ _ _ _
theorem set7_off {W:World} {T X:Nat} {a:Au} {v:Value} {o:Option Obj} (h:W.heap[X]? =o) (hne:X≠T):(set7 W T a v).heap[X]? =o:=set_off (set_off (set_off (set_off (set_off (set_off (set_off h hne) hne) hne) hne) hne) hne) hne
theorem OptsO.form {W:World} {b:Nat} {v:Value} {L:List Opt} (h:OptsO W b v L): ∃A n c,v=.slice A n c:=by
 obtain⟨E,h,-⟩:=h
 obtain⟨A,c,rfl,-,-⟩:=ownsRow_form h.1
 exact⟨_,_,_,rfl⟩
theorem OptsO.other {A C:World} {base X:Nat} {v:Value} {L:List Opt} {cur:Array Value} {e':TypeId} (h:OptsO A base v L) (hg:A.grownBy C (some X)) (hX:A.heap[X]? =some (.cells cur e' (0,0))) (h1:e'≠111) (h2:e'≠5):OptsO C base v L:=by
 obtain⟨E,h,he⟩:=h
 exact⟨E,h.other hg hX h1 h2,he⟩
theorem is_small {a:Au} (h:isB a=true):a.ask.length≤64∧ ∀o∈a.ask,o.2.length≤253:=enc_ok (isB_parts h).2.2.2.2.2.1
section
variable (c:Cf) (Ar:Option Addr) (nr cr:Nat) (a:Au) (v:Value) (i:Pk) (Ai:Option Addr) (ni ci:Nat) (e tick:Int) (w:World) (B:Nat) (hB:B≤w.heap.size) (hR:RulesAt w B Ar c.rules) (hnr:nr=c.rules.length) (hlr:nr≤20) (ha:isB a=true) (hv:OptsV w B v a.ask)
include hB hR hnr hlr ha hv
theorem tim_v:Calls Tryz.prog 16 #[.agg #[.slice Ar nr cr,.int .i64 c.mc,.int .i64 c.mt,.int .i64 c.mf,.int .i64 c.wt],auV a v,.int .i64 tick] w (DoP (timO c a tick) w):=by
 obtain⟨A,n,c',E,rfl,hE,hn,hc,he⟩:=hv
 have hs:=is_small ha
 rw[←he] at hs
 have h:=timeout_any Ar A nr cr n c' c.rules c.mc c.mt c.mf c.wt a.st a.id a.req a.cnt a.tim a.nak tick E w B hB hR hnr (by omega) hE hn (by have:=hs.1;rw[List.length_map] at this;omega) (fun x hx=>by have:=hs.2 _ (List.mem_map_of_mem hx);simp only[Ent.o] at this;omega)
 rw[he] at h
 exact h
theorem chk_v (hc:confB c=true):Calls Tryz.prog 25 #[auV a v,.agg #[.slice Ar nr cr,.int .i64 c.mc,.int .i64 c.mt,.int .i64 c.mf,.int .i64 c.wt]] w fun x w'=>x=.returned (.int .i64 0)∧Below w.heap.size w w':=by
 obtain⟨A,n,c',E,rfl,hE,hn,hcc,he⟩:=hv
 have h:=acheck_any Ar nr cr c.rules c.mc c.mt c.mf c.wt a.st a.id a.req a.cnt a.tim a.nak A n c' E a.ask he w B hB hR hnr (by omega) hE hn
 have h2:checkE c a=0:=by unfold checkE;rw[if_pos ⟨hc,ha⟩]
 have h3:checkE ⟨c.rules,c.mc,c.mt,c.mf,c.wt⟩ ⟨a.st,a.id,a.req,a.ask,a.cnt,a.tim,a.nak⟩=0:=h2
 rw[h3] at h
 exact h
omit hR hnr hlr in
theorem is_v:Calls Tryz.prog 24 #[auV a v] w fun x w'=>x=.returned (.bool true)∧Below w.heap.size w w':=by
 obtain⟨A,n,c',E,rfl,hE,hn,hc,he⟩:=hv
 have h:=is_ref a.st a.id a.req a.cnt a.tim a.nak A n c' E a.ask he w B hB hE hn
 have h3:isB ⟨a.st,a.id,a.req,a.ask,a.cnt,a.tim,a.nak⟩=true:=ha
 rw[h3] at h
 exact h
variable (hI:At w B Ai (i.data.map bv)) (hni:ni=i.data.length) (hci:ni≤ci) (hli:ni≤400000000)
include hI hni hci hli
theorem do_v:Calls Tryz.prog 14 #[.agg #[.slice Ar nr cr,.int .i64 c.mc,.int .i64 c.mt,.int .i64 c.mf,.int .i64 c.wt],auV a v,.int .i64 e,.agg #[.int .i64 i.code,.int .i64 i.id,.slice Ai ni ci],.agg #[.int .i64 i.code,.int .i64 i.id,.slice Ai ni ci],.int .i64 tick] w (DoP (doO c a e i i tick) w):=by
 obtain⟨A,n,c',E,rfl,hE,hn,hc,he⟩:=hv
 have hs:=is_small ha
 rw[←he] at hs
 have h:=do_any Ar A Ai Ai nr cr n c' ni ci ni ci c.rules c.mc c.mt c.mf c.wt a.st a.id a.req a.cnt a.tim a.nak e i.code i.id i.code i.id tick E i.data i.data w B hB hR hnr (by omega) hE hn (by have:=hs.1;rw[List.length_map] at this;omega) (fun x hx=>by have:=hs.2 _ (List.mem_map_of_mem hx);simp only[Ent.o] at this;omega) hI hni hci hli hI hni hci hli
 rw[he] at h
 exact h
theorem pack_v:Calls Tryz.prog 19 #[.agg #[.slice Ar nr cr,.int .i64 c.mc,.int .i64 c.mt,.int .i64 c.mf,.int .i64 c.wt],auV a v,.agg #[.int .i64 i.code,.int .i64 i.id,.slice Ai ni ci],.int .i64 tick] w (PackP (packO c a i tick) w):=by
 obtain⟨A,n,c',E,rfl,hE,hn,hc,he⟩:=hv
 have hs:=is_small ha
 rw[←he] at hs
 have h:=pack_any Ar A Ai nr cr n c' ni ci c.rules c.mc c.mt c.mf c.wt a.st a.id a.req a.cnt a.tim a.nak i.code i.id tick E i.data w B hB hR hnr (by omega) hE hn (by have:=hs.1;rw[List.length_map] at this;omega) (fun x hx=>by have:=hs.2 _ (List.mem_map_of_mem hx);simp only[Ent.o] at this;omega) hI hni hci hli
 rw[he] at h
 exact h
end
end Go.Proofs.YtfkgmbknfnhjoaaGreat
