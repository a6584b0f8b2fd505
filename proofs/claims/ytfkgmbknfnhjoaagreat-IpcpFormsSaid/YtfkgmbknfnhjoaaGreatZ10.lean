/- The page's example. -/
import Derived.Test.YtfkgmbknfnhjoaaGreatZ9
import Derived.Test.YtfkgmbknfnhjoaaGreatZ6
set_option maxHeartbeats 8000000
namespace Go.Proofs.YtfkgmbknfnhjoaaGreat
open Lib (hid)
open Go.RowKit
set_option linter.unusedSimpArgs false
set_option linter.unusedVariables false
set_option linter.ambiguousOpen false
open Ne (Rl Opt RulesAt areB wf64)
open Fs (av hasB)
theorem aw_pack:iPackO 3 2 4 5 ⟨6,1,1,askI 1,2,5,0⟩ 1 2 ⟨1,9,[3,6,0,0,0,0]⟩ 1=(⟨6,1,1,askI 1,2,5,1⟩,[⟨3,9,[3,6,0,0,0,2]⟩],Fs.tabActs 8 6):=by kernel_rfl
theorem pks_one {W:World} {b:Nat} {A:Option Addr} {n c:Nat} {p:Pk} (h:PksO W b (.slice A n c) [p]):n=1∧ ∃(g o:Nat) (a:Option Addr) (k:Nat),A=some ⟨g,o,none⟩∧g<W.heap.size∧W.cell? ⟨g,o,none⟩=some (.int .i64 p.code)∧W.cell? ⟨g,o+1,none⟩=some (.int .i64 p.id)∧W.cell? ⟨g,o+2,none⟩=some (.slice a p.data.length k)∧At W W.heap.size a (p.data.map bv)∧p.data.length≤k:=by
 obtain⟨Q,hQ,hq⟩:=h
 obtain⟨A',c',hv,hc,-⟩:=ownsRow_form hQ.1
 cases hv
 match Q,hq,hQ with
 |[e],hq,hQ=>
  simp only[List.map_cons,List.map_nil,List.cons.injEq,and_true] at hq
  subst hq
  obtain⟨g,o,rfl,hg,x0,x1,x2⟩:=hQ.at.get (k:=0) (by simp)
  simp only[List.getElem_cons_zero,Nat.zero_mul,Nat.add_zero] at x0 x1 x2
  have h2:=hQ.2 e (List.mem_singleton.2 rfl)
  obtain⟨A2,c2,hv2,hc2,-⟩:=ownsRow_form h2
  unfold Pe.v at h2 hv2 x2
  cases hv2
  exact⟨rfl,g,o,_,_,rfl,hg,x0,x1,x2,At.of_own h2,hc2⟩
theorem bytes_new {w:World} {cs:Array Value} {X:Nat} {T:TypeId} {l:List Value} {B:Nat} (h:w.heap[X]? =some (.cells cs T (0,0))) (hl:cs.toList=l) (hB:X<B):At w B (some ⟨X,0,none⟩) l:=by
 subst hl
 refine .inr ⟨X,0,rfl,hB,fun j u hu=>?_⟩
 rw[Nat.zero_add,cell_of_row w X j cs T (0,0) h]
 simpa using hu
theorem grown_allocs {w w':World} {X:Nat} {o:Obj} (h:w.grownBy w' (some X)) (hs:w'.heap.size=w.heap.size):(w.alloc o).grownBy (w'.alloc o) (some X):=
 ⟨h.os,h.tape,h.output,by simp[hs],fun k hk hne=>by
  have hk2:k<w.heap.size+1:=by simpa using hk
  by_cases hkk:k=w.heap.size
  ·rw[heap_alloc_at w' o k (by omega),heap_alloc_at w o k hkk]
  ·rw[heap_alloc_past w' o k (by omega),heap_alloc_past w o k (by omega)]
   exact h.block k (by omega) hne⟩
theorem agreed_any (st id req cnt tim nak own peer:Int) (v:Value) (w:World):Calls Tryz.prog 32 #[.agg #[.int .i64 st,.int .i64 id,.int .i64 req,v,.int .i64 cnt,.int .i64 tim,.int .i64 nak,.int .i64 own,.int .i64 peer]] w fun x w'=>x=.returned (.bool (st==9))∧Below w.heap.size w w':=by
 cases h:(st==9)
 all_goals
  go_enter Tryz.func32,Tryz.ntmps32
  go_wp2_with fail
  go_ret
  exact⟨rfl,by exact bel⟩
set_option maxRecDepth 100000 in
theorem awake18_any (w:World):Calls Tryz.prog 26 #[] w fun x w'=>x=.returned (.bool true)∧Below w.heap.size w w':=by
 have HPA:=hid aw_pack
 go_enter Tryz.func26,Tryz.ntmps26
 go_wp2_with fail
 refine(conf_any _).mono ?_
 rintro x W1 ⟨rfl,hb1⟩
 go_wp2_with fail
 refine(up_any 1 2 W1 rfl rfl).mono ?_
 unfold UpP
 rintro x W2 ⟨va,vo,rfl,hb2,ho,hp⟩
 obtain⟨A2,n2,c2,rfl⟩:=ho.form'
 obtain⟨A3,n3,c3,rfl⟩:=hp.form'
 unfold npV upA
 dsimp only
 have hs1:=hb1.size
 have hb:=hb1.trans (hb2.mono hs1)
 have hs2:=hb.size
 go_upto_region 2 with(fail)
 obtain⟨T,hT⟩: ∃T,T=W2.heap.size:=⟨_,rfl⟩
 rw[←hT]
 refine wp_w (fun W=>W.heap[T]? =some (.cells #[.int .i64 6,.int .i64 1,.int .i64 1,.slice A2 n2 c2,.int .i64 2,.int .i64 5,.int .i64 0,.int .i64 1,.int .i64 2] 60 (0,0))∧Below w.heap.size w W∧OptsO W W1.heap.size (.slice A2 n2 c2) (askI 1)∧PksO W W1.heap.size (.slice A3 n3 c3) [⟨1,1,[3,6,0,0,0,1]⟩]) ⟨by rw[hT];exact heap_alloc_new _ _,by exact Below.alloc hb hs2 _,by exact ho.blw ((Below.refl _ _).alloc (Nat.le_refl _) _),by exact hp.blw ((Below.refl _ _).alloc (Nat.le_refl _) _)⟩ ?_
 clear hT hb1 hb2 hb ho hp hs1 hs2
 rintro W3 ⟨ht,hb,ho,hp⟩
 have HB3:=hid hb
 have HP3:=hid hp
 have hs3:=hb.size
 have lT:=lt_blk ht
 obtain⟨E,hE,hn,hcc,he⟩:=ho.opened
 have HE:=hid hE
 have HN:=hid hn
 have HEE:=hid he
 have HEN:=hid (askI_ents he)
 have hn1:n2≤1000000:=by have:=HEN.out.1;have:=HN.out;omega
 obtain⟨t0,t1,t2,t3,t4,t5,t6,t7,t8⟩:=cells9 ht
 clear ht hb ho hp hE hn hcc he
 go_cut [4,5,6] (fun s4 s5 s6 wx=> ∃(P:Nat) (A4 A5 A6:Option Addr) (n4 c4 n5 c5 n6 c6:Nat) (W:World),W=wx∧s4=.pointer (some ⟨P,0,none⟩)∧s5=.slice A5 n5 c5∧s6=.slice A6 n6 c6∧W.heap[P]? =some (.cells #[.int .i64 6,.int .i64 1,.int .i64 1,.slice A4 n4 c4,.int .i64 2,.int .i64 5,.int .i64 1,.int .i64 1,.int .i64 2] 60 (0,0))∧(∃base,PksO W base (.slice A5 n5 c5) [⟨3,9,[3,6,0,0,0,2]⟩])∧Below W3.heap.size W3 W)
 case first=>
  have HSR:=hid (show∀w':World,Below W3.heap.size W3 w'→(w'.cell? ⟨T,0,none⟩=some (.int .i64 6)∧w'.cell? ⟨T,1,none⟩=some (.int .i64 1)∧w'.cell? ⟨T,2,none⟩=some (.int .i64 1)∧w'.cell? ⟨T,3,none⟩=some (.slice A2 n2 c2)∧w'.cell? ⟨T,4,none⟩=some (.int .i64 2)∧w'.cell? ⟨T,5,none⟩=some (.int .i64 5)∧w'.cell? ⟨T,6,none⟩=some (.int .i64 0)∧w'.cell? ⟨T,7,none⟩=some (.int .i64 1)∧w'.cell? ⟨T,8,none⟩=some (.int .i64 2)) from fun w' hb=>⟨(hb.cell (p:=⟨T,_,none⟩) lT).trans t0,(hb.cell (p:=⟨T,_,none⟩) lT).trans t1,(hb.cell (p:=⟨T,_,none⟩) lT).trans t2,(hb.cell (p:=⟨T,_,none⟩) lT).trans t3,(hb.cell (p:=⟨T,_,none⟩) lT).trans t4,(hb.cell (p:=⟨T,_,none⟩) lT).trans t5,(hb.cell (p:=⟨T,_,none⟩) lT).trans t6,(hb.cell (p:=⟨T,_,none⟩) lT).trans t7,(hb.cell (p:=⟨T,_,none⟩) lT).trans t8⟩)
  go_region_held3 (fun w'=>w'.cell? ⟨T,0,none⟩=some (.int .i64 6)∧w'.cell? ⟨T,1,none⟩=some (.int .i64 1)∧w'.cell? ⟨T,2,none⟩=some (.int .i64 1)∧w'.cell? ⟨T,3,none⟩=some (.slice A2 n2 c2)∧w'.cell? ⟨T,4,none⟩=some (.int .i64 2)∧w'.cell? ⟨T,5,none⟩=some (.int .i64 5)∧w'.cell? ⟨T,6,none⟩=some (.int .i64 0)∧w'.cell? ⟨T,7,none⟩=some (.int .i64 1)∧w'.cell? ⟨T,8,none⟩=some (.int .i64 2)) (exact HSR.out _ (by exact bel)) (first|((go_at_call 28;go_must (refine(conf_any _).mono ?_);rintro e w5 ⟨rfl,hb5⟩;obtain⟨xs5,d5,rfl⟩:=ext_of hb5;clear hb5))|((go_at_call 30;go_must (refine(ipack_any 1492 3 2 4 5 0 1 6 1 1 2 5 0 1 2 A2 n2 c2 1 _ 6 6 1 9 [3,6,0,0,0,0] E (askI 1) HEE.out _ _ (Nat.le_refl _) (by exact(HE.out.keep (by exact bel)).more (by first|(simp[size_ext,grow];done)|(simp[size_ext,grow];omega))) HN.out hn1 (fun e he=>by have:=HEN.out.2 e he;omega) (by unfold wf64;omega) (by exact bytes_new (by exact hpa) rfl (by first|(simp[size_ext,grow];done)|(simp[size_ext,grow];omega))) rfl (Nat.le_refl _) (by omega)).mono ?_);rw[HPA.out];unfold IDoP npV;(try dsimp only);rintro e w6 ⟨va6,vo6,vd6,rfl,hb6,hO,hP,hA⟩;obtain⟨A4,n4,c4,rfl⟩:=hO.form';obtain⟨A5,n5,c5,rfl⟩:=hP.form';obtain⟨A6,n6,c6,rfl⟩:=hA.form';obtain⟨xs6,d6,rfl⟩:=ext_of hb6;have HP6:=hid hP;clear hb6 hO hA hP)))
  all_goals
   go_wp2_with fail
   go_meet
   refine⟨_,A4,A5,A6,n4,c4,n5,c5,n6,c6,_,rfl,rfl,rfl,rfl,?_,?_,by exact bel⟩
   ·repeat(first|(with_reducible refine heap_alloc_at _ _ _ ?_;((first|(simp[size_ext,grow];done)|(simp[size_ext,grow];omega))))|(with_reducible refine(heap_ext _ _ _ _ ?_).trans ?_;(focus ((first|(simp[size_ext,grow];done)|(simp[size_ext,grow];omega)))))|(with_reducible refine(heap_alloc_past _ _ _ ?_).trans ?_;(focus ((first|(simp[size_ext,grow];done)|(simp[size_ext,grow];omega))))))
   ·have h5:=HP6.out
    first
     |exact⟨_,h5.blw (Below.alloc (Below.refl _ _) (Nat.le_refl _) _)⟩
     |(apply Exists.intro;refine PksO.stays (X:=?_) h5 ?_ ?_;rotate_left;(repeat(first|with_reducible exact alloc_swap _ _ _|with_reducible refine grown_exts ?_ (by simp[size_ext,grow])|with_reducible refine grown_allocs ?_ (by simp[size_ext,grow])));all_goals(try (first|(simp[size_ext,grow];done)|(simp[size_ext,grow];omega)|omega)))
 case rest=>
  obtain⟨P,A4,A5,A6,n4,c4,n5,c5,n6,c6,W4,rfl,rfl,rfl,rfl,hr,hp,hb⟩:=hcut
  obtain⟨base,hp⟩:=hp
  obtain⟨rfl,g1,o1,a1,k1,rfl,hg1,x0,x1,x2,hx,hk1⟩:=pks_one (HP3.out.blw hb)
  obtain⟨rfl,g2,o2,a2,k2,rfl,hg2,y0,y1,y2,hy,hk2⟩:=pks_one hp
  have HB4:=hid (HB3.out.trans (hb.mono hs3))
  obtain⟨p0,p1,p2,p3,p4,p5,p6,p7,p8⟩:=cells9 hr
  have lP:=lt_blk hr
  have q1:(convert 30 9 (.slice a1 6 k1)).run Tryz.prog W4=.ok (.string ⟨([3,6,0,0,0,1]:List UInt8).toArray⟩) W4:=run_str Tryz.underlying30 Tryz.underlying5 Tryz.underlying9 (l:=[3,6,0,0,0,1]) rfl hx
  have q2:(convert 30 9 (.slice a2 6 k2)).run Tryz.prog W4=.ok (.string ⟨([3,6,0,0,0,2]:List UInt8).toArray⟩) W4:=run_str Tryz.underlying30 Tryz.underlying5 Tryz.underlying9 (l:=[3,6,0,0,0,2]) rfl hy
  simp only[List.length_cons,List.length_nil,Nat.zero_add,Nat.reduceAdd] at x2 y2
  clear hr hp hb hx hy
  go_wp2_with (first|((go_at_call 32;go_must (refine(agreed_any _ _ _ _ _ _ _ _ _ _).mono ?_);rintro e w5 ⟨rfl,hb5⟩;obtain⟨xs5,d5,rfl⟩:=ext_of hb5;clear hb5)))
  go_ret
  exact⟨rfl,by have h4:=HB4.out;have hs4:=h4.size;exact bel⟩
end Go.Proofs.YtfkgmbknfnhjoaaGreat
