/- New controls by both; settings held against each other. -/
import Derived.Test.YtfkgmbknfnhjoaaGreatZ7
import Derived.Test.YtfkgmbknfnhjoaaGreatPY
set_option maxHeartbeats 4000000
namespace Go.Proofs.YtfkgmbknfnhjoaaGreat
open Lib (hid)
open Go.RowKit
set_option linter.unusedSimpArgs false
set_option linter.unusedVariables false
set_option linter.ambiguousOpen false
open Ne (Rl Opt RulesAt areB wf64)
theorem neq_rule (w:World) (p:Int):(binOp .neq 136 (.agg #[.int .i64 3,.int .i64 4,.int .i64 3,.int .i64 0,.int .i64 0,.int .i64 p,.bool true]) (.agg #[.int .i64 3,.int .i64 4,.int .i64 3,.int .i64 0,.int .i64 0,.int .i64 p,.bool true])).run Tryz.prog w=.ok (.bool false) w:=by
 rw[run_neq_struct,run_equalIn_struct w 9999 _ _ _ (by kernel_rfl) (by kernel_rfl),show(Tryz.prog.fieldsOf 136).toList=_ from rfl]
 simp[go_sem]
theorem guard_rule (op:BinOp) (w:World) (x y:Operand) (a b:Array Value):(eqGuard op 136 x y (.agg a) (.agg b)).run Tryz.prog w=.ok () w:=by
 have h:Tryz.prog.eqGuardType Tryz.prog.depth 136=false:=by kernel_rfl
 cases op<;>simp[eqGuard,h,run_program]
set_option maxRecDepth 100000 in
theorem sameConf_any (A1 A2:Option Addr) (mc mt mf wt p:Int) (w:World) (B:Nat) (hB:B≤w.heap.size) (h1:RulesAt w B A1 [ruleI p]) (h2:RulesAt w B A2 [ruleI p]):
  Calls Tryz.prog 40 #[.agg #[.slice A1 1 1,.int .i64 mc,.int .i64 mt,.int .i64 mf,.int .i64 wt],.agg #[.slice A2 1 1,.int .i64 mc,.int .i64 mt,.int .i64 mf,.int .i64 wt]] w fun x w'=>x=.returned (.bool true)∧Below w.heap.size w w':=by
 obtain⟨b1,o1,rfl,hb1,r1⟩:=h1.get (k:=0) (by simp)
 obtain⟨b2,o2,rfl,hb2,r2⟩:=h2.get (k:=0) (by simp)
 have hn:=fun W=>neq_rule W p
 have hg:=guard_rule
 clear h1 h2
 go_enter Tryz.func40,Tryz.ntmps40
 go_upto_region 1 with(fail)
 refine wp_w (fun W=>W.heap[w.heap.size]? =some (.cells #[.slice (some ⟨b1,o1,none⟩) 1 1,.int .i64 mc,.int .i64 mt,.int .i64 mf,.int .i64 wt] 24 (0,0))∧W.heap[w.heap.size+1]? =some (.cells #[.slice (some ⟨b2,o2,none⟩) 1 1,.int .i64 mc,.int .i64 mt,.int .i64 mf,.int .i64 wt] 24 (0,0))∧Below w.heap.size w W) ⟨by exact hpa,by exact hpa,by exact bel⟩ ?_
 rintro W1 ⟨hx,hy,hb⟩
 have HX:=hid hx
 have HY:=hid hy
 have HB1:=hid hb
 have hs1:=hb.size
 have HR1:=hid (r1.keep (hb.mono hB) hb1)
 have HR2:=hid (r2.keep (hb.mono hB) hb2)
 have hb1':b1<W1.heap.size:=by omega
 have hb2':b2<W1.heap.size:=by omega
 have lx:=lt_blk hx
 have ly:=lt_blk hy
 obtain⟨p0,p1,p2,p3,p4⟩:=cells5 hx
 obtain⟨q0,q1,q2,q3,q4⟩:=cells5 hy
 clear hx hy hb r1 r2
 go_wp2_with fail
 clear p0 p1 p2 p3 p4 q0 q1 q2 q3 q4
 go_loopw [5] (fun i wr=> ∃k:Nat,k≤1∧i=.int .i64 k∧Below W1.heap.size W1 wr) (fun i _=>1-(intOf i).toNat)
 case atStart=>exact⟨0,by omega,rfl,Below.refl _ _⟩
 case round=>
  obtain⟨k,hk,rfl,hb⟩:=hrel
  have HBW:=hid hb
  have hsz:=hb.size
  obtain⟨p0,p1,p2,p3,p4⟩:=cells5 ((hb.block _ lx).trans HX.out)
  obtain⟨q0,q1,q2,q3,q4⟩:=cells5 ((hb.block _ ly).trans HY.out)
  by_cases h0:k=0
  ·subst h0
   obtain⟨x0,x1,x2,x3,x4,x5,x6⟩:=HR1.out.keep hb hb1'
   obtain⟨y0,y1,y2,y3,y4,y5,y6⟩:=HR2.out.keep hb hb2'
   simp only[List.getElem_cons_zero,ruleI,Nat.zero_mul,Nat.add_zero,Nat.mul_zero] at x0 x1 x2 x3 x4 x5 x6 y0 y1 y2 y3 y4 y5 y6
   clear hb
   go_wp2_with fail
   go_quiet (fail)
   all_goals
    go_wp2_with fail
    go_roundw
    case rel=>exact⟨1,by omega,rfl,by have h:=HBW.out;exact bel⟩
    case measure=>simp[intOf]
  ·obtain rfl:k=1:=by omega
   clear hb
   go_wp2_with fail
   go_ret
   exact⟨rfl,by have:=HB1.out;have:=HBW.out;exact bel⟩
end Go.Proofs.YtfkgmbknfnhjoaaGreat
