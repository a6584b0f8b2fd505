/- A call of a function with one argument, as one step of a region that draws its order (for go_region_law). -/
import Derived.Test.YtlkijhcgiilmhaaT2
namespace Go.Proofs.Ytlkijhcgiilmhaa
open Go.RowKit
set_option linter.unusedSimpArgs false
set_option linter.unusedVariables false
section
variable {P : Program} {ops : Array Oper} {o : Oper} {a : Act} {K : Act → World → Prop} {Q : Exit → Act → World → Prop} {w : World}
theorem step_call1 {E : Prop} (hgd : o.guard = none) (f : FuncId) (x : Operand) (ts : Array TypeId) (ho : o.op = .call { callee := .value (.func f), args := #[x], argTypes := ts }) (hcf : ∀ args w, (callFunc f args).run P w = .ok (.enter f args) w) (v : Value) (hx : a.eval x = v)
    (hc : Calls P f #[v] w fun e w' => ∃ y, e = .returned y ∧ K (a.put o.dst y) w') :
    if Region.wanted o (yielded ops a.tmps) = true then Oper.wp P o a w K Q else E := by
  rw [if_pos (by simp [Region.wanted, hgd])]
  unfold Oper.wp
  have hf : a.eval (.func f) = .func (.func f) #[] #[] := rfl
  have hr : (execOp a.eval o).run P w = .ok (.enter f #[v]) w := by
    simp only [execOp, ho, resolve, List.map_toArray, List.map_cons, List.map_nil, hx, hf]
    simp [Sem.run_pure, hcf, Deferred.ofValue, invoke]
  rw [hr]
  show Calls P f #[v] w _
  refine hc.mono ?_
  rintro e w' ⟨y, rfl, h⟩
  exact h
end
end Go.Proofs.Ytlkijhcgiilmhaa
