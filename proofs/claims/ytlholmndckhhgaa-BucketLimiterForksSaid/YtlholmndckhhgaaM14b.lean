/- '==' of two keys. -/
import Derived.Test.YtlholmndckhhgaaM14
import Derived.DeepKeys
namespace Go.Proofs.Ytlholmndckhhgaa
open Go.RowKit Go.Maps
theorem v_eq (x : M6) : x.v = .agg #[.int .u8 x.a, .int .u8 x.b, .int .u8 x.c, .int .u8 x.d, .int .u8 x.e, .int .u8 x.f] := rfl
theorem equal6 (w : World) {x y : M6} (hx : x.ok) (hy : y.ok) : (Op.equal 45 (.agg #[.int .u8 x.a, .int .u8 x.b, .int .u8 x.c, .int .u8 x.d, .int .u8 x.e, .int .u8 x.f]) (.agg #[.int .u8 y.a, .int .u8 y.b, .int .u8 y.c, .int .u8 y.d, .int .u8 y.e, .int .u8 y.f])).run Try.prog w = .ok (eq6 x y) w := by
  obtain ⟨r, hr, hiff⟩ := run_equal_deep (P := Try.prog) w (m := 3) (by omega) (k := 45) (by kernel_rfl) (by rw [Try.underlying45]) (key6 hx) (key6 hy)
  have : r = eq6 x y := by
    rw [Bool.eq_iff_iff, hiff, eq6_iff]
    exact ⟨keyL_inj hx hy, fun e => by rw [e]⟩
  rw [this] at hr
  exact hr
theorem eql6 (w : World) {x y : M6} (hx : x.ok) (hy : y.ok) : (binOp .eql 45 (.agg #[.int .u8 x.a, .int .u8 x.b, .int .u8 x.c, .int .u8 x.d, .int .u8 x.e, .int .u8 x.f]) (.agg #[.int .u8 y.a, .int .u8 y.b, .int .u8 y.c, .int .u8 y.d, .int .u8 y.e, .int .u8 y.f])).run Try.prog w = .ok (.bool (eq6 x y)) w := by
  have h := equal6 w hx hy
  simp only [binOp]
  simp [h]
theorem neq6 (w : World) {x y : M6} (hx : x.ok) (hy : y.ok) : (binOp .neq 45 (.agg #[.int .u8 x.a, .int .u8 x.b, .int .u8 x.c, .int .u8 x.d, .int .u8 x.e, .int .u8 x.f]) (.agg #[.int .u8 y.a, .int .u8 y.b, .int .u8 y.c, .int .u8 y.d, .int .u8 y.e, .int .u8 y.f])).run Try.prog w = .ok (.bool (!eq6 x y)) w := by
  have h := equal6 w hx hy
  simp only [binOp]
  simp [h]
theorem guard6 (op : BinOp) (w : World) (x y : Operand) (a b : Array Value) : (eqGuard op 45 x y (.agg a) (.agg b)).run Try.prog w = .ok () w := by
  have h : Try.prog.eqGuardType Try.prog.depth 45 = false := by kernel_rfl
  cases op <;> simp [eqGuard, h, run_program]
end Go.Proofs.Ytlholmndckhhgaa
