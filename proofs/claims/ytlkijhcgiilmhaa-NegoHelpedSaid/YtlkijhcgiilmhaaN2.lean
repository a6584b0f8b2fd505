/- nego.own, slices.Equal of bytes, placed. -/
import Derived.Test.YtlkijhcgiilmhaaN1
namespace Go.Proofs.Ytlkijhcgiilmhaa
open Go.RowKit
set_option linter.unusedSimpArgs false
set_option linter.unusedVariables false
def OwnP (t : Int) (n : Nat) (l : List UInt8) (w : World) (x : Ending) (w' : World) : Prop :=
  ∃ (A : Option Addr) (c : Nat), x = .returned (.agg #[.int .i64 t, .slice A n c]) ∧ Below w.heap.size w w' ∧ w'.ownsRow w.heap.size 5 1 (.slice A n c) n (l.map bv)
theorem own_any (t : Int) (A : Option Addr) (n c : Nat) (l : List UInt8) (w : World) (B : Nat) (hB : B ≤ w.heap.size) (hA : At w B A (l.map bv)) (hn : n = l.length) (hl : n ≤ 400000000) (hc : n ≤ c) :
    Calls Try.prog 39 #[.agg #[.int .i64 t, .slice A n c]] w (OwnP t n l w) := by
  have HA := Lib.hid hA
  have HN := Lib.hid hn
  have HB := Lib.hid hB
  clear hA hn hB
  go_enter Try.func39, Try.ntmps39
  go_upto_region 1 with (fail)
  go_region_held3 (fun w' => w'.cell? ⟨w.heap.size, 0, none⟩ = some (.int .i64 t) ∧ w'.cell? ⟨w.heap.size, 1, none⟩ = some (.slice A n c)) (first | (go_keep; done) | (go_simp; done) | (simp [go_sem]; done)) ((go_at_call 47; go_must (refine (clone_any A n c l _ B (by have := HB.out; simp [size_ext, grow]; omega) (by exact HA.out.keep (by have := HB.out; exact bel)) HN.out hl hc).mono ?_); rintro e w2 ⟨v, rfl, hb, ho⟩; obtain ⟨A2, c2, rfl, -, -⟩ := ownsRow_form ho; obtain ⟨xs, dr, rfl⟩ := ext_of hb; have HO := Lib.hid ho; clear hb ho))
  all_goals
    go_wp2_with fail
    refine bodyPost_ret (v := .agg #[.int .i64 t, .slice A2 n c2]) (by simp [results, Try.results39, go_sem]) rfl ⟨A2, c2, rfl, by exact bel, ?_⟩
    have h := own_base (base' := w.heap.size) HO.out (by simp; omega)
    exact own_keep h fun k hk => ext_high _ _ xs dr dr k (by simp) (own_le HO.out hk)
end Go.Proofs.Ytlkijhcgiilmhaa
