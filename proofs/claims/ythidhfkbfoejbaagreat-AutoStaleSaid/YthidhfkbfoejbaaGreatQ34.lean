/- A packet, whatever comes: by the program and by the reference. -/
import Derived.Test.YthidhfkbfoejbaaGreatQ29
namespace Go.Proofs.YthidhfkbfoejbaaGreat
open Go.RowKit
set_option linter.unusedVariables false
set_option linter.ambiguousOpen false
open Ne (Rl Opt RulesAt areB)
theorem pack_any (Ar Aa Ai : Option Addr) (nr cr na ca ni ci : Nat) (R : List Rl) (mc mt mf wt st id req cnt tim nak ic ii tick : Int) (E : List Ent) (li : List UInt8) (w : World) (B : Nat) (hB : B ≤ w.heap.size) (hR : RulesAt w B Ar R) (hnr : nr = R.length) (hlr : nr ≤ 1000000) (hE : OptsAt w B Aa E) (hna : na = E.length) (hla : na ≤ 1000000) (hda : ∀ e ∈ E, e.d.length ≤ 1000000) (hI : At w B Ai (li.map bv)) (hni : ni = li.length) (hci : ni ≤ ci) (hli : ni ≤ 400000000) : Calls Tryz.prog 19 #[.agg #[.slice Ar nr cr, .int .i64 mc, .int .i64 mt, .int .i64 mf, .int .i64 wt], .agg #[.int .i64 st, .int .i64 id, .int .i64 req, .slice Aa na ca, .int .i64 cnt, .int .i64 tim, .int .i64 nak], .agg #[.int .i64 ic, .int .i64 ii, .slice Ai ni ci], .int .i64 tick] w (PackP (packO ⟨R, mc, mt, mf, wt⟩ ⟨st, id, req, E.map Ent.o, cnt, tim, nak⟩ ⟨ic, ii, li⟩ tick) w) := by
  by_cases h : inB ic 1 7 = true ∧ Cp.encErr ic ii li.length = 0 ∧ fineB ⟨R, mc, mt, mf, wt⟩ ⟨st, id, req, E.map Ent.o, cnt, tim, nak⟩ tick = true
  · exact pack_yes Ar Aa Ai nr cr na ca ni ci R mc mt mf wt st id req cnt tim nak ic ii tick E li w B hB hR hnr hlr hE hna hla hda hI hni hci hli h.1 h.2.1 h.2.2
  · exact pack_no Ar Aa Ai nr cr na ca ni ci R mc mt mf wt st id req cnt tim nak ic ii tick E li w B hB hR hnr hlr hE hna hla hda hI hni hci hli (by
      cases h1 : inB ic 1 7
      · exact .inl rfl
      · refine .inr ?_
        by_cases h2 : Cp.encErr ic ii li.length = 0
        · refine .inr ?_
          cases h3 : fineB ⟨R, mc, mt, mf, wt⟩ ⟨st, id, req, E.map Ent.o, cnt, tim, nak⟩ tick
          · rfl
          · exact absurd ⟨h1, h2, h3⟩ h
        · exact .inl h2)
end Go.Proofs.YthidhfkbfoejbaaGreat
