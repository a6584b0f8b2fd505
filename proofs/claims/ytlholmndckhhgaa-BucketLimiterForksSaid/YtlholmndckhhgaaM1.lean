/- The keys; none; clean. -/
import Derived.Test.YtlholmndckhhgaaM0
import Derived.WalkSpells
namespace Go.Proofs.Ytlholmndckhhgaa
open Go.RowKit Go.Maps
set_option linter.unusedSimpArgs false
set_option linter.unusedVariables false
theorem law45 : Keyed Try.prog 45 := Keyed.of_law (deep_law_laid (m := 3) (by kernel_rfl) (by decide) (of_decide_eq_true (by kernel_rfl)) (by kernel_rfl) (by kernel_rfl))
theorem arr45 : WideMaps.ArrKey Try.prog 45 5 6 := ⟨by kernel_rfl, by kernel_rfl, by kernel_rfl, by kernel_rfl⟩
structure M6 where
  a : Int
  b : Int
  c : Int
  d : Int
  e : Int
  f : Int
theorem lit5 {d : Nat} {v : Value} {L : List Lit} (h : Try.prog.keyLits (d + 1) 5 [v] = some L) : ∃ n, v = .int .u8 n := by
  unfold Program.keyLits at h
  rw [Try.underlying5] at h
  cases v <;> simp at h
  obtain ⟨⟨rfl, -⟩, -⟩ := h
  exact ⟨_, rfl⟩
theorem bind_some' {α β : Type} {x : Option α} {f : α → Option β} {y : β} (h : x.bind f = some y) : ∃ z, x = some z ∧ f z = some y := by
  cases x with
  | none => cases h
  | some z => exact ⟨z, rfl, h⟩
theorem inv45 {key : Value} {kl : Lit} (h : keyOf Try.prog 45 key = some kl) : ∃ x : M6, key = (fun x : M6 => Value.agg #[.int .u8 x.a, .int .u8 x.b, .int .u8 x.c, .int .u8 x.d, .int .u8 x.e, .int .u8 x.f]) x := by
  obtain ⟨xs, L, rfl, hL, -⟩ := keyOf_top (by kernel_rfl) h
  obtain ⟨sz, hsz⟩ : ∃ sz, Try.prog.types.size = sz + 1 := ⟨Try.prog.types.size - 1, by have : 45 < Try.prog.types.size := of_decide_eq_true (by kernel_rfl); omega⟩
  rw [hsz] at hL
  unfold Program.keyLits at hL
  rw [Try.underlying45] at hL
  simp only at hL
  split at hL
  · rename_i hs
    have h6 : xs.size = 6 := by simpa [arr45.size] using hs
    obtain ⟨l⟩ := xs
    match l, h6 with
    | [a, b, c, d, e, f], _ =>
      rw [show List.range 6 = [0, 1, 2, 3, 4, 5] from rfl] at hL
      simp only [List.mapM_cons, List.mapM_nil, arr45.one] at hL
      obtain ⟨z, hL, -⟩ := Option.map_eq_some_iff.1 hL
      obtain ⟨z0, g0, hL⟩ := bind_some' hL
      obtain ⟨t0, hL, -⟩ := bind_some' hL
      obtain ⟨z1, g1, hL⟩ := bind_some' hL
      obtain ⟨t1, hL, -⟩ := bind_some' hL
      obtain ⟨z2, g2, hL⟩ := bind_some' hL
      obtain ⟨t2, hL, -⟩ := bind_some' hL
      obtain ⟨z3, g3, hL⟩ := bind_some' hL
      obtain ⟨t3, hL, -⟩ := bind_some' hL
      obtain ⟨z4, g4, hL⟩ := bind_some' hL
      obtain ⟨t4, hL, -⟩ := bind_some' hL
      obtain ⟨z5, g5, hL⟩ := bind_some' hL
      obtain ⟨n0, rfl⟩ := lit5 (d := sz) g0
      obtain ⟨n1, rfl⟩ := lit5 (d := sz) g1
      obtain ⟨n2, rfl⟩ := lit5 (d := sz) g2
      obtain ⟨n3, rfl⟩ := lit5 (d := sz) g3
      obtain ⟨n4, rfl⟩ := lit5 (d := sz) g4
      obtain ⟨n5, rfl⟩ := lit5 (d := sz) g5
      exact ⟨⟨n0, n1, n2, n3, n4, n5⟩, rfl⟩
  · cases hL
theorem none_no (l bm : Nat) (w : World) (h6 : w.cell? ⟨l, 6, none⟩ = some (.map (some bm))) : Calls Try.prog 30 #[.pointer (some ⟨l, 0, none⟩)] w fun e w' => e = .returned (.bool false) ∧ w = w' := by
  have q := fun (w : World) (r : Option Nat) => run_eql_map_nil (P := Try.prog) w 61 45 25 r (by kernel_rfl)
  have hz := World.block_lt_of_cell? w _ h6
  simp only at hz
  go_enter Try.func30, Try.ntmps30
  go_wp2
  go_ret
  exact ⟨rfl, rfl⟩
theorem none_empty (l : Nat) (w : World) (h6 : w.cell? ⟨l, 6, none⟩ = some (.map none)) : Calls Try.prog 30 #[.pointer (some ⟨l, 0, none⟩)] w fun e w' => e = .returned (.bool true) ∧ w = w' := by
  have q := fun (w : World) (r : Option Nat) => run_eql_map_nil (P := Try.prog) w 61 45 25 r (by kernel_rfl)
  have hz := World.block_lt_of_cell? w _ h6
  simp only at hz
  go_enter Try.func30, Try.ntmps30
  go_wp2
  go_ret
  exact ⟨rfl, rfl⟩
theorem none_nil (w : World) : Calls Try.prog 30 #[.pointer none] w fun e w' => e = .returned (.bool true) ∧ w = w' := by
  go_enter Try.func30, Try.ntmps30
  go_wp2
  go_ret
  exact ⟨rfl, rfl⟩
end Go.Proofs.Ytlholmndckhhgaa
