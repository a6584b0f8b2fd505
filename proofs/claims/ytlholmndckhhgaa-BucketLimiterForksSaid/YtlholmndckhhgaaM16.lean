/- The reference New; what a question leaves of the entries. -/
import Derived.Test.YtlholmndckhhgaaM15a
import Derived.Test.YtlholmndckhhgaaM5
import Derived.StillTailTactics
namespace Go.Proofs.Ytlholmndckhhgaa
open Go.RowKit Go.Maps
set_option linter.unusedSimpArgs false
set_option linter.unusedVariables false
theorem apart_drop {L : Ents} {k : Lit} {b : Int × Int} (hk : WideAt.IsKeyLit k) (hd : L.Pairwise (fun p q => p.1 ≠ q.1)) : (dropL L k ++ [(k, b)]).Pairwise (fun p q => p.1 ≠ q.1) := by
  rw [List.pairwise_append]
  refine ⟨hd.filter _, List.pairwise_singleton _ _, fun p hp q hq => ?_⟩
  simp only [List.mem_singleton] at hq
  subst hq
  have := (List.mem_filter.1 hp).2
  intro e
  rw [(sameKey_iff hk).2 e] at this
  cases this
theorem apart_allow {e1 m1 e2 m2 : Int} {s : LimS} {k : Lit} {t : Int} (hk : WideAt.IsKeyLit k) (hd : s.L.Pairwise (fun p q => p.1 ≠ q.1)) : (allowS e1 m1 e2 m2 s k t).L.Pairwise (fun p q => p.1 ≠ q.1) := by
  unfold allowS
  by_cases h : allowB e1 m1 e2 m2 s k t = true
  · rw [if_pos h]; exact apart_drop hk (hd.filter _)
  · rw [if_neg h]; exact hd.filter _
theorem len_allow (e1 m1 e2 m2 : Int) (s : LimS) (k : Lit) (t : Int) : (allowS e1 m1 e2 m2 s k t).L.length ≤ s.L.length + 1 := by
  have hk : (kept e2 m2 s t).length ≤ s.L.length := List.length_filter_le _ _
  unfold allowS
  by_cases h : allowB e1 m1 e2 m2 s k t = true
  · rw [if_pos h]
    simp only [List.length_append, List.length_singleton]
    have : (dropL (kept e2 m2 s t) k).length ≤ (kept e2 m2 s t).length := List.length_filter_le _ _
    omega
  · rw [if_neg h]; exact Nat.le_succ_of_le hk
def RNewP (e1 m1 e2 m2 : Int) (W : World) (x : Ending) (W' : World) : Prop :=
  Below W.heap.size W W' ∧
  ((newOk e1 m1 e2 m2 = false ∧ ∃ v : Value, x = .returned (.tuple #[.agg #[.int .i64 0, .int .i64 0, .int .i64 0, .int .i64 0, .int .i64 0, .int .i64 0, .slice none 0 0, .int .i64 0], .int .i64 100])) ∨
   (newOk e1 m1 e2 m2 = true ∧ x = .returned (.tuple #[refV e1 m1 e2 m2 ⟨m1, 0, 0, []⟩ ⟨none, 0, 0, []⟩, .int .i64 0])))
set_option maxRecDepth 100000 in
set_option maxHeartbeats 1000000 in
theorem rnew_any (e1 m1 e2 m2 : Int) (W : World) : Calls Try.prog 24 #[.agg #[.int .i64 e1, .int .i64 m1], .agg #[.int .i64 e2, .int .i64 m2]] W (RNewP e1 m1 e2 m2 W) := by
  cases h1 : rated e1 m1
  · have HN := Lib.hid (show newOk e1 m1 e2 m2 = false by simp [newOk, h1])
    have H := Lib.hid h1
    clear h1
    go_enter Try.func24, Try.ntmps24
    go_wp2_with fail
    refine (rated_ref _ _ _).mono ?_; rw [H.out]; rintro e w1 ⟨rfl, hb⟩; obtain ⟨xs, d, rfl⟩ := ext_of hb; clear hb
    go_wp2_with fail
    exact bodyPost_ret (v := .tuple #[.agg #[.int .i64 0, .int .i64 0, .int .i64 0, .int .i64 0, .int .i64 0, .int .i64 0, .slice none 0 0, .int .i64 0], .int .i64 100]) (by simp [results, Try.results24, go_sem]) rfl ⟨by (repeat (first | exact Below.refl _ _ | exact Nat.le_refl _ | (refine below_ext ?_ (by first | (simp [size_ext, grow]; done) | (simp [size_ext, grow]; omega) | omega) _ _) | (refine Below.setCell ?_ (by first | (simp [size_ext, grow]; done) | (simp [size_ext, grow]; omega) | omega) _) | (refine Below.alloc ?_ (by first | (simp [size_ext, grow]; done) | (simp [size_ext, grow]; omega) | omega) _) | refine Below.drew ?_ | refine below_drewN ?_ _ | (refine Below.trans ?_ (Below.mono (by assumption) (by first | (simp [size_ext, grow]; done) | (simp [size_ext, grow]; omega) | omega))))), .inl ⟨HN.out, .int .i64 0, rfl⟩⟩
  · have H := Lib.hid h1
    cases h2 : rated e2 m2
    · have HN := Lib.hid (show newOk e1 m1 e2 m2 = false by simp [newOk, h1, h2])
      have H2 := Lib.hid h2
      clear h1 h2
      go_enter Try.func24, Try.ntmps24
      go_wp2_with fail
      refine (rated_ref _ _ _).mono ?_; rw [H.out]; rintro e w1 ⟨rfl, hb⟩; obtain ⟨xs, d, rfl⟩ := ext_of hb; clear hb
      go_wp2_with fail
      refine (rated_ref _ _ _).mono ?_; rw [H2.out]; rintro e w1 ⟨rfl, hb⟩; obtain ⟨xs2, d2, rfl⟩ := ext_of hb; clear hb
      go_wp2_with fail
      exact bodyPost_ret (v := .tuple #[.agg #[.int .i64 0, .int .i64 0, .int .i64 0, .int .i64 0, .int .i64 0, .int .i64 0, .slice none 0 0, .int .i64 0], .int .i64 100]) (by simp [results, Try.results24, go_sem]) rfl ⟨by (repeat (first | exact Below.refl _ _ | exact Nat.le_refl _ | (refine below_ext ?_ (by first | (simp [size_ext, grow]; done) | (simp [size_ext, grow]; omega) | omega) _ _) | (refine Below.setCell ?_ (by first | (simp [size_ext, grow]; done) | (simp [size_ext, grow]; omega) | omega) _) | (refine Below.alloc ?_ (by first | (simp [size_ext, grow]; done) | (simp [size_ext, grow]; omega) | omega) _) | refine Below.drew ?_ | refine below_drewN ?_ _ | (refine Below.trans ?_ (Below.mono (by assumption) (by first | (simp [size_ext, grow]; done) | (simp [size_ext, grow]; omega) | omega))))), .inl ⟨HN.out, .int .i64 0, rfl⟩⟩
    · have HN := Lib.hid (show newOk e1 m1 e2 m2 = true by simp [newOk, h1, h2])
      have HF := Lib.hid (show full e1 m1 = m1 by simp [full, h1])
      have H2 := Lib.hid h2
      clear h1 h2
      go_enter Try.func24, Try.ntmps24
      go_wp2_with fail
      refine (rated_ref _ _ _).mono ?_; rw [H.out]; rintro e w1 ⟨rfl, hb⟩; obtain ⟨xs, d, rfl⟩ := ext_of hb; clear hb
      go_wp2_with fail
      refine (rated_ref _ _ _).mono ?_; rw [H2.out]; rintro e w1 ⟨rfl, hb⟩; obtain ⟨xs2, d2, rfl⟩ := ext_of hb; clear hb
      go_wp2_with fail
      go_region_held3 (fun w' => w'.cell? ⟨W.heap.size, 0, none⟩ = some (.int .i64 e1) ∧ w'.cell? ⟨W.heap.size, 1, none⟩ = some (.int .i64 m1) ∧ w'.cell? ⟨W.heap.size + 1, 0, none⟩ = some (.int .i64 e2) ∧ w'.cell? ⟨W.heap.size + 1, 1, none⟩ = some (.int .i64 m2)) (first | (go_keep; done) | (go_simp; done) | (simp [go_sem]; done)) ((go_at_call 16; refine (full_ref _ _ _).mono ?_; rw [HF.out]; rintro e w5 ⟨rfl, hb⟩; obtain ⟨xs5, dr5, rfl⟩ := ext_of hb; clear hb))
      all_goals
        go_wp2_with fail
        exact bodyPost_ret (v := .tuple #[refV e1 m1 e2 m2 ⟨m1, 0, 0, []⟩ ⟨none, 0, 0, []⟩, .int .i64 0]) (by simp [results, Try.results24, go_sem, refV]) rfl ⟨by (repeat (first | exact Below.refl _ _ | exact Nat.le_refl _ | (refine below_ext ?_ (by first | (simp [size_ext, grow]; done) | (simp [size_ext, grow]; omega) | omega) _ _) | (refine Below.setCell ?_ (by first | (simp [size_ext, grow]; done) | (simp [size_ext, grow]; omega) | omega) _) | (refine Below.alloc ?_ (by first | (simp [size_ext, grow]; done) | (simp [size_ext, grow]; omega) | omega) _) | refine Below.drew ?_ | refine below_drewN ?_ _ | (refine Below.trans ?_ (Below.mono (by assumption) (by first | (simp [size_ext, grow]; done) | (simp [size_ext, grow]; omega) | omega))))), .inr ⟨HN.out, rfl⟩⟩
end Go.Proofs.Ytlholmndckhhgaa
