/- What the actions do to the numbers. -/
import Derived.Test.YthidhfkbfoejbaaGreatQ4
namespace Go.Proofs.YthidhfkbfoejbaaGreat
open Go.RowKit
set_option linter.unusedSimpArgs false
set_option linter.unusedVariables false
/-- What an action does to the numbers alone. -/
def NumP (b : Nat) (s' : Rm) (v : Value) (w : World) (x : Ending) (w' : World) : Prop := x = .returned v ∧ RunAt w' b s' ∧ w.grownBy w' (some b)
theorem nothing_any (b : Nat) (s : Rm) (w : World) (h : RunAt w b s) : Calls Tryz.prog 105 #[.pointer (some ⟨b, 0, none⟩)] w (NumP b s (.tuple #[]) w) := by
  go_enter Tryz.func105, Tryz.ntmps105
  go_wp2
  exact bodyPost_ret (v := .tuple #[]) (by simp [results, Tryz.results105, go_sem]) rfl ⟨rfl, h, World.grownBy.refl _ _⟩
theorem next_set (b : Nat) (s : Rm) (w : World) (h : RunAt w b s) (h0 : 0 ≤ s.id) (h1 : s.id ≤ 255) :
    Calls Tryz.prog 125 #[.pointer (some ⟨b, 0, none⟩)] w fun x w' => x = .returned (.int .i64 ((s.id + 1) % 256)) ∧ w' = w.setCell ⟨b, 6, none⟩ (.int .i64 ((s.id + 1) % 256)) := by
  obtain ⟨vr, mc, mt, mf, wt, st, id, req, va, cnt, tim, nak, ic, ii, vi, ac, ai, vn, tick, vd, vo⟩ := s
  dsimp only at *
  have H := Lib.hid h
  have hb := h.lt
  have c6 := h.cell 6 (v := .int .i64 id) rfl
  have f6 := h.free 6
  have e1 : Int.tmod (id + 1) 256 = (id + 1) % 256 := Int.tmod_eq_emod_of_nonneg (by omega)
  have e2 : 0 ≤ (id + 1) % 256 := by omega
  have e3 : (id + 1) % 256 < 256 := by omega
  clear h
  go_enter Tryz.func125, Tryz.ntmps125
  go_wp2
  go_ret
  exact ⟨rfl, rfl⟩
theorem next_any (b : Nat) (s : Rm) (w : World) (h : RunAt w b s) (h0 : 0 ≤ s.id) (h1 : s.id ≤ 255) :
    Calls Tryz.prog 125 #[.pointer (some ⟨b, 0, none⟩)] w (NumP b { s with id := (s.id + 1) % 256 } (.int .i64 ((s.id + 1) % 256)) w) :=
  (next_set b s w h h0 h1).mono fun x w' hx => by obtain ⟨rfl, rfl⟩ := hx; exact ⟨rfl, h.id _, grown_set _ _ _ _⟩
theorem zero_any (b : Nat) (s : Rm) (w : World) (h : RunAt w b s) (h0 : 0 ≤ s.tick) (h1 : s.tick ≤ 1099511627776) (h2 : 1 ≤ s.wt) (h3 : s.wt ≤ 1048576) :
    Calls Tryz.prog 97 #[.pointer (some ⟨b, 0, none⟩)] w (NumP b { s with cnt := 0, tim := s.tick + s.wt } (.tuple #[]) w) := by
  obtain ⟨vr, mc, mt, mf, wt, st, id, req, va, cnt, tim, nak, ic, ii, vi, ac, ai, vn, tick, vd, vo⟩ := s
  dsimp only at *
  have H := Lib.hid h
  have hb := h.lt
  have c4 := h.cell 4 (v := .int .i64 wt) rfl
  have c9 := h.cell 9 (v := .int .i64 cnt) rfl
  have c10 := h.cell 10 (v := .int .i64 tim) rfl
  have c18 := h.cell 18 (v := .int .i64 tick) rfl
  have f9 := h.free 9
  have f10 := h.free 10
  have e1 : IntKind.i64.wrap (tick + wt) = tick + wt := IntWalk.i64_in _ (by omega)
  clear h
  go_enter Tryz.func97, Tryz.ntmps97
  go_wp2
  go_region_held3 (fun w' => w'.cell? ⟨b, 18, none⟩ = some (.int .i64 tick) ∧ w'.cell? ⟨b, 4, none⟩ = some (.int .i64 wt)) (first | (go_keep; done) | (go_simp; done) | (simp [go_sem]; done)) (fail)
  all_goals
    refine bodyPost_ret (v := .tuple #[]) (by simp [results, Tryz.results97, go_sem]) rfl ⟨rfl, ?_, ?_⟩
    · exact (H.out.cnt _).tim _
    · exact grn
theorem timed_any (b : Nat) (s : Rm) (w : World) (h : RunAt w b s) (h0 : 0 ≤ s.tick) (h1 : s.tick ≤ 1099511627776) (h2 : 1 ≤ s.wt) (h3 : s.wt ≤ 1048576) (h4 : 0 ≤ s.cnt) (h5 : s.cnt ≤ 1000) :
    Calls Tryz.prog 127 #[.pointer (some ⟨b, 0, none⟩)] w (NumP b { s with cnt := if 0 < s.cnt then s.cnt - 1 else s.cnt, tim := s.tick + s.wt } (.tuple #[]) w) := by
  obtain ⟨vr, mc, mt, mf, wt, st, id, req, va, cnt, tim, nak, ic, ii, vi, ac, ai, vn, tick, vd, vo⟩ := s
  dsimp only at *
  have H := Lib.hid h
  have hb := h.lt
  have c4 := h.cell 4 (v := .int .i64 wt) rfl
  have c9 := h.cell 9 (v := .int .i64 cnt) rfl
  have c10 := h.cell 10 (v := .int .i64 tim) rfl
  have c18 := h.cell 18 (v := .int .i64 tick) rfl
  have f9 := h.free 9
  have f10 := h.free 10
  have e1 : IntKind.i64.wrap (tick + wt) = tick + wt := IntWalk.i64_in _ (by omega)
  clear h
  by_cases hc : 0 < cnt
  · rw [if_pos hc]
    go_enter Tryz.func127, Tryz.ntmps127
    go_wp2
    go_region_held3 (fun w' => w'.cell? ⟨b, 18, none⟩ = some (.int .i64 tick) ∧ w'.cell? ⟨b, 4, none⟩ = some (.int .i64 wt)) (first | (go_keep; done) | (go_simp; done) | (simp [go_sem]; done)) (fail)
    all_goals
      refine bodyPost_ret (v := .tuple #[]) (by simp [results, Tryz.results127, go_sem]) rfl ⟨rfl, ?_, ?_⟩
      · exact (H.out.cnt _).tim _
      · exact grn
  · obtain rfl : cnt = 0 := by omega
    rw [if_neg hc]
    go_enter Tryz.func127, Tryz.ntmps127
    go_wp2
    go_region_held3 (fun w' => w'.cell? ⟨b, 18, none⟩ = some (.int .i64 tick) ∧ w'.cell? ⟨b, 4, none⟩ = some (.int .i64 wt)) (first | (go_keep; done) | (go_simp; done) | (simp [go_sem]; done)) (fail)
    all_goals
      refine bodyPost_ret (v := .tuple #[]) (by simp [results, Tryz.results127, go_sem]) rfl ⟨rfl, ?_, ?_⟩
      · exact (H.out.cnt _).tim _
      · exact grn
end Go.Proofs.YthidhfkbfoejbaaGreat
