/- What goes out: packets in memory of one's own. -/
import Derived.Test.YthidhfkbfoejbaaGreatQ5
import Derived.Deep.RegionLaw
namespace Go.Proofs.YthidhfkbfoejbaaGreat
open Go.RowKit
set_option linter.unusedSimpArgs false
set_option linter.unusedVariables false
def OwnCP (co id : Int) (n : Nat) (l : List UInt8) (w : World) (x : Ending) (w' : World) : Prop :=
  ∃ (A : Option Addr) (c : Nat), x = .returned (.agg #[.int .i64 co, .int .i64 id, .slice A n c]) ∧ Below w.heap.size w w' ∧ n ≤ c ∧ w'.ownsRow w.heap.size 5 1 (.slice A n c) n (l.map bv)
theorem ownc_any (co id : Int) (A : Option Addr) (n c : Nat) (l : List UInt8) (w : World) (B : Nat) (hB : B ≤ w.heap.size) (hA : At w B A (l.map bv)) (hn : n = l.length) (hl : n ≤ 400000000) (hc : n ≤ c) :
    Calls Tryz.prog 138 #[.agg #[.int .i64 co, .int .i64 id, .slice A n c]] w (OwnCP co id n l w) := by
  have HA := Lib.hid hA
  have HN := Lib.hid hn
  have HB := Lib.hid hB
  clear hA hn hB
  go_enter Tryz.func138, Tryz.ntmps138
  go_wp2_with fail
  refine (Ne.clone_any A n c l _ B (by have := HB.out; simp; omega) (by exact HA.out.keep (by have := HB.out; exact bel)) HN.out hl hc).mono ?_
  rintro e w1 ⟨v, rfl, hb, ho⟩
  obtain ⟨A2, c2, rfl, hc2, -⟩ := ownsRow_form ho
  obtain ⟨xs, dr, rfl⟩ := ext_of hb
  have HO := Lib.hid ho
  have HC2 := Lib.hid hc2
  clear hb ho hc2
  go_wp2_with fail
  refine bodyPost_ret (v := .agg #[.int .i64 co, .int .i64 id, .slice A2 n c2]) (by simp [results, Tryz.results138, go_sem]) rfl ⟨A2, c2, rfl, by exact bel, HC2.out, ?_⟩
  exact own_base (own_swap HO.out (by simp) (by simp)) (by simp; omega)
theorem enter_aown (args : Array Value) (w : World) : (callFunc 138 args).run Tryz.prog w = .ok (.enter 138 args) w := by kernel_rfl
set_option maxRecDepth 100000 in
set_option maxHeartbeats 2000000 in
theorem send_any (b : Nat) (s : Rm) (P : List Pe) (co id' : Int) (A : Option Addr) (n c : Nat) (l : List UInt8) (w : World) (h : RunAt w b s) (hp : OwnPks w (b + 1) s.vo P) (hA : At w w.heap.size A (l.map bv)) (hn : n = l.length) (hl : n ≤ 400000000) (hc : n ≤ c) (hP : P.length ≤ 1000) :
    Calls Tryz.prog 126 #[.pointer (some ⟨b, 0, none⟩), .agg #[.int .i64 co, .int .i64 id', .slice A n c]] w fun x w' => x = .returned (.tuple #[]) ∧ ∃ vo P', RunAt w' b { s with vo := vo } ∧ OwnPks w' (b + 1) vo P' ∧ P'.map Pe.o = P.map Pe.o ++ [⟨co, id', l⟩] ∧ Below b w w' := by
  obtain ⟨vr, mc, mt, mf, wt, st, id, req, va, cnt, tim, nak, ic, ii, vi, ac, ai, vn, tick, vd, vo⟩ := s
  dsimp only at *
  obtain ⟨Ao, co', hvo, -, -⟩ := ownsRow_form hp.1
  subst hvo
  obtain ⟨pn, hpn⟩ : ∃ pn, P.length = pn := ⟨_, rfl⟩
  rw [hpn] at hP hp h
  have HPN := Lib.hid hpn
  have H := Lib.hid h
  have HP := Lib.hid hp
  have HA := Lib.hid hA
  have HN := Lib.hid hn
  have hb := h.lt
  have c20 := h.cell 20 (v := .slice Ao pn co') rfl
  have f20 := h.free 20
  clear h hp hA hn hpn
  go_enter Tryz.func126, Tryz.ntmps126
  go_wp2_with fail
  obtain ⟨wz, hwz⟩ : ∃ wz, wz = w.alloc (.cells #[.int .i64 co, .int .i64 id', .slice A n c] 32) := ⟨_, rfl⟩
  rw [← hwz]
  obtain ⟨T, hT⟩ : ∃ T, T = w.heap.size := ⟨_, rfl⟩
  rw [← hT]
  have HTH := Lib.hid (show wz.heap[T]? = some (.cells #[.int .i64 co, .int .i64 id', .slice A n c] 32 (0, 0)) by rw [hwz, hT]; exact heap_alloc_new w _)
  have hTz : T < wz.heap.size := by rw [hwz, hT]; simp
  have HTZ := Lib.hid hTz
  have z0 : wz.cell? ⟨T, 0, none⟩ = some (.int .i64 co) := (cell_of_row _ _ 0 _ _ (0, 0) HTH.out).trans rfl
  have z1 : wz.cell? ⟨T, 1, none⟩ = some (.int .i64 id') := (cell_of_row _ _ 1 _ _ (0, 0) HTH.out).trans rfl
  have z2 : wz.cell? ⟨T, 2, none⟩ = some (.slice A n c) := (cell_of_row _ _ 2 _ _ (0, 0) HTH.out).trans rfl
  have HBZ := Lib.hid (show Below w.heap.size w wz by rw [hwz]; exact (Below.refl _ _).alloc (Nat.le_refl _) _)
  have hszz := HBZ.out.size
  have HZ := Lib.hid (H.out.keep HBZ.out)
  have HPZ := Lib.hid (show OwnPks wz (b + 1) (.slice Ao pn co') P from HP.out.below HBZ.out)
  have hbz : b < wz.heap.size := HZ.out.lt
  have z20 := HZ.out.cell 20 (v := .slice Ao pn co') rfl
  have zf := HZ.out.free 20
  have HVB := Lib.hid (show ∀ g, (Value.slice Ao pn co').ownBlock = some g → g < T from fun g e => by rw [hT]; exact own_lt HP.out.1 e)
  clear hwz hT c20 f20
  go_region_law (first | (refine step_call1 rfl 138 (.tmp 9) #[32] rfl enter_aown (.agg #[.int .i64 co, .int .i64 id', .slice A n c]) rfl ?_; go_must (refine (ownc_any co id' A n c l _ w.heap.size (by first | omega | (simp; omega)) (by exact HA.out.keep (by have := HBZ.out; exact bel)) HN.out hl hc).mono ?_); rintro e w2 ⟨A3, c3, rfl, hb, hc3, ho⟩; obtain ⟨xs2, dr2, rfl⟩ := ext_of hb; have HO2 := Lib.hid ho; clear hb ho hc3; refine ⟨_, rfl, ?_⟩) | (refine step_appg (b + 1) rfl (.tmp 8) (.tmp 11) 35 rfl 32 Tryz.underlying35 (.agg #[.int .i64 0, .int .i64 0, .slice none 0 0]) 3 40 infoCtl rfl (by decide) (by decide) (.slice Ao pn co') pn (cellsP P) rfl (by have h := HPZ.out.1; rw [HPN.out] at h; exact own_below h (by exact bel)) (grow wz.heap.size xs2 + 1) (some ⟨grow wz.heap.size xs2, 0, none⟩) 1 1 [.int .i64 co, .int .i64 id', .slice A3 n c3] rfl rfl (by omega) (by exact At.newN _ _ _ _ _ (by simp [size_ext]) rfl) (by intro u hu; simp at hu; rcases hu with rfl | rfl | rfl <;> rfl) (by simp [size_ext, grow]; omega) ?_; intro A4 c4 w3 ho3 hc3 hg3; have HO3 := Lib.hid ho3; have HG3 := Lib.hid hg3; have HR3 := Lib.hid (RunAt.apart (HZ.out.keep (by exact bel)) hg3 (fun e => by have := own_le HPZ.out.1 e; omega)); have q20 := HR3.out.cell 20 (v := .slice Ao pn co') rfl; have qf := HR3.out.free 20; have qb := HR3.out.lt; clear ho3 hc3 hg3))
  all_goals
    change bodyPost _ _ _ Exit.normal _ _
    refine bodyPost_end (v := .tuple #[]) ?_ ?_ ?_
    · simp [results, Tryz.results126, go_sem]
    · rfl
    refine ⟨rfl, _, P ++ [⟨co, id', l, A3, c3⟩], HR3.out.out _, by
      have hq := OwnPks.pushed (co := co) (id := id') (HPZ.out.below (by exact bel)) (by have h := HO2.out; rw [HN.out] at h; exact own_below (own_base h (by first | omega | (simp; omega))) (by exact bel)) (by rw [HPN.out]; have h := HO3.out; rwa [HN.out] at h) HG3.out
      exact hq.stays (row := some b) (grown_set _ _ _ _) (fun r e => by cases e; omega), by rw [List.map_append]; rfl, by
      have h1 := HBZ.out.mono (show b ≤ w.heap.size by omega)
      exact (Below.trans h1 (Below.grown (by exact bel) HG3.out (by first | omega | (simp [size_ext, grow]; omega)) (fun k hk => by have := own_le HPZ.out.1 hk; omega))).setCell (Nat.le_refl _) _⟩
end Go.Proofs.YthidhfkbfoejbaaGreat
