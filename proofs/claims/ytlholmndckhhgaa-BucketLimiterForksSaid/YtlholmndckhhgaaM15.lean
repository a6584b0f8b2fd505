/- The reference Allow: the walk. -/
import Derived.Test.YtlholmndckhhgaaM15a
import Derived.Outline
namespace Go.Proofs.Ytlholmndckhhgaa
open Go.RowKit Go.Maps
set_option linter.unusedSimpArgs false
set_option linter.unusedVariables false
set_option maxRecDepth 100000 in
set_option maxHeartbeats 8000000 in
theorem rallow_any (e1 m1 e2 m2 : Int) (s : LimS) (r : RefS) (x : M6) (t : Int) (W : World) (B : Nat) (hB : B ≤ W.heap.size) (hr : RefAt W B s r) (hx : x.ok) (h2 : rated e2 m2 = true) (hd : s.L.Pairwise (fun p q => p.1 ≠ q.1)) (hl : s.L.length ≤ 100000) :
    Calls Try.prog 25 #[refV e1 m1 e2 m2 s r, .agg #[.int .u8 x.a, .int .u8 x.b, .int .u8 x.c, .int .u8 x.d, .int .u8 x.e, .int .u8 x.f], .int .i64 t] W
      (RefP e1 m1 e2 m2 (allowS e1 m1 e2 m2 s (keyL x) t) (allowB e1 m1 e2 m2 s (keyL x) t) W) := by
  obtain ⟨bt, bk, tick, L⟩ := s
  obtain ⟨A, N, c, R⟩ := r
  have HR := Lib.hid hr
  have HB := Lib.hid hB
  have HX := Lib.hid hx
  have H2 := Lib.hid h2
  have HD := Lib.hid hd
  have hNl : N ≤ 100000 := by have h1 := hr.n; have h3 := hr.L; simp only at h1 h3 hl; rw [h1]; have := congrArg List.length h3; simp at this; omega
  clear hr hB hx h2 hd hl
  unfold refV
  simp only
  go_enter Try.func25, Try.ntmps25
  go_upto_region 1 with (fail)
  go_cut [27] (fun s27 wx => s27 = .bool (inB t tick 1099511627776) ∧ wx = (((W.alloc (.cells #[.int .i64 e1, .int .i64 m1, .int .i64 e2, .int .i64 m2, .int .i64 bt, .int .i64 bk, .slice A N c, .int .i64 tick] 55)).alloc (.cells #[.int .u8 x.a, .int .u8 x.b, .int .u8 x.c, .int .u8 x.d, .int .u8 x.e, .int .u8 x.f] 45)).alloc (.cells #[.int .i64 0, .int .i64 0, .int .i64 0, .int .i64 0, .int .i64 0, .int .i64 0, .slice none 0 0, .int .i64 0] 55)))
  case first =>
    by_cases h5 : tick ≤ t
    · by_cases h6 : t ≤ 1099511627776
      · have d5 : decide (tick ≤ t) = true := by simpa using h5
        have d6 : decide (t ≤ 1099511627776) = true := by simpa using h6
        have HI := Lib.hid (show inB t tick 1099511627776 = true by simp [inB, h5, h6])
        clear h5 h6
        go_wp2_with fail
        go_meet
        exact ⟨by rw [HI.out], rfl⟩
      · have d5 : decide (tick ≤ t) = true := by simpa using h5
        have d6 : decide (t ≤ 1099511627776) = false := by simpa using h6
        have HI := Lib.hid (show inB t tick 1099511627776 = false by simp [inB, h5, h6])
        clear h5 h6
        go_wp2_with fail
        go_meet
        exact ⟨by rw [HI.out], rfl⟩
    · have d5 : decide (tick ≤ t) = false := by simpa using h5
      have HI := Lib.hid (show inB t tick 1099511627776 = false by simp [inB, h5])
      clear h5
      go_wp2_with fail
      go_meet
      exact ⟨by rw [HI.out], rfl⟩
  case rest =>
    obtain ⟨rfl, rfl⟩ := hcut
    go_upto_if 27 with (fail)
    go_cut [] (fun wx => wx = (((W.alloc (.cells #[.int .i64 e1, .int .i64 m1, .int .i64 e2, .int .i64 m2, .int .i64 bt, .int .i64 bk, .slice A N c, .int .i64 (nowT tick t)] 55)).alloc (.cells #[.int .u8 x.a, .int .u8 x.b, .int .u8 x.c, .int .u8 x.d, .int .u8 x.e, .int .u8 x.f] 45)).alloc (.cells #[.int .i64 0, .int .i64 0, .int .i64 0, .int .i64 0, .int .i64 0, .int .i64 0, .slice none 0 0, .int .i64 0] 55)))
    case first =>
      cases hin : inB t tick 1099511627776
      · have HN := Lib.hid (show nowT tick t = tick by unfold nowT; rw [hin]; rfl)
        clear hin
        go_wp2_with fail
        go_meet
        rw [HN.out]
      · have HN := Lib.hid (show nowT tick t = t by unfold nowT; rw [hin]; rfl)
        clear hin
        go_wp2_with fail
        go_meet
        rw [HN.out]
    case rest =>
      rw [hcut]
      clear hcut
      obtain ⟨n, hn⟩ : ∃ n, nowT tick t = n := ⟨_, rfl⟩
      rw [hn]
      have HNOW := Lib.hid hn
      clear hn
      go_wp2_with fail
      obtain ⟨X, hXX⟩ : ∃ X, W.heap.size = X := ⟨_, rfl⟩
      obtain ⟨W0, hW0⟩ : ∃ W0, W0 = (((W.alloc (.cells #[.int .i64 e1, .int .i64 m1, .int .i64 e2, .int .i64 m2, .int .i64 bt, .int .i64 bk, .slice A N c, .int .i64 n] 55)).alloc (.cells #[.int .u8 x.a, .int .u8 x.b, .int .u8 x.c, .int .u8 x.d, .int .u8 x.e, .int .u8 x.f] 45)).alloc (.cells #[.int .i64 0, .int .i64 0, .int .i64 0, .int .i64 0, .int .i64 0, .int .i64 0, .slice none 0 0, .int .i64 0] 55)).alloc (.cells #[.int .i64 m2, .int .i64 n] 25) := ⟨_, rfl⟩
      have HS0 := Lib.hid (show RLoop W e1 m1 e2 m2 bt bk n A N c x [] (.slice none 0 0) W0 by
        rw [hW0]
        exact ⟨by (repeat (first | ((refine heap_alloc_at _ _ _ ?_); (simp [go_sem]; done)) | ((refine (heap_ext _ _ _ _ ?_).trans ?_); (focus (simp [go_sem]; done))) | ((refine (heap_alloc_past _ _ _ ?_).trans ?_); (focus (simp [go_sem]; done))))), by (repeat (first | ((refine heap_alloc_at _ _ _ ?_); (simp [go_sem]; done)) | ((refine (heap_ext _ _ _ _ ?_).trans ?_); (focus (simp [go_sem]; done))) | ((refine (heap_alloc_past _ _ _ ?_).trans ?_); (focus (simp [go_sem]; done))))), by (repeat (first | ((refine heap_alloc_at _ _ _ ?_); (simp [go_sem]; done)) | ((refine (heap_ext _ _ _ _ ?_).trans ?_); (focus (simp [go_sem]; done))) | ((refine (heap_alloc_past _ _ _ ?_).trans ?_); (focus (simp [go_sem]; done))))), by (repeat (first | ((refine heap_alloc_at _ _ _ ?_); (simp [go_sem]; done)) | ((refine (heap_ext _ _ _ _ ?_).trans ?_); (focus (simp [go_sem]; done))) | ((refine (heap_alloc_past _ _ _ ?_).trans ?_); (focus (simp [go_sem]; done))))), by (repeat (first | exact Below.refl _ _ | exact Nat.le_refl _ | (refine below_ext ?_ (by first | (simp [size_ext, grow]; done) | (simp [size_ext, grow]; omega) | omega) _ _) | (refine Below.setCell ?_ (by first | (simp [size_ext, grow]; done) | (simp [size_ext, grow]; omega) | omega) _) | (refine Below.alloc ?_ (by first | (simp [size_ext, grow]; done) | (simp [size_ext, grow]; omega) | omega) _) | refine Below.drew ?_ | refine below_drewN ?_ _ | (refine Below.trans ?_ (Below.mono (by assumption) (by first | (simp [size_ext, grow]; done) | (simp [size_ext, grow]; omega) | omega))))), own_nil _ _ _ _⟩)
      rw [← hW0]
      clear hW0
      rw [hXX]
      have HXX := Lib.hid hXX
      clear hXX
      go_loopw [11, 8, 10] (fun i v th wr => ∃ (j n' c' : Nat) (A' : Option Addr) (Rk : Rows6), j ≤ N ∧ i = .int .i64 j ∧ v = .slice A' n' c' ∧ n' = Rk.length ∧ n' ≤ j ∧ Rk = (R.take j).filter (keepR e2 m2 n) ∧ th = .bool (hasL (Rk.map entR) (keyL x)) ∧ RLoop W e1 m1 e2 m2 bt bk n A N c x Rk (.slice A' n' c') wr) (fun i _ _ _ => N - (intOf i).toNat)
      case atStart => exact ⟨0, 0, 0, none, [], Nat.zero_le _, rfl, rfl, rfl, Nat.le_refl _, rfl, rfl, HS0.out⟩
      case round =>
        obtain ⟨j, n', c', A', Rk, hj, rfl, rfl, hn', hnj, hRk, rfl, hrl⟩ := hrel
        have HRL := Lib.hid hrl
        have HRK := Lib.hid (And.intro hn' hRk)
        have hsz := hrl.below.size
        clear hn' hRk hrl
        rw [HXX.out] at hsz
        have q2 : wr.cell? ⟨X, 2, none⟩ = some (.int .i64 e2) := by have := (cell_of_row wr _ 2 _ _ (0, 0) HRL.out.st).trans rfl; rwa [HXX.out] at this
        have q3 : wr.cell? ⟨X, 3, none⟩ = some (.int .i64 m2) := by have := (cell_of_row wr _ 3 _ _ (0, 0) HRL.out.st).trans rfl; rwa [HXX.out] at this
        have q6 : wr.cell? ⟨X, 6, none⟩ = some (.slice A N c) := by have := (cell_of_row wr _ 6 _ _ (0, 0) HRL.out.st).trans rfl; rwa [HXX.out] at this
        have q7 : wr.cell? ⟨X, 7, none⟩ = some (.int .i64 n) := by have := (cell_of_row wr _ 7 _ _ (0, 0) HRL.out.st).trans rfl; rwa [HXX.out] at this
        have hXz : X < wr.heap.size := by have := lt_of_block HRL.out.st; have := HXX.out; omega
        by_cases hlt : j < N
        · have HJ := Lib.hid (show j < R.length by have := HR.out.n; simp only at this; omega)
          obtain ⟨b, o, rfl, hbB, hcell⟩ := rowR_get (HR.out.at_.keep (HRL.out.below.mono HB.out)) HJ.out
          have HOKP := Lib.hid (HR.out.ok _ (List.getElem_mem HJ.out))
          obtain ⟨⟨⟨ka, kb, kc, kd, ke, kf⟩, tok, tk⟩, hp⟩ : ∃ p, R[j]'HJ.out = p := ⟨_, rfl⟩
          rw [hp] at hcell HOKP
          have HP := Lib.hid hp
          clear hp
          have g0 : wr.cell? ⟨b, o + j * 8, none⟩ = some (.int .u8 ka) := hcell 0 (by omega)
          have g1 : wr.cell? ⟨b, o + j * 8 + 1, none⟩ = some (.int .u8 kb) := hcell 1 (by omega)
          have g2 : wr.cell? ⟨b, o + j * 8 + 2, none⟩ = some (.int .u8 kc) := hcell 2 (by omega)
          have g3 : wr.cell? ⟨b, o + j * 8 + 3, none⟩ = some (.int .u8 kd) := hcell 3 (by omega)
          have g4 : wr.cell? ⟨b, o + j * 8 + 4, none⟩ = some (.int .u8 ke) := hcell 4 (by omega)
          have g5 : wr.cell? ⟨b, o + j * 8 + 5, none⟩ = some (.int .u8 kf) := hcell 5 (by omega)
          have g6 : wr.cell? ⟨b, o + j * 8 + 6, none⟩ = some (.int .i64 tok) := hcell 6 (by omega)
          have g7 : wr.cell? ⟨b, o + j * 8 + 7, none⟩ = some (.int .i64 tk) := hcell 7 (by omega)
          clear hcell
          have hbz : b < wr.heap.size := by have := HB.out; have := HXX.out; omega
          have jj0 : (0 : Int) ≤ (j : Int) := by omega
          have jj1 : (j : Int) < (N : Int) := by omega
          go_wp2_with fail
          go_cut [12] (fun s12 wx => ∃ (w6 : World) (P : Nat), w6 = wx ∧ s12 = .pointer (some ⟨P, 0, none⟩) ∧ Below wr.heap.size wr w6 ∧ ∃ tt, w6.heap[P]? = some (.cells #[.int .i64 (atTok e2 m2 tok tk n), .int .i64 tt] 25 (0, 0)))
          case first =>
            go_region_held3 (fun w' => w'.cell? ⟨X, 2, none⟩ = some (.int .i64 e2) ∧ w'.cell? ⟨X, 3, none⟩ = some (.int .i64 m2) ∧ w'.cell? ⟨X, 6, none⟩ = some (.slice (some ⟨b, o, none⟩) N c) ∧ w'.cell? ⟨X, 7, none⟩ = some (.int .i64 n) ∧ w'.cell? ⟨b, o + j * 8 + 6, none⟩ = some (.int .i64 tok) ∧ w'.cell? ⟨b, o + j * 8 + 7, none⟩ = some (.int .i64 tk)) (first | (go_keep; done) | (go_simp; done) | (simp [go_sem]; done)) ((go_at_call 12; refine (at_ref _ _ _ _ _ _).mono ?_; rintro e w5 ⟨rfl, hb⟩; obtain ⟨xs5, dr5, rfl⟩ := ext_of hb; clear hb))
            all_goals
              go_wp2_with fail
              go_meet
              exact ⟨_, _, rfl, rfl, by (repeat (first | exact Below.refl _ _ | exact Nat.le_refl _ | (refine below_ext ?_ (by first | (simp [size_ext, grow]; done) | (simp [size_ext, grow]; omega) | omega) _ _) | (refine Below.setCell ?_ (by first | (simp [size_ext, grow]; done) | (simp [size_ext, grow]; omega) | omega) _) | (refine Below.alloc ?_ (by first | (simp [size_ext, grow]; done) | (simp [size_ext, grow]; omega) | omega) _) | refine Below.drew ?_ | refine below_drewN ?_ _ | (refine Below.trans ?_ (Below.mono (by assumption) (by first | (simp [size_ext, grow]; done) | (simp [size_ext, grow]; omega) | omega))))), _, by (repeat (first | ((refine heap_alloc_at _ _ _ ?_); (simp [go_sem]; done)) | ((refine (heap_ext _ _ _ _ ?_).trans ?_); (focus (simp [go_sem]; done))) | ((refine (heap_alloc_past _ _ _ ?_).trans ?_); (focus (simp [go_sem]; done)))))⟩
          case rest =>
            obtain ⟨w6, P, rfl, rfl, hb6, tt, hP⟩ := hcut
            have HRL6 := Lib.hid (HRL.out.grow hb6)
            have HB6 := Lib.hid hb6
            have hz6 := hb6.size
            have pp0 : w6.cell? ⟨P, 0, none⟩ = some (.int .i64 (atTok e2 m2 tok tk n)) := (cell_of_row w6 P 0 _ _ (0, 0) hP).trans rfl
            have ppz : P < w6.heap.size := lt_of_block hP
            have q36 : w6.cell? ⟨X, 3, none⟩ = some (.int .i64 m2) := (hb6.cell (p := ⟨X, 3, none⟩) hXz).trans q3
            have q66 : w6.cell? ⟨X, 6, none⟩ = some (.slice (some ⟨b, o, none⟩) N c) := (hb6.cell (p := ⟨X, 6, none⟩) hXz).trans q6
            have hXz6 : X < w6.heap.size := by omega
            have hbz6 : b < w6.heap.size := by omega
            have G0 : w6.cell? ⟨b, o + j * 8, none⟩ = some (.int .u8 ka) := (hb6.cell (p := ⟨b, _, none⟩) hbz).trans g0
            have G1 : w6.cell? ⟨b, o + j * 8 + 1, none⟩ = some (.int .u8 kb) := (hb6.cell (p := ⟨b, _, none⟩) hbz).trans g1
            have G2 : w6.cell? ⟨b, o + j * 8 + 2, none⟩ = some (.int .u8 kc) := (hb6.cell (p := ⟨b, _, none⟩) hbz).trans g2
            have G3 : w6.cell? ⟨b, o + j * 8 + 3, none⟩ = some (.int .u8 kd) := (hb6.cell (p := ⟨b, _, none⟩) hbz).trans g3
            have G4 : w6.cell? ⟨b, o + j * 8 + 4, none⟩ = some (.int .u8 ke) := (hb6.cell (p := ⟨b, _, none⟩) hbz).trans g4
            have G5 : w6.cell? ⟨b, o + j * 8 + 5, none⟩ = some (.int .u8 kf) := (hb6.cell (p := ⟨b, _, none⟩) hbz).trans g5
            have G6 : w6.cell? ⟨b, o + j * 8 + 6, none⟩ = some (.int .i64 tok) := (hb6.cell (p := ⟨b, _, none⟩) hbz).trans g6
            have G7 : w6.cell? ⟨b, o + j * 8 + 7, none⟩ = some (.int .i64 tk) := (hb6.cell (p := ⟨b, _, none⟩) hbz).trans g7
            clear hb6 hP q2 q3 q6 q7 g0 g1 g2 g3 g4 g5 g6 g7
            have HFS := Lib.hid (filter_snoc HJ.out (keepR e2 m2 n))
            rw [HP.out] at HFS
            by_cases hkp : atTok e2 m2 tok tk n < m2
            · have dk : decide (atTok e2 m2 tok tk n < m2) = true := by simpa using hkp
              have HF2 := Lib.hid (show (R.take (j + 1)).filter (keepR e2 m2 n) = Rk ++ [(⟨ka, kb, kc, kd, ke, kf⟩, (tok, tk))] by rw [HFS.out, if_pos (by unfold keepR; exact dk), ← HRK.out.2])
              have HNEW := Lib.hid (At.newN w6 #[.int .u8 ka, .int .u8 kb, .int .u8 kc, .int .u8 kd, .int .u8 ke, .int .u8 kf, .int .i64 tok, .int .i64 tk] 69 [.int .u8 ka, .int .u8 kb, .int .u8 kc, .int .u8 kd, .int .u8 ke, .int .u8 kf, .int .i64 tok, .int .i64 tk] w6.heap.size rfl rfl)
              have HOW := Lib.hid (show w6.ownsRow W.heap.size 69 8 (.slice A' n' c') n' (cellsR Rk) by have h := HRL6.out.own; rwa [← HRK.out.1] at h)
              have hbW : b < W.heap.size := by have := HB.out; omega
              have HXb := Lib.hid (show ∀ g, (Value.slice A' n' c').ownBlock = some g → g ≠ X from fun g hg e => by
                obtain ⟨cur, hc⟩ := own_type HOW.out hg
                rw [e, ← HXX.out, HRL6.out.st] at hc
                simp at hc)
              clear hkp
              go_wp2_with fail
              go_region_held3 (fun w' => w'.cell? ⟨X, 6, none⟩ = some (.slice (some ⟨b, o, none⟩) N c) ∧ w'.cell? ⟨b, o + j * 8, none⟩ = some (.int .u8 ka) ∧ w'.cell? ⟨b, o + j * 8 + 1, none⟩ = some (.int .u8 kb) ∧ w'.cell? ⟨b, o + j * 8 + 2, none⟩ = some (.int .u8 kc) ∧ w'.cell? ⟨b, o + j * 8 + 3, none⟩ = some (.int .u8 kd) ∧ w'.cell? ⟨b, o + j * 8 + 4, none⟩ = some (.int .u8 ke) ∧ w'.cell? ⟨b, o + j * 8 + 5, none⟩ = some (.int .u8 kf) ∧ w'.cell? ⟨b, o + j * 8 + 6, none⟩ = some (.int .i64 tok) ∧ w'.cell? ⟨b, o + j * 8 + 7, none⟩ = some (.int .i64 tk)) (first | (go_keep; done) | (go_simp; done) | (simp [go_sem]; done)) ((refine step_appv W rfl (.tmp 63) (.tmp 77) 53 rfl 69 Try.underlying53 (.agg #[.int .u8 0, .int .u8 0, .int .u8 0, .int .u8 0, .int .u8 0, .int .u8 0, .int .i64 0, .int .i64 0]) 8 24 info69 rfl (by decide) (by decide) (.slice A' n' c') n' (cellsR Rk) rfl (by exact own_below HOW.out (by (repeat (first | exact Below.refl _ _ | exact Nat.le_refl _ | (refine below_ext ?_ (by first | (simp [size_ext, grow]; done) | (simp [size_ext, grow]; omega) | omega) _ _) | (refine Below.setCell ?_ (by first | (simp [size_ext, grow]; done) | (simp [size_ext, grow]; omega) | omega) _) | (refine Below.alloc ?_ (by first | (simp [size_ext, grow]; done) | (simp [size_ext, grow]; omega) | omega) _) | refine Below.drew ?_ | refine below_drewN ?_ _ | (refine Below.trans ?_ (Below.mono (by assumption) (by first | (simp [size_ext, grow]; done) | (simp [size_ext, grow]; omega) | omega))))))) (w6.heap.size + 1) (some ⟨w6.heap.size, 0, none⟩) 1 1 [.int .u8 ka, .int .u8 kb, .int .u8 kc, .int .u8 kd, .int .u8 ke, .int .u8 kf, .int .i64 tok, .int .i64 tk] rfl rfl (by omega) (by exact HNEW.out) (by intro u hu; simp at hu; rcases hu with rfl | rfl | rfl | rfl | rfl | rfl | rfl | rfl <;> rfl) (by have h1 := HRL6.out.below; have h2 := h1.size; (repeat (first | exact Below.refl _ _ | exact Nat.le_refl _ | (refine below_ext ?_ (by first | (simp [size_ext, grow]; done) | (simp [size_ext, grow]; omega) | omega) _ _) | (refine Below.setCell ?_ (by first | (simp [size_ext, grow]; done) | (simp [size_ext, grow]; omega) | omega) _) | (refine Below.alloc ?_ (by first | (simp [size_ext, grow]; done) | (simp [size_ext, grow]; omega) | omega) _) | refine Below.drew ?_ | refine below_drewN ?_ _ | (refine Below.trans ?_ (Below.mono (by assumption) (by first | (simp [size_ext, grow]; done) | (simp [size_ext, grow]; omega) | omega)))))) ?_; intro A3 c3 w7 ho3 hc3 hb3 hg3; go_loud ( have HT7 := Lib.hid (RLoop.app HRL6.out HOW.out hg3 (by (repeat (first | exact Below.refl _ _ | exact Nat.le_refl _ | (refine below_ext ?_ (by first | (simp [size_ext, grow]; done) | (simp [size_ext, grow]; omega) | omega) _ _) | (refine Below.setCell ?_ (by first | (simp [size_ext, grow]; done) | (simp [size_ext, grow]; omega) | omega) _) | (refine Below.alloc ?_ (by first | (simp [size_ext, grow]; done) | (simp [size_ext, grow]; omega) | omega) _) | refine Below.drew ?_ | refine below_drewN ?_ _ | (refine Below.trans ?_ (Below.mono (by assumption) (by first | (simp [size_ext, grow]; done) | (simp [size_ext, grow]; omega) | omega))))))); have hw7 := HT7.out.1; have Q6 : w7.cell? ⟨X, 6, none⟩ = some (.slice (some ⟨b, o, none⟩) N c) := (by have := (cell_of_row w7 _ 6 _ _ (0, 0) HT7.out.2.1).trans rfl; rwa [HXX.out] at this); have K0 := (hb3.cell (p := ⟨b, o + j * 8, none⟩) hbW).trans (((HRL6.out.below.cell (p := ⟨b, o + j * 8, none⟩) hbW).symm.trans G0)); have K1 := (hb3.cell (p := ⟨b, o + j * 8 + 1, none⟩) hbW).trans (((HRL6.out.below.cell (p := ⟨b, o + j * 8 + 1, none⟩) hbW).symm.trans G1)); have K2 := (hb3.cell (p := ⟨b, o + j * 8 + 2, none⟩) hbW).trans (((HRL6.out.below.cell (p := ⟨b, o + j * 8 + 2, none⟩) hbW).symm.trans G2)); have K3 := (hb3.cell (p := ⟨b, o + j * 8 + 3, none⟩) hbW).trans (((HRL6.out.below.cell (p := ⟨b, o + j * 8 + 3, none⟩) hbW).symm.trans G3)); have K4 := (hb3.cell (p := ⟨b, o + j * 8 + 4, none⟩) hbW).trans (((HRL6.out.below.cell (p := ⟨b, o + j * 8 + 4, none⟩) hbW).symm.trans G4)); have K5 := (hb3.cell (p := ⟨b, o + j * 8 + 5, none⟩) hbW).trans (((HRL6.out.below.cell (p := ⟨b, o + j * 8 + 5, none⟩) hbW).symm.trans G5)); have K6 := (hb3.cell (p := ⟨b, o + j * 8 + 6, none⟩) hbW).trans (((HRL6.out.below.cell (p := ⟨b, o + j * 8 + 6, none⟩) hbW).symm.trans G6)); have K7 := (hb3.cell (p := ⟨b, o + j * 8 + 7, none⟩) hbW).trans (((HRL6.out.below.cell (p := ⟨b, o + j * 8 + 7, none⟩) hbW).symm.trans G7)); have HO3 := Lib.hid ho3; have HB3 := Lib.hid hb3; clear ho3 hc3 hb3 hg3)))
              have hXz7 : X < w7.heap.size := by omega
              have hKz7 : X + 1 < w7.heap.size := by have := lt_of_block HT7.out.2.2.1; have := HXX.out; omega
              have hbz7 : b < w7.heap.size := by omega
              have y0 : w7.cell? ⟨X + 1, 0, none⟩ = some (.int .u8 x.a) := by have := (cell_of_row w7 _ 0 _ _ (0, 0) HT7.out.2.2.1).trans rfl; rwa [HXX.out] at this
              have y1 : w7.cell? ⟨X + 1, 1, none⟩ = some (.int .u8 x.b) := by have := (cell_of_row w7 _ 1 _ _ (0, 0) HT7.out.2.2.1).trans rfl; rwa [HXX.out] at this
              have y2 : w7.cell? ⟨X + 1, 2, none⟩ = some (.int .u8 x.c) := by have := (cell_of_row w7 _ 2 _ _ (0, 0) HT7.out.2.2.1).trans rfl; rwa [HXX.out] at this
              have y3 : w7.cell? ⟨X + 1, 3, none⟩ = some (.int .u8 x.d) := by have := (cell_of_row w7 _ 3 _ _ (0, 0) HT7.out.2.2.1).trans rfl; rwa [HXX.out] at this
              have y4 : w7.cell? ⟨X + 1, 4, none⟩ = some (.int .u8 x.e) := by have := (cell_of_row w7 _ 4 _ _ (0, 0) HT7.out.2.2.1).trans rfl; rwa [HXX.out] at this
              have y5 : w7.cell? ⟨X + 1, 5, none⟩ = some (.int .u8 x.f) := by have := (cell_of_row w7 _ 5 _ _ (0, 0) HT7.out.2.2.1).trans rfl; rwa [HXX.out] at this
              have E6 : ∀ w : World, (binOp .eql 45 (.agg #[.int .u8 ka, .int .u8 kb, .int .u8 kc, .int .u8 kd, .int .u8 ke, .int .u8 kf]) (.agg #[.int .u8 x.a, .int .u8 x.b, .int .u8 x.c, .int .u8 x.d, .int .u8 x.e, .int .u8 x.f])).run Try.prog w = .ok (.bool (eq6 ⟨ka, kb, kc, kd, ke, kf⟩ x)) w := fun w => eql6 (x := ⟨ka, kb, kc, kd, ke, kf⟩) w HOKP.out HX.out
              have EG : ∀ (w : World) (p q : Operand) (u v : Array Value), (eqGuard .eql 45 p q (.agg u) (.agg v)).run Try.prog w = .ok () w := fun w p q u v => guard6 _ w p q u v
              have z0 : w7.cell? ⟨X + 1 + 1 + 1, 0, none⟩ = some (.int .i64 ((getL (Rk.map entR) (keyL x)).getD (m2, n)).1) := by have := (cell_of_row w7 _ 0 _ _ (0, 0) HT7.out.2.2.2.2).trans rfl; rwa [HXX.out] at this
              have z1 : w7.cell? ⟨X + 1 + 1 + 1, 1, none⟩ = some (.int .i64 ((getL (Rk.map entR) (keyL x)).getD (m2, n)).2) := by have := (cell_of_row w7 _ 1 _ _ (0, 0) HT7.out.2.2.2.2).trans rfl; rwa [HXX.out] at this
              have hMz7 : X + 1 + 1 + 1 < w7.heap.size := by have := lt_of_block HT7.out.2.2.2.2; have := HXX.out; omega
              have HS6 := Lib.hid (same6 (x := ⟨ka, kb, kc, kd, ke, kf⟩) HOKP.out HX.out)
              cases hq6 : eq6 ⟨ka, kb, kc, kd, ke, kf⟩ x
              · rw [hq6] at E6 HS6
                go_wp2_with fail
                go_quiet (fail)
                go_wp2_with fail
                go_roundw
                case rel => exact ⟨j + 1, n' + 1, c3, A3, Rk ++ [(⟨ka, kb, kc, kd, ke, kf⟩, (tok, tk))], by omega, by go_num, rfl, by rw [List.length_append, ← HRK.out.1]; rfl, by omega, HF2.out.symm, by rw [has_snoc, HS6.out, Bool.or_false], RLoop.snoc_no (p := (⟨ka, kb, kc, kd, ke, kf⟩, (tok, tk))) HXX.out HT7.out HB3.out HO3.out HRK.out.1 HS6.out⟩
                case measure => simp [intOf]; omega
              · rw [hq6] at E6 HS6
                have HNO := Lib.hid (show hasL (Rk.map entR) (keyL x) = false by
                  have h := HR.out.L
                  simp only at h
                  rw [HRK.out.2]
                  exact no_before (by rw [h]; exact HD.out) HJ.out _ HX.out (by rw [HP.out]; exact HS6.out))
                have f0 : w7.frozen? ⟨X + 1 + 1 + 1, 0, none⟩ = false := by have := frozen_of_row w7 _ 0 _ 25 HT7.out.2.2.2.2; rwa [HXX.out] at this
                have f1 : w7.frozen? ⟨X + 1 + 1 + 1, 1, none⟩ = false := by have := frozen_of_row w7 _ 1 _ 25 HT7.out.2.2.2.2; rwa [HXX.out] at this
                go_wp2_with fail
                go_quiet (fail)
                go_wp2_with fail
                go_roundw
                case rel => exact ⟨j + 1, n' + 1, c3, A3, Rk ++ [(⟨ka, kb, kc, kd, ke, kf⟩, (tok, tk))], by omega, by go_num, rfl, by rw [List.length_append, ← HRK.out.1]; rfl, by omega, HF2.out.symm, by rw [has_snoc, HS6.out, Bool.or_true], RLoop.snoc_yes (p := (⟨ka, kb, kc, kd, ke, kf⟩, (tok, tk))) HXX.out HT7.out HB3.out HO3.out HRK.out.1 HS6.out HNO.out⟩
                case measure => simp [intOf]; omega
            · have dk : decide (atTok e2 m2 tok tk n < m2) = false := by simpa using hkp
              have HF2 := Lib.hid (show (R.take (j + 1)).filter (keepR e2 m2 n) = Rk by rw [HFS.out, if_neg (by unfold keepR; rw [dk]; simp), ← HRK.out.2])
              clear hkp
              go_wp2_with fail
              go_roundw
              case rel => exact ⟨j + 1, n', c', A', Rk, by omega, by go_num, rfl, HRK.out.1, by omega, HF2.out.symm, rfl, HRL6.out⟩
              case measure => simp [intOf]; omega
        · have hjN : j = N := by omega
          subst hjN
          have HALL := Lib.hid (show Rk = R.filter (keepR e2 m2 n) by rw [HRK.out.2, List.take_of_length_le (by have := HR.out.n; simp only at this; omega)])
          have HOKR := Lib.hid (show ∀ p ∈ Rk, p.1.ok from fun p hp => HR.out.ok p (by rw [HALL.out] at hp; exact (List.mem_filter.1 hp).1))
          have HK := Lib.hid (show kept e2 m2 ⟨bt, bk, tick, L⟩ t = Rk.map entR by unfold kept; simp only; rw [HNOW.out, HALL.out, keptR_eq H2.out]; congr 1; exact HR.out.L.symm)
          have q6b : (.slice A' n' c' : Value) = .slice A' n' c' := rfl
          have f6 : wr.frozen? ⟨X, 6, none⟩ = false := by have := frozen_of_row wr _ 6 _ 55 HRL.out.st; rwa [HXX.out] at this
          go_upto_region 16 with (fail)
          refine wp_world (fun W8 => RLoop W e1 m1 e2 m2 bt bk n A' n' c' x Rk (.slice A' n' c') W8) (RLoop.store HRL.out HXX.out) ?_
          intro w8 hrl8
          have HRL8 := Lib.hid hrl8
          clear hrl8 q2 q3 q6 q7 f6 hXz
          have q0 : w8.cell? ⟨X, 0, none⟩ = some (.int .i64 e1) := by have := (cell_of_row w8 _ 0 _ _ (0, 0) HRL8.out.st).trans rfl; rwa [HXX.out] at this
          have q1 : w8.cell? ⟨X, 1, none⟩ = some (.int .i64 m1) := by have := (cell_of_row w8 _ 1 _ _ (0, 0) HRL8.out.st).trans rfl; rwa [HXX.out] at this
          have q2 : w8.cell? ⟨X, 2, none⟩ = some (.int .i64 e2) := by have := (cell_of_row w8 _ 2 _ _ (0, 0) HRL8.out.st).trans rfl; rwa [HXX.out] at this
          have q3 : w8.cell? ⟨X, 3, none⟩ = some (.int .i64 m2) := by have := (cell_of_row w8 _ 3 _ _ (0, 0) HRL8.out.st).trans rfl; rwa [HXX.out] at this
          have q4 : w8.cell? ⟨X, 4, none⟩ = some (.int .i64 bt) := by have := (cell_of_row w8 _ 4 _ _ (0, 0) HRL8.out.st).trans rfl; rwa [HXX.out] at this
          have q5 : w8.cell? ⟨X, 5, none⟩ = some (.int .i64 bk) := by have := (cell_of_row w8 _ 5 _ _ (0, 0) HRL8.out.st).trans rfl; rwa [HXX.out] at this
          have q6 : w8.cell? ⟨X, 6, none⟩ = some (.slice A' n' c') := by have := (cell_of_row w8 _ 6 _ _ (0, 0) HRL8.out.st).trans rfl; rwa [HXX.out] at this
          have q7 : w8.cell? ⟨X, 7, none⟩ = some (.int .i64 n) := by have := (cell_of_row w8 _ 7 _ _ (0, 0) HRL8.out.st).trans rfl; rwa [HXX.out] at this
          have hXz : X < w8.heap.size := by have := lt_of_block HRL8.out.st; have := HXX.out; omega
          have hKz : X + 1 < w8.heap.size := by have := lt_of_block HRL8.out.key; have := HXX.out; omega
          have hRz : X + 1 + 1 < w8.heap.size := by have := lt_of_block HRL8.out.res; have := HXX.out; omega
          have hMz : X + 1 + 1 + 1 < w8.heap.size := by have := lt_of_block HRL8.out.mine; have := HXX.out; omega
          have r0 : w8.cell? ⟨X + 1 + 1, 0, none⟩ = some (.int .i64 0) := by have := (cell_of_row w8 _ 0 _ _ (0, 0) HRL8.out.res).trans rfl; rwa [HXX.out] at this
          have fr0 : w8.frozen? ⟨X + 1 + 1, 0, none⟩ = false := by have := frozen_of_row w8 _ 0 _ 55 HRL8.out.res; rwa [HXX.out] at this
          have r1 : w8.cell? ⟨X + 1 + 1, 1, none⟩ = some (.int .i64 0) := by have := (cell_of_row w8 _ 1 _ _ (0, 0) HRL8.out.res).trans rfl; rwa [HXX.out] at this
          have fr1 : w8.frozen? ⟨X + 1 + 1, 1, none⟩ = false := by have := frozen_of_row w8 _ 1 _ 55 HRL8.out.res; rwa [HXX.out] at this
          have r2 : w8.cell? ⟨X + 1 + 1, 2, none⟩ = some (.int .i64 0) := by have := (cell_of_row w8 _ 2 _ _ (0, 0) HRL8.out.res).trans rfl; rwa [HXX.out] at this
          have fr2 : w8.frozen? ⟨X + 1 + 1, 2, none⟩ = false := by have := frozen_of_row w8 _ 2 _ 55 HRL8.out.res; rwa [HXX.out] at this
          have r3 : w8.cell? ⟨X + 1 + 1, 3, none⟩ = some (.int .i64 0) := by have := (cell_of_row w8 _ 3 _ _ (0, 0) HRL8.out.res).trans rfl; rwa [HXX.out] at this
          have fr3 : w8.frozen? ⟨X + 1 + 1, 3, none⟩ = false := by have := frozen_of_row w8 _ 3 _ 55 HRL8.out.res; rwa [HXX.out] at this
          have r4 : w8.cell? ⟨X + 1 + 1, 4, none⟩ = some (.int .i64 0) := by have := (cell_of_row w8 _ 4 _ _ (0, 0) HRL8.out.res).trans rfl; rwa [HXX.out] at this
          have fr4 : w8.frozen? ⟨X + 1 + 1, 4, none⟩ = false := by have := frozen_of_row w8 _ 4 _ 55 HRL8.out.res; rwa [HXX.out] at this
          have r5 : w8.cell? ⟨X + 1 + 1, 5, none⟩ = some (.int .i64 0) := by have := (cell_of_row w8 _ 5 _ _ (0, 0) HRL8.out.res).trans rfl; rwa [HXX.out] at this
          have fr5 : w8.frozen? ⟨X + 1 + 1, 5, none⟩ = false := by have := frozen_of_row w8 _ 5 _ 55 HRL8.out.res; rwa [HXX.out] at this
          have r6 : w8.cell? ⟨X + 1 + 1, 6, none⟩ = some (.slice none 0 0) := by have := (cell_of_row w8 _ 6 _ _ (0, 0) HRL8.out.res).trans rfl; rwa [HXX.out] at this
          have fr6 : w8.frozen? ⟨X + 1 + 1, 6, none⟩ = false := by have := frozen_of_row w8 _ 6 _ 55 HRL8.out.res; rwa [HXX.out] at this
          have r7 : w8.cell? ⟨X + 1 + 1, 7, none⟩ = some (.int .i64 0) := by have := (cell_of_row w8 _ 7 _ _ (0, 0) HRL8.out.res).trans rfl; rwa [HXX.out] at this
          have fr7 : w8.frozen? ⟨X + 1 + 1, 7, none⟩ = false := by have := frozen_of_row w8 _ 7 _ 55 HRL8.out.res; rwa [HXX.out] at this
          by_cases hmany : hasL (Rk.map entR) (keyL x) = false ∧ 256 ≤ n'
          · obtain ⟨hth, h256⟩ := hmany
            have d256 : decide ((256 : Int) ≤ (n' : Int)) = true := by simp; omega
            have HB0 := Lib.hid (show allowB e1 m1 e2 m2 ⟨bt, bk, tick, L⟩ (keyL x) t = false by unfold allowB tooMany; rw [HK.out, hth, List.length_map, ← HRK.out.1]; simp [h256])
            have HS0 := Lib.hid (show allowS e1 m1 e2 m2 ⟨bt, bk, tick, L⟩ (keyL x) t = ⟨bt, bk, n, Rk.map entR⟩ by unfold allowS; rw [HB0.out, HK.out]; simp only; rw [HNOW.out]; rfl)
            rw [hth]
            clear h256
            go_wp2_with fail
            have hrow := row8 HRL8.out.res (.int .i64 e1) (.int .i64 m1) (.int .i64 e2) (.int .i64 m2) (.int .i64 bt) (.int .i64 bk) (.slice A' n' c') (.int .i64 n)
            have htwo := two8 (Two.refl W.heap.size (W.heap.size + 1 + 1) w8) (.int .i64 e1) (.int .i64 m1) (.int .i64 e2) (.int .i64 m2) (.int .i64 bt) (.int .i64 bk) (.slice A' n' c') (.int .i64 n)
            rw [HXX.out] at hrow htwo
            revert hrow htwo
            generalize ((((((((w8.setCell ⟨X + 1 + 1, 0, none⟩ (.int .i64 e1)).setCell ⟨X + 1 + 1, 1, none⟩ (.int .i64 m1)).setCell ⟨X + 1 + 1, 2, none⟩ (.int .i64 e2)).setCell ⟨X + 1 + 1, 3, none⟩ (.int .i64 m2)).setCell ⟨X + 1 + 1, 4, none⟩ (.int .i64 bt)).setCell ⟨X + 1 + 1, 5, none⟩ (.int .i64 bk)).setCell ⟨X + 1 + 1, 6, none⟩ (.slice A' n' c')).setCell ⟨X + 1 + 1, 7, none⟩ (.int .i64 n)) = w9
            intro hrow htwo
            have s0 : w9.cell? ⟨X + 1 + 1, 0, none⟩ = some (.int .i64 e1) := (cell_of_row w9 _ 0 _ _ (0, 0) hrow).trans rfl
            have s1 : w9.cell? ⟨X + 1 + 1, 1, none⟩ = some (.int .i64 m1) := (cell_of_row w9 _ 1 _ _ (0, 0) hrow).trans rfl
            have s2 : w9.cell? ⟨X + 1 + 1, 2, none⟩ = some (.int .i64 e2) := (cell_of_row w9 _ 2 _ _ (0, 0) hrow).trans rfl
            have s3 : w9.cell? ⟨X + 1 + 1, 3, none⟩ = some (.int .i64 m2) := (cell_of_row w9 _ 3 _ _ (0, 0) hrow).trans rfl
            have s4 : w9.cell? ⟨X + 1 + 1, 4, none⟩ = some (.int .i64 bt) := (cell_of_row w9 _ 4 _ _ (0, 0) hrow).trans rfl
            have s5 : w9.cell? ⟨X + 1 + 1, 5, none⟩ = some (.int .i64 bk) := (cell_of_row w9 _ 5 _ _ (0, 0) hrow).trans rfl
            have s6 : w9.cell? ⟨X + 1 + 1, 6, none⟩ = some (.slice A' n' c') := (cell_of_row w9 _ 6 _ _ (0, 0) hrow).trans rfl
            have s7 : w9.cell? ⟨X + 1 + 1, 7, none⟩ = some (.int .i64 n) := (cell_of_row w9 _ 7 _ _ (0, 0) hrow).trans rfl
            rw [← HXX.out] at htwo
            have hbel := HRL8.out.below.trans (htwo.below HRL8.out.below.size (Nat.le_refl _) (by omega))
            have hdone := RLoop.done HRL8.out HRK.out.1 htwo ⟨bt, bk, n, Rk.map entR⟩ rfl HOKR.out
            exact bodyPost_ret (v := .tuple #[refV e1 m1 e2 m2 ⟨bt, bk, n, Rk.map entR⟩ ⟨A', n', c', Rk⟩, .bool false]) (by simp [results, Try.results25, go_sem, refV, s0, s1, s2, s3, s4, s5, s6, s7]) rfl ⟨⟨A', n', c', Rk⟩, by rw [HB0.out, HS0.out], hbel, by rw [HS0.out]; exact hdone, own_basis HRL8.out.own⟩
          · have HB1 := Lib.hid (show tooMany e2 m2 ⟨bt, bk, tick, L⟩ (keyL x) t = false by
              unfold tooMany; rw [HK.out, List.length_map, ← HRK.out.1]; simp only [not_and, Bool.not_eq_false, Bool.and_eq_false_iff, Bool.not_eq_false', decide_eq_false_iff_not] at *; by_cases hx1 : hasL (Rk.map entR) (keyL x) = true
              · exact .inl hx1
              · right; intro h2; exact hx1 (by simpa using fun h3 => hmany h3 h2))
            obtain ⟨u1, u2, hmine⟩ : ∃ u1 u2, (getL (Rk.map entR) (keyL x)).getD (m2, n) = (u1, u2) := ⟨_, _, rfl⟩
            have q0m : w8.cell? ⟨X + 1 + 1 + 1, 0, none⟩ = some (.int .i64 u1) := by have := (cell_of_row w8 _ 0 _ _ (0, 0) HRL8.out.mine).trans rfl; rw [hmine] at this; rwa [HXX.out] at this
            have q1m : w8.cell? ⟨X + 1 + 1 + 1, 1, none⟩ = some (.int .i64 u2) := by have := (cell_of_row w8 _ 1 _ _ (0, 0) HRL8.out.mine).trans rfl; rw [hmine] at this; rwa [HXX.out] at this
            have HMI := Lib.hid (show mine e2 m2 ⟨bt, bk, tick, L⟩ (keyL x) t = (u1, u2) by unfold mine; rw [HK.out]; simp only; rw [HNOW.out, hmine])
            clear hmine
            have HALB := Lib.hid (show allowB e1 m1 e2 m2 ⟨bt, bk, tick, L⟩ (keyL x) t = (tkOk e1 m1 bt bk n && tkOk e2 m2 u1 u2 n) by unfold allowB; rw [HB1.out, HMI.out]; simp only; rw [HNOW.out]; rfl)
            have HALS := Lib.hid (show allowS e1 m1 e2 m2 ⟨bt, bk, tick, L⟩ (keyL x) t = if (tkOk e1 m1 bt bk n && tkOk e2 m2 u1 u2 n) = true then ⟨tkTok e1 m1 bt bk n, tkTick e1 m1 bt bk n, n, dropL (Rk.map entR) (keyL x) ++ [(keyL x, (tkTok e2 m2 u1 u2 n, tkTick e2 m2 u1 u2 n))]⟩ else ⟨bt, bk, n, Rk.map entR⟩ by unfold allowS; rw [HALB.out, HMI.out, HK.out]; simp only; rw [HNOW.out])
            have HD256 := Lib.hid (show hasL (Rk.map entR) (keyL x) = true ∨ decide ((256 : Int) ≤ (n' : Int)) = false by
              cases hth : hasL (Rk.map entR) (keyL x)
              · right; simp; have := mt (And.intro hth) hmany; omega
              · exact .inl rfl)
            clear hmany
            cases hth : hasL (Rk.map entR) (keyL x)
            case' false => have d256 : decide ((256 : Int) ≤ (n' : Int)) = false := by
                             rcases HD256.out with h | h
                             · rw [hth] at h; cases h
                             · exact h
            all_goals
              clear hth
              go_wp2_with fail
              refine (take_ref _ _ _ _ _ _).mono ?_
              rintro e w9 ⟨rfl, hb⟩
              obtain ⟨xs9, dr9, rfl⟩ := ext_of hb
              clear hb
              go_wp2_with fail
              refine (take_ref _ _ _ _ _ _).mono ?_
              rintro e w10 ⟨rfl, hb⟩
              obtain ⟨xs10, dr10, rfl⟩ := ext_of hb
              clear hb
              cases ht1 : tkOk e1 m1 bt bk n
              · have HB2 := Lib.hid (show allowB e1 m1 e2 m2 ⟨bt, bk, tick, L⟩ (keyL x) t = false by rw [HALB.out, ht1]; rfl)
                have HS2 := Lib.hid (show allowS e1 m1 e2 m2 ⟨bt, bk, tick, L⟩ (keyL x) t = ⟨bt, bk, n, Rk.map entR⟩ by rw [HALS.out, ht1]; rfl)
                clear ht1
                go_upto_region 21 with (fail)
                clear q0m q1m
                refine wp_world (fun W8 => RLoop W e1 m1 e2 m2 bt bk n A' n' c' x Rk (.slice A' n' c') W8) (HRL8.out.grow (by (repeat (first | exact Below.refl _ _ | exact Nat.le_refl _ | (refine below_ext ?_ (by first | (simp [size_ext, grow]; done) | (simp [size_ext, grow]; omega) | omega) _ _) | (refine Below.setCell ?_ (by first | (simp [size_ext, grow]; done) | (simp [size_ext, grow]; omega) | omega) _) | (refine Below.alloc ?_ (by first | (simp [size_ext, grow]; done) | (simp [size_ext, grow]; omega) | omega) _) | refine Below.drew ?_ | refine below_drewN ?_ _ | (refine Below.trans ?_ (Below.mono (by assumption) (by first | (simp [size_ext, grow]; done) | (simp [size_ext, grow]; omega) | omega))))))) ?_
                intro w9 hrl9
                have HRL9 := Lib.hid hrl9
                clear hrl9 q0 q1 q2 q3 q4 q5 q6 q7 hXz hKz hRz hMz r0 r1 r2 r3 r4 r5 r6 r7 fr0 fr1 fr2 fr3 fr4 fr5 fr6 fr7
                have q0 : w9.cell? ⟨X, 0, none⟩ = some (.int .i64 e1) := by have := (cell_of_row w9 _ 0 _ _ (0, 0) HRL9.out.st).trans rfl; rwa [HXX.out] at this
                have q1 : w9.cell? ⟨X, 1, none⟩ = some (.int .i64 m1) := by have := (cell_of_row w9 _ 1 _ _ (0, 0) HRL9.out.st).trans rfl; rwa [HXX.out] at this
                have q2 : w9.cell? ⟨X, 2, none⟩ = some (.int .i64 e2) := by have := (cell_of_row w9 _ 2 _ _ (0, 0) HRL9.out.st).trans rfl; rwa [HXX.out] at this
                have q3 : w9.cell? ⟨X, 3, none⟩ = some (.int .i64 m2) := by have := (cell_of_row w9 _ 3 _ _ (0, 0) HRL9.out.st).trans rfl; rwa [HXX.out] at this
                have q4 : w9.cell? ⟨X, 4, none⟩ = some (.int .i64 bt) := by have := (cell_of_row w9 _ 4 _ _ (0, 0) HRL9.out.st).trans rfl; rwa [HXX.out] at this
                have q5 : w9.cell? ⟨X, 5, none⟩ = some (.int .i64 bk) := by have := (cell_of_row w9 _ 5 _ _ (0, 0) HRL9.out.st).trans rfl; rwa [HXX.out] at this
                have q6 : w9.cell? ⟨X, 6, none⟩ = some (.slice A' n' c') := by have := (cell_of_row w9 _ 6 _ _ (0, 0) HRL9.out.st).trans rfl; rwa [HXX.out] at this
                have q7 : w9.cell? ⟨X, 7, none⟩ = some (.int .i64 n) := by have := (cell_of_row w9 _ 7 _ _ (0, 0) HRL9.out.st).trans rfl; rwa [HXX.out] at this
                have hXz : X < w9.heap.size := by have := lt_of_block HRL9.out.st; have := HXX.out; omega
                have hKz : X + 1 < w9.heap.size := by have := lt_of_block HRL9.out.key; have := HXX.out; omega
                have hRz : X + 1 + 1 < w9.heap.size := by have := lt_of_block HRL9.out.res; have := HXX.out; omega
                have hMz : X + 1 + 1 + 1 < w9.heap.size := by have := lt_of_block HRL9.out.mine; have := HXX.out; omega
                have r0 : w9.cell? ⟨X + 1 + 1, 0, none⟩ = some (.int .i64 0) := by have := (cell_of_row w9 _ 0 _ _ (0, 0) HRL9.out.res).trans rfl; rwa [HXX.out] at this
                have fr0 : w9.frozen? ⟨X + 1 + 1, 0, none⟩ = false := by have := frozen_of_row w9 _ 0 _ 55 HRL9.out.res; rwa [HXX.out] at this
                have r1 : w9.cell? ⟨X + 1 + 1, 1, none⟩ = some (.int .i64 0) := by have := (cell_of_row w9 _ 1 _ _ (0, 0) HRL9.out.res).trans rfl; rwa [HXX.out] at this
                have fr1 : w9.frozen? ⟨X + 1 + 1, 1, none⟩ = false := by have := frozen_of_row w9 _ 1 _ 55 HRL9.out.res; rwa [HXX.out] at this
                have r2 : w9.cell? ⟨X + 1 + 1, 2, none⟩ = some (.int .i64 0) := by have := (cell_of_row w9 _ 2 _ _ (0, 0) HRL9.out.res).trans rfl; rwa [HXX.out] at this
                have fr2 : w9.frozen? ⟨X + 1 + 1, 2, none⟩ = false := by have := frozen_of_row w9 _ 2 _ 55 HRL9.out.res; rwa [HXX.out] at this
                have r3 : w9.cell? ⟨X + 1 + 1, 3, none⟩ = some (.int .i64 0) := by have := (cell_of_row w9 _ 3 _ _ (0, 0) HRL9.out.res).trans rfl; rwa [HXX.out] at this
                have fr3 : w9.frozen? ⟨X + 1 + 1, 3, none⟩ = false := by have := frozen_of_row w9 _ 3 _ 55 HRL9.out.res; rwa [HXX.out] at this
                have r4 : w9.cell? ⟨X + 1 + 1, 4, none⟩ = some (.int .i64 0) := by have := (cell_of_row w9 _ 4 _ _ (0, 0) HRL9.out.res).trans rfl; rwa [HXX.out] at this
                have fr4 : w9.frozen? ⟨X + 1 + 1, 4, none⟩ = false := by have := frozen_of_row w9 _ 4 _ 55 HRL9.out.res; rwa [HXX.out] at this
                have r5 : w9.cell? ⟨X + 1 + 1, 5, none⟩ = some (.int .i64 0) := by have := (cell_of_row w9 _ 5 _ _ (0, 0) HRL9.out.res).trans rfl; rwa [HXX.out] at this
                have fr5 : w9.frozen? ⟨X + 1 + 1, 5, none⟩ = false := by have := frozen_of_row w9 _ 5 _ 55 HRL9.out.res; rwa [HXX.out] at this
                have r6 : w9.cell? ⟨X + 1 + 1, 6, none⟩ = some (.slice none 0 0) := by have := (cell_of_row w9 _ 6 _ _ (0, 0) HRL9.out.res).trans rfl; rwa [HXX.out] at this
                have fr6 : w9.frozen? ⟨X + 1 + 1, 6, none⟩ = false := by have := frozen_of_row w9 _ 6 _ 55 HRL9.out.res; rwa [HXX.out] at this
                have r7 : w9.cell? ⟨X + 1 + 1, 7, none⟩ = some (.int .i64 0) := by have := (cell_of_row w9 _ 7 _ _ (0, 0) HRL9.out.res).trans rfl; rwa [HXX.out] at this
                have fr7 : w9.frozen? ⟨X + 1 + 1, 7, none⟩ = false := by have := frozen_of_row w9 _ 7 _ 55 HRL9.out.res; rwa [HXX.out] at this
                go_wp2_with fail
                have hrow := row8 HRL9.out.res (.int .i64 e1) (.int .i64 m1) (.int .i64 e2) (.int .i64 m2) (.int .i64 bt) (.int .i64 bk) (.slice A' n' c') (.int .i64 n)
                have htwo := two8 (Two.refl W.heap.size (W.heap.size + 1 + 1) w9) (.int .i64 e1) (.int .i64 m1) (.int .i64 e2) (.int .i64 m2) (.int .i64 bt) (.int .i64 bk) (.slice A' n' c') (.int .i64 n)
                rw [HXX.out] at hrow htwo
                revert hrow htwo
                generalize ((((((((w9.setCell ⟨X + 1 + 1, 0, none⟩ (.int .i64 e1)).setCell ⟨X + 1 + 1, 1, none⟩ (.int .i64 m1)).setCell ⟨X + 1 + 1, 2, none⟩ (.int .i64 e2)).setCell ⟨X + 1 + 1, 3, none⟩ (.int .i64 m2)).setCell ⟨X + 1 + 1, 4, none⟩ (.int .i64 bt)).setCell ⟨X + 1 + 1, 5, none⟩ (.int .i64 bk)).setCell ⟨X + 1 + 1, 6, none⟩ (.slice A' n' c')).setCell ⟨X + 1 + 1, 7, none⟩ (.int .i64 n)) = w10
                intro hrow htwo
                have s0 : w10.cell? ⟨X + 1 + 1, 0, none⟩ = some (.int .i64 e1) := (cell_of_row w10 _ 0 _ _ (0, 0) hrow).trans rfl
                have s1 : w10.cell? ⟨X + 1 + 1, 1, none⟩ = some (.int .i64 m1) := (cell_of_row w10 _ 1 _ _ (0, 0) hrow).trans rfl
                have s2 : w10.cell? ⟨X + 1 + 1, 2, none⟩ = some (.int .i64 e2) := (cell_of_row w10 _ 2 _ _ (0, 0) hrow).trans rfl
                have s3 : w10.cell? ⟨X + 1 + 1, 3, none⟩ = some (.int .i64 m2) := (cell_of_row w10 _ 3 _ _ (0, 0) hrow).trans rfl
                have s4 : w10.cell? ⟨X + 1 + 1, 4, none⟩ = some (.int .i64 bt) := (cell_of_row w10 _ 4 _ _ (0, 0) hrow).trans rfl
                have s5 : w10.cell? ⟨X + 1 + 1, 5, none⟩ = some (.int .i64 bk) := (cell_of_row w10 _ 5 _ _ (0, 0) hrow).trans rfl
                have s6 : w10.cell? ⟨X + 1 + 1, 6, none⟩ = some (.slice A' n' c') := (cell_of_row w10 _ 6 _ _ (0, 0) hrow).trans rfl
                have s7 : w10.cell? ⟨X + 1 + 1, 7, none⟩ = some (.int .i64 n) := (cell_of_row w10 _ 7 _ _ (0, 0) hrow).trans rfl
                rw [← HXX.out] at htwo
                have hbel := HRL9.out.below.trans (htwo.below HRL9.out.below.size (Nat.le_refl _) (by omega))
                have hdone := RLoop.done HRL9.out HRK.out.1 htwo ⟨bt, bk, n, Rk.map entR⟩ rfl HOKR.out
                exact bodyPost_ret (v := .tuple #[refV e1 m1 e2 m2 ⟨bt, bk, n, Rk.map entR⟩ ⟨A', n', c', Rk⟩, .bool false]) (by simp [results, Try.results25, go_sem, refV, s0, s1, s2, s3, s4, s5, s6, s7]) rfl ⟨⟨A', n', c', Rk⟩, by rw [HB2.out, HS2.out], hbel, by rw [HS2.out]; exact hdone, own_basis HRL9.out.own⟩
              · cases ht2 : tkOk e2 m2 u1 u2 n
                · have HB2 := Lib.hid (show allowB e1 m1 e2 m2 ⟨bt, bk, tick, L⟩ (keyL x) t = false by rw [HALB.out, ht1, ht2]; rfl)
                  have HS2 := Lib.hid (show allowS e1 m1 e2 m2 ⟨bt, bk, tick, L⟩ (keyL x) t = ⟨bt, bk, n, Rk.map entR⟩ by rw [HALS.out, ht1, ht2]; rfl)
                  clear ht1 ht2
                  go_upto_region 21 with (fail)
                  clear q0m q1m
                  refine wp_world (fun W8 => RLoop W e1 m1 e2 m2 bt bk n A' n' c' x Rk (.slice A' n' c') W8) (HRL8.out.grow (by (repeat (first | exact Below.refl _ _ | exact Nat.le_refl _ | (refine below_ext ?_ (by first | (simp [size_ext, grow]; done) | (simp [size_ext, grow]; omega) | omega) _ _) | (refine Below.setCell ?_ (by first | (simp [size_ext, grow]; done) | (simp [size_ext, grow]; omega) | omega) _) | (refine Below.alloc ?_ (by first | (simp [size_ext, grow]; done) | (simp [size_ext, grow]; omega) | omega) _) | refine Below.drew ?_ | refine below_drewN ?_ _ | (refine Below.trans ?_ (Below.mono (by assumption) (by first | (simp [size_ext, grow]; done) | (simp [size_ext, grow]; omega) | omega))))))) ?_
                  intro w9 hrl9
                  have HRL9 := Lib.hid hrl9
                  clear hrl9 q0 q1 q2 q3 q4 q5 q6 q7 hXz hKz hRz hMz r0 r1 r2 r3 r4 r5 r6 r7 fr0 fr1 fr2 fr3 fr4 fr5 fr6 fr7
                  have q0 : w9.cell? ⟨X, 0, none⟩ = some (.int .i64 e1) := by have := (cell_of_row w9 _ 0 _ _ (0, 0) HRL9.out.st).trans rfl; rwa [HXX.out] at this
                  have q1 : w9.cell? ⟨X, 1, none⟩ = some (.int .i64 m1) := by have := (cell_of_row w9 _ 1 _ _ (0, 0) HRL9.out.st).trans rfl; rwa [HXX.out] at this
                  have q2 : w9.cell? ⟨X, 2, none⟩ = some (.int .i64 e2) := by have := (cell_of_row w9 _ 2 _ _ (0, 0) HRL9.out.st).trans rfl; rwa [HXX.out] at this
                  have q3 : w9.cell? ⟨X, 3, none⟩ = some (.int .i64 m2) := by have := (cell_of_row w9 _ 3 _ _ (0, 0) HRL9.out.st).trans rfl; rwa [HXX.out] at this
                  have q4 : w9.cell? ⟨X, 4, none⟩ = some (.int .i64 bt) := by have := (cell_of_row w9 _ 4 _ _ (0, 0) HRL9.out.st).trans rfl; rwa [HXX.out] at this
                  have q5 : w9.cell? ⟨X, 5, none⟩ = some (.int .i64 bk) := by have := (cell_of_row w9 _ 5 _ _ (0, 0) HRL9.out.st).trans rfl; rwa [HXX.out] at this
                  have q6 : w9.cell? ⟨X, 6, none⟩ = some (.slice A' n' c') := by have := (cell_of_row w9 _ 6 _ _ (0, 0) HRL9.out.st).trans rfl; rwa [HXX.out] at this
                  have q7 : w9.cell? ⟨X, 7, none⟩ = some (.int .i64 n) := by have := (cell_of_row w9 _ 7 _ _ (0, 0) HRL9.out.st).trans rfl; rwa [HXX.out] at this
                  have hXz : X < w9.heap.size := by have := lt_of_block HRL9.out.st; have := HXX.out; omega
                  have hKz : X + 1 < w9.heap.size := by have := lt_of_block HRL9.out.key; have := HXX.out; omega
                  have hRz : X + 1 + 1 < w9.heap.size := by have := lt_of_block HRL9.out.res; have := HXX.out; omega
                  have hMz : X + 1 + 1 + 1 < w9.heap.size := by have := lt_of_block HRL9.out.mine; have := HXX.out; omega
                  have r0 : w9.cell? ⟨X + 1 + 1, 0, none⟩ = some (.int .i64 0) := by have := (cell_of_row w9 _ 0 _ _ (0, 0) HRL9.out.res).trans rfl; rwa [HXX.out] at this
                  have fr0 : w9.frozen? ⟨X + 1 + 1, 0, none⟩ = false := by have := frozen_of_row w9 _ 0 _ 55 HRL9.out.res; rwa [HXX.out] at this
                  have r1 : w9.cell? ⟨X + 1 + 1, 1, none⟩ = some (.int .i64 0) := by have := (cell_of_row w9 _ 1 _ _ (0, 0) HRL9.out.res).trans rfl; rwa [HXX.out] at this
                  have fr1 : w9.frozen? ⟨X + 1 + 1, 1, none⟩ = false := by have := frozen_of_row w9 _ 1 _ 55 HRL9.out.res; rwa [HXX.out] at this
                  have r2 : w9.cell? ⟨X + 1 + 1, 2, none⟩ = some (.int .i64 0) := by have := (cell_of_row w9 _ 2 _ _ (0, 0) HRL9.out.res).trans rfl; rwa [HXX.out] at this
                  have fr2 : w9.frozen? ⟨X + 1 + 1, 2, none⟩ = false := by have := frozen_of_row w9 _ 2 _ 55 HRL9.out.res; rwa [HXX.out] at this
                  have r3 : w9.cell? ⟨X + 1 + 1, 3, none⟩ = some (.int .i64 0) := by have := (cell_of_row w9 _ 3 _ _ (0, 0) HRL9.out.res).trans rfl; rwa [HXX.out] at this
                  have fr3 : w9.frozen? ⟨X + 1 + 1, 3, none⟩ = false := by have := frozen_of_row w9 _ 3 _ 55 HRL9.out.res; rwa [HXX.out] at this
                  have r4 : w9.cell? ⟨X + 1 + 1, 4, none⟩ = some (.int .i64 0) := by have := (cell_of_row w9 _ 4 _ _ (0, 0) HRL9.out.res).trans rfl; rwa [HXX.out] at this
                  have fr4 : w9.frozen? ⟨X + 1 + 1, 4, none⟩ = false := by have := frozen_of_row w9 _ 4 _ 55 HRL9.out.res; rwa [HXX.out] at this
                  have r5 : w9.cell? ⟨X + 1 + 1, 5, none⟩ = some (.int .i64 0) := by have := (cell_of_row w9 _ 5 _ _ (0, 0) HRL9.out.res).trans rfl; rwa [HXX.out] at this
                  have fr5 : w9.frozen? ⟨X + 1 + 1, 5, none⟩ = false := by have := frozen_of_row w9 _ 5 _ 55 HRL9.out.res; rwa [HXX.out] at this
                  have r6 : w9.cell? ⟨X + 1 + 1, 6, none⟩ = some (.slice none 0 0) := by have := (cell_of_row w9 _ 6 _ _ (0, 0) HRL9.out.res).trans rfl; rwa [HXX.out] at this
                  have fr6 : w9.frozen? ⟨X + 1 + 1, 6, none⟩ = false := by have := frozen_of_row w9 _ 6 _ 55 HRL9.out.res; rwa [HXX.out] at this
                  have r7 : w9.cell? ⟨X + 1 + 1, 7, none⟩ = some (.int .i64 0) := by have := (cell_of_row w9 _ 7 _ _ (0, 0) HRL9.out.res).trans rfl; rwa [HXX.out] at this
                  have fr7 : w9.frozen? ⟨X + 1 + 1, 7, none⟩ = false := by have := frozen_of_row w9 _ 7 _ 55 HRL9.out.res; rwa [HXX.out] at this
                  go_wp2_with fail
                  have hrow := row8 HRL9.out.res (.int .i64 e1) (.int .i64 m1) (.int .i64 e2) (.int .i64 m2) (.int .i64 bt) (.int .i64 bk) (.slice A' n' c') (.int .i64 n)
                  have htwo := two8 (Two.refl W.heap.size (W.heap.size + 1 + 1) w9) (.int .i64 e1) (.int .i64 m1) (.int .i64 e2) (.int .i64 m2) (.int .i64 bt) (.int .i64 bk) (.slice A' n' c') (.int .i64 n)
                  rw [HXX.out] at hrow htwo
                  revert hrow htwo
                  generalize ((((((((w9.setCell ⟨X + 1 + 1, 0, none⟩ (.int .i64 e1)).setCell ⟨X + 1 + 1, 1, none⟩ (.int .i64 m1)).setCell ⟨X + 1 + 1, 2, none⟩ (.int .i64 e2)).setCell ⟨X + 1 + 1, 3, none⟩ (.int .i64 m2)).setCell ⟨X + 1 + 1, 4, none⟩ (.int .i64 bt)).setCell ⟨X + 1 + 1, 5, none⟩ (.int .i64 bk)).setCell ⟨X + 1 + 1, 6, none⟩ (.slice A' n' c')).setCell ⟨X + 1 + 1, 7, none⟩ (.int .i64 n)) = w10
                  intro hrow htwo
                  have s0 : w10.cell? ⟨X + 1 + 1, 0, none⟩ = some (.int .i64 e1) := (cell_of_row w10 _ 0 _ _ (0, 0) hrow).trans rfl
                  have s1 : w10.cell? ⟨X + 1 + 1, 1, none⟩ = some (.int .i64 m1) := (cell_of_row w10 _ 1 _ _ (0, 0) hrow).trans rfl
                  have s2 : w10.cell? ⟨X + 1 + 1, 2, none⟩ = some (.int .i64 e2) := (cell_of_row w10 _ 2 _ _ (0, 0) hrow).trans rfl
                  have s3 : w10.cell? ⟨X + 1 + 1, 3, none⟩ = some (.int .i64 m2) := (cell_of_row w10 _ 3 _ _ (0, 0) hrow).trans rfl
                  have s4 : w10.cell? ⟨X + 1 + 1, 4, none⟩ = some (.int .i64 bt) := (cell_of_row w10 _ 4 _ _ (0, 0) hrow).trans rfl
                  have s5 : w10.cell? ⟨X + 1 + 1, 5, none⟩ = some (.int .i64 bk) := (cell_of_row w10 _ 5 _ _ (0, 0) hrow).trans rfl
                  have s6 : w10.cell? ⟨X + 1 + 1, 6, none⟩ = some (.slice A' n' c') := (cell_of_row w10 _ 6 _ _ (0, 0) hrow).trans rfl
                  have s7 : w10.cell? ⟨X + 1 + 1, 7, none⟩ = some (.int .i64 n) := (cell_of_row w10 _ 7 _ _ (0, 0) hrow).trans rfl
                  rw [← HXX.out] at htwo
                  have hbel := HRL9.out.below.trans (htwo.below HRL9.out.below.size (Nat.le_refl _) (by omega))
                  have hdone := RLoop.done HRL9.out HRK.out.1 htwo ⟨bt, bk, n, Rk.map entR⟩ rfl HOKR.out
                  exact bodyPost_ret (v := .tuple #[refV e1 m1 e2 m2 ⟨bt, bk, n, Rk.map entR⟩ ⟨A', n', c', Rk⟩, .bool false]) (by simp [results, Try.results25, go_sem, refV, s0, s1, s2, s3, s4, s5, s6, s7]) rfl ⟨⟨A', n', c', Rk⟩, by rw [HB2.out, HS2.out], hbel, by rw [HS2.out]; exact hdone, own_basis HRL9.out.own⟩
                · have HB2 := Lib.hid (show allowB e1 m1 e2 m2 ⟨bt, bk, tick, L⟩ (keyL x) t = true by rw [HALB.out, ht1, ht2]; rfl)
                  have HS2 := Lib.hid (show allowS e1 m1 e2 m2 ⟨bt, bk, tick, L⟩ (keyL x) t = ⟨tkTok e1 m1 bt bk n, tkTick e1 m1 bt bk n, n, dropL (Rk.map entR) (keyL x) ++ [(keyL x, (tkTok e2 m2 u1 u2 n, tkTick e2 m2 u1 u2 n))]⟩ by rw [HALS.out, ht1, ht2]; rfl)
                  clear ht1 ht2
                  go_upto_region 22 with (fail)
                  obtain ⟨P16, hP16⟩ : ∃ P, grow (grow w8.heap.size xs9) xs10 + 1 = P := ⟨_, rfl⟩
                  obtain ⟨P14, hP14⟩ : ∃ P, grow w8.heap.size xs9 = P := ⟨_, rfl⟩
                  rw [hP16, hP14]
                  obtain ⟨a1, ha1⟩ : ∃ a, tkTok e1 m1 bt bk n = a := ⟨_, rfl⟩
                  obtain ⟨a2, ha2⟩ : ∃ a, tkTick e1 m1 bt bk n = a := ⟨_, rfl⟩
                  obtain ⟨a3, ha3⟩ : ∃ a, tkTok e2 m2 u1 u2 n = a := ⟨_, rfl⟩
                  obtain ⟨a4, ha4⟩ : ∃ a, tkTick e2 m2 u1 u2 n = a := ⟨_, rfl⟩
                  rw [ha1, ha2, ha3, ha4] at HS2 ⊢
                  clear ha1 ha2 ha3 ha4 q0m q1m
                  refine wp_world (fun W8 => RLoop W e1 m1 e2 m2 bt bk n A' n' c' x Rk (.slice A' n' c') W8 ∧ W8.heap[P14]? = some (.cells #[.int .i64 a1, .int .i64 a2] 25 (0, 0)) ∧ W8.heap[P16]? = some (.cells #[.int .i64 a3, .int .i64 a4] 25 (0, 0)) ∧ X + 1 + 1 + 1 < P14 ∧ X + 1 + 1 + 1 < P16) ⟨HRL8.out.grow (by (repeat (first | exact Below.refl _ _ | exact Nat.le_refl _ | (refine below_ext ?_ (by first | (simp [size_ext, grow]; done) | (simp [size_ext, grow]; omega) | omega) _ _) | (refine Below.setCell ?_ (by first | (simp [size_ext, grow]; done) | (simp [size_ext, grow]; omega) | omega) _) | (refine Below.alloc ?_ (by first | (simp [size_ext, grow]; done) | (simp [size_ext, grow]; omega) | omega) _) | refine Below.drew ?_ | refine below_drewN ?_ _ | (refine Below.trans ?_ (Below.mono (by assumption) (by first | (simp [size_ext, grow]; done) | (simp [size_ext, grow]; omega) | omega)))))), by rw [← hP14]; (repeat (first | ((refine heap_alloc_at _ _ _ ?_); (simp [go_sem]; done)) | ((refine (heap_ext _ _ _ _ ?_).trans ?_); (focus (simp [go_sem]; done))) | ((refine (heap_alloc_past _ _ _ ?_).trans ?_); (focus (simp [go_sem]; done))))), by rw [← hP16]; (repeat (first | ((refine heap_alloc_at _ _ _ ?_); (simp [go_sem]; done)) | ((refine (heap_ext _ _ _ _ ?_).trans ?_); (focus (simp [go_sem]; done))) | ((refine (heap_alloc_past _ _ _ ?_).trans ?_); (focus (simp [go_sem]; done))))), by rw [← hP14]; simp only [grow]; omega, by rw [← hP16]; simp only [grow]; omega⟩ ?_
                  clear hP14 hP16
                  intro w9 ⟨hrl9, h14, h16, hl14, hl16⟩
                  have HRL9 := Lib.hid hrl9
                  have H16 := Lib.hid h16
                  clear hrl9 h16 q0 q1 q2 q3 q4 q5 q6 q7 hXz hKz hRz hMz r0 r1 r2 r3 r4 r5 r6 r7 fr0 fr1 fr2 fr3 fr4 fr5 fr6 fr7
                  have v0 : w9.cell? ⟨P14, 0, none⟩ = some (.int .i64 a1) := (cell_of_row w9 _ 0 _ _ (0, 0) h14).trans rfl
                  have v1 : w9.cell? ⟨P14, 1, none⟩ = some (.int .i64 a2) := (cell_of_row w9 _ 1 _ _ (0, 0) h14).trans rfl
                  have g4 : w9.cell? ⟨X, 4, none⟩ = some (.int .i64 bt) := by have := (cell_of_row w9 _ 4 _ _ (0, 0) HRL9.out.st).trans rfl; rwa [HXX.out] at this
                  have g5 : w9.cell? ⟨X, 5, none⟩ = some (.int .i64 bk) := by have := (cell_of_row w9 _ 5 _ _ (0, 0) HRL9.out.st).trans rfl; rwa [HXX.out] at this
                  have f4 : w9.frozen? ⟨X, 4, none⟩ = false := by have := frozen_of_row w9 _ 4 _ 55 HRL9.out.st; rwa [HXX.out] at this
                  have f5 : w9.frozen? ⟨X, 5, none⟩ = false := by have := frozen_of_row w9 _ 5 _ 55 HRL9.out.st; rwa [HXX.out] at this
                  clear h14
                  go_upto_region 23 with (fail)
                  refine wp_world (fun W8 => RLoop W e1 m1 e2 m2 a1 a2 n A' n' c' x Rk (.slice A' n' c') W8 ∧ W8.heap[P16]? = some (.cells #[.int .i64 a3, .int .i64 a4] 25 (0, 0))) ⟨RLoop.store45 HRL9.out HXX.out, ((Below.heap_setCell _ ⟨X, 5, none⟩ _ P16 (by simp; omega)).trans (Below.heap_setCell w9 ⟨X, 4, none⟩ _ P16 (by simp; omega))).trans H16.out⟩ ?_
                  clear v0 v1 g4 g5 f4 f5 HRL9 H16
                  intro w10 ⟨hrl10, h16⟩
                  have HRL10 := Lib.hid hrl10
                  have H16 := Lib.hid h16
                  clear hrl10 h16
                  have HKO := Lib.hid (show w10.ownsRow W.heap.size 69 8 (.slice A' n' c') n' (cellsR Rk) by have h := HRL10.out.own; rwa [← HRK.out.1] at h)
                  have hXz : X + 1 + 1 + 1 < w10.heap.size := by have := lt_of_block HRL10.out.mine; have := HXX.out; omega
                  have hXpz : P16 < w10.heap.size := lt_of_block H16.out
                  go_wp2_with fail
                  go_loopw [19, 18] (fun i v wr => ∃ (j2 n2 c2 : Nat) (A2 : Option Addr) (Rn : Rows6), j2 ≤ n' ∧ i = .int .i64 j2 ∧ v = .slice A2 n2 c2 ∧ n2 = Rn.length ∧ n2 ≤ j2 ∧ Rn = (Rk.take j2).filter (fun p => !eq6 p.1 x) ∧ Below w10.heap.size w10 wr ∧ wr.ownsRow w10.heap.size 69 8 (.slice A2 n2 c2) n2 (cellsR Rn)) (fun i _ _ => n' - (intOf i).toNat)
                  case atStart => exact ⟨0, 0, 0, none, [], Nat.zero_le _, rfl, rfl, rfl, Nat.le_refl _, rfl, by (repeat (first | exact Below.refl _ _ | exact Nat.le_refl _ | (refine below_ext ?_ (by first | (simp [size_ext, grow]; done) | (simp [size_ext, grow]; omega) | omega) _ _) | (refine Below.setCell ?_ (by first | (simp [size_ext, grow]; done) | (simp [size_ext, grow]; omega) | omega) _) | (refine Below.alloc ?_ (by first | (simp [size_ext, grow]; done) | (simp [size_ext, grow]; omega) | omega) _) | refine Below.drew ?_ | refine below_drewN ?_ _ | (refine Below.trans ?_ (Below.mono (by assumption) (by first | (simp [size_ext, grow]; done) | (simp [size_ext, grow]; omega) | omega))))), own_nil _ _ _ _⟩
                  case round =>
                    obtain ⟨j2, n2, c2, A2, Rn, hj2, rfl, rfl, hn2, hn2j, hRn, hbel, hown⟩ := hrel
                    have HN2 := Lib.hid (And.intro hn2 hRn)
                    have HBL := Lib.hid hbel
                    have HOW := Lib.hid hown
                    have hsz2 := hbel.size
                    clear hn2 hRn hbel hown
                    have HRW := Lib.hid (HRL10.out.grow HBL.out)
                    by_cases hlt : j2 < n'
                    · have HJ := Lib.hid (show j2 < Rk.length by have := HRK.out.1; omega)
                      obtain ⟨b, o, hA', hbB, hcell⟩ := rowR_get ((At.of_own HKO.out).keep HBL.out) HJ.out
                      have HOKP := Lib.hid (HOKR.out _ (List.getElem_mem HJ.out))
                      obtain ⟨⟨⟨ka, kb, kc, kd, ke, kf⟩, tok, tk⟩, hp⟩ : ∃ p, Rk[j2]'HJ.out = p := ⟨_, rfl⟩
                      rw [hp] at hcell HOKP
                      have HP := Lib.hid hp
                      clear hp
                      rw [hA']
                      have g0 : wr.cell? ⟨b, o + j2 * 8, none⟩ = some (.int .u8 ka) := hcell 0 (by omega)
                      have g1 : wr.cell? ⟨b, o + j2 * 8 + 1, none⟩ = some (.int .u8 kb) := hcell 1 (by omega)
                      have g2 : wr.cell? ⟨b, o + j2 * 8 + 2, none⟩ = some (.int .u8 kc) := hcell 2 (by omega)
                      have g3 : wr.cell? ⟨b, o + j2 * 8 + 3, none⟩ = some (.int .u8 kd) := hcell 3 (by omega)
                      have g4 : wr.cell? ⟨b, o + j2 * 8 + 4, none⟩ = some (.int .u8 ke) := hcell 4 (by omega)
                      have g5 : wr.cell? ⟨b, o + j2 * 8 + 5, none⟩ = some (.int .u8 kf) := hcell 5 (by omega)
                      have g6 : wr.cell? ⟨b, o + j2 * 8 + 6, none⟩ = some (.int .i64 tok) := hcell 6 (by omega)
                      have g7 : wr.cell? ⟨b, o + j2 * 8 + 7, none⟩ = some (.int .i64 tk) := hcell 7 (by omega)
                      have HA' := Lib.hid hA'
                      clear hcell hA'
                      have hbz : b < wr.heap.size := by omega
                      have jj0 : (0 : Int) ≤ (j2 : Int) := by omega
                      have jj1 : (j2 : Int) < (n' : Int) := by omega
                      have y0 : wr.cell? ⟨X + 1, 0, none⟩ = some (.int .u8 x.a) := by have := (cell_of_row wr _ 0 _ _ (0, 0) HRW.out.key).trans rfl; rwa [HXX.out] at this
                      have y1 : wr.cell? ⟨X + 1, 1, none⟩ = some (.int .u8 x.b) := by have := (cell_of_row wr _ 1 _ _ (0, 0) HRW.out.key).trans rfl; rwa [HXX.out] at this
                      have y2 : wr.cell? ⟨X + 1, 2, none⟩ = some (.int .u8 x.c) := by have := (cell_of_row wr _ 2 _ _ (0, 0) HRW.out.key).trans rfl; rwa [HXX.out] at this
                      have y3 : wr.cell? ⟨X + 1, 3, none⟩ = some (.int .u8 x.d) := by have := (cell_of_row wr _ 3 _ _ (0, 0) HRW.out.key).trans rfl; rwa [HXX.out] at this
                      have y4 : wr.cell? ⟨X + 1, 4, none⟩ = some (.int .u8 x.e) := by have := (cell_of_row wr _ 4 _ _ (0, 0) HRW.out.key).trans rfl; rwa [HXX.out] at this
                      have y5 : wr.cell? ⟨X + 1, 5, none⟩ = some (.int .u8 x.f) := by have := (cell_of_row wr _ 5 _ _ (0, 0) HRW.out.key).trans rfl; rwa [HXX.out] at this
                      have E6 : ∀ w : World, (binOp .neq 45 (.agg #[.int .u8 ka, .int .u8 kb, .int .u8 kc, .int .u8 kd, .int .u8 ke, .int .u8 kf]) (.agg #[.int .u8 x.a, .int .u8 x.b, .int .u8 x.c, .int .u8 x.d, .int .u8 x.e, .int .u8 x.f])).run Try.prog w = .ok (.bool (!eq6 ⟨ka, kb, kc, kd, ke, kf⟩ x)) w := fun w => neq6 (x := ⟨ka, kb, kc, kd, ke, kf⟩) w HOKP.out HX.out
                      have EG : ∀ (w : World) (p q : Operand) (u v : Array Value), (eqGuard .neq 45 p q (.agg u) (.agg v)).run Try.prog w = .ok () w := fun w p q u v => guard6 _ w p q u v
                      have HFS := Lib.hid (filter_snoc HJ.out (fun p => !eq6 p.1 x))
                      rw [HP.out] at HFS
                      cases hq6 : eq6 ⟨ka, kb, kc, kd, ke, kf⟩ x
                      · rw [hq6] at E6
                        have HF2 := Lib.hid (show (Rk.take (j2 + 1)).filter (fun p => !eq6 p.1 x) = Rn ++ [(⟨ka, kb, kc, kd, ke, kf⟩, (tok, tk))] by rw [HFS.out, if_pos (by simp [hq6]), ← HN2.out.2])
                        clear hq6
                        go_wp2_with fail
                        go_quiet (fail)
                        go_wp2_with (at_builtin; refine wpList_appv w10 rfl (.tmp 144) (.tmp 149) 53 rfl 69 Try.underlying53 (.agg #[.int .u8 0, .int .u8 0, .int .u8 0, .int .u8 0, .int .u8 0, .int .u8 0, .int .i64 0, .int .i64 0]) 8 24 info69 rfl (by decide) (by decide) (.slice A2 n2 c2) n2 (cellsR Rn) rfl (by exact own_below HOW.out (by (repeat (first | exact Below.refl _ _ | exact Nat.le_refl _ | (refine below_ext ?_ (by first | (simp [size_ext, grow]; done) | (simp [size_ext, grow]; omega) | omega) _ _) | (refine Below.setCell ?_ (by first | (simp [size_ext, grow]; done) | (simp [size_ext, grow]; omega) | omega) _) | (refine Below.alloc ?_ (by first | (simp [size_ext, grow]; done) | (simp [size_ext, grow]; omega) | omega) _) | refine Below.drew ?_ | refine below_drewN ?_ _ | (refine Below.trans ?_ (Below.mono (by assumption) (by first | (simp [size_ext, grow]; done) | (simp [size_ext, grow]; omega) | omega))))))) (wr.heap.size + 1) (some ⟨wr.heap.size, 0, none⟩) 1 1 [.int .u8 ka, .int .u8 kb, .int .u8 kc, .int .u8 kd, .int .u8 ke, .int .u8 kf, .int .i64 tok, .int .i64 tk] rfl rfl (by omega) (by exact At.newN _ _ _ _ _ rfl rfl) (by intro u hu; simp at hu; rcases hu with rfl | rfl | rfl | rfl | rfl | rfl | rfl | rfl <;> rfl) (by (repeat (first | exact Below.refl _ _ | exact Nat.le_refl _ | (refine below_ext ?_ (by first | (simp [size_ext, grow]; done) | (simp [size_ext, grow]; omega) | omega) _ _) | (refine Below.setCell ?_ (by first | (simp [size_ext, grow]; done) | (simp [size_ext, grow]; omega) | omega) _) | (refine Below.alloc ?_ (by first | (simp [size_ext, grow]; done) | (simp [size_ext, grow]; omega) | omega) _) | refine Below.drew ?_ | refine below_drewN ?_ _ | (refine Below.trans ?_ (Below.mono (by assumption) (by first | (simp [size_ext, grow]; done) | (simp [size_ext, grow]; omega) | omega)))))) ?_; intro A3 c3 w7 ho3 hc3 hb3 hg3; have HO3 := Lib.hid ho3; have HB3 := Lib.hid hb3; clear ho3 hc3 hb3 hg3)
                        go_roundw
                        case rel => exact ⟨j2 + 1, n2 + 1, c3, A3, Rn ++ [(⟨ka, kb, kc, kd, ke, kf⟩, (tok, tk))], by omega, by go_num, rfl, by rw [List.length_append, ← HN2.out.1]; rfl, by omega, HF2.out.symm, HB3.out, by rw [cellsR_snoc]; exact HO3.out⟩
                        case measure => simp [intOf]; omega
                      · rw [hq6] at E6
                        have HF2 := Lib.hid (show (Rk.take (j2 + 1)).filter (fun p => !eq6 p.1 x) = Rn by rw [HFS.out, if_neg (by simp [hq6]), ← HN2.out.2])
                        clear hq6
                        go_wp2_with fail
                        go_quiet (fail)
                        go_wp2_with fail
                        go_roundw
                        case rel => exact ⟨j2 + 1, n2, c2, A2, Rn, by omega, by go_num, rfl, HN2.out.1, by omega, HF2.out.symm, below_drewN HBL.out _, own_drewN HOW.out _⟩
                        case measure => simp [intOf]; omega
                    · have e2' : n' = j2 := by omega
                      subst e2'
                      have HALL2 := Lib.hid (show Rn = Rk.filter (fun p => !eq6 p.1 x) by rw [HN2.out.2, List.take_of_length_le (by have := HRK.out.1; omega)])
                      have y0 : wr.cell? ⟨X + 1, 0, none⟩ = some (.int .u8 x.a) := by have := (cell_of_row wr _ 0 _ _ (0, 0) HRW.out.key).trans rfl; rwa [HXX.out] at this
                      have y1 : wr.cell? ⟨X + 1, 1, none⟩ = some (.int .u8 x.b) := by have := (cell_of_row wr _ 1 _ _ (0, 0) HRW.out.key).trans rfl; rwa [HXX.out] at this
                      have y2 : wr.cell? ⟨X + 1, 2, none⟩ = some (.int .u8 x.c) := by have := (cell_of_row wr _ 2 _ _ (0, 0) HRW.out.key).trans rfl; rwa [HXX.out] at this
                      have y3 : wr.cell? ⟨X + 1, 3, none⟩ = some (.int .u8 x.d) := by have := (cell_of_row wr _ 3 _ _ (0, 0) HRW.out.key).trans rfl; rwa [HXX.out] at this
                      have y4 : wr.cell? ⟨X + 1, 4, none⟩ = some (.int .u8 x.e) := by have := (cell_of_row wr _ 4 _ _ (0, 0) HRW.out.key).trans rfl; rwa [HXX.out] at this
                      have y5 : wr.cell? ⟨X + 1, 5, none⟩ = some (.int .u8 x.f) := by have := (cell_of_row wr _ 5 _ _ (0, 0) HRW.out.key).trans rfl; rwa [HXX.out] at this
                      have z0 : wr.cell? ⟨P16, 0, none⟩ = some (.int .i64 a3) := (cell_of_row wr _ 0 _ _ (0, 0) ((HBL.out.block P16 hXpz).trans H16.out)).trans rfl
                      have z1 : wr.cell? ⟨P16, 1, none⟩ = some (.int .i64 a4) := (cell_of_row wr _ 1 _ _ (0, 0) ((HBL.out.block P16 hXpz).trans H16.out)).trans rfl
                      go_upto_region 30 with (at_builtin; refine wpList_appv w10 rfl (.tmp 151) (.tmp 155) 53 rfl 69 Try.underlying53 (.agg #[.int .u8 0, .int .u8 0, .int .u8 0, .int .u8 0, .int .u8 0, .int .u8 0, .int .i64 0, .int .i64 0]) 8 24 info69 rfl (by decide) (by decide) (.slice A2 n2 c2) n2 (cellsR Rn) rfl (by exact own_below HOW.out (by (repeat (first | exact Below.refl _ _ | exact Nat.le_refl _ | (refine below_ext ?_ (by first | (simp [size_ext, grow]; done) | (simp [size_ext, grow]; omega) | omega) _ _) | (refine Below.setCell ?_ (by first | (simp [size_ext, grow]; done) | (simp [size_ext, grow]; omega) | omega) _) | (refine Below.alloc ?_ (by first | (simp [size_ext, grow]; done) | (simp [size_ext, grow]; omega) | omega) _) | refine Below.drew ?_ | refine below_drewN ?_ _ | (refine Below.trans ?_ (Below.mono (by assumption) (by first | (simp [size_ext, grow]; done) | (simp [size_ext, grow]; omega) | omega))))))) (wr.heap.size + 1) (some ⟨wr.heap.size, 0, none⟩) 1 1 [.int .u8 x.a, .int .u8 x.b, .int .u8 x.c, .int .u8 x.d, .int .u8 x.e, .int .u8 x.f, .int .i64 a3, .int .i64 a4] rfl rfl (by omega) (by exact At.newN _ _ _ _ _ rfl rfl) (by intro u hu; simp at hu; rcases hu with rfl | rfl | rfl | rfl | rfl | rfl | rfl | rfl <;> rfl) (by (repeat (first | exact Below.refl _ _ | exact Nat.le_refl _ | (refine below_ext ?_ (by first | (simp [size_ext, grow]; done) | (simp [size_ext, grow]; omega) | omega) _ _) | (refine Below.setCell ?_ (by first | (simp [size_ext, grow]; done) | (simp [size_ext, grow]; omega) | omega) _) | (refine Below.alloc ?_ (by first | (simp [size_ext, grow]; done) | (simp [size_ext, grow]; omega) | omega) _) | refine Below.drew ?_ | refine below_drewN ?_ _ | (refine Below.trans ?_ (Below.mono (by assumption) (by first | (simp [size_ext, grow]; done) | (simp [size_ext, grow]; omega) | omega)))))) ?_; intro A3 c3 w11 ho3 hc3 hb3 hg3; have HO3 := Lib.hid ho3; have HRL11 := Lib.hid (HRL10.out.grow hb3); have q6 : w11.cell? ⟨X, 6, none⟩ = some (.slice A' n' c') := (by have := (cell_of_row w11 _ 6 _ _ (0, 0) HRL11.out.st).trans rfl; rwa [HXX.out] at this); have f6 : w11.frozen? ⟨X, 6, none⟩ = false := (by have := frozen_of_row w11 _ 6 _ 55 HRL11.out.st; rwa [HXX.out] at this); clear ho3 hc3 hb3 hg3)
                      refine wp_world (fun W8 => RLoop W e1 m1 e2 m2 a1 a2 n A3 (n2 + 1) c3 x Rk (.slice A' n' c') W8 ∧ W8.ownsRow w10.heap.size 69 8 (.slice A3 (n2 + 1) c3) (n2 + 1) (cellsR (Rn ++ [(x, (a3, a4))]))) ⟨RLoop.storeS HRL11.out HXX.out, by rw [cellsR_snoc]; exact ownsRow_setCell_other HO3.out (a := ⟨X, 6, none⟩) (fun e => by have := own_le HO3.out e; simp at this; omega) _⟩ ?_
                      clear q6 f6 y0 y1 y2 y3 y4 y5 z0 z1
                      intro w12 ⟨hrl12, ho12⟩
                      have HRL12 := Lib.hid hrl12
                      have HO12 := Lib.hid ho12
                      clear hrl12 ho12 hXz
                      have q0 : w12.cell? ⟨X, 0, none⟩ = some (.int .i64 e1) := by have := (cell_of_row w12 _ 0 _ _ (0, 0) HRL12.out.st).trans rfl; rwa [HXX.out] at this
                      have q1 : w12.cell? ⟨X, 1, none⟩ = some (.int .i64 m1) := by have := (cell_of_row w12 _ 1 _ _ (0, 0) HRL12.out.st).trans rfl; rwa [HXX.out] at this
                      have q2 : w12.cell? ⟨X, 2, none⟩ = some (.int .i64 e2) := by have := (cell_of_row w12 _ 2 _ _ (0, 0) HRL12.out.st).trans rfl; rwa [HXX.out] at this
                      have q3 : w12.cell? ⟨X, 3, none⟩ = some (.int .i64 m2) := by have := (cell_of_row w12 _ 3 _ _ (0, 0) HRL12.out.st).trans rfl; rwa [HXX.out] at this
                      have q4 : w12.cell? ⟨X, 4, none⟩ = some (.int .i64 a1) := by have := (cell_of_row w12 _ 4 _ _ (0, 0) HRL12.out.st).trans rfl; rwa [HXX.out] at this
                      have q5 : w12.cell? ⟨X, 5, none⟩ = some (.int .i64 a2) := by have := (cell_of_row w12 _ 5 _ _ (0, 0) HRL12.out.st).trans rfl; rwa [HXX.out] at this
                      have q6 : w12.cell? ⟨X, 6, none⟩ = some (.slice A3 (n2 + 1) c3) := by have := (cell_of_row w12 _ 6 _ _ (0, 0) HRL12.out.st).trans rfl; rwa [HXX.out] at this
                      have q7 : w12.cell? ⟨X, 7, none⟩ = some (.int .i64 n) := by have := (cell_of_row w12 _ 7 _ _ (0, 0) HRL12.out.st).trans rfl; rwa [HXX.out] at this
                      have hXz : X < w12.heap.size := by have := lt_of_block HRL12.out.st; have := HXX.out; omega
                      have hKz : X + 1 < w12.heap.size := by have := lt_of_block HRL12.out.key; have := HXX.out; omega
                      have hRz : X + 1 + 1 < w12.heap.size := by have := lt_of_block HRL12.out.res; have := HXX.out; omega
                      have hMz : X + 1 + 1 + 1 < w12.heap.size := by have := lt_of_block HRL12.out.mine; have := HXX.out; omega
                      have r0 : w12.cell? ⟨X + 1 + 1, 0, none⟩ = some (.int .i64 0) := by have := (cell_of_row w12 _ 0 _ _ (0, 0) HRL12.out.res).trans rfl; rwa [HXX.out] at this
                      have fr0 : w12.frozen? ⟨X + 1 + 1, 0, none⟩ = false := by have := frozen_of_row w12 _ 0 _ 55 HRL12.out.res; rwa [HXX.out] at this
                      have r1 : w12.cell? ⟨X + 1 + 1, 1, none⟩ = some (.int .i64 0) := by have := (cell_of_row w12 _ 1 _ _ (0, 0) HRL12.out.res).trans rfl; rwa [HXX.out] at this
                      have fr1 : w12.frozen? ⟨X + 1 + 1, 1, none⟩ = false := by have := frozen_of_row w12 _ 1 _ 55 HRL12.out.res; rwa [HXX.out] at this
                      have r2 : w12.cell? ⟨X + 1 + 1, 2, none⟩ = some (.int .i64 0) := by have := (cell_of_row w12 _ 2 _ _ (0, 0) HRL12.out.res).trans rfl; rwa [HXX.out] at this
                      have fr2 : w12.frozen? ⟨X + 1 + 1, 2, none⟩ = false := by have := frozen_of_row w12 _ 2 _ 55 HRL12.out.res; rwa [HXX.out] at this
                      have r3 : w12.cell? ⟨X + 1 + 1, 3, none⟩ = some (.int .i64 0) := by have := (cell_of_row w12 _ 3 _ _ (0, 0) HRL12.out.res).trans rfl; rwa [HXX.out] at this
                      have fr3 : w12.frozen? ⟨X + 1 + 1, 3, none⟩ = false := by have := frozen_of_row w12 _ 3 _ 55 HRL12.out.res; rwa [HXX.out] at this
                      have r4 : w12.cell? ⟨X + 1 + 1, 4, none⟩ = some (.int .i64 0) := by have := (cell_of_row w12 _ 4 _ _ (0, 0) HRL12.out.res).trans rfl; rwa [HXX.out] at this
                      have fr4 : w12.frozen? ⟨X + 1 + 1, 4, none⟩ = false := by have := frozen_of_row w12 _ 4 _ 55 HRL12.out.res; rwa [HXX.out] at this
                      have r5 : w12.cell? ⟨X + 1 + 1, 5, none⟩ = some (.int .i64 0) := by have := (cell_of_row w12 _ 5 _ _ (0, 0) HRL12.out.res).trans rfl; rwa [HXX.out] at this
                      have fr5 : w12.frozen? ⟨X + 1 + 1, 5, none⟩ = false := by have := frozen_of_row w12 _ 5 _ 55 HRL12.out.res; rwa [HXX.out] at this
                      have r6 : w12.cell? ⟨X + 1 + 1, 6, none⟩ = some (.slice none 0 0) := by have := (cell_of_row w12 _ 6 _ _ (0, 0) HRL12.out.res).trans rfl; rwa [HXX.out] at this
                      have fr6 : w12.frozen? ⟨X + 1 + 1, 6, none⟩ = false := by have := frozen_of_row w12 _ 6 _ 55 HRL12.out.res; rwa [HXX.out] at this
                      have r7 : w12.cell? ⟨X + 1 + 1, 7, none⟩ = some (.int .i64 0) := by have := (cell_of_row w12 _ 7 _ _ (0, 0) HRL12.out.res).trans rfl; rwa [HXX.out] at this
                      have fr7 : w12.frozen? ⟨X + 1 + 1, 7, none⟩ = false := by have := frozen_of_row w12 _ 7 _ 55 HRL12.out.res; rwa [HXX.out] at this
                      go_wp2_with fail
                      have hrow := row8 HRL12.out.res (.int .i64 e1) (.int .i64 m1) (.int .i64 e2) (.int .i64 m2) (.int .i64 a1) (.int .i64 a2) (.slice A3 (n2 + 1) c3) (.int .i64 n)
                      have htwo := two8 (Two.refl W.heap.size (W.heap.size + 1 + 1) w12) (.int .i64 e1) (.int .i64 m1) (.int .i64 e2) (.int .i64 m2) (.int .i64 a1) (.int .i64 a2) (.slice A3 (n2 + 1) c3) (.int .i64 n)
                      rw [HXX.out] at hrow htwo
                      revert hrow htwo
                      generalize ((((((((w12.setCell ⟨X + 1 + 1, 0, none⟩ (.int .i64 e1)).setCell ⟨X + 1 + 1, 1, none⟩ (.int .i64 m1)).setCell ⟨X + 1 + 1, 2, none⟩ (.int .i64 e2)).setCell ⟨X + 1 + 1, 3, none⟩ (.int .i64 m2)).setCell ⟨X + 1 + 1, 4, none⟩ (.int .i64 a1)).setCell ⟨X + 1 + 1, 5, none⟩ (.int .i64 a2)).setCell ⟨X + 1 + 1, 6, none⟩ (.slice A3 (n2 + 1) c3)).setCell ⟨X + 1 + 1, 7, none⟩ (.int .i64 n)) = w13
                      intro hrow htwo
                      have s0 : w13.cell? ⟨X + 1 + 1, 0, none⟩ = some (.int .i64 e1) := (cell_of_row w13 _ 0 _ _ (0, 0) hrow).trans rfl
                      have s1 : w13.cell? ⟨X + 1 + 1, 1, none⟩ = some (.int .i64 m1) := (cell_of_row w13 _ 1 _ _ (0, 0) hrow).trans rfl
                      have s2 : w13.cell? ⟨X + 1 + 1, 2, none⟩ = some (.int .i64 e2) := (cell_of_row w13 _ 2 _ _ (0, 0) hrow).trans rfl
                      have s3 : w13.cell? ⟨X + 1 + 1, 3, none⟩ = some (.int .i64 m2) := (cell_of_row w13 _ 3 _ _ (0, 0) hrow).trans rfl
                      have s4 : w13.cell? ⟨X + 1 + 1, 4, none⟩ = some (.int .i64 a1) := (cell_of_row w13 _ 4 _ _ (0, 0) hrow).trans rfl
                      have s5 : w13.cell? ⟨X + 1 + 1, 5, none⟩ = some (.int .i64 a2) := (cell_of_row w13 _ 5 _ _ (0, 0) hrow).trans rfl
                      have s6 : w13.cell? ⟨X + 1 + 1, 6, none⟩ = some (.slice A3 (n2 + 1) c3) := (cell_of_row w13 _ 6 _ _ (0, 0) hrow).trans rfl
                      have s7 : w13.cell? ⟨X + 1 + 1, 7, none⟩ = some (.int .i64 n) := (cell_of_row w13 _ 7 _ _ (0, 0) hrow).trans rfl
                      rw [← HXX.out] at htwo
                      have hbel := HRL12.out.below.trans (htwo.below HRL12.out.below.size (Nat.le_refl _) (by omega))
                      have hX10 : W.heap.size + 1 + 1 < w10.heap.size := lt_of_block HRL10.out.res
                      have ho13 := own_two HO12.out htwo (by omega) hX10
                      have hdone : RefAt w13 w13.heap.size ⟨a1, a2, n, dropL (Rk.map entR) (keyL x) ++ [(keyL x, (a3, a4))]⟩ ⟨A3, n2 + 1, c3, Rn ++ [(x, (a3, a4))]⟩ := by
                        refine ⟨At.of_own ho13, by simp only [List.length_append, List.length_singleton]; rw [← HN2.out.1], own_le_cap ho13, ?_, ?_⟩
                        · simp only [List.map_append]; rw [HALL2.out, dropR_eq HX.out _ HOKR.out]; rfl
                        · intro p hp
                          simp only [List.mem_append, List.mem_singleton] at hp
                          rcases hp with hp | rfl
                          · rw [HALL2.out] at hp; exact HOKR.out p (List.mem_filter.1 hp).1
                          · exact HX.out
                      exact bodyPost_ret (v := .tuple #[refV e1 m1 e2 m2 ⟨a1, a2, n, dropL (Rk.map entR) (keyL x) ++ [(keyL x, (a3, a4))]⟩ ⟨A3, n2 + 1, c3, Rn ++ [(x, (a3, a4))]⟩, .bool true]) (by simp [results, Try.results25, go_sem, refV, s0, s1, s2, s3, s4, s5, s6, s7]) rfl ⟨⟨A3, n2 + 1, c3, Rn ++ [(x, (a3, a4))]⟩, by rw [HB2.out, HS2.out], hbel, by rw [HS2.out]; exact hdone, fun a ha => Nat.le_trans HRL10.out.below.size (own_basis HO12.out a ha)⟩
end Go.Proofs.Ytlholmndckhhgaa
