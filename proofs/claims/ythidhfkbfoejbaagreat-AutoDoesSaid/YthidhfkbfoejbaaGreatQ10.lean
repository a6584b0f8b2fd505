/- The actions that ask: a request, the end of all, a packet that is not known. -/
import Derived.Test.YthidhfkbfoejbaaGreatQ9
namespace Go.Proofs.YthidhfkbfoejbaaGreat
open Go.RowKit
set_option linter.unusedSimpArgs false
set_option linter.unusedVariables false
set_option linter.ambiguousOpen false
open Ne (Rl Opt RulesAt areB)
open Fs (av hasB)
theorem next_j (b : Nat) (s : Rm) (w : World) (j : Int) (h : RunAt w b s) (h0 : 0 ≤ s.id) (h1 : s.id ≤ 255) (hj : nxt s.id = j) :
    Calls Tryz.prog 125 #[.pointer (some ⟨b, 0, none⟩)] w (NumP b { s with id := j } (.int .i64 j) w) := by
  subst hj
  exact next_any b s w h h0 h1
theorem next_jset (b : Nat) (s : Rm) (w : World) (j : Int) (h : RunAt w b s) (h0 : 0 ≤ s.id) (h1 : s.id ≤ 255) (hj : nxt s.id = j) :
    Calls Tryz.prog 125 #[.pointer (some ⟨b, 0, none⟩)] w fun x w' => x = .returned (.int .i64 j) ∧ w' = w.setCell ⟨b, 6, none⟩ (.int .i64 j) := by
  subst hj
  exact next_set b s w h h0 h1
set_option maxHeartbeats 1000000 in
theorem ask_any (b : Nat) (s : Rm) (L : List Opt) (li ln : List UInt8) (acts : List Int) (out : List Pk) (w : World) (h : RunI w b s L li ln acts out) (hlo : out.length ≤ 999) (h0 : 0 ≤ s.tick) (h1 : s.tick ≤ 1099511627776) (h2 : 1 ≤ s.wt) (h3 : s.wt ≤ 1048576) (h4 : 0 ≤ s.cnt) (h5 : s.cnt ≤ 1000) (h6 : 0 ≤ s.id) (h7 : s.id ≤ 255) : Calls Tryz.prog 98 #[.pointer (some ⟨b, 0, none⟩)] w (ActP b { s with id := nxt s.id, req := nxt s.id, cnt := dec s.cnt, tim := s.tick + s.wt } L li ln acts (out ++ [⟨1, nxt s.id, (Op.encR L).1⟩]) w) := by
  obtain ⟨vr, mc, mt, mf, wt, st, id, req, va, cnt, tim, nak, ic, ii, vi, ac, ai, vn, tick, vd, vo⟩ := s
  dsimp only at *
  obtain ⟨A, n, c, E, hva, hat, hn, hc, hL⟩ := h.ask
  dsimp only at hva
  subst hva
  have HAT := Lib.hid hat
  have HN := Lib.hid hn
  have HL := Lib.hid hL
  have hb := h.run.lt
  have HI := Lib.hid h
  clear h hat hn hL
  obtain ⟨j, hj⟩ : ∃ j, nxt id = j := ⟨_, rfl⟩
  have HJ := Lib.hid hj
  rw [hj]
  clear hj
  have HEL := Lib.hid (encR_len L)
  obtain ⟨⟨eb, ee⟩, henc⟩ : ∃ y, Op.encR L = y := ⟨_, rfl⟩
  have HENC := Lib.hid henc
  rw [henc] at HEL
  rw [henc]
  clear henc
  go_enter Tryz.func98, Tryz.ntmps98
  go_wp2_with fail
  refine (next_j b _ w j HI.out.run h6 h7 HJ.out).mono ?_
  rintro e w1 ⟨rfl, hr1, hg1⟩
  have HI1 := Lib.hid (HI.out.num _ hr1 hg1 rfl rfl rfl rfl rfl)
  have HB1 := Lib.hid (below_of_grown hg1 (Nat.le_of_lt hb))
  have HI2 := Lib.hid (HI1.out.num _ (hr1.req j) (grown_set _ _ _ _) rfl rfl rfl rfl rfl)
  have HB2 := Lib.hid (HB1.out.trans (below_of_grown (grown_set w1 b 7 (.int .i64 j)) (Nat.le_of_lt hr1.lt)))
  have hb1 := hr1.lt
  have c7 := hr1.cell 7 (v := .int .i64 req) rfl
  have c8 := hr1.cell 8 (v := .slice A n c) rfl
  have f7 := hr1.free 7
  clear hr1 hg1
  go_wp2_with fail
  refine (Op.enc_any A n c E _ b (by simp; omega) (HAT.out.keep HB2.out) HN.out).mono ?_
  rw [HL.out]
  unfold Op.EncP
  rw [HENC.out]
  rintro e w3 ⟨v, rfl, hb3, ho3⟩
  obtain ⟨A3, c3, rfl, hc3, -⟩ := ownsRow_form ho3
  have HA3 := Lib.hid (At.of_own ho3)
  have HI3 := Lib.hid (HI2.out.keep hb3)
  have HB3 := Lib.hid (HB2.out.trans (hb3.mono (by simp; omega)))
  have hbz3 := HI3.out.run.lt
  have c7' := HI3.out.run.cell 7 (v := .int .i64 j) rfl
  have HC3 := Lib.hid hc3
  clear ho3 hb3 hc3 c7 c8 f7
  go_wp2_with fail
  refine (send_run b _ L li ln acts out 1 j A3 eb.length c3 eb _ HI3.out HA3.out rfl HC3.out (by have := HEL.out; omega) hlo).mono ?_
  rintro e w4 ⟨rfl, hb4, vo4, hi4⟩
  have HI4 := Lib.hid hi4
  have HB4 := Lib.hid (HB3.out.trans hb4)
  clear hi4 hb4
  go_wp2_with fail
  refine (timed_any b _ w4 HI4.out.run h0 h1 h2 h3 h4 h5).mono ?_
  rintro e w5 ⟨rfl, hr5, hg5⟩
  have HR5 := Lib.hid hr5
  have HG5 := Lib.hid hg5
  clear hr5 hg5
  go_wp2_with fail
  exact bodyPost_end (v := .tuple #[]) (by simp [results, Tryz.results98, go_sem]) rfl (ActP.fin HI4.out HB4.out HR5.out HG5.out (by unfold dec; rfl) rfl rfl rfl rfl)
set_option maxHeartbeats 1000000 in
theorem end_any (b : Nat) (s : Rm) (L : List Opt) (li ln : List UInt8) (acts : List Int) (out : List Pk) (w : World) (h : RunI w b s L li ln acts out) (hlo : out.length ≤ 999) (h0 : 0 ≤ s.tick) (h1 : s.tick ≤ 1099511627776) (h2 : 1 ≤ s.wt) (h3 : s.wt ≤ 1048576) (h4 : 0 ≤ s.cnt) (h5 : s.cnt ≤ 1000) (h6 : 0 ≤ s.id) (h7 : s.id ≤ 255) : Calls Tryz.prog 101 #[.pointer (some ⟨b, 0, none⟩)] w (ActP b { s with id := nxt s.id, cnt := dec s.cnt, tim := s.tick + s.wt } L li ln acts (out ++ [⟨5, nxt s.id, []⟩]) w) := by
  obtain ⟨vr, mc, mt, mf, wt, st, id, req, va, cnt, tim, nak, ic, ii, vi, ac, ai, vn, tick, vd, vo⟩ := s
  dsimp only at *
  have hb := h.run.lt
  have HI := Lib.hid h
  clear h
  obtain ⟨j, hj⟩ : ∃ j, nxt id = j := ⟨_, rfl⟩
  have HJ := Lib.hid hj
  rw [hj]
  clear hj
  go_enter Tryz.func101, Tryz.ntmps101
  go_wp2_with fail
  refine (next_j b _ w j HI.out.run h6 h7 HJ.out).mono ?_
  rintro e w1 ⟨rfl, hr1, hg1⟩
  have HI1 := Lib.hid (HI.out.num _ hr1 hg1 rfl rfl rfl rfl rfl)
  have HB1 := Lib.hid (below_of_grown hg1 (Nat.le_of_lt hb))
  clear hr1 hg1
  go_wp2_with fail
  refine (send_run b _ L li ln acts out 5 j none 0 0 [] _ HI1.out (At.nil _ _ _) rfl (Nat.le_refl _) (by omega) hlo).mono ?_
  rintro e w4 ⟨rfl, hb4, vo4, hi4⟩
  have HI4 := Lib.hid hi4
  have HB4 := Lib.hid (HB1.out.trans hb4)
  clear hi4 hb4
  go_wp2_with fail
  refine (timed_any b _ w4 HI4.out.run h0 h1 h2 h3 h4 h5).mono ?_
  rintro e w5 ⟨rfl, hr5, hg5⟩
  have HR5 := Lib.hid hr5
  have HG5 := Lib.hid hg5
  clear hr5 hg5
  go_wp2_with fail
  exact bodyPost_end (v := .tuple #[]) (by simp [results, Tryz.results101, go_sem]) rfl (ActP.fin HI4.out HB4.out HR5.out HG5.out (by unfold dec; rfl) rfl rfl rfl rfl)
/-- The packet that tells that another one is not known. -/
def rejO (co id' : Int) (l : List UInt8) (i : Int) : List Pk := if Cp.encErr co id' l.length = 0 then [⟨7, i, (Cp.encB co id' l).take 1488⟩] else []
theorem rej_zero {co id' : Int} {l : List UInt8} {j : Int} (hj : inB j 0 255 = true) : Cp.rejE j (Cp.encErr co id' l.length) = Cp.encErr co id' l.length := by
  unfold Cp.rejE; rw [hj]; rfl
theorem rej_ok (ic ii j : Int) (A : Option Addr) (n c : Nat) (l : List UInt8) (w : World) (B : Nat) (hB : B ≤ w.heap.size) (hA : At w B A (l.map bv)) (hn : n = l.length) (hl : n ≤ 1000000000) (hj : inB j 0 255 = true) (he : Cp.encErr ic ii l.length = 0) :
    Calls Tryz.prog 128 #[.agg #[.int .i64 ic, .int .i64 ii, .slice A n c], .int .i64 j] w fun x w' => ∃ (A3 : Option Addr) (n3 c3 : Nat), x = .returned (.tuple #[.agg #[.int .i64 7, .int .i64 j, .slice A3 n3 c3], .int .i64 0]) ∧ n3 ≤ c3 ∧ n3 = ((Cp.encB ic ii l).take 1488).length ∧ Below w.heap.size w w' ∧ w'.ownsRow w.heap.size 5 1 (.slice A3 n3 c3) n3 (((Cp.encB ic ii l).take 1488).map bv) := by
  refine (Cp.rej_any ic ii A n c l j w B hB hA hn hl).mono ?_
  rw [rej_zero hj, he]
  rintro e w2 ⟨v, rfl, hb2, ho2⟩
  obtain ⟨A3, c3, rfl, hc3, -⟩ := ownsRow_form ho2
  exact ⟨A3, _, c3, rfl, hc3, rfl, hb2, ho2⟩
theorem rej_bad (ic ii j er : Int) (A : Option Addr) (n c : Nat) (l : List UInt8) (w : World) (B : Nat) (hB : B ≤ w.heap.size) (hA : At w B A (l.map bv)) (hn : n = l.length) (hl : n ≤ 1000000000) (hj : inB j 0 255 = true) (he : Cp.encErr ic ii l.length = er) (h0 : er ≠ 0) :
    Calls Tryz.prog 128 #[.agg #[.int .i64 ic, .int .i64 ii, .slice A n c], .int .i64 j] w fun x w' => ∃ (A3 : Option Addr) (n3 c3 : Nat), x = .returned (.tuple #[.agg #[.int .i64 0, .int .i64 0, .slice A3 n3 c3], .int .i64 er]) ∧ Below w.heap.size w w' := by
  refine (Cp.rej_any ic ii A n c l j w B hB hA hn hl).mono ?_
  rw [rej_zero hj, he]
  rintro e w2 ⟨v, rfl, hb2, ho2⟩
  obtain ⟨A3, c3, rfl, hc3, -⟩ := ownsRow_form ho2
  exact ⟨A3, _, c3, by unfold Cp.rK; rw [if_neg h0, if_neg h0], hb2⟩
set_option maxRecDepth 100000 in
set_option maxHeartbeats 2000000 in
theorem strange_any (b : Nat) (s : Rm) (L : List Opt) (li ln : List UInt8) (acts : List Int) (out : List Pk) (w : World) (h : RunI w b s L li ln acts out) (hlo : out.length ≤ 999) (h6 : 0 ≤ s.id) (h7 : s.id ≤ 255) : Calls Tryz.prog 103 #[.pointer (some ⟨b, 0, none⟩)] w (ActP b { s with id := nxt s.id } L li ln acts (out ++ rejO s.ic s.ii li (nxt s.id)) w) := by
  obtain ⟨vr, mc, mt, mf, wt, st, id, req, va, cnt, tim, nak, ic, ii, vi, ac, ai, vn, tick, vd, vo⟩ := s
  dsimp only at *
  obtain ⟨A, n, c, hvi, hat, hn, hc⟩ := h.inn
  dsimp only at hvi
  subst hvi
  have HAT := Lib.hid hat
  have HN := Lib.hid hn
  have HM := Lib.hid (show n ≤ 1000000000 by have := h.hli; omega)
  have hb := h.run.lt
  have HI := Lib.hid h
  have c12 := h.run.cell 12 (v := .int .i64 ic) rfl
  have c13 := h.run.cell 13 (v := .int .i64 ii) rfl
  have c14 := h.run.cell 14 (v := .slice A n c) rfl
  have HRUN := Lib.hid h.run
  clear h hat hn
  obtain ⟨j, hj⟩ : ∃ j, nxt id = j := ⟨_, rfl⟩
  have HJ := Lib.hid hj
  have HJ2 := Lib.hid (show inB j 0 255 = true by rw [← hj]; have := nxt_in id; simp [inB]; omega)
  rw [hj]
  clear hj
  obtain ⟨er, her⟩ : ∃ er, Cp.encErr ic ii li.length = er := ⟨_, rfl⟩
  have HER := Lib.hid her
  clear her
  have HI1 := Lib.hid (HI.out.num _ (HRUN.out.id j) (grown_set _ _ _ _) rfl rfl rfl rfl rfl)
  have HBX := Lib.hid (below_of_grown (grown_set w b 6 (.int .i64 j)) (Nat.le_of_lt hb))
  by_cases h0 : er = 0
  · subst h0
    have HRO := Lib.hid (show rejO ic ii li j = [⟨7, j, (Cp.encB ic ii li).take 1488⟩] by unfold rejO; rw [if_pos HER.out])
    rw [HRO.out]
    go_enter Tryz.func103, Tryz.ntmps103
    go_wp2_with fail
    go_region_held3 (fun w' => w'.cell? ⟨b, 12, none⟩ = some (.int .i64 ic) ∧ w'.cell? ⟨b, 13, none⟩ = some (.int .i64 ii) ∧ w'.cell? ⟨b, 14, none⟩ = some (.slice A n c)) (first | (go_keep; done) | (go_simp; done) | (simp [go_sem]; done)) (first | ((go_at_call 125; go_must (refine (next_jset b _ _ j (HRUN.out.keep (by exact bel)) h6 h7 HJ.out).mono ?_); rintro e w1 ⟨rfl, rfl⟩)) | ((go_at_call 128; go_must (refine (rej_ok ic ii j A n c li _ b (by first | omega | (simp; omega)) (HAT.out.keep (by exact below_of_grown grn (Nat.le_of_lt hb))) HN.out HM.out HJ2.out HER.out).mono ?_); rintro e w2 ⟨A3, n3, c3, rfl, hc3, hn3, hb2, ho2⟩; obtain ⟨xs2, d2, rfl⟩ := ext_of hb2; have HO2 := Lib.hid ho2; have HC3 := Lib.hid hc3; have HN3 := Lib.hid hn3; clear hb2 ho2 hc3 hn3)))
    all_goals
      go_wp2_with fail
      refine (send_run b _ L li ln acts out 7 j A3 n3 c3 ((Cp.encB ic ii li).take 1488) _ (HI1.out.keep (by exact bel)) (by first | exact At.of_own (own_swap HO2.out (by simp) (by simp)) | exact (At.of_own HO2.out).move (by exact bel) (by first | exact Nat.le_refl _ | (simp [size_ext, grow]; done) | (simp [size_ext, grow]; omega))) HN3.out HC3.out (by rw [HN3.out, List.length_take]; omega) hlo).mono ?_
      rintro e w4 ⟨rfl, hb4, vo4, hi4⟩
      have HI4 := Lib.hid hi4
      have HB4 := Lib.hid hb4
      clear hi4 hb4
      go_wp2_with fail
      exact bodyPost_end (v := .tuple #[]) (by simp [results, Tryz.results103, go_sem]) rfl ⟨rfl, Below.trans (HBX.out.trans (by have hbs : b ≤ (w.setCell ⟨b, 6, none⟩ (.int .i64 j)).heap.size := (by simp; omega); exact bel)) HB4.out, vo4, HI4.out⟩
  · have h0' : (er == 0) = false := by simpa using h0
    have HRO := Lib.hid (show rejO ic ii li j = [] by unfold rejO; rw [HER.out, if_neg h0])
    rw [HRO.out, List.append_nil]
    go_enter Tryz.func103, Tryz.ntmps103
    go_wp2_with fail
    go_region_held3 (fun w' => w'.cell? ⟨b, 12, none⟩ = some (.int .i64 ic) ∧ w'.cell? ⟨b, 13, none⟩ = some (.int .i64 ii) ∧ w'.cell? ⟨b, 14, none⟩ = some (.slice A n c)) (first | (go_keep; done) | (go_simp; done) | (simp [go_sem]; done)) (first | ((go_at_call 125; go_must (refine (next_jset b _ _ j (HRUN.out.keep (by exact bel)) h6 h7 HJ.out).mono ?_); rintro e w1 ⟨rfl, rfl⟩)) | ((go_at_call 128; go_must (refine (rej_bad ic ii j er A n c li _ b (by first | omega | (simp; omega)) (HAT.out.keep (by exact below_of_grown grn (Nat.le_of_lt hb))) HN.out HM.out HJ2.out HER.out h0).mono ?_); rintro e w2 ⟨A3, n3, c3, rfl, hb2⟩; obtain ⟨xs2, d2, rfl⟩ := ext_of hb2; clear hb2)))
    all_goals
      go_wp2_with fail
      exact bodyPost_end (v := .tuple #[]) (by simp [results, Tryz.results103, go_sem]) rfl ⟨rfl, HBX.out.trans (by have hbs : b ≤ (w.setCell ⟨b, 6, none⟩ (.int .i64 j)).heap.size := (by simp; omega); exact bel), _, HI1.out.keep (by exact bel)⟩
end Go.Proofs.YthidhfkbfoejbaaGreat
