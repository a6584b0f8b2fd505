/- The reference: actions that ask. -/
import Derived.Test.YthidhfkbfoejbaaGreatQ18
namespace Go.Proofs.YthidhfkbfoejbaaGreat
open Go.RowKit
set_option linter.unusedSimpArgs false
set_option linter.unusedVariables false
set_option linter.ambiguousOpen false
open Ne (Rl Opt RulesAt areB)
open Fs (av hasB)
set_option maxRecDepth 100000 in
set_option maxHeartbeats 8000000 in
theorem ract_10 (Ar Aa Ai An Ad : Option Addr) (nr cr na ca ni ci nn cn nd cd : Nat) (mc mt mf wt st id req cnt tim nak ic ii ac ai tick : Int) (E : List Ent) (R : List Rl) (li ln : List UInt8) (acts : List Int) (vo : Value) (P : List Pe) (w : World) (base : Nat) (hb : base ≤ w.heap.size) (hP : RowPks w base vo P) (hlo : P.length ≤ 999) (hE : OptsAt w w.heap.size Aa E) (hna : na = E.length) (hI : At w base Ai (li.map bv)) (hni : ni = li.length) (hci : ni ≤ ci) (hli : ni ≤ 400000000) (hN : At w base An (ln.map bv)) (hnn : nn = ln.length) (hcn : nn ≤ cn) (hD : At w w.heap.size Ad (acts.map av)) (hnd : nd = acts.length) (hnd3 : nd ≤ 1000) (hk : NumOk ⟨R, mc, mt, mf, wt⟩ ⟨st, id, req, E.map Ent.o, cnt, tim, nak⟩ tick) : Calls Tryz.prog 36 #[.agg #[.slice Ar nr cr, .int .i64 mc, .int .i64 mt, .int .i64 mf, .int .i64 wt, .int .i64 st, .int .i64 id, .int .i64 req, .slice Aa na ca, .int .i64 cnt, .int .i64 tim, .int .i64 nak, vo], .int .i64 10, .slice Ad nd cd, .agg #[.int .i64 ic, .int .i64 ii, .slice Ai ni ci], .agg #[.int .i64 ac, .int .i64 ai, .slice An nn cn], .int .i64 tick] w (ActRP (.slice Ar nr cr) (.slice Aa na ca) ⟨R, mc, mt, mf, wt⟩ (actO ⟨R, mc, mt, mf, wt⟩ ⟨ic, ii, li⟩ ⟨ac, ai, ln⟩ tick acts ⟨st, id, req, E.map Ent.o, cnt, tim, nak⟩ 10) vo base P w) := by
  subst hnn
  subst hni
  obtain ⟨Ao, co', rfl, -, -⟩ := ownsRow_form hP.1
  have HP := Lib.hid hP
  have HE := Lib.hid hE
  have HNA := Lib.hid hna
  have HI := Lib.hid hI
  have HN := Lib.hid hN
  have HD := Lib.hid (And.intro hD hnd)
  have HK := Lib.hid hk
  obtain ⟨pn, hpn⟩ : ∃ pn, P.length = pn := ⟨_, rfl⟩
  have HPN := Lib.hid hpn
  rw [hpn] at HP hlo
  rw [hpn]
  clear hP hE hna hI hN hD hnd hk hpn
  have q0 := HK.out.t0
  have q1 := HK.out.t1
  have q2 := HK.out.w0
  have q3 := HK.out.w1
  have q4 := HK.out.c0
  have q5 := HK.out.c1
  have q6 := HK.out.i0
  have q7 := HK.out.i1
  dsimp only at q0 q1 q2 q3 q4 q5 q6 q7
  show Calls _ _ _ _ (ActRP _ _ _ (⟨st, nxt id, req, E.map Ent.o, dec cnt, tick + wt, nak⟩, [⟨5, nxt id, []⟩]) _ _ _ _)
  go_enter Tryz.func36, Tryz.ntmps36
  go_upto_region 1 with (fail)
  refine wp_w (fun W => RB W w.heap.size (.slice Ar nr cr) mc mt mf wt st id req (.slice Aa na ca) cnt tim nak (.slice Ao pn co') ∧ W.heap[w.heap.size + 1]? = some (.cells #[.int .i64 ic, .int .i64 ii, .slice Ai li.length ci] 32 (0, 0)) ∧ W.heap[w.heap.size + 1 + 1]? = some (.cells #[.int .i64 ac, .int .i64 ai, .slice An ln.length cn] 32 (0, 0)) ∧ RB W (w.heap.size + 1 + 1 + 1) (.slice none 0 0) 0 0 0 0 0 0 0 (.slice none 0 0) 0 0 0 (.slice none 0 0) ∧ Below w.heap.size w W) ⟨?_, ?_, ?_, ?_, by exact bel⟩ ?_
  · show (World.alloc _ _).heap[w.heap.size]? = _
    (repeat (first | ((refine heap_alloc_at _ _ _ ?_); (simp [go_sem]; done)) | ((refine (heap_ext _ _ _ _ ?_).trans ?_); (focus (simp [go_sem]; done))) | ((refine (heap_alloc_past _ _ _ ?_).trans ?_); (focus (simp [go_sem]; done)))))
  · show (World.alloc _ _).heap[w.heap.size + 1]? = _
    (repeat (first | ((refine heap_alloc_at _ _ _ ?_); (simp [go_sem]; done)) | ((refine (heap_ext _ _ _ _ ?_).trans ?_); (focus (simp [go_sem]; done))) | ((refine (heap_alloc_past _ _ _ ?_).trans ?_); (focus (simp [go_sem]; done)))))
  · show (World.alloc _ _).heap[w.heap.size + 1 + 1]? = _
    (repeat (first | ((refine heap_alloc_at _ _ _ ?_); (simp [go_sem]; done)) | ((refine (heap_ext _ _ _ _ ?_).trans ?_); (focus (simp [go_sem]; done))) | ((refine (heap_alloc_past _ _ _ ?_).trans ?_); (focus (simp [go_sem]; done)))))
  · show (World.alloc _ _).heap[w.heap.size + 1 + 1 + 1]? = _
    (repeat (first | ((refine heap_alloc_at _ _ _ ?_); (simp [go_sem]; done)) | ((refine (heap_ext _ _ _ _ ?_).trans ?_); (focus (simp [go_sem]; done))) | ((refine (heap_alloc_past _ _ _ ?_).trans ?_); (focus (simp [go_sem]; done)))))
  rintro W1 ⟨hx3, h9, h10, hy3, hb3⟩
  have HX3 := Lib.hid hx3
  have H9 := Lib.hid h9
  have H10 := Lib.hid h10
  have HY3 := Lib.hid hy3
  have HB3 := Lib.hid hb3
  have HP3 := Lib.hid (HP.out.below hb3 hb)
  have HGW3 := Lib.hid (grown_of_below (r := (Value.slice Ao pn co').ownBlock) hb3)
  have hsz3 := hb3.size
  obtain ⟨⟨b0, b1, b2, b3, b4⟩, ⟨b5, b6, b7, b8, b9, b10, b11⟩, b12⟩ := hx3.cells
  obtain ⟨i0, i1, i2⟩ := cells3 h9
  obtain ⟨n0, n1, n2⟩ := cells3 h10
  have k6 := hx3.free 6
  have k7 := hx3.free 7
  have k9 := hx3.free 9
  have k10 := hx3.free 10
  have k11 := hx3.free 11
  have k12 := hx3.free 12
  have l9 := lt_blk h9
  have l10 := lt_blk h10
  have lx3 := hx3.lt
  have ly3 := hy3.lt
  clear hx3 h9 h10 hy3 hb3
  go_wp2_with fail
  refine (asked_ref Ar Aa none nr cr na ca 0 0 mc mt mf wt st id req cnt tim nak 5 tick [] _ P _ base (by omega) HP3.out (by have := HPN.out; omega) rfl (.inl ⟨At.nil _ _ _, Nat.le_refl _⟩) q0 q1 q2 q3 q4 q5 q6 q7).mono ?_
  rintro y w3 ⟨v', P', rfl, hg3, hp3, hpe⟩
  obtain ⟨A4, c4, rfl, -, -⟩ := ownsRow_form hp3.1
  obtain ⟨p4, hp4⟩ : ∃ p4, P'.length = p4 := ⟨_, rfl⟩
  have HP4 := Lib.hid hp4
  have hx3 := RB.apart (HX3.out) hg3 (own_ne_typ HP3.out.1 HX3.out (by decide))
  have hy3 := RB.apart (HY3.out) hg3 (own_ne_typ HP3.out.1 HY3.out (by decide))
  have HPQ := Lib.hid hp3
  have HPE := Lib.hid hpe
  rw [hp4] at HPQ
  rw [hp4]
  clear hp4 HX3 HY3 b0 b1 b2 b3 b4 b5 b6 b7 b8 b9 b10 b11 b12 k6 k7 k9 k10 k11 k12
  have HX3 := Lib.hid hx3
  have HY3 := Lib.hid hy3
  obtain ⟨⟨b0, b1, b2, b3, b4⟩, ⟨b5, b6, b7, b8, b9, b10, b11⟩, b12⟩ := hx3.cells
  have k0 := hx3.free 0
  have k1 := hx3.free 1
  have k2 := hx3.free 2
  have k3 := hx3.free 3
  have k4 := hx3.free 4
  have k5 := hx3.free 5
  have k6 := hx3.free 6
  have k7 := hx3.free 7
  have k8 := hx3.free 8
  have k9 := hx3.free 9
  have k10 := hx3.free 10
  have k11 := hx3.free 11
  have k12 := hx3.free 12
  have lz3 := hx3.lt
  have lw3 := hy3.lt
  have HGQ := Lib.hid (HGW3.out.trans hg3)
  clear hg3 hp3 hpe hx3 hy3 HP3 HGW3
  go_upto_region 31 with (fail)
  refine wp_w (fun W => RB W w.heap.size (.slice Ar nr cr) mc mt mf wt st (nxt id) req (.slice Aa na ca) (dec cnt) (tick + wt) nak (.slice A4 p4 c4) ∧ RB W (w.heap.size + 1 + 1 + 1) (.slice none 0 0) 0 0 0 0 0 0 0 (.slice none 0 0) 0 0 0 (.slice none 0 0) ∧ RowPks W base (.slice A4 p4 c4) P' ∧ w.grownBy W (Value.slice Ao pn co').ownBlock) ⟨row13 HX3.out rfl _ _ _ _ _ _ _ _ _ _ _ _ _, HY3.out.apart (row := some w.heap.size) grn (by intro e; have := Option.some.inj e; omega), HPQ.out.other (X := w.heap.size) grn HX3.out hb (by decide) (by decide) (Nat.le_trans hb HGQ.out.size), by have h3 := HGQ.out; exact grn⟩ ?_
  clear HX3 HY3 b0 b1 b2 b3 b4 b5 b6 b7 b8 b9 b10 b11 b12 k0 k1 k2 k3 k4 k5 k6 k7 k8 k9 k10 k11 k12 lz3 lw3
  rintro w4 ⟨hx3, hy3, hp3, hg3⟩
  have HX3 := Lib.hid hx3
  have HY3 := Lib.hid hy3
  have HP3 := Lib.hid hp3
  have HGW3 := Lib.hid hg3
  obtain ⟨⟨b0, b1, b2, b3, b4⟩, ⟨b5, b6, b7, b8, b9, b10, b11⟩, b12⟩ := hx3.cells
  obtain ⟨⟨y0, y1, y2, y3, y4⟩, ⟨y5, y6, y7, y8, y9, y10, y11⟩, y12⟩ := hy3.cells
  have g0 := hy3.free 0
  have g1 := hy3.free 1
  have g2 := hy3.free 2
  have g3 := hy3.free 3
  have g4 := hy3.free 4
  have g5 := hy3.free 5
  have g6 := hy3.free 6
  have g7 := hy3.free 7
  have g8 := hy3.free 8
  have g9 := hy3.free 9
  have g10 := hy3.free 10
  have g11 := hy3.free 11
  have g12 := hy3.free 12
  have lz3 := hx3.lt
  have lw3 := hy3.lt
  clear hx3 hy3 hp3 hg3
  go_wp2_with fail
  obtain ⟨WT, hWT⟩ : ∃ WT : World, WT = w4 := ⟨_, rfl⟩
  obtain ⟨Wf, hWf⟩ : ∃ Wf : World, Wf = (((((((((((((WT.setCell ⟨(w.heap.size + 1 + 1 + 1), 0, none⟩ (.slice Ar nr cr)).setCell ⟨(w.heap.size + 1 + 1 + 1), 1, none⟩ (.int .i64 mc)).setCell ⟨(w.heap.size + 1 + 1 + 1), 2, none⟩ (.int .i64 mt)).setCell ⟨(w.heap.size + 1 + 1 + 1), 3, none⟩ (.int .i64 mf)).setCell ⟨(w.heap.size + 1 + 1 + 1), 4, none⟩ (.int .i64 wt)).setCell ⟨(w.heap.size + 1 + 1 + 1), 5, none⟩ (.int .i64 st)).setCell ⟨(w.heap.size + 1 + 1 + 1), 6, none⟩ (.int .i64 (nxt id))).setCell ⟨(w.heap.size + 1 + 1 + 1), 7, none⟩ (.int .i64 req)).setCell ⟨(w.heap.size + 1 + 1 + 1), 8, none⟩ (.slice Aa na ca)).setCell ⟨(w.heap.size + 1 + 1 + 1), 9, none⟩ (.int .i64 (dec cnt))).setCell ⟨(w.heap.size + 1 + 1 + 1), 10, none⟩ (.int .i64 (tick + wt))).setCell ⟨(w.heap.size + 1 + 1 + 1), 11, none⟩ (.int .i64 nak)).setCell ⟨(w.heap.size + 1 + 1 + 1), 12, none⟩ (.slice A4 p4 c4)) := ⟨_, rfl⟩
  have hWf2 : Wf = ((((((((((((((w4).setCell ⟨(w.heap.size + 1 + 1 + 1), 0, none⟩ (.slice Ar nr cr)).setCell ⟨(w.heap.size + 1 + 1 + 1), 1, none⟩ (.int .i64 mc)).setCell ⟨(w.heap.size + 1 + 1 + 1), 2, none⟩ (.int .i64 mt)).setCell ⟨(w.heap.size + 1 + 1 + 1), 3, none⟩ (.int .i64 mf)).setCell ⟨(w.heap.size + 1 + 1 + 1), 4, none⟩ (.int .i64 wt)).setCell ⟨(w.heap.size + 1 + 1 + 1), 5, none⟩ (.int .i64 st)).setCell ⟨(w.heap.size + 1 + 1 + 1), 6, none⟩ (.int .i64 (nxt id))).setCell ⟨(w.heap.size + 1 + 1 + 1), 7, none⟩ (.int .i64 req)).setCell ⟨(w.heap.size + 1 + 1 + 1), 8, none⟩ (.slice Aa na ca)).setCell ⟨(w.heap.size + 1 + 1 + 1), 9, none⟩ (.int .i64 (dec cnt))).setCell ⟨(w.heap.size + 1 + 1 + 1), 10, none⟩ (.int .i64 (tick + wt))).setCell ⟨(w.heap.size + 1 + 1 + 1), 11, none⟩ (.int .i64 nak)).setCell ⟨(w.heap.size + 1 + 1 + 1), 12, none⟩ (.slice A4 p4 c4)) := by rw [hWf, hWT]
  rw [← hWf2]
  have hgT : w4.grownBy WT (some w.heap.size) := by rw [hWT]; exact grn
  have hyT := HY3.out.apart hgT (by intro e; have := Option.some.inj e; omega)
  have hrow : RB Wf (w.heap.size + 1 + 1 + 1) (.slice Ar nr cr) mc mt mf wt st ((nxt id)) (req) (.slice Aa na ca) ((dec cnt)) ((tick + wt)) (nak) ((.slice A4 p4 c4)) := by rw [hWf]; exact row13 hyT rfl _ _ _ _ _ _ _ _ _ _ _ _ _
  have hgr : WT.grownBy Wf (some (w.heap.size + 1 + 1 + 1)) := by rw [hWf]; exact grn
  have hgf : w.grownBy Wf (Value.slice Ao pn co').ownBlock := by
    have h3 := HGW3.out
    rw [hWf, hWT]
    exact grn
  have hpT := HP3.out.other hgT HX3.out hb (by decide) (by decide) (Nat.le_trans hb HGW3.out.size)
  have hpf := hpT.other hgr hyT (by omega) (by decide) (by decide) (Nat.le_trans hb (Nat.le_trans HGW3.out.size hgT.size))
  clear hWf hWf2 hWT b0 b1 b2 b3 b4 b5 b6 b7 b8 b9 b10 b11 b12 y0 y1 y2 y3 y4 y5 y6 y7 y8 y9 y10 y11 y12 g0 g1 g2 g3 g4 g5 g6 g7 g8 g9 g10 g11 g12
  obtain ⟨⟨u0, u1, u2, u3, u4⟩, ⟨u5, u6, u7, u8, u9, u10, u11⟩, u12⟩ := hrow.cells
  refine bodyPost_ret (v := .agg #[.slice Ar nr cr, .int .i64 mc, .int .i64 mt, .int .i64 mf, .int .i64 wt, .int .i64 st, .int .i64 ((nxt id)), .int .i64 (req), .slice Aa na ca, .int .i64 ((dec cnt)), .int .i64 ((tick + wt)), .int .i64 (nak), (.slice A4 p4 c4)]) (by simp [results, Tryz.results36, go_sem, u0, u1, u2, u3, u4, u5, u6, u7, u8, u9, u10, u11, u12]) rfl ?_
  exact ⟨_, P', rfl, hgf, hpf, HPE.out⟩
set_option maxRecDepth 100000 in
set_option maxHeartbeats 8000000 in
theorem ract_7 (Ar Aa Ai An Ad : Option Addr) (nr cr na ca ni ci nn cn nd cd : Nat) (mc mt mf wt st id req cnt tim nak ic ii ac ai tick : Int) (E : List Ent) (R : List Rl) (li ln : List UInt8) (acts : List Int) (vo : Value) (P : List Pe) (w : World) (base : Nat) (hb : base ≤ w.heap.size) (hP : RowPks w base vo P) (hlo : P.length ≤ 999) (hE : OptsAt w w.heap.size Aa E) (hna : na = E.length) (hI : At w base Ai (li.map bv)) (hni : ni = li.length) (hci : ni ≤ ci) (hli : ni ≤ 400000000) (hN : At w base An (ln.map bv)) (hnn : nn = ln.length) (hcn : nn ≤ cn) (hD : At w w.heap.size Ad (acts.map av)) (hnd : nd = acts.length) (hnd3 : nd ≤ 1000) (hk : NumOk ⟨R, mc, mt, mf, wt⟩ ⟨st, id, req, E.map Ent.o, cnt, tim, nak⟩ tick) : Calls Tryz.prog 36 #[.agg #[.slice Ar nr cr, .int .i64 mc, .int .i64 mt, .int .i64 mf, .int .i64 wt, .int .i64 st, .int .i64 id, .int .i64 req, .slice Aa na ca, .int .i64 cnt, .int .i64 tim, .int .i64 nak, vo], .int .i64 7, .slice Ad nd cd, .agg #[.int .i64 ic, .int .i64 ii, .slice Ai ni ci], .agg #[.int .i64 ac, .int .i64 ai, .slice An nn cn], .int .i64 tick] w (ActRP (.slice Ar nr cr) (.slice Aa na ca) ⟨R, mc, mt, mf, wt⟩ (actO ⟨R, mc, mt, mf, wt⟩ ⟨ic, ii, li⟩ ⟨ac, ai, ln⟩ tick acts ⟨st, id, req, E.map Ent.o, cnt, tim, nak⟩ 7) vo base P w) := by
  subst hnn
  subst hni
  obtain ⟨Ao, co', rfl, -, -⟩ := ownsRow_form hP.1
  have HP := Lib.hid hP
  have HE := Lib.hid hE
  have HNA := Lib.hid hna
  have HI := Lib.hid hI
  have HN := Lib.hid hN
  have HD := Lib.hid (And.intro hD hnd)
  have HK := Lib.hid hk
  obtain ⟨pn, hpn⟩ : ∃ pn, P.length = pn := ⟨_, rfl⟩
  have HPN := Lib.hid hpn
  rw [hpn] at HP hlo
  rw [hpn]
  clear hP hE hna hI hN hD hnd hk hpn
  have q0 := HK.out.t0
  have q1 := HK.out.t1
  have q2 := HK.out.w0
  have q3 := HK.out.w1
  have q4 := HK.out.c0
  have q5 := HK.out.c1
  have q6 := HK.out.i0
  have q7 := HK.out.i1
  dsimp only at q0 q1 q2 q3 q4 q5 q6 q7
  obtain ⟨L, hL⟩ : ∃ L, E.map Ent.o = L := ⟨_, rfl⟩
  have HL := Lib.hid hL
  rw [hL]
  clear hL
  have HEL := Lib.hid (encR_len L)
  obtain ⟨⟨eb, ee⟩, henc⟩ : ∃ y, Op.encR L = y := ⟨_, rfl⟩
  have HENC := Lib.hid henc
  rw [henc] at HEL
  show Calls _ _ _ _ (ActRP _ _ _ (⟨st, nxt id, nxt id, L, dec cnt, tick + wt, nak⟩, [⟨1, nxt id, (Op.encR L).1⟩]) _ _ _ _)
  rw [henc]
  clear henc
  go_enter Tryz.func36, Tryz.ntmps36
  go_upto_region 1 with (fail)
  refine wp_w (fun W => RB W w.heap.size (.slice Ar nr cr) mc mt mf wt st id req (.slice Aa na ca) cnt tim nak (.slice Ao pn co') ∧ W.heap[w.heap.size + 1]? = some (.cells #[.int .i64 ic, .int .i64 ii, .slice Ai li.length ci] 32 (0, 0)) ∧ W.heap[w.heap.size + 1 + 1]? = some (.cells #[.int .i64 ac, .int .i64 ai, .slice An ln.length cn] 32 (0, 0)) ∧ RB W (w.heap.size + 1 + 1 + 1) (.slice none 0 0) 0 0 0 0 0 0 0 (.slice none 0 0) 0 0 0 (.slice none 0 0) ∧ Below w.heap.size w W) ⟨?_, ?_, ?_, ?_, by exact bel⟩ ?_
  · show (World.alloc _ _).heap[w.heap.size]? = _
    (repeat (first | ((refine heap_alloc_at _ _ _ ?_); (simp [go_sem]; done)) | ((refine (heap_ext _ _ _ _ ?_).trans ?_); (focus (simp [go_sem]; done))) | ((refine (heap_alloc_past _ _ _ ?_).trans ?_); (focus (simp [go_sem]; done)))))
  · show (World.alloc _ _).heap[w.heap.size + 1]? = _
    (repeat (first | ((refine heap_alloc_at _ _ _ ?_); (simp [go_sem]; done)) | ((refine (heap_ext _ _ _ _ ?_).trans ?_); (focus (simp [go_sem]; done))) | ((refine (heap_alloc_past _ _ _ ?_).trans ?_); (focus (simp [go_sem]; done)))))
  · show (World.alloc _ _).heap[w.heap.size + 1 + 1]? = _
    (repeat (first | ((refine heap_alloc_at _ _ _ ?_); (simp [go_sem]; done)) | ((refine (heap_ext _ _ _ _ ?_).trans ?_); (focus (simp [go_sem]; done))) | ((refine (heap_alloc_past _ _ _ ?_).trans ?_); (focus (simp [go_sem]; done)))))
  · show (World.alloc _ _).heap[w.heap.size + 1 + 1 + 1]? = _
    (repeat (first | ((refine heap_alloc_at _ _ _ ?_); (simp [go_sem]; done)) | ((refine (heap_ext _ _ _ _ ?_).trans ?_); (focus (simp [go_sem]; done))) | ((refine (heap_alloc_past _ _ _ ?_).trans ?_); (focus (simp [go_sem]; done)))))
  rintro W1 ⟨hx3, h9, h10, hy3, hb3⟩
  have HX3 := Lib.hid hx3
  have H9 := Lib.hid h9
  have H10 := Lib.hid h10
  have HY3 := Lib.hid hy3
  have HB3 := Lib.hid hb3
  have HP3 := Lib.hid (HP.out.below hb3 hb)
  have HGW3 := Lib.hid (grown_of_below (r := (Value.slice Ao pn co').ownBlock) hb3)
  have hsz3 := hb3.size
  obtain ⟨⟨b0, b1, b2, b3, b4⟩, ⟨b5, b6, b7, b8, b9, b10, b11⟩, b12⟩ := hx3.cells
  obtain ⟨i0, i1, i2⟩ := cells3 h9
  obtain ⟨n0, n1, n2⟩ := cells3 h10
  have k6 := hx3.free 6
  have k7 := hx3.free 7
  have k9 := hx3.free 9
  have k10 := hx3.free 10
  have k11 := hx3.free 11
  have k12 := hx3.free 12
  have l9 := lt_blk h9
  have l10 := lt_blk h10
  have lx3 := hx3.lt
  have ly3 := hy3.lt
  clear hx3 h9 h10 hy3 hb3
  go_wp2_with fail
  refine (Op.renc_any Aa na ca E _ w.heap.size hsz3 (HE.out.keep HB3.out) HNA.out).mono ?_
  rw [HL.out]
  unfold Op.EncP
  rw [HENC.out]
  rintro e w2 ⟨v, rfl, hb2, ho2⟩
  obtain ⟨A3, c3, rfl, hc3, -⟩ := ownsRow_form ho2
  obtain ⟨xs2, d2, rfl⟩ := ext_of hb2
  have HO2 := Lib.hid ho2
  clear hb2 ho2 hc3
  have HX3 := Lib.hid (HX3.out.keep (W' := ext W1 xs2 d2) (by exact bel))
  have HY3 := Lib.hid (HY3.out.keep (W' := ext W1 xs2 d2) (by exact bel))
  have HP3 := Lib.hid (HP3.out.below (C := ext W1 xs2 d2) (by exact bel) (by omega))
  have HGW3 := Lib.hid (show w.grownBy (ext W1 xs2 d2) (Value.slice Ao pn co').ownBlock from by have := HGW3.out; exact grn)
  go_wp2_with fail
  refine (asked_ref Ar Aa A3 nr cr na ca eb.length c3 mc mt mf wt st id req cnt tim nak 1 tick eb _ P _ base (by simp [size_ext, grow]; omega) HP3.out (by have := HPN.out; omega) rfl (.inr (own_base HO2.out (by omega))) q0 q1 q2 q3 q4 q5 q6 q7).mono ?_
  rintro y w3 ⟨v', P', rfl, hg3, hp3, hpe⟩
  obtain ⟨A4, c4, rfl, -, -⟩ := ownsRow_form hp3.1
  obtain ⟨p4, hp4⟩ : ∃ p4, P'.length = p4 := ⟨_, rfl⟩
  have HP4 := Lib.hid hp4
  have hx3 := RB.apart (HX3.out) hg3 (own_ne_typ HP3.out.1 HX3.out (by decide))
  have hy3 := RB.apart (HY3.out) hg3 (own_ne_typ HP3.out.1 HY3.out (by decide))
  have HPQ := Lib.hid hp3
  have HPE := Lib.hid hpe
  rw [hp4] at HPQ
  rw [hp4]
  clear hp4 HX3 HY3 b0 b1 b2 b3 b4 b5 b6 b7 b8 b9 b10 b11 b12 k6 k7 k9 k10 k11 k12
  have HX3 := Lib.hid hx3
  have HY3 := Lib.hid hy3
  obtain ⟨⟨b0, b1, b2, b3, b4⟩, ⟨b5, b6, b7, b8, b9, b10, b11⟩, b12⟩ := hx3.cells
  have k0 := hx3.free 0
  have k1 := hx3.free 1
  have k2 := hx3.free 2
  have k3 := hx3.free 3
  have k4 := hx3.free 4
  have k5 := hx3.free 5
  have k6 := hx3.free 6
  have k7 := hx3.free 7
  have k8 := hx3.free 8
  have k9 := hx3.free 9
  have k10 := hx3.free 10
  have k11 := hx3.free 11
  have k12 := hx3.free 12
  have lz3 := hx3.lt
  have lw3 := hy3.lt
  have HGQ := Lib.hid (HGW3.out.trans hg3)
  clear hg3 hp3 hpe hx3 hy3 HP3 HGW3
  go_upto_region 12 with (fail)
  refine wp_w (fun W => RB W w.heap.size (.slice Ar nr cr) mc mt mf wt st (nxt id) req (.slice Aa na ca) (dec cnt) (tick + wt) nak (.slice A4 p4 c4) ∧ RB W (w.heap.size + 1 + 1 + 1) (.slice none 0 0) 0 0 0 0 0 0 0 (.slice none 0 0) 0 0 0 (.slice none 0 0) ∧ RowPks W base (.slice A4 p4 c4) P' ∧ w.grownBy W (Value.slice Ao pn co').ownBlock) ⟨row13 HX3.out rfl _ _ _ _ _ _ _ _ _ _ _ _ _, HY3.out.apart (row := some w.heap.size) grn (by intro e; have := Option.some.inj e; omega), HPQ.out.other (X := w.heap.size) grn HX3.out hb (by decide) (by decide) (Nat.le_trans hb HGQ.out.size), by have h3 := HGQ.out; exact grn⟩ ?_
  clear HX3 HY3 b0 b1 b2 b3 b4 b5 b6 b7 b8 b9 b10 b11 b12 k0 k1 k2 k3 k4 k5 k6 k7 k8 k9 k10 k11 k12 lz3 lw3
  rintro w4 ⟨hx3, hy3, hp3, hg3⟩
  have HX3 := Lib.hid hx3
  have HY3 := Lib.hid hy3
  have HP3 := Lib.hid hp3
  have HGW3 := Lib.hid hg3
  obtain ⟨⟨b0, b1, b2, b3, b4⟩, ⟨b5, b6, b7, b8, b9, b10, b11⟩, b12⟩ := hx3.cells
  obtain ⟨⟨y0, y1, y2, y3, y4⟩, ⟨y5, y6, y7, y8, y9, y10, y11⟩, y12⟩ := hy3.cells
  have g0 := hy3.free 0
  have g1 := hy3.free 1
  have g2 := hy3.free 2
  have g3 := hy3.free 3
  have g4 := hy3.free 4
  have g5 := hy3.free 5
  have g6 := hy3.free 6
  have g7 := hy3.free 7
  have g8 := hy3.free 8
  have g9 := hy3.free 9
  have g10 := hy3.free 10
  have g11 := hy3.free 11
  have g12 := hy3.free 12
  have k7 := hx3.free 7
  have lz3 := hx3.lt
  have lw3 := hy3.lt
  clear hx3 hy3 hp3 hg3
  go_wp2_with fail
  obtain ⟨WT, hWT⟩ : ∃ WT : World, WT = (w4.setCell ⟨w.heap.size, 7, none⟩ (Value.int .i64 (nxt id))) := ⟨_, rfl⟩
  obtain ⟨Wf, hWf⟩ : ∃ Wf : World, Wf = (((((((((((((WT.setCell ⟨(w.heap.size + 1 + 1 + 1), 0, none⟩ (.slice Ar nr cr)).setCell ⟨(w.heap.size + 1 + 1 + 1), 1, none⟩ (.int .i64 mc)).setCell ⟨(w.heap.size + 1 + 1 + 1), 2, none⟩ (.int .i64 mt)).setCell ⟨(w.heap.size + 1 + 1 + 1), 3, none⟩ (.int .i64 mf)).setCell ⟨(w.heap.size + 1 + 1 + 1), 4, none⟩ (.int .i64 wt)).setCell ⟨(w.heap.size + 1 + 1 + 1), 5, none⟩ (.int .i64 st)).setCell ⟨(w.heap.size + 1 + 1 + 1), 6, none⟩ (.int .i64 (nxt id))).setCell ⟨(w.heap.size + 1 + 1 + 1), 7, none⟩ (.int .i64 (nxt id))).setCell ⟨(w.heap.size + 1 + 1 + 1), 8, none⟩ (.slice Aa na ca)).setCell ⟨(w.heap.size + 1 + 1 + 1), 9, none⟩ (.int .i64 (dec cnt))).setCell ⟨(w.heap.size + 1 + 1 + 1), 10, none⟩ (.int .i64 (tick + wt))).setCell ⟨(w.heap.size + 1 + 1 + 1), 11, none⟩ (.int .i64 nak)).setCell ⟨(w.heap.size + 1 + 1 + 1), 12, none⟩ (.slice A4 p4 c4)) := ⟨_, rfl⟩
  have hWf2 : Wf = (((((((((((((((w4.setCell ⟨w.heap.size, 7, none⟩ (Value.int .i64 (nxt id)))).setCell ⟨(w.heap.size + 1 + 1 + 1), 0, none⟩ (.slice Ar nr cr)).setCell ⟨(w.heap.size + 1 + 1 + 1), 1, none⟩ (.int .i64 mc)).setCell ⟨(w.heap.size + 1 + 1 + 1), 2, none⟩ (.int .i64 mt)).setCell ⟨(w.heap.size + 1 + 1 + 1), 3, none⟩ (.int .i64 mf)).setCell ⟨(w.heap.size + 1 + 1 + 1), 4, none⟩ (.int .i64 wt)).setCell ⟨(w.heap.size + 1 + 1 + 1), 5, none⟩ (.int .i64 st)).setCell ⟨(w.heap.size + 1 + 1 + 1), 6, none⟩ (.int .i64 (nxt id))).setCell ⟨(w.heap.size + 1 + 1 + 1), 7, none⟩ (.int .i64 (nxt id))).setCell ⟨(w.heap.size + 1 + 1 + 1), 8, none⟩ (.slice Aa na ca)).setCell ⟨(w.heap.size + 1 + 1 + 1), 9, none⟩ (.int .i64 (dec cnt))).setCell ⟨(w.heap.size + 1 + 1 + 1), 10, none⟩ (.int .i64 (tick + wt))).setCell ⟨(w.heap.size + 1 + 1 + 1), 11, none⟩ (.int .i64 nak)).setCell ⟨(w.heap.size + 1 + 1 + 1), 12, none⟩ (.slice A4 p4 c4)) := by rw [hWf, hWT]
  rw [← hWf2]
  have hgT : w4.grownBy WT (some w.heap.size) := by rw [hWT]; exact grn
  have hyT := HY3.out.apart hgT (by intro e; have := Option.some.inj e; omega)
  have hrow : RB Wf (w.heap.size + 1 + 1 + 1) (.slice Ar nr cr) mc mt mf wt st ((nxt id)) ((nxt id)) (.slice Aa na ca) ((dec cnt)) ((tick + wt)) (nak) ((.slice A4 p4 c4)) := by rw [hWf]; exact row13 hyT rfl _ _ _ _ _ _ _ _ _ _ _ _ _
  have hgr : WT.grownBy Wf (some (w.heap.size + 1 + 1 + 1)) := by rw [hWf]; exact grn
  have hgf : w.grownBy Wf (Value.slice Ao pn co').ownBlock := by
    have h3 := HGW3.out
    rw [hWf, hWT]
    exact grn
  have hpT := HP3.out.other hgT HX3.out hb (by decide) (by decide) (Nat.le_trans hb HGW3.out.size)
  have hpf := hpT.other hgr hyT (by omega) (by decide) (by decide) (Nat.le_trans hb (Nat.le_trans HGW3.out.size hgT.size))
  clear hWf hWf2 hWT b0 b1 b2 b3 b4 b5 b6 b7 b8 b9 b10 b11 b12 y0 y1 y2 y3 y4 y5 y6 y7 y8 y9 y10 y11 y12 g0 g1 g2 g3 g4 g5 g6 g7 g8 g9 g10 g11 g12
  obtain ⟨⟨u0, u1, u2, u3, u4⟩, ⟨u5, u6, u7, u8, u9, u10, u11⟩, u12⟩ := hrow.cells
  refine bodyPost_ret (v := .agg #[.slice Ar nr cr, .int .i64 mc, .int .i64 mt, .int .i64 mf, .int .i64 wt, .int .i64 st, .int .i64 ((nxt id)), .int .i64 ((nxt id)), .slice Aa na ca, .int .i64 ((dec cnt)), .int .i64 ((tick + wt)), .int .i64 (nak), (.slice A4 p4 c4)]) (by simp [results, Tryz.results36, go_sem, u0, u1, u2, u3, u4, u5, u6, u7, u8, u9, u10, u11, u12]) rfl ?_
  exact ⟨_, P', rfl, hgf, hpf, HPE.out⟩
end Go.Proofs.YthidhfkbfoejbaaGreat
