/- The reference: a packet of its own number. -/
import Derived.Test.YthidhfkbfoejbaaGreatQ14
namespace Go.Proofs.YthidhfkbfoejbaaGreat
open Go.RowKit
set_option linter.unusedSimpArgs false
set_option linter.unusedVariables false
set_option linter.ambiguousOpen false
open Ne (Rl Opt RulesAt areB)
open Fs (av hasB)
theorem own_ne_typ {w : World} {base : Nat} {e e' : TypeId} {size n : Nat} {v : Value} {xs : List Value} (h : w.ownsRow base e size v n xs) {X : Nat} {cs : Array Value} (hX : w.heap[X]? = some (.cells cs e' (0, 0))) (hne : e ≠ e') : v.ownBlock ≠ some X := by
  intro hk
  obtain ⟨cur, hc⟩ := own_type h hk
  rw [hX] at hc
  cases hc
  exact hne rfl
def AskedP (vr : Value) (mc mt mf wt st id req : Int) (va : Value) (cnt tim nak : Int) (vo : Value) (base : Nat) (P : List Pe) (q : List Pk) (w : World) (x : Ending) (w' : World) : Prop :=
  ∃ v' P', x = .returned (.agg #[vr, .int .i64 mc, .int .i64 mt, .int .i64 mf, .int .i64 wt, .int .i64 st, .int .i64 id, .int .i64 req, va, .int .i64 cnt, .int .i64 tim, .int .i64 nak, v']) ∧ w.grownBy w' vo.ownBlock ∧ RowPks w' base v' P' ∧ P'.map Pe.o = P.map Pe.o ++ q
set_option maxRecDepth 100000 in
set_option maxHeartbeats 8000000 in
theorem asked_ref (Ar Aa A : Option Addr) (nr cr na ca n c : Nat) (mc mt mf wt st id req cnt tim nak co tick : Int) (l : List UInt8) (vo : Value) (P : List Pe) (w : World) (base : Nat) (hb : base ≤ w.heap.size) (hP : RowPks w base vo P) (hlo : P.length ≤ 999) (hn : n = l.length)
    (hA : (At w base A (l.map bv) ∧ l.length ≤ c) ∨ w.ownsRow base 5 1 (.slice A l.length c) l.length (l.map bv)) (h0 : 0 ≤ tick) (h1 : tick ≤ 1099511627776) (h2 : 1 ≤ wt) (h3 : wt ≤ 1048576) (h4 : 0 ≤ cnt) (h5 : cnt ≤ 1000) (h6 : 0 ≤ id) (h7 : id ≤ 255) :
    Calls Tryz.prog 64 #[.agg #[.slice Ar nr cr, .int .i64 mc, .int .i64 mt, .int .i64 mf, .int .i64 wt, .int .i64 st, .int .i64 id, .int .i64 req, .slice Aa na ca, .int .i64 cnt, .int .i64 tim, .int .i64 nak, vo], .int .i64 co, .slice A n c, .int .i64 tick] w (AskedP (.slice Ar nr cr) mc mt mf wt st (nxt id) req (.slice Aa na ca) (dec cnt) (tick + wt) nak vo base P [⟨co, nxt id, l⟩] w) := by
  subst hn
  obtain ⟨Ao, co', rfl, -, -⟩ := ownsRow_form hP.1
  have HP := Lib.hid hP
  have HA := Lib.hid hA
  clear hP hA
  have e1 : Int.tmod (id + 1) 256 = nxt id := Int.tmod_eq_emod_of_nonneg (by omega)
  obtain ⟨hj0, hj1⟩ := nxt_in id
  obtain ⟨j, hj⟩ : ∃ j, nxt id = j := ⟨_, rfl⟩
  rw [hj] at e1 hj0 hj1
  rw [hj]
  have e2 : IntKind.i64.wrap (tick + wt) = tick + wt := IntWalk.i64_in _ (by omega)
  obtain ⟨pn, hpn⟩ : ∃ pn, P.length = pn := ⟨_, rfl⟩
  have HPN := Lib.hid hpn
  rw [hpn] at HP hlo
  rw [hpn]
  clear hj hpn
  obtain ⟨dc, hdc⟩ : ∃ dc, dec cnt = dc := ⟨_, rfl⟩
  have HDC := Lib.hid hdc
  rw [hdc]
  clear hdc
  go_enter Tryz.func64, Tryz.ntmps64
  go_upto_region 1 with (fail)
  refine wp_w (fun W => RB W w.heap.size (.slice Ar nr cr) mc mt mf wt st id req (.slice Aa na ca) cnt tim nak (.slice Ao pn co') ∧ RB W (w.heap.size + 1) (.slice none 0 0) 0 0 0 0 0 0 0 (.slice none 0 0) 0 0 0 (.slice none 0 0) ∧ Below w.heap.size w W) ⟨?_, ?_, by exact bel⟩ ?_
  · show (World.alloc _ _).heap[w.heap.size]? = _
    (repeat (first | ((refine heap_alloc_at _ _ _ ?_); (simp [go_sem]; done)) | ((refine (heap_ext _ _ _ _ ?_).trans ?_); (focus (simp [go_sem]; done))) | ((refine (heap_alloc_past _ _ _ ?_).trans ?_); (focus (simp [go_sem]; done)))))
  · show (World.alloc _ _).heap[w.heap.size + 1]? = _
    (repeat (first | ((refine heap_alloc_at _ _ _ ?_); (simp [go_sem]; done)) | ((refine (heap_ext _ _ _ _ ?_).trans ?_); (focus (simp [go_sem]; done))) | ((refine (heap_alloc_past _ _ _ ?_).trans ?_); (focus (simp [go_sem]; done)))))
  rintro W1 ⟨hx1, hy1, hb1⟩
  have HX1 := Lib.hid hx1
  have HY1 := Lib.hid hy1
  have HB1 := Lib.hid hb1
  have lx1 := hx1.lt
  have ly1 := hy1.lt
  obtain ⟨⟨p0, p1, p2, p3, p4⟩, ⟨p5, p6, p7, p8, p9, p10, p11⟩, p12⟩ := hx1.cells
  have f6 := hx1.free 6
  have hsz1 := hb1.size
  clear hx1 hy1 hb1
  have HP1 := Lib.hid (HP.out.below HB1.out hb)
  have HPX := Lib.hid (HP1.out.other (grown_set W1 w.heap.size 6 (.int .i64 j)) HX1.out hb (by decide) (by decide) (Nat.le_trans hb hsz1))
  have HGW := Lib.hid (grown_of_below (r := (Value.slice Ao pn co').ownBlock) HB1.out)
  have HD := Lib.hid (show (At (W1.setCell ⟨w.heap.size, 6, none⟩ (.int .i64 j)) base A (l.map bv) ∧ l.length ≤ c) ∨ (W1.setCell ⟨w.heap.size, 6, none⟩ (.int .i64 j)).ownsRow base 5 1 (.slice A l.length c) l.length (l.map bv) from by
    have h1 : (At W1 base A (l.map bv) ∧ l.length ≤ c) ∨ W1.ownsRow base 5 1 (.slice A l.length c) l.length (l.map bv) := HA.out.imp (fun h => ⟨h.1.keep (HB1.out.mono hb), h.2⟩) (fun h => own_below h HB1.out)
    exact h1.imp (fun h => ⟨h.1.grown (grown_set _ _ _ _) (Nat.le_trans hb hsz1) (fun k e => by cases e; exact hb), h.2⟩) (fun h => ownsRow_setCell_other h (own_ne_typ (e' := 82) (X := w.heap.size) h (show W1.heap[w.heap.size]? = some (.cells _ 82 (0, 0)) from HX1.out) (by decide)) _))
  have hdc : dc = if 0 < cnt then cnt - 1 else cnt := HDC.out.symm
  by_cases hc : 0 < cnt
  all_goals
    first | (rw [if_pos hc] at hdc) | (rw [if_neg hc] at hdc)
    subst dc
    go_wp2_with (at_builtin; go_loud (refine wpList_appg base rfl (.tmp 17) (.tmp 24) 35 rfl 32 Tryz.underlying35 (.agg #[.int .i64 0, .int .i64 0, .slice none 0 0]) 3 40 infoCtl rfl (by decide) (by decide) (.slice Ao pn co') pn (cellsP P) rfl (by have h := HPX.out.1; rw [HPN.out] at h; exact own_below h (by exact bel)) (W1.heap.size + 1) (some ⟨W1.heap.size, 0, none⟩) 1 1 [.int .i64 co, .int .i64 j, .slice A l.length c] rfl rfl (by omega) (by exact At.newN _ _ _ _ _ (by simp) rfl) (by intro u hu; simp at hu; rcases hu with rfl | rfl | rfl <;> rfl) (by simp; omega) ?_); intro A4 c4 w3 ho3 hc3 hg3; have HO3 := Lib.hid ho3; have HG3 := Lib.hid hg3; have hx3 := RB.apart (RB.keep (HX1.out.sid j) (by exact bel)) hg3 (own_ne_typ HP1.out.1 HX1.out (by decide)); have hy3 := RB.apart (RB.keep (W' := (W1.setCell ⟨w.heap.size, 6, none⟩ (.int .i64 j)).alloc (.cells #[.int .i64 co, .int .i64 j, .slice A l.length c] 32)) (show RB (W1.setCell ⟨w.heap.size, 6, none⟩ (.int .i64 j)) (w.heap.size + 1) (.slice none 0 0) 0 0 0 0 0 0 0 (.slice none 0 0) 0 0 0 (.slice none 0 0) from (heap_setCell_other _ _ _ _ (by simp)).trans HY1.out) (by exact bel)) hg3 (own_ne_typ HP1.out.1 HY1.out (by decide)); have HX3 := Lib.hid hx3; have HY3 := Lib.hid hy3; obtain ⟨⟨b0, b1, b2, b3, b4⟩, ⟨b5, b6, b7, b8, b9, b10, b11⟩, b12⟩ := hx3.cells; obtain ⟨⟨y0, y1, y2, y3, y4⟩, ⟨y5, y6, y7, y8, y9, y10, y11⟩, y12⟩ := hy3.cells; have g0 := hy3.free 0; have g1 := hy3.free 1; have g2 := hy3.free 2; have g3 := hy3.free 3; have g4 := hy3.free 4; have g5 := hy3.free 5; have g6 := hy3.free 6; have g7 := hy3.free 7; have g8 := hy3.free 8; have g9 := hy3.free 9; have g10 := hy3.free 10; have g11 := hy3.free 11; have g12 := hy3.free 12; have k9 := hx3.free 9; have k10 := hx3.free 10; have k12 := hx3.free 12; have lx3 := hx3.lt; have ly3 := hy3.lt; have HP3 := Lib.hid (RowPks.pushed (co := co) (id := j) (HPX.out.below (C := (W1.setCell ⟨w.heap.size, 6, none⟩ (.int .i64 j)).alloc (.cells #[.int .i64 co, .int .i64 j, .slice A l.length c] 32)) (by exact bel) (by simp; omega)) (HD.out.imp (fun h => ⟨h.1.keep (by have hbs : base ≤ (W1.setCell ⟨w.heap.size, 6, none⟩ (.int .i64 j)).heap.size := (by simp; omega); exact bel), h.2⟩) (fun h => own_below h (by exact bel))) (by rw [HPN.out]; exact ho3) hg3 (by simp; omega)); have HGW3 := Lib.hid (World.grownBy.trans (show w.grownBy ((W1.setCell ⟨w.heap.size, 6, none⟩ (.int .i64 j)).alloc (.cells #[.int .i64 co, .int .i64 j, .slice A l.length c] 32)) (Value.slice Ao pn co').ownBlock from by have := HGW.out; exact grn) hg3); clear ho3 hc3 hg3 hx3 hy3 p0 p1 p2 p3 p4 p5 p6 p7 p8 p9 p10 p11 p12 f6)
  · obtain ⟨WT, hWT⟩ : ∃ WT : World, WT = (((w3.setCell ⟨w.heap.size, 12, none⟩ (.slice A4 (pn + 1) c4)).setCell ⟨w.heap.size, 9, none⟩ (.int .i64 (cnt - 1))).setCell ⟨w.heap.size, 10, none⟩ (.int .i64 (tick + wt))) := ⟨_, rfl⟩
    obtain ⟨Wf, hWf⟩ : ∃ Wf : World, Wf = (((((((((((((WT.setCell ⟨(w.heap.size + 1), 0, none⟩ (.slice Ar nr cr)).setCell ⟨(w.heap.size + 1), 1, none⟩ (.int .i64 mc)).setCell ⟨(w.heap.size + 1), 2, none⟩ (.int .i64 mt)).setCell ⟨(w.heap.size + 1), 3, none⟩ (.int .i64 mf)).setCell ⟨(w.heap.size + 1), 4, none⟩ (.int .i64 wt)).setCell ⟨(w.heap.size + 1), 5, none⟩ (.int .i64 st)).setCell ⟨(w.heap.size + 1), 6, none⟩ (.int .i64 j)).setCell ⟨(w.heap.size + 1), 7, none⟩ (.int .i64 req)).setCell ⟨(w.heap.size + 1), 8, none⟩ (.slice Aa na ca)).setCell ⟨(w.heap.size + 1), 9, none⟩ (.int .i64 (cnt - 1))).setCell ⟨(w.heap.size + 1), 10, none⟩ (.int .i64 (tick + wt))).setCell ⟨(w.heap.size + 1), 11, none⟩ (.int .i64 nak)).setCell ⟨(w.heap.size + 1), 12, none⟩ (.slice A4 (pn + 1) c4)) := ⟨_, rfl⟩
    have hWf2 : Wf = (((((((((((((((((w3.setCell ⟨w.heap.size, 12, none⟩ (.slice A4 (pn + 1) c4)).setCell ⟨w.heap.size, 9, none⟩ (.int .i64 (cnt - 1))).setCell ⟨w.heap.size, 10, none⟩ (.int .i64 (tick + wt)))).setCell ⟨(w.heap.size + 1), 0, none⟩ (.slice Ar nr cr)).setCell ⟨(w.heap.size + 1), 1, none⟩ (.int .i64 mc)).setCell ⟨(w.heap.size + 1), 2, none⟩ (.int .i64 mt)).setCell ⟨(w.heap.size + 1), 3, none⟩ (.int .i64 mf)).setCell ⟨(w.heap.size + 1), 4, none⟩ (.int .i64 wt)).setCell ⟨(w.heap.size + 1), 5, none⟩ (.int .i64 st)).setCell ⟨(w.heap.size + 1), 6, none⟩ (.int .i64 j)).setCell ⟨(w.heap.size + 1), 7, none⟩ (.int .i64 req)).setCell ⟨(w.heap.size + 1), 8, none⟩ (.slice Aa na ca)).setCell ⟨(w.heap.size + 1), 9, none⟩ (.int .i64 (cnt - 1))).setCell ⟨(w.heap.size + 1), 10, none⟩ (.int .i64 (tick + wt))).setCell ⟨(w.heap.size + 1), 11, none⟩ (.int .i64 nak)).setCell ⟨(w.heap.size + 1), 12, none⟩ (.slice A4 (pn + 1) c4)) := by rw [hWf, hWT]
    rw [← hWf2]
    have hgT : w3.grownBy WT (some w.heap.size) := by rw [hWT]; exact grn
    have hyT := HY3.out.apart hgT (by simp)
    have hrow : RB Wf (w.heap.size + 1) (.slice Ar nr cr) mc mt mf wt st (j) (req) (.slice Aa na ca) ((cnt - 1)) ((tick + wt)) (nak) ((.slice A4 (pn + 1) c4)) := by rw [hWf]; exact row13 hyT rfl _ _ _ _ _ _ _ _ _ _ _ _ _
    have hgr : WT.grownBy Wf (some (w.heap.size + 1)) := by rw [hWf]; exact grn
    have hgf : w.grownBy Wf (Value.slice Ao pn co').ownBlock := by
      have h3 := HGW3.out
      rw [hWf, hWT]
      exact grn
    have hpT := HP3.out.other hgT HX3.out hb (by decide) (by decide) (Nat.le_trans hb HGW3.out.size)
    have hpf := hpT.other hgr hyT (by omega) (by decide) (by decide) (Nat.le_trans hb (Nat.le_trans HGW3.out.size hgT.size))
    clear hWf hWf2 hWT b0 b1 b2 b3 b4 b5 b6 b7 b8 b9 b10 b11 b12 y0 y1 y2 y3 y4 y5 y6 y7 y8 y9 y10 y11 y12 g0 g1 g2 g3 g4 g5 g6 g7 g8 g9 g10 g11 g12
    obtain ⟨⟨u0, u1, u2, u3, u4⟩, ⟨u5, u6, u7, u8, u9, u10, u11⟩, u12⟩ := hrow.cells
    refine bodyPost_ret (v := .agg #[.slice Ar nr cr, .int .i64 mc, .int .i64 mt, .int .i64 mf, .int .i64 wt, .int .i64 st, .int .i64 (j), .int .i64 (req), .slice Aa na ca, .int .i64 ((cnt - 1)), .int .i64 ((tick + wt)), .int .i64 (nak), (.slice A4 (pn + 1) c4)]) (by simp [results, Tryz.results64, go_sem, u0, u1, u2, u3, u4, u5, u6, u7, u8, u9, u10, u11, u12]) rfl ?_
    exact ⟨_, _, by rw [show dec cnt = cnt - 1 from if_pos hc], hgf, hpf, by rw [List.map_append]; rfl⟩
  · obtain ⟨WT, hWT⟩ : ∃ WT : World, WT = ((w3.setCell ⟨w.heap.size, 12, none⟩ (.slice A4 (pn + 1) c4)).setCell ⟨w.heap.size, 10, none⟩ (.int .i64 (tick + wt))) := ⟨_, rfl⟩
    obtain ⟨Wf, hWf⟩ : ∃ Wf : World, Wf = (((((((((((((WT.setCell ⟨(w.heap.size + 1), 0, none⟩ (.slice Ar nr cr)).setCell ⟨(w.heap.size + 1), 1, none⟩ (.int .i64 mc)).setCell ⟨(w.heap.size + 1), 2, none⟩ (.int .i64 mt)).setCell ⟨(w.heap.size + 1), 3, none⟩ (.int .i64 mf)).setCell ⟨(w.heap.size + 1), 4, none⟩ (.int .i64 wt)).setCell ⟨(w.heap.size + 1), 5, none⟩ (.int .i64 st)).setCell ⟨(w.heap.size + 1), 6, none⟩ (.int .i64 j)).setCell ⟨(w.heap.size + 1), 7, none⟩ (.int .i64 req)).setCell ⟨(w.heap.size + 1), 8, none⟩ (.slice Aa na ca)).setCell ⟨(w.heap.size + 1), 9, none⟩ (.int .i64 cnt)).setCell ⟨(w.heap.size + 1), 10, none⟩ (.int .i64 (tick + wt))).setCell ⟨(w.heap.size + 1), 11, none⟩ (.int .i64 nak)).setCell ⟨(w.heap.size + 1), 12, none⟩ (.slice A4 (pn + 1) c4)) := ⟨_, rfl⟩
    have hWf2 : Wf = ((((((((((((((((w3.setCell ⟨w.heap.size, 12, none⟩ (.slice A4 (pn + 1) c4)).setCell ⟨w.heap.size, 10, none⟩ (.int .i64 (tick + wt)))).setCell ⟨(w.heap.size + 1), 0, none⟩ (.slice Ar nr cr)).setCell ⟨(w.heap.size + 1), 1, none⟩ (.int .i64 mc)).setCell ⟨(w.heap.size + 1), 2, none⟩ (.int .i64 mt)).setCell ⟨(w.heap.size + 1), 3, none⟩ (.int .i64 mf)).setCell ⟨(w.heap.size + 1), 4, none⟩ (.int .i64 wt)).setCell ⟨(w.heap.size + 1), 5, none⟩ (.int .i64 st)).setCell ⟨(w.heap.size + 1), 6, none⟩ (.int .i64 j)).setCell ⟨(w.heap.size + 1), 7, none⟩ (.int .i64 req)).setCell ⟨(w.heap.size + 1), 8, none⟩ (.slice Aa na ca)).setCell ⟨(w.heap.size + 1), 9, none⟩ (.int .i64 cnt)).setCell ⟨(w.heap.size + 1), 10, none⟩ (.int .i64 (tick + wt))).setCell ⟨(w.heap.size + 1), 11, none⟩ (.int .i64 nak)).setCell ⟨(w.heap.size + 1), 12, none⟩ (.slice A4 (pn + 1) c4)) := by rw [hWf, hWT]
    rw [← hWf2]
    have hgT : w3.grownBy WT (some w.heap.size) := by rw [hWT]; exact grn
    have hyT := HY3.out.apart hgT (by simp)
    have hrow : RB Wf (w.heap.size + 1) (.slice Ar nr cr) mc mt mf wt st (j) (req) (.slice Aa na ca) (cnt) ((tick + wt)) (nak) ((.slice A4 (pn + 1) c4)) := by rw [hWf]; exact row13 hyT rfl _ _ _ _ _ _ _ _ _ _ _ _ _
    have hgr : WT.grownBy Wf (some (w.heap.size + 1)) := by rw [hWf]; exact grn
    have hgf : w.grownBy Wf (Value.slice Ao pn co').ownBlock := by
      have h3 := HGW3.out
      rw [hWf, hWT]
      exact grn
    have hpT := HP3.out.other hgT HX3.out hb (by decide) (by decide) (Nat.le_trans hb HGW3.out.size)
    have hpf := hpT.other hgr hyT (by omega) (by decide) (by decide) (Nat.le_trans hb (Nat.le_trans HGW3.out.size hgT.size))
    clear hWf hWf2 hWT b0 b1 b2 b3 b4 b5 b6 b7 b8 b9 b10 b11 b12 y0 y1 y2 y3 y4 y5 y6 y7 y8 y9 y10 y11 y12 g0 g1 g2 g3 g4 g5 g6 g7 g8 g9 g10 g11 g12
    obtain ⟨⟨u0, u1, u2, u3, u4⟩, ⟨u5, u6, u7, u8, u9, u10, u11⟩, u12⟩ := hrow.cells
    refine bodyPost_ret (v := .agg #[.slice Ar nr cr, .int .i64 mc, .int .i64 mt, .int .i64 mf, .int .i64 wt, .int .i64 st, .int .i64 (j), .int .i64 (req), .slice Aa na ca, .int .i64 (cnt), .int .i64 ((tick + wt)), .int .i64 (nak), (.slice A4 (pn + 1) c4)]) (by simp [results, Tryz.results64, go_sem, u0, u1, u2, u3, u4, u5, u6, u7, u8, u9, u10, u11, u12]) rfl ?_
    exact ⟨_, _, rfl, hgf, hpf, by rw [List.map_append]; rfl⟩
end Go.Proofs.YthidhfkbfoejbaaGreat
