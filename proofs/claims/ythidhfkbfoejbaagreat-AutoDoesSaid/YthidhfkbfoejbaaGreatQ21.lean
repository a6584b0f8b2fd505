/- The reference's Do: what an event makes of an automaton. -/
import Derived.Test.YthidhfkbfoejbaaGreatQ20
import Derived.Test.YthidhfkbfoejbaaGreatQ33
namespace Go.Proofs.YthidhfkbfoejbaaGreat
open Go.RowKit
set_option linter.unusedSimpArgs false
set_option linter.unusedVariables false
set_option linter.ambiguousOpen false
open Ne (Rl Opt RulesAt areB)
open Fs (av hasB)
/-- Packets in a row of one's own, their data readable. -/
def PksR (w : World) (base : Nat) (v : Value) (out : List Pk) : Prop := ∃ P : List Pe, w.ownsRow base 32 3 v P.length (cellsP P) ∧ (∀ e ∈ P, At w w.heap.size e.a (e.d.map bv) ∧ e.d.length ≤ e.c) ∧ P.map Pe.o = out
theorem PksR.nil (w : World) (b : Nat) : PksR w b (.slice none 0 0) [] := ⟨[], own_nil _ _ _ _, (fun _ h => by cases h), rfl⟩
theorem PksR.v {w : World} {base : Nat} {v : Value} {out : List Pk} (h : PksR w base v out) : PksV w w.heap.size v out := by
  obtain ⟨P, h1, h2, h3⟩ := h
  obtain ⟨A, c, rfl, hc, -⟩ := ownsRow_form h1
  exact ⟨A, _, c, P, rfl, ⟨At.of_own h1, h2⟩, rfl, hc, h3⟩
theorem PksR.base {w : World} {b b' : Nat} {v : Value} {out : List Pk} (h : PksR w b v out) (hb : b' ≤ b) : PksR w b' v out := by
  obtain ⟨P, h1, h2, h3⟩ := h
  exact ⟨P, own_base h1 hb, h2, h3⟩
theorem PksR.below {w w' : World} {b : Nat} {v : Value} {out : List Pk} (h : PksR w b v out) (hb : Below w.heap.size w w') : PksR w' b v out := by
  obtain ⟨P, h1, h2, h3⟩ := h
  exact ⟨P, own_below h1 hb, fun e he => ⟨((h2 e he).1.keep hb).more hb.size, (h2 e he).2⟩, h3⟩
theorem At.offc {A C : World} {B X : Nat} {p : Option Addr} {l : List UInt8} {cur : Array Value} {e' : TypeId} (h : At A B p (l.map bv)) (hg : A.grownBy C (some X)) (hX : A.heap[X]? = some (.cells cur e' (0, 0))) (hc : ∀ (i : Nat) (x : UInt8), cur[i]? ≠ some (bv x)) (hB : B ≤ A.heap.size) : At C B p (l.map bv) := by
  cases l with
  | nil => exact At.nil _ _ _
  | cons x l =>
    refine h.off hg (fun g o e he => ?_) hB
    subst e
    obtain ⟨b, o', e2, _, hcc⟩ := h.get (by simp)
    cases e2
    have h1 := hcc 0 (bv x) rfl
    subst he
    rw [cell_of_row A g _ _ _ _ hX] at h1
    exact hc _ _ h1
theorem PksR.other {A C : World} {base X : Nat} {v : Value} {out : List Pk} {cur : Array Value} {e' : TypeId} (h : PksR A base v out) (hg : A.grownBy C (some X)) (hX : A.heap[X]? = some (.cells cur e' (0, 0))) (hc : ∀ (i : Nat) (x : UInt8), cur[i]? ≠ some (bv x)) (h1 : e' ≠ 32) : PksR C base v out := by
  obtain ⟨P, ho, h2, h3⟩ := h
  exact ⟨P, own_stays ho hg fun r e => by cases e; exact .inr (.inr ⟨_, _, hX, h1⟩), fun e he => ⟨((h2 e he).1.offc hg hX hc (Nat.le_refl _)).more hg.size, (h2 e he).2⟩, h3⟩
theorem no_bytes7 (a b c d e f : Int) (A : Option Addr) (n m : Nat) (i : Nat) (x : UInt8) : (#[.int .i64 a, .int .i64 b, .int .i64 c, .slice A n m, .int .i64 d, .int .i64 e, .int .i64 f] : Array Value)[i]? ≠ some (bv x) := by
  match i with
  | 0 | 1 | 2 | 3 | 4 | 5 | 6 => intro h; cases h
  | n + 7 => intro h; cases h
/-- A row of packets as the reference tells it. -/
theorem RowPks.r {A : World} {base : Nat} {v : Value} {P : List Pe} {out : List Pk} (h : RowPks A base v P) (hp : P.map Pe.o = out) (hB : base ≤ A.heap.size) : PksR A base v out := by
  refine ⟨P, h.1, fun e he => ?_, hp⟩
  rcases h.2 e he with ⟨ha, hl⟩ | ho
  · exact ⟨ha.more hB, hl⟩
  · obtain ⟨A', c', hv, hcc, -⟩ := ownsRow_form ho
    unfold Pe.v at ho hv
    cases hv
    exact ⟨At.of_own ho, hcc⟩
/-- What the reference tells of an event. -/
def RDoP (r : Au × List Pk × List Int) (va : Value) (w : World) (x : Ending) (w' : World) : Prop :=
  ∃ vo vd, x = .returned (.tuple #[auV r.1 va, vo, vd]) ∧ Below w.heap.size w w' ∧ PksR w' w.heap.size vo r.2.1 ∧ ActsO w' w.heap.size vd r.2.2
theorem RB.sst {W : World} {X : Nat} {vr va vo : Value} {mc mt mf wt st id req cnt tim nak : Int} (h : RB W X vr mc mt mf wt st id req va cnt tim nak vo) (x : Int) : RB (W.setCell ⟨X, 5, none⟩ (.int .i64 x)) X vr mc mt mf wt x id req va cnt tim nak vo := heap_setCell_same W X 5 _ _ _ h
set_option maxRecDepth 100000 in
set_option maxHeartbeats 8000000 in
theorem rdo_no (Ar Aa Ai An : Option Addr) (nr cr na ca ni ci nn cn : Nat) (R : List Rl) (mc mt mf wt st id req cnt tim nak e ic ii ac ai tick : Int) (E : List Ent) (li ln : List UInt8) (w : World) (B : Nat) (hB : B ≤ w.heap.size) (hR : RulesAt w B Ar R) (hnr : nr = R.length) (hlr : nr ≤ 1000000) (hE : OptsAt w B Aa E) (hna : na = E.length) (hI : At w B Ai (li.map bv)) (hni : ni = li.length) (hci : ni ≤ ci) (hli : ni ≤ 400000000) (hN : At w B An (ln.map bv)) (hnn : nn = ln.length) (hcn : nn ≤ cn) (hln : nn ≤ 400000000) (hno : fineB ⟨R, mc, mt, mf, wt⟩ ⟨st, id, req, E.map Ent.o, cnt, tim, nak⟩ tick = false ∨ Fs.stepErr st e ≠ 0) : Calls Tryz.prog 12 #[.agg #[.slice Ar nr cr, .int .i64 mc, .int .i64 mt, .int .i64 mf, .int .i64 wt], .agg #[.int .i64 st, .int .i64 id, .int .i64 req, .slice Aa na ca, .int .i64 cnt, .int .i64 tim, .int .i64 nak], .int .i64 e, .agg #[.int .i64 ic, .int .i64 ii, .slice Ai ni ci], .agg #[.int .i64 ac, .int .i64 ai, .slice An nn cn], .int .i64 tick] w (RDoP (doO ⟨R, mc, mt, mf, wt⟩ ⟨st, id, req, E.map Ent.o, cnt, tim, nak⟩ e ⟨ic, ii, li⟩ ⟨ac, ai, ln⟩ tick) (.slice Aa na ca) w) := by
  have HB := Lib.hid hB
  have HR := Lib.hid hR
  have HNR := Lib.hid hnr
  have HE := Lib.hid hE
  have HNA := Lib.hid hna
  have HI := Lib.hid (And.intro hI (And.intro hni hci))
  have HN := Lib.hid (And.intro hN (And.intro hnn hcn))
  obtain ⟨L, hL⟩ : ∃ L, E.map Ent.o = L := ⟨_, rfl⟩
  have HL := Lib.hid hL
  rw [hL] at hno
  rw [hL]
  clear hB hR hnr hE hna hI hni hci hN hnn hcn hL
  obtain ⟨fb, hfb⟩ : ∃ fb, fineB ⟨R, mc, mt, mf, wt⟩ ⟨st, id, req, L, cnt, tim, nak⟩ tick = fb := ⟨_, rfl⟩
  have HF := Lib.hid hfb
  cases fb
  · have HDO := Lib.hid (show doO ⟨R, mc, mt, mf, wt⟩ ⟨st, id, req, L, cnt, tim, nak⟩ e ⟨ic, ii, li⟩ ⟨ac, ai, ln⟩ tick = (⟨st, id, req, L, cnt, tim, nak⟩, [], []) by unfold doO; rw [hfb]; simp)
    rw [HDO.out]
    clear hfb
    go_enter Tryz.func12, Tryz.ntmps12
    go_upto_region 1 with (fail)
    refine wp_w (fun W => W.heap[w.heap.size]? = some (.cells #[.slice Ar nr cr, .int .i64 mc, .int .i64 mt, .int .i64 mf, .int .i64 wt] 24 (0, 0)) ∧ W.heap[w.heap.size + 1]? = some (.cells #[.int .i64 st, .int .i64 id, .int .i64 req, .slice Aa na ca, .int .i64 cnt, .int .i64 tim, .int .i64 nak] 28 (0, 0)) ∧ W.heap[w.heap.size + 1 + 1]? = some (.cells #[.int .i64 ic, .int .i64 ii, .slice Ai ni ci] 32 (0, 0)) ∧ W.heap[w.heap.size + 1 + 1 + 1]? = some (.cells #[.int .i64 ac, .int .i64 ai, .slice An nn cn] 32 (0, 0)) ∧ W.heap[w.heap.size + 1 + 1 + 1 + 1]? = some (.cells #[.int .i64 0, .int .i64 0, .int .i64 0, .slice none 0 0, .int .i64 0, .int .i64 0, .int .i64 0] 28 (0, 0)) ∧ Below w.heap.size w W) ⟨by (repeat (first | ((refine heap_alloc_at _ _ _ ?_); (simp [go_sem]; done)) | ((refine (heap_ext _ _ _ _ ?_).trans ?_); (focus (simp [go_sem]; done))) | ((refine (heap_alloc_past _ _ _ ?_).trans ?_); (focus (simp [go_sem]; done))))), by (repeat (first | ((refine heap_alloc_at _ _ _ ?_); (simp [go_sem]; done)) | ((refine (heap_ext _ _ _ _ ?_).trans ?_); (focus (simp [go_sem]; done))) | ((refine (heap_alloc_past _ _ _ ?_).trans ?_); (focus (simp [go_sem]; done))))), by (repeat (first | ((refine heap_alloc_at _ _ _ ?_); (simp [go_sem]; done)) | ((refine (heap_ext _ _ _ _ ?_).trans ?_); (focus (simp [go_sem]; done))) | ((refine (heap_alloc_past _ _ _ ?_).trans ?_); (focus (simp [go_sem]; done))))), by (repeat (first | ((refine heap_alloc_at _ _ _ ?_); (simp [go_sem]; done)) | ((refine (heap_ext _ _ _ _ ?_).trans ?_); (focus (simp [go_sem]; done))) | ((refine (heap_alloc_past _ _ _ ?_).trans ?_); (focus (simp [go_sem]; done))))), by (repeat (first | ((refine heap_alloc_at _ _ _ ?_); (simp [go_sem]; done)) | ((refine (heap_ext _ _ _ _ ?_).trans ?_); (focus (simp [go_sem]; done))) | ((refine (heap_alloc_past _ _ _ ?_).trans ?_); (focus (simp [go_sem]; done))))), by exact bel⟩ ?_
    rintro W2 ⟨h6, h7, h9, h10, h12, hbw⟩
    have HBW := Lib.hid hbw
    have H6 := Lib.hid h6
    have H7 := Lib.hid h7
    have H9 := Lib.hid h9
    have H10 := Lib.hid h10
    have H12 := Lib.hid h12
    have hszW := hbw.size
    have l6 := lt_blk h6
    have l7 := lt_blk h7
    have l9 := lt_blk h9
    have l10 := lt_blk h10
    have l12 := lt_blk h12
    obtain ⟨p0, p1, p2, p3, p4⟩ := cells5 h6
    obtain ⟨q0, q1, q2, q3, q4, q5, q6⟩ := cells7 h7
    obtain ⟨z0, z1, z2, z3, z4, z5, z6⟩ := cells7 h12
    have f0 := frees h12 0
    have f1 := frees h12 1
    have f2 := frees h12 2
    have f3 := frees h12 3
    have f4 := frees h12 4
    have f5 := frees h12 5
    have f6 := frees h12 6
    clear h6 h7 h9 h10 h12 hbw
    go_wp2_with fail
    refine (fine_ref Ar nr cr R mc mt mf wt st id req cnt tim nak Aa na ca E L HL.out tick _ _ (Nat.le_refl _) ((HR.out.keep (HBW.out.mono HB.out)).more (by have := HB.out; omega)) HNR.out hlr ((HE.out.keep (HBW.out.mono HB.out)).more (by have := HB.out; omega)) HNA.out).mono ?_
    rw [HF.out]
    rintro x w1 ⟨rfl, hb⟩
    obtain ⟨xs3, d3, rfl⟩ := ext_of hb
    clear hb
    go_wp2_with fail
    obtain ⟨Wf, hWf⟩ : ∃ Wf, Wf = ext (((((((W2.setCell ⟨w.heap.size + 1 + 1 + 1 + 1, 0, none⟩ (.int .i64 st)).setCell ⟨w.heap.size + 1 + 1 + 1 + 1, 1, none⟩ (.int .i64 id)).setCell ⟨w.heap.size + 1 + 1 + 1 + 1, 2, none⟩ (.int .i64 req)).setCell ⟨w.heap.size + 1 + 1 + 1 + 1, 3, none⟩ (.slice Aa na ca)).setCell ⟨w.heap.size + 1 + 1 + 1 + 1, 4, none⟩ (.int .i64 cnt)).setCell ⟨w.heap.size + 1 + 1 + 1 + 1, 5, none⟩ (.int .i64 tim)).setCell ⟨w.heap.size + 1 + 1 + 1 + 1, 6, none⟩ (.int .i64 nak)) xs3 d3 := ⟨_, rfl⟩
    rw [← hWf]
    have hrow : Wf.heap[w.heap.size + 1 + 1 + 1 + 1]? = some (.cells #[.int .i64 st, .int .i64 id, .int .i64 req, .slice Aa na ca, .int .i64 cnt, .int .i64 tim, .int .i64 nak] 28 (0, 0)) := by rw [hWf]; exact (heap_ext _ _ _ _ (by simp; exact l12)).trans (row7 H12.out rfl _ _ _ _ _ _ _)
    have hgr : W2.grownBy Wf (some (w.heap.size + 1 + 1 + 1 + 1)) := by rw [hWf]; exact grn
    have hbl : Below w.heap.size w Wf := Below.grown HBW.out hgr HBW.out.size (fun k hk => by cases hk; omega)
    clear hWf p0 p1 p2 p3 p4 q0 q1 q2 q3 q4 q5 q6 z0 z1 z2 z3 z4 z5 z6 f0 f1 f2 f3 f4 f5 f6
    obtain ⟨u0, u1, u2, u3, u4, u5, u6⟩ := cells7 hrow
    refine bodyPost_ret (v := .tuple #[.agg #[.int .i64 st, .int .i64 id, .int .i64 req, .slice Aa na ca, .int .i64 cnt, .int .i64 tim, .int .i64 nak], .slice none 0 0, .slice none 0 0]) (by simp [results, Tryz.results12, go_sem, u0, u1, u2, u3, u4, u5, u6]) rfl ?_
    exact ⟨.slice none 0 0, .slice none 0 0, rfl, hbl, PksR.nil _ _, ActsO.nil _ _⟩
  · obtain ⟨er, her⟩ : ∃ er, Fs.stepErr st e = er := ⟨_, rfl⟩
    have HER := Lib.hid her
    have h0 : er ≠ 0 := by rcases hno with h | h
                           · rw [hfb] at h; cases h
                           · rwa [her] at h
    have HDO := Lib.hid (show doO ⟨R, mc, mt, mf, wt⟩ ⟨st, id, req, L, cnt, tim, nak⟩ e ⟨ic, ii, li⟩ ⟨ac, ai, ln⟩ tick = (⟨st, id, req, L, cnt, tim, nak⟩, [], []) by unfold doO; dsimp only; rw [her, if_neg (fun h => h0 h.2)])
    rw [HDO.out]
    have h0' : (er != 0) = true := by simpa using h0
    clear hfb her
    go_enter Tryz.func12, Tryz.ntmps12
    go_upto_region 1 with (fail)
    refine wp_w (fun W => W.heap[w.heap.size]? = some (.cells #[.slice Ar nr cr, .int .i64 mc, .int .i64 mt, .int .i64 mf, .int .i64 wt] 24 (0, 0)) ∧ W.heap[w.heap.size + 1]? = some (.cells #[.int .i64 st, .int .i64 id, .int .i64 req, .slice Aa na ca, .int .i64 cnt, .int .i64 tim, .int .i64 nak] 28 (0, 0)) ∧ W.heap[w.heap.size + 1 + 1]? = some (.cells #[.int .i64 ic, .int .i64 ii, .slice Ai ni ci] 32 (0, 0)) ∧ W.heap[w.heap.size + 1 + 1 + 1]? = some (.cells #[.int .i64 ac, .int .i64 ai, .slice An nn cn] 32 (0, 0)) ∧ W.heap[w.heap.size + 1 + 1 + 1 + 1]? = some (.cells #[.int .i64 0, .int .i64 0, .int .i64 0, .slice none 0 0, .int .i64 0, .int .i64 0, .int .i64 0] 28 (0, 0)) ∧ Below w.heap.size w W) ⟨by (repeat (first | ((refine heap_alloc_at _ _ _ ?_); (simp [go_sem]; done)) | ((refine (heap_ext _ _ _ _ ?_).trans ?_); (focus (simp [go_sem]; done))) | ((refine (heap_alloc_past _ _ _ ?_).trans ?_); (focus (simp [go_sem]; done))))), by (repeat (first | ((refine heap_alloc_at _ _ _ ?_); (simp [go_sem]; done)) | ((refine (heap_ext _ _ _ _ ?_).trans ?_); (focus (simp [go_sem]; done))) | ((refine (heap_alloc_past _ _ _ ?_).trans ?_); (focus (simp [go_sem]; done))))), by (repeat (first | ((refine heap_alloc_at _ _ _ ?_); (simp [go_sem]; done)) | ((refine (heap_ext _ _ _ _ ?_).trans ?_); (focus (simp [go_sem]; done))) | ((refine (heap_alloc_past _ _ _ ?_).trans ?_); (focus (simp [go_sem]; done))))), by (repeat (first | ((refine heap_alloc_at _ _ _ ?_); (simp [go_sem]; done)) | ((refine (heap_ext _ _ _ _ ?_).trans ?_); (focus (simp [go_sem]; done))) | ((refine (heap_alloc_past _ _ _ ?_).trans ?_); (focus (simp [go_sem]; done))))), by (repeat (first | ((refine heap_alloc_at _ _ _ ?_); (simp [go_sem]; done)) | ((refine (heap_ext _ _ _ _ ?_).trans ?_); (focus (simp [go_sem]; done))) | ((refine (heap_alloc_past _ _ _ ?_).trans ?_); (focus (simp [go_sem]; done))))), by exact bel⟩ ?_
    rintro W2 ⟨h6, h7, h9, h10, h12, hbw⟩
    have HBW := Lib.hid hbw
    have H6 := Lib.hid h6
    have H7 := Lib.hid h7
    have H9 := Lib.hid h9
    have H10 := Lib.hid h10
    have H12 := Lib.hid h12
    have hszW := hbw.size
    have l6 := lt_blk h6
    have l7 := lt_blk h7
    have l9 := lt_blk h9
    have l10 := lt_blk h10
    have l12 := lt_blk h12
    obtain ⟨p0, p1, p2, p3, p4⟩ := cells5 h6
    obtain ⟨q0, q1, q2, q3, q4, q5, q6⟩ := cells7 h7
    obtain ⟨z0, z1, z2, z3, z4, z5, z6⟩ := cells7 h12
    have f0 := frees h12 0
    have f1 := frees h12 1
    have f2 := frees h12 2
    have f3 := frees h12 3
    have f4 := frees h12 4
    have f5 := frees h12 5
    have f6 := frees h12 6
    clear h6 h7 h9 h10 h12 hbw
    go_wp2_with fail
    refine (fine_ref Ar nr cr R mc mt mf wt st id req cnt tim nak Aa na ca E L HL.out tick _ _ (Nat.le_refl _) ((HR.out.keep (HBW.out.mono HB.out)).more (by have := HB.out; omega)) HNR.out hlr ((HE.out.keep (HBW.out.mono HB.out)).more (by have := HB.out; omega)) HNA.out).mono ?_
    rw [HF.out]
    rintro x w1 ⟨rfl, hb⟩
    obtain ⟨xs3, d3, rfl⟩ := ext_of hb
    clear hb
    go_wp2_with fail
    refine (Fs.stepref_any st e _).mono ?_
    rw [show Fs.StepP st e = fun w x w' => ∃ v, x = .returned (.tuple #[.int .i64 (Fs.tabNext e st), v, .int .i64 er]) ∧ Fs.Told w (Fs.tabActs e st) v w' by unfold Fs.StepP; rw [HER.out]]
    rintro x w1 ⟨v, rfl, hb, -⟩
    obtain ⟨xs4, d4, rfl⟩ := ext_of hb
    clear hb
    go_wp2_with fail
    obtain ⟨Wf, hWf⟩ : ∃ Wf, Wf = ext (ext (((((((W2.setCell ⟨w.heap.size + 1 + 1 + 1 + 1, 0, none⟩ (.int .i64 st)).setCell ⟨w.heap.size + 1 + 1 + 1 + 1, 1, none⟩ (.int .i64 id)).setCell ⟨w.heap.size + 1 + 1 + 1 + 1, 2, none⟩ (.int .i64 req)).setCell ⟨w.heap.size + 1 + 1 + 1 + 1, 3, none⟩ (.slice Aa na ca)).setCell ⟨w.heap.size + 1 + 1 + 1 + 1, 4, none⟩ (.int .i64 cnt)).setCell ⟨w.heap.size + 1 + 1 + 1 + 1, 5, none⟩ (.int .i64 tim)).setCell ⟨w.heap.size + 1 + 1 + 1 + 1, 6, none⟩ (.int .i64 nak)) xs3 d3) xs4 d4 := ⟨_, rfl⟩
    rw [← hWf]
    have hrow : Wf.heap[w.heap.size + 1 + 1 + 1 + 1]? = some (.cells #[.int .i64 st, .int .i64 id, .int .i64 req, .slice Aa na ca, .int .i64 cnt, .int .i64 tim, .int .i64 nak] 28 (0, 0)) := by rw [hWf]; exact (heap_ext _ _ _ _ (by simp [size_ext, grow]; omega)).trans ((heap_ext _ _ _ _ (by simp; exact l12)).trans (row7 H12.out rfl _ _ _ _ _ _ _))
    have hgr : W2.grownBy Wf (some (w.heap.size + 1 + 1 + 1 + 1)) := by rw [hWf]; exact grn
    have hbl : Below w.heap.size w Wf := Below.grown HBW.out hgr HBW.out.size (fun k hk => by cases hk; omega)
    clear hWf p0 p1 p2 p3 p4 q0 q1 q2 q3 q4 q5 q6 z0 z1 z2 z3 z4 z5 z6 f0 f1 f2 f3 f4 f5 f6
    obtain ⟨u0, u1, u2, u3, u4, u5, u6⟩ := cells7 hrow
    refine bodyPost_ret (v := .tuple #[.agg #[.int .i64 st, .int .i64 id, .int .i64 req, .slice Aa na ca, .int .i64 cnt, .int .i64 tim, .int .i64 nak], .slice none 0 0, .slice none 0 0]) (by simp [results, Tryz.results12, go_sem, u0, u1, u2, u3, u4, u5, u6]) rfl ?_
    exact ⟨.slice none 0 0, .slice none 0 0, rfl, hbl, PksR.nil _ _, ActsO.nil _ _⟩
end Go.Proofs.YthidhfkbfoejbaaGreat
