/- Bundle QE. -/
import Derived.Test.YthidhfkbfoejbaaQD
import Derived.Test.YthidhfkbfoejbaaQB
import Derived.Lib.SmallJoins
namespace Go.Proofs.Ythidhfkbfoejbaa
open Go.RowKit
set_option linter.unusedSimpArgs false
set_option linter.unusedVariables false
set_option linter.ambiguousOpen false
open Ne (Rl Opt RulesAt areB)
open Fs (av hasB)
/-- What the clock makes of an automaton. -/
def timO (c : Cf) (a : Au) (tick : Int) : Au × List Pk × List Int :=
  if a.tim = 0 ∨ tick < a.tim then (a, [], []) else doO c a (if 0 < a.cnt then 5 else 6) ⟨0, 0, []⟩ ⟨0, 0, []⟩ tick
theorem OwnOpts.otherx {A C : World} {base X : Nat} {v : Value} {L : List Opt} {cur : Array Value} {e' : TypeId} (h : OptsO A base v L) (hg : A.grownBy C (some X)) (hX : A.heap[X]? = some (.cells cur e' (0, 0))) (h1 : e' ≠ 59) (h2 : e' ≠ 5) : OptsO C base v L := by
  obtain ⟨E, h, he⟩ := h
  exact ⟨E, h.other hg hX h1 h2, he⟩
theorem PksO.other {A C : World} {base X : Nat} {v : Value} {out : List Pk} {cur : Array Value} {e' : TypeId} (h : PksO A base v out) (hg : A.grownBy C (some X)) (hX : A.heap[X]? = some (.cells cur e' (0, 0))) (h1 : e' ≠ 31) (h2 : e' ≠ 5) : PksO C base v out := by
  obtain ⟨P, h, he⟩ := h
  exact ⟨P, ⟨own_stays h.1 hg fun r e => by cases e; exact .inr (.inr ⟨_, _, hX, h1⟩), fun x hx => own_stays (h.2 x hx) hg fun r e => by cases e; exact .inr (.inr ⟨_, _, hX, h2⟩)⟩, he⟩
theorem ActsO.other {A C : World} {base X : Nat} {v : Value} {l : List Int} {cur : Array Value} {e' : TypeId} (h : ActsO A base v l) (hg : A.grownBy C (some X)) (hX : A.heap[X]? = some (.cells cur e' (0, 0))) (h1 : e' ≠ 74) : ActsO C base v l :=
  own_stays h hg fun r e => by cases e; exact .inr (.inr ⟨_, _, hX, h1⟩)
theorem OptsO.base {A : World} {b b' : Nat} {v : Value} {L : List Opt} (h : OptsO A b v L) (hb : b' ≤ b) : OptsO A b' v L := by
  obtain ⟨E, h, he⟩ := h
  exact ⟨E, h.base hb, he⟩
theorem PksO.base {A : World} {b b' : Nat} {v : Value} {out : List Pk} (h : PksO A b v out) (hb : b' ≤ b) : PksO A b' v out := by
  obtain ⟨P, h, he⟩ := h
  exact ⟨P, h.base hb, he⟩
theorem ActsO.base {A : World} {b b' : Nat} {v : Value} {l : List Int} (h : ActsO A b v l) (hb : b' ≤ b) : ActsO A b' v l := own_base h hb
theorem grown_exts {w w' : World} {X : Nat} {xs : List Obj} {d d' : Nat} (h : w.grownBy w' (some X)) (hs : w'.heap.size = w.heap.size) : (ext w xs d).grownBy (ext w' xs d') (some X) :=
  ⟨h.os, h.tape, h.output, by simp [size_ext, grow, hs], fun k hk hne => by
    by_cases hkw : k < w.heap.size
    · rw [ext_block w' xs d' k (by omega), ext_block w xs d k hkw]; exact h.block k hkw hne
    · exact ext_high w w' xs d d' k hs.symm (by omega)⟩
theorem OptsO.below {A C : World} {b : Nat} {v : Value} {L : List Opt} (h : OptsO A b v L) (hb : Below A.heap.size A C) : OptsO C b v L := by
  obtain ⟨E, h, he⟩ := h
  exact ⟨E, h.below hb, he⟩
theorem OptsO.v {A : World} {b : Nat} {v : Value} {L : List Opt} (h : OptsO A b v L) : OptsV A A.heap.size v L := by
  obtain ⟨E, h, he⟩ := h
  obtain ⟨Ao, c, rfl, hc, -⟩ := ownsRow_form h.1
  exact ⟨Ao, _, c, E, rfl, h.at, rfl, hc, he⟩
theorem ActsO.below {A C : World} {b : Nat} {v : Value} {l : List Int} (h : ActsO A b v l) (hb : Below A.heap.size A C) : ActsO C b v l := own_below h hb
theorem PksO.below {A C : World} {b : Nat} {v : Value} {out : List Pk} (h : PksO A b v out) (hb : Below A.heap.size A C) : PksO C b v out := by
  obtain ⟨P, h, he⟩ := h
  exact ⟨P, h.below hb, he⟩
set_option maxRecDepth 100000 in
set_option maxHeartbeats 4000000 in
theorem timeout_any (Ar Aa : Option Addr) (nr cr na ca : Nat) (R : List Rl) (mc mt mf wt st id req cnt tim nak tick : Int) (E : List Ent) (w : World) (B : Nat) (hB : B ≤ w.heap.size) (hR : RulesAt w B Ar R) (hnr : nr = R.length) (hlr : nr ≤ 1000000) (hE : OptsAt w B Aa E) (hna : na = E.length) (hla : na ≤ 1000000) (hda : ∀ e ∈ E, e.d.length ≤ 400000000) :
    Calls Try.prog 9 #[.agg #[.slice Ar nr cr, .int .i64 mc, .int .i64 mt, .int .i64 mf, .int .i64 wt], .agg #[.int .i64 st, .int .i64 id, .int .i64 req, .slice Aa na ca, .int .i64 cnt, .int .i64 tim, .int .i64 nak], .int .i64 tick] w (DoP (timO ⟨R, mc, mt, mf, wt⟩ ⟨st, id, req, E.map Ent.o, cnt, tim, nak⟩ tick) w) := by
  have HDA := Lib.hid hda
  clear hda
  have HB := Lib.hid hB
  have HR := Lib.hid hR
  have HNR := Lib.hid hnr
  have HE := Lib.hid hE
  have HNA := Lib.hid hna
  obtain ⟨L, hL⟩ : ∃ L, E.map Ent.o = L := ⟨_, rfl⟩
  have HL := Lib.hid hL
  rw [hL]
  clear hB hR hnr hE hna hL
  by_cases h0 : tim = 0 ∨ tick < tim
  · have HT := Lib.hid (show timO ⟨R, mc, mt, mf, wt⟩ ⟨st, id, req, L, cnt, tim, nak⟩ tick = (⟨st, id, req, L, cnt, tim, nak⟩, [], []) from if_pos h0)
    rw [HT.out]
    by_cases h1 : tim = 0
    all_goals
      first | have h2 : (tim == 0) = true := by simpa using h1
            | have h2 : (tim == 0) = false := by simpa using h1
      first | have h3 : tick < tim := by omega
            | have h3 : True := trivial
      have HT0 := Lib.hid h1
      clear h0 h1
      go_enter Try.func9, Try.ntmps9
      go_upto_region 1 with (fail)
      refine wp_w (fun W => W.heap[w.heap.size]? = some (.cells #[.slice Ar nr cr, .int .i64 mc, .int .i64 mt, .int .i64 mf, .int .i64 wt] 24 (0, 0)) ∧ W.heap[w.heap.size + 1]? = some (.cells #[.int .i64 st, .int .i64 id, .int .i64 req, .slice Aa na ca, .int .i64 cnt, .int .i64 tim, .int .i64 nak] 28 (0, 0)) ∧ W.heap[w.heap.size + 1 + 1]? = some (.cells #[.int .i64 0, .int .i64 0, .int .i64 0, .slice none 0 0, .int .i64 0, .int .i64 0, .int .i64 0] 28 (0, 0)) ∧ Below w.heap.size w W) ⟨by (repeat (first | ((refine heap_alloc_at _ _ _ ?_); (simp [go_sem]; done)) | ((refine (heap_ext _ _ _ _ ?_).trans ?_); (focus (simp [go_sem]; done))) | ((refine (heap_alloc_past _ _ _ ?_).trans ?_); (focus (simp [go_sem]; done))))), by (repeat (first | ((refine heap_alloc_at _ _ _ ?_); (simp [go_sem]; done)) | ((refine (heap_ext _ _ _ _ ?_).trans ?_); (focus (simp [go_sem]; done))) | ((refine (heap_alloc_past _ _ _ ?_).trans ?_); (focus (simp [go_sem]; done))))), by (repeat (first | ((refine heap_alloc_at _ _ _ ?_); (simp [go_sem]; done)) | ((refine (heap_ext _ _ _ _ ?_).trans ?_); (focus (simp [go_sem]; done))) | ((refine (heap_alloc_past _ _ _ ?_).trans ?_); (focus (simp [go_sem]; done))))), by exact bel⟩ ?_
      rintro W2 ⟨h6, h7, h12, hbw⟩
      have HBW := Lib.hid hbw
      have H12 := Lib.hid h12
      have hszW := hbw.size
      have l6 := lt_blk h6
      have l7 := lt_blk h7
      have l12 := lt_blk h12
      obtain ⟨p0, p1, p2, p3, p4⟩ := cells5 h6
      obtain ⟨q0, q1, q2, q3, q4, q5, q6⟩ := cells7 h7
      obtain ⟨z0, z1, z2, z3, z4, z5, z6⟩ := cells7 h12
      have f0 := frees h12 0
      have f1 := frees h12 1
      have f2 := frees h12 2
      have f3 := frees h12 3
      have f4 := frees h12 4
      have f5 := frees h12 5
      have f6 := frees h12 6
      clear h6 h7 h12 hbw
      go_wp2_with fail
      refine (as_any st id req cnt tim nak Aa na ca E W2 B (by have := HB.out; omega) (HE.out.keep (HBW.out.mono HB.out)) HNA.out hla HDA.out).mono ?_
      rintro x w1 ⟨v, rfl, E2, A2, n2, c2, rfl, he2, hn2, hc2, hb, ho⟩
      have HE2 := Lib.hid (show E2.map Ent.o = L from he2.trans HL.out)
      have HO := Lib.hid ho
      have HZ := Lib.hid ((hb.block _ l12).trans H12.out)
      have HBW1 := Lib.hid (HBW.out.trans (hb.mono hszW))
      obtain ⟨xs, d, rfl⟩ := ext_of hb
      clear hb ho he2 hn2 hc2
      dsimp only
      go_wp2_with fail
      obtain ⟨Wf, hWf⟩ : ∃ Wf, Wf = ext (((((((W2.setCell ⟨w.heap.size + 1 + 1, 0, none⟩ (.int .i64 st)).setCell ⟨w.heap.size + 1 + 1, 1, none⟩ (.int .i64 id)).setCell ⟨w.heap.size + 1 + 1, 2, none⟩ (.int .i64 req)).setCell ⟨w.heap.size + 1 + 1, 3, none⟩ (.slice A2 n2 c2)).setCell ⟨w.heap.size + 1 + 1, 4, none⟩ (.int .i64 cnt)).setCell ⟨w.heap.size + 1 + 1, 5, none⟩ (.int .i64 tim)).setCell ⟨w.heap.size + 1 + 1, 6, none⟩ (.int .i64 nak)) xs d := ⟨_, rfl⟩
      rw [← hWf]
      have hrow : Wf.heap[w.heap.size + 1 + 1]? = some (.cells #[.int .i64 st, .int .i64 id, .int .i64 req, .slice A2 n2 c2, .int .i64 cnt, .int .i64 tim, .int .i64 nak] 28 (0, 0)) := by rw [hWf]; exact (heap_ext _ _ _ _ (by simp; exact l12)).trans (row7 H12.out rfl _ _ _ _ _ _ _)
      have hgr : (ext W2 xs d).grownBy Wf (some (w.heap.size + 1 + 1)) := by rw [hWf]; first | with_reducible exact grown_exts grn (by simp) | exact grn
      clear hWf f0 f1 f2 f3 f4 f5 f6 z0 z1 z2 z3 z4 z5 z6
      obtain ⟨u0, u1, u2, u3, u4, u5, u6⟩ := cells7 hrow
      refine bodyPost_ret (v := .tuple #[.agg #[.int .i64 st, .int .i64 id, .int .i64 req, .slice A2 n2 c2, .int .i64 cnt, .int .i64 tim, .int .i64 nak], .slice none 0 0, .slice none 0 0]) (by simp [results, Try.results9, go_sem, u0, u1, u2, u3, u4, u5, u6]) rfl ?_
      exact ⟨.slice A2 n2 c2, .slice none 0 0, .slice none 0 0, rfl, Below.grown HBW1.out hgr (by simp [size_ext, grow]; omega) (fun k hk => by cases hk; omega), OptsO.base (OwnOpts.otherx ⟨E2, HO.out, HE2.out⟩ hgr HZ.out (by decide) (by decide)) hszW, ⟨[], OwnPks.nil _ _, rfl⟩, ActsO.nil _ _⟩
  · have HT := Lib.hid (show timO ⟨R, mc, mt, mf, wt⟩ ⟨st, id, req, L, cnt, tim, nak⟩ tick = doO ⟨R, mc, mt, mf, wt⟩ ⟨st, id, req, L, cnt, tim, nak⟩ (if 0 < cnt then 5 else 6) ⟨0, 0, []⟩ ⟨0, 0, []⟩ tick from if_neg h0)
    have h2 : (tim == 0) = false := by simp; omega
    have h3 : ¬ tick < tim := by omega
    obtain ⟨ev, hev⟩ : ∃ ev : Int, (if 0 < cnt then 5 else 6) = ev := ⟨_, rfl⟩
    rw [hev] at HT
    obtain ⟨⟨⟨s1, i1, r1, L1, c1, t1, k1⟩, o1, d1⟩, hr⟩ : ∃ r, doO ⟨R, mc, mt, mf, wt⟩ ⟨st, id, req, L, cnt, tim, nak⟩ ev ⟨0, 0, []⟩ ⟨0, 0, []⟩ tick = r := ⟨_, rfl⟩
    have HR2 := Lib.hid hr
    rw [hr] at HT
    rw [HT.out]
    clear h0 hr
    have HF := Lib.hid hev
    clear hev
    by_cases hc : 0 < cnt
    all_goals
      first | have HV := Lib.hid (show ev = 5 from HF.out.symm.trans (if_pos hc))
            | have HV := Lib.hid (show ev = 6 from HF.out.symm.trans (if_neg hc))
    all_goals
      go_enter Try.func9, Try.ntmps9
      go_upto_region 1 with (fail)
      refine wp_w (fun W => W.heap[w.heap.size]? = some (.cells #[.slice Ar nr cr, .int .i64 mc, .int .i64 mt, .int .i64 mf, .int .i64 wt] 24 (0, 0)) ∧ W.heap[w.heap.size + 1]? = some (.cells #[.int .i64 st, .int .i64 id, .int .i64 req, .slice Aa na ca, .int .i64 cnt, .int .i64 tim, .int .i64 nak] 28 (0, 0)) ∧ W.heap[w.heap.size + 1 + 1]? = some (.cells #[.int .i64 0, .int .i64 0, .int .i64 0, .slice none 0 0, .int .i64 0, .int .i64 0, .int .i64 0] 28 (0, 0)) ∧ Below w.heap.size w W) ⟨by (repeat (first | ((refine heap_alloc_at _ _ _ ?_); (simp [go_sem]; done)) | ((refine (heap_ext _ _ _ _ ?_).trans ?_); (focus (simp [go_sem]; done))) | ((refine (heap_alloc_past _ _ _ ?_).trans ?_); (focus (simp [go_sem]; done))))), by (repeat (first | ((refine heap_alloc_at _ _ _ ?_); (simp [go_sem]; done)) | ((refine (heap_ext _ _ _ _ ?_).trans ?_); (focus (simp [go_sem]; done))) | ((refine (heap_alloc_past _ _ _ ?_).trans ?_); (focus (simp [go_sem]; done))))), by (repeat (first | ((refine heap_alloc_at _ _ _ ?_); (simp [go_sem]; done)) | ((refine (heap_ext _ _ _ _ ?_).trans ?_); (focus (simp [go_sem]; done))) | ((refine (heap_alloc_past _ _ _ ?_).trans ?_); (focus (simp [go_sem]; done))))), by exact bel⟩ ?_
      rintro W2 ⟨h6, h7, h12, hbw⟩
      have HBW := Lib.hid hbw
      have H12 := Lib.hid h12
      have hszW := hbw.size
      have l6 := lt_blk h6
      have l7 := lt_blk h7
      have l12 := lt_blk h12
      obtain ⟨p0, p1, p2, p3, p4⟩ := cells5 h6
      obtain ⟨q0, q1, q2, q3, q4, q5, q6⟩ := cells7 h7
      obtain ⟨z0, z1, z2, z3, z4, z5, z6⟩ := cells7 h12
      have f0 := frees h12 0
      have f1 := frees h12 1
      have f2 := frees h12 2
      have f3 := frees h12 3
      have f4 := frees h12 4
      have f5 := frees h12 5
      have f6 := frees h12 6
      clear h6 h7 h12 hbw
      go_wp2_with fail
      have hev := HV.out
      subst hev
      refine (do_any Ar Aa none none nr cr na ca 0 0 0 0 R mc mt mf wt st id req cnt tim nak _ 0 0 0 0 tick E [] [] W2 B (by have := HB.out; omega) (HR.out.keep (HBW.out.mono HB.out)) HNR.out hlr (HE.out.keep (HBW.out.mono HB.out)) HNA.out hla HDA.out (At.nil _ _ _) rfl (Nat.le_refl _) (by simp) (At.nil _ _ _) rfl (Nat.le_refl _) (by simp)).mono ?_
      rw [HL.out, HR2.out]
      rintro x w4 ⟨va, vo, vd, rfl, hb4, ho4, hp4, ha4⟩
      have HB4 := Lib.hid hb4
      have HP4 := Lib.hid hp4
      have HA4 := Lib.hid ha4
      have HZ := Lib.hid ((hb4.block _ l12).trans H12.out)
      have HBW1 := Lib.hid (HBW.out.trans (hb4.mono hszW))
      have hsz4 := hb4.size
      have lz : w.heap.size + 1 + 1 < w4.heap.size := by omega
      clear f0 f1 f2 f3 f4 f5 f6 p0 p1 p2 p3 p4 q0 q1 q2 q3 q4 q5 q6 z0 z1 z2 z3 z4 z5 z6 hb4 hp4 ha4
      obtain ⟨z0, z1, z2, z3, z4, z5, z6⟩ := cells7 HZ.out
      have f0 := frees HZ.out 0
      have f1 := frees HZ.out 1
      have f2 := frees HZ.out 2
      have f3 := frees HZ.out 3
      have f4 := frees HZ.out 4
      have f5 := frees HZ.out 5
      have f6 := frees HZ.out 6
      unfold auV
      have HO4 := Lib.hid ho4
      clear ho4
      obtain ⟨E4, hE4, hEL4⟩ := HO4.out
      obtain ⟨A4, c4, rfl, -, -⟩ := ownsRow_form hE4.1
      go_wp2_with fail
      obtain ⟨Wf, hWf⟩ : ∃ Wf, Wf = (((((((w4.setCell ⟨w.heap.size + 1 + 1, 0, none⟩ (.int .i64 s1)).setCell ⟨w.heap.size + 1 + 1, 1, none⟩ (.int .i64 i1)).setCell ⟨w.heap.size + 1 + 1, 2, none⟩ (.int .i64 r1)).setCell ⟨w.heap.size + 1 + 1, 3, none⟩ (.slice A4 E4.length c4)).setCell ⟨w.heap.size + 1 + 1, 4, none⟩ (.int .i64 c1)).setCell ⟨w.heap.size + 1 + 1, 5, none⟩ (.int .i64 t1)).setCell ⟨w.heap.size + 1 + 1, 6, none⟩ (.int .i64 k1)) := ⟨_, rfl⟩
      rw [← hWf]
      have hrow : Wf.heap[w.heap.size + 1 + 1]? = some (.cells #[.int .i64 s1, .int .i64 i1, .int .i64 r1, .slice A4 E4.length c4, .int .i64 c1, .int .i64 t1, .int .i64 k1] 28 (0, 0)) := by rw [hWf]; exact row7 HZ.out rfl _ _ _ _ _ _ _
      have hgr : (w4).grownBy Wf (some (w.heap.size + 1 + 1)) := by rw [hWf]; first | with_reducible exact grown_exts grn (by simp) | exact grn
      clear hWf f0 f1 f2 f3 f4 f5 f6 z0 z1 z2 z3 z4 z5 z6
      obtain ⟨u0, u1, u2, u3, u4, u5, u6⟩ := cells7 hrow
      refine bodyPost_ret (v := .tuple #[.agg #[.int .i64 s1, .int .i64 i1, .int .i64 r1, .slice A4 E4.length c4, .int .i64 c1, .int .i64 t1, .int .i64 k1], vo, vd]) (by simp [results, Try.results9, go_sem, u0, u1, u2, u3, u4, u5, u6]) rfl ?_
      exact ⟨.slice A4 E4.length c4, vo, vd, rfl, Below.grown HBW1.out hgr (by omega) (fun k hk => by cases hk; omega), OptsO.base (OwnOpts.otherx HO4.out hgr HZ.out (by decide) (by decide)) hszW, PksO.base (HP4.out.other hgr HZ.out (by decide) (by decide)) hszW, ActsO.base (HA4.out.other hgr HZ.out (by decide)) hszW⟩
end Go.Proofs.Ythidhfkbfoejbaa
namespace Go.Proofs.Ythidhfkbfoejbaa
open Go.RowKit
set_option linter.unusedSimpArgs false
set_option linter.unusedVariables false
set_option linter.ambiguousOpen false
/-- An option that is cut. -/
def Ent.lit (e : Ent) : Ent := ⟨e.t, e.d.take 260, e.a, e.c⟩
def litE (E : List Ent) : List Ent := (E.take 70).map Ent.lit
def LitP (w : World) (E : List Ent) (x : Ending) (w' : World) : Prop :=
  ∃ A n c, x = .returned (.slice A n c) ∧ Below w.heap.size w w' ∧ w'.ownsRow w.heap.size 59 2 (.slice A n c) n (cellsE (litE E)) ∧ n = (litE E).length
theorem litE_succ {E : List Ent} {k : Nat} (hk : k < E.length) : ((E.take (k + 1)).map Ent.lit) = ((E.take k).map Ent.lit) ++ [E[k].lit] := by
  rw [List.take_succ_eq_append_getElem hk, List.map_append]; rfl
theorem cells_lit (E : List Ent) (e : Ent) : cellsE (E ++ [e.lit]) = cellsE E ++ [.int .i64 e.t, .slice e.a (min 260 e.d.length) e.c] := by
  simp [cellsE, Ent.lit, Ent.v]
set_option maxRecDepth 100000 in
set_option maxHeartbeats 4000000 in
theorem lit_any (A : Option Addr) (N c : Nat) (E : List Ent) (w : World) (B : Nat) (hB : B ≤ w.heap.size) (hE : OptsAt w B A E) (hn : N = E.length) (hl : (N : Int) ≤ 9223372036854775807) (hd : ∀ e ∈ E, (e.d.length : Int) ≤ 9223372036854775807) :
    Calls Try.prog 11 #[.slice A N c] w (LitP w E) := by
  subst hn
  have HE := Lib.hid hE
  have HB := Lib.hid hB
  have HD := Lib.hid hd
  clear hE hB hd
  go_enter Try.func11, Try.ntmps11
  go_wp2
  go_loopw [4, 3] (fun i v wr => ∃ (k c' : Nat) (A' : Option Addr), k ≤ E.length ∧ k ≤ 70 ∧ i = .int .i64 k ∧ v = .slice A' k c' ∧ Below w.heap.size w wr ∧ wr.ownsRow w.heap.size 59 2 (.slice A' k c') k (cellsE ((E.take k).map Ent.lit))) (fun i _ _ => E.length - (intOf i).toNat)
  case atStart => exact ⟨0, 0, none, Nat.zero_le _, by omega, rfl, rfl, Below.refl _ _, own_nil _ _ _ _⟩
  case round =>
    obtain ⟨k, c', A', hk, hk7, rfl, rfl, hb, ho⟩ := hrel
    have HBW := Lib.hid hb
    have HO := Lib.hid ho
    have hsz := hb.size
    clear hb ho
    by_cases hlt : k < E.length
    · by_cases h7 : k < 70
      · obtain ⟨b, o, rfl, hbB, hx, hy⟩ := (HE.out.keep (HBW.out.mono HB.out)).get hlt
        obtain ⟨hd, hdc⟩ := (HE.out.keep (HBW.out.mono HB.out)).2 E[k] (List.getElem_mem hlt)
        have hdl := HD.out E[k] (List.getElem_mem hlt)
        have HK := Lib.hid (litE_succ hlt)
        obtain ⟨⟨t, d, a, c2⟩, he⟩ : ∃ e, E[k] = e := ⟨_, rfl⟩
        rw [he] at hx hy hd hdc HK hdl
        simp only [Ent.v] at hy hd hdc hdl
        dsimp only at hx
        clear he hd
        have ha : Option.map (fun x : Addr => x.add 0) a = a := by cases a <;> simp [Addr.add]
        by_cases h260 : 260 < d.length
        · go_wp2_with (at_builtin; go_loud (refine wpList_appv w rfl (.tmp 28) (.tmp 30) 26 rfl 59 Try.underlying26 (.agg #[.int .i64 0, .slice none 0 0]) 2 32 infoOpt rfl (by decide) (by decide) (.slice A' k c') k (cellsE ((E.take k).map Ent.lit)) rfl (own_below HO.out (by exact bel)) (wr.heap.size + 1 + 1) (some ⟨wr.heap.size + 1, 0, none⟩) 1 1 [.int .i64 t, .slice a 260 c2] rfl rfl (by omega) (At.newN _ _ _ _ _ (by simp) rfl) (by intro u hu; simp at hu; rcases hu with rfl | rfl <;> rfl) (by have := HBW.out; exact bel) ?_); intro A3 c3 w3 ho3 hc3 hb3 hg3; have HO3 := Lib.hid ho3; have HB3 := Lib.hid hb3; clear ho3 hc3 hb3 hg3)
          go_roundw
          case rel => exact ⟨k + 1, c3, A3, by omega, by omega, by go_num, rfl, HB3.out, by rw [HK.out, cells_lit, show min 260 d.length = 260 by omega]; exact HO3.out⟩
          case measure => simp [intOf]; omega
        · go_wp2_with (at_builtin; go_loud (refine wpList_appv w rfl (.tmp 28) (.tmp 30) 26 rfl 59 Try.underlying26 (.agg #[.int .i64 0, .slice none 0 0]) 2 32 infoOpt rfl (by decide) (by decide) (.slice A' k c') k (cellsE ((E.take k).map Ent.lit)) rfl (own_below HO.out (by exact bel)) (wr.heap.size + 1 + 1) (some ⟨wr.heap.size + 1, 0, none⟩) 1 1 [.int .i64 t, .slice a d.length c2] rfl rfl (by omega) (At.newN _ _ _ _ _ (by simp) rfl) (by intro u hu; simp at hu; rcases hu with rfl | rfl <;> rfl) (by have := HBW.out; exact bel) ?_); intro A3 c3 w3 ho3 hc3 hb3 hg3; have HO3 := Lib.hid ho3; have HB3 := Lib.hid hb3; clear ho3 hc3 hb3 hg3)
          go_roundw
          case rel => exact ⟨k + 1, c3, A3, by omega, by omega, by go_num, rfl, HB3.out, by rw [HK.out, cells_lit, show min 260 d.length = d.length by omega]; exact HO3.out⟩
          case measure => simp [intOf]; omega
      · obtain rfl : k = 70 := by omega
        have hkk : decide ((70 : Int) < (E.length : Int)) = true := by simp; omega
        go_wp2
        go_ret
        exact ⟨A', 70, c', rfl, HBW.out, HO.out, by simp [litE]; omega⟩
    · obtain rfl : k = E.length := by omega
      have HT := Lib.hid (show litE E = (E.take E.length).map Ent.lit by unfold litE; rw [List.take_of_length_le (by omega), List.take_of_length_le (by omega)])
      go_wp2
      go_ret
      exact ⟨A', E.length, c', rfl, HBW.out, by rw [HT.out]; exact HO.out, by rw [HT.out]; simp⟩
/-- What Few tells can be read. -/
theorem lit_at {w w' : World} {B : Nat} {A0 A : Option Addr} {E : List Ent} {n c base : Nat} (h : OptsAt w B A0 E) (hB : B ≤ w.heap.size) (hb : Below w.heap.size w w')
    (ho : w'.ownsRow base 59 2 (.slice A n c) n (cellsE (litE E))) : OptsAt w' w'.heap.size A (litE E) := by
  refine ⟨At.of_own ho, fun e he => ?_⟩
  simp only [litE, List.mem_map] at he
  obtain ⟨x, hx, rfl⟩ := he
  obtain ⟨h1, h2⟩ := h.2 x (List.mem_of_mem_take hx)
  refine ⟨?_, ?_⟩
  · simp only [Ent.lit, List.map_take]
    exact (h1.keep (hb.mono hB)).more (by have := hb.size; omega) |>.take 260
  · simp only [Ent.lit, List.length_take]; omega
theorem lit_len (E : List Ent) : (litE E).length ≤ 70 := by simp only [litE, List.length_map, List.length_take]; omega
theorem lit_data (E : List Ent) : ∀ e ∈ litE E, e.d.length ≤ 260 := by
  intro e he
  simp only [litE, List.mem_map] at he
  obtain ⟨x, hx, rfl⟩ := he
  simp only [Ent.lit, List.length_take]; omega
end Go.Proofs.Ythidhfkbfoejbaa
namespace Go.Proofs.Ythidhfkbfoejbaa
open Go.RowKit
set_option linter.unusedSimpArgs false
set_option linter.unusedVariables false
set_option linter.ambiguousOpen false
open Ne (Rl Opt RulesAt areB)
open Fs (av hasB)
def PksV (w : World) (B : Nat) (v : Value) (out : List Pk) : Prop := ∃ (A : Option Addr) (n c : Nat) (P : List Pe), v = .slice A n c ∧ PksAt w B A P ∧ n = P.length ∧ n ≤ c ∧ P.map Pe.o = out
theorem PksV.keep {w w' : World} {B : Nat} {v : Value} {l : List Pk} (h : PksV w B v l) (hb : Below B w w') : PksV w' B v l := by
  obtain ⟨A, n, c, P, rfl, h1, h2, h3, h4⟩ := h; exact ⟨A, n, c, P, rfl, h1.keep hb, h2, h3, h4⟩
theorem PksV.more {w : World} {B B' : Nat} {v : Value} {l : List Pk} (h : PksV w B v l) (hb : B ≤ B') : PksV w B' v l := by
  obtain ⟨A, n, c, P, rfl, h1, h2, h3, h4⟩ := h; exact ⟨A, n, c, P, rfl, h1.more hb, h2, h3, h4⟩
theorem PksO.v {w : World} {base : Nat} {v : Value} {out : List Pk} (h : PksO w base v out) : PksV w w.heap.size v out := by
  obtain ⟨P, hP, he⟩ := h
  obtain ⟨A, c, rfl, hc, -⟩ := ownsRow_form hP.1
  exact ⟨A, _, c, P, rfl, hP.at, rfl, hc, he⟩
theorem sameA_self (a : Au) : sameA a a = true := by simp [sameA, Op.sameB]
end Go.Proofs.Ythidhfkbfoejbaa
namespace Go.Proofs.Ythidhfkbfoejbaa
open Go.RowKit
set_option linter.unusedSimpArgs false
set_option linter.unusedVariables false
set_option linter.ambiguousOpen false
open Ne (Rl Opt RulesAt areB)
open Fs (av hasB)
theorem plain_any (w : World) : Calls Try.prog 20 #[] w fun x w' => x = .returned (.agg #[.slice none 0 0, .int .i64 2, .int .i64 2, .int .i64 2, .int .i64 3]) ∧ Below w.heap.size w w' := by
  go_enter Try.func20, Try.ntmps20
  go_wp2_with fail
  exact bodyPost_ret (v := .agg #[.slice none 0 0, .int .i64 2, .int .i64 2, .int .i64 2, .int .i64 3]) (by simp [results, Try.results20, go_sem]) rfl ⟨rfl, by exact bel⟩
def cf0 : Cf := ⟨[], 2, 2, 2, 3⟩
def au0 : Au := ⟨0, 0, 0, [], 0, 0, 0⟩
theorem new0 : auNew [] = au0 ∧ errNew [] = 0 := ⟨rfl, rfl⟩
theorem do0 : doO cf0 au0 1 ⟨0, 0, []⟩ ⟨0, 0, []⟩ 1 = (⟨2, 0, 0, [], 0, 0, 0⟩, [], Fs.tabActs 1 0) := by rfl
theorem do1 : doO cf0 ⟨2, 0, 0, [], 0, 0, 0⟩ 3 ⟨0, 0, []⟩ ⟨0, 0, []⟩ 5 = (⟨6, 1, 1, [], 1, 8, 0⟩, [⟨1, 1, []⟩], Fs.tabActs 3 2) ∧ (Fs.tabActs 3 2).length = 2 := by exact ⟨rfl, rfl⟩
end Go.Proofs.Ythidhfkbfoejbaa
namespace Go.Proofs.Ythidhfkbfoejbaa
open Go.ChangeShapes Go.WideShapes Go.ChangeAt Go.RowKit Go.Joins Go.Deep
set_option linter.unusedSimpArgs false
set_option linter.unusedVariables false
set_option linter.ambiguousOpen false
set_option maxRecDepth 100000
open Ne (Rl RulesAt RuleAt wf64)
theorem open_fields {H : Type} {enc : TypeId × Value → H} {P : Program} {w : World} {base : Nat} {spare : Nat → Bool} {held : Bool} {r : Reach} {b0 : Nat} {t : TypeId} {fs : Array Field} {v : Value} {d : DataW H} {p : List MemPlace}
    (hs : P.underlying t = some (.struct fs)) (hone : oneCellFields P fs = true) (hC : P.cellsOf t = fs.size) (hv : Value.okWide P w r b0 t v) (h : DataW.Trod enc P w base spare held t v d p) :
    ∃ (cs : Array Value) (n : Nat), v = .agg cs ∧ cs.size = fs.size ∧ ∀ (j : Nat) (f : Field), fs[j]? = some f → ∃ (u : Value) (y : DataW H × List MemPlace), cs[j]? = some u ∧ DataW.trod enc P w base spare held n f.type [u] = some y := by
  obtain ⟨cs, rfl, hsz⟩ := okWide_struct hs hv
  obtain ⟨fuel, hf⟩ := h
  obtain ⟨ys, n', hn', hy, hlen, hyl, hff⟩ := DataW.trod_struct hs hf
  refine ⟨cs, n', rfl, hsz.trans hC, fun j f hj => ?_⟩
  obtain ⟨ho, hk⟩ := hone_of hone j f hj
  have hjl : j < fs.size := (Array.getElem?_eq_some_iff.1 hj).1
  have h1 := hff j f hj
  rw [ho, hk] at h1
  have hjc : j < cs.toList.length := by simpa using (by omega : j < cs.size)
  have hone' : (cs.toList.drop j).take 1 = [cs[j]'(by omega)] := by
    rw [List.drop_eq_getElem_cons hjc]
    simp
  have h1 : DataW.trod enc P w base spare held n' f.type ((cs.toList.drop j).take 1) = ys[j]? := h1
  rw [hone'] at h1
  have hys : ys[j]? = some (ys[j]'(by omega)) := List.getElem?_eq_getElem (by omega)
  exact ⟨cs[j]'(by omega), _, by simp, h1.trans hys⟩
theorem open_rules_in {H : Type} {enc : TypeId × Value → H} {W : World} {fuel : Nat} {v : Value} {x : DataW H × List MemPlace} (hf : DataW.trod enc Try.prog W 0 (fun _ => true) true fuel 22 [v] = some x) :
    ∃ (A : Option Addr) (n c : Nat) (R : List Rl), v = .slice A n c ∧ RulesAt W W.heap.size A R ∧ n = R.length ∧ n ≤ c ∧ (n : Int) ≤ 9223372036854775807 := by
  rcases open_slice_fields Try.underlying22 Try.underlying65 (by kernel_rfl) (by kernel_rfl) hf with ⟨hcs, -⟩ | ⟨a', len', cap', m, D, Pl, hcs, -, hl, hm, hmm, -, hi⟩
  · simp only [List.cons.injEq, and_true] at hcs
    exact ⟨none, 0, 0, [], hcs, ⟨.inl rfl, fun _ h => by cases h⟩, rfl, Nat.le_refl _, by omega⟩
  · simp only [List.cons.injEq, and_true] at hcs
    subst hcs
    simp only [if_true] at hmm
    subst hmm
    unfold maxLen at hm
    rcases Nat.eq_zero_or_pos len' with h0 | h0
    · subst h0
      exact ⟨_, 0, m, [], rfl, ⟨.inl rfl, fun _ h => by cases h⟩, rfl, Nat.zero_le _, by omega⟩
    · obtain ⟨b, off, spot⟩ := a'
      obtain ⟨ys, n, -, -, -, hf⟩ := hi 0 (by omega)
      obtain ⟨v0, y0, hc0, -, -⟩ := hf 0 _ rfl
      have hspot : spot = none := by simpa [Addr.add] using World.cell?_spot hc0
      subst hspot
      have hlt : b < W.heap.size := by
        have := World.block_lt_of_cell? W _ hc0
        simpa [Addr.add] using this
      have each : ∀ i, i < m → ∃ x : Rl, RuleAt W b off i x ∧ (wf64 x.t ∧ wf64 x.sz ∧ wf64 x.lo ∧ wf64 x.hi ∧ wf64 x.gd) := by
        intro i him
        obtain ⟨ys, n, -, -, -, hf⟩ := hi i him
        obtain ⟨v0, y0, g0, -, t0⟩ := hf 0 _ rfl
        obtain ⟨v1, y1, g1, -, t1⟩ := hf 1 _ rfl
        obtain ⟨v2, y2, g2, -, t2⟩ := hf 2 _ rfl
        obtain ⟨v3, y3, g3, -, t3⟩ := hf 3 _ rfl
        obtain ⟨v4, y4, g4, -, t4⟩ := hf 4 _ rfl
        obtain ⟨v5, y5, g5, -, t5⟩ := hf 5 _ rfl
        obtain ⟨v6, y6, g6, -, t6⟩ := hf 6 _ rfl
        obtain ⟨x0, e0, -, w0⟩ := DataW.trod_int Try.underlying3 t0
        obtain ⟨x1, e1, -, w1⟩ := DataW.trod_int Try.underlying3 t1
        obtain ⟨x2, e2, -, w2⟩ := DataW.trod_int Try.underlying63 t2
        obtain ⟨x3, e3, -, w3⟩ := DataW.trod_int Try.underlying3 t3
        obtain ⟨x4, e4, -, w4⟩ := DataW.trod_int Try.underlying3 t4
        obtain ⟨x5, e5, -, w5⟩ := DataW.trod_int Try.underlying3 t5
        obtain ⟨x6, e6, -⟩ := DataW.trod_bool Try.underlying4 t6
        simp only [List.cons.injEq, and_true] at e0 e1 e2 e3 e4 e5 e6
        have wfb : ∀ {x : Int}, (Lit.int .i64 x).wf = true → wf64 x := fun {x} h => by
          have : -9223372036854775808 ≤ x ∧ x ≤ 9223372036854775807 := by simpa [Lit.wf, IntKind.min, IntKind.max, IntKind.signed, IntKind.bits] using h
          exact this
        rw [add_none] at g0 g1 g2 g3 g4 g5 g6
        refine ⟨⟨x0, x1, x2, x3, x4, x5, x6⟩, ⟨?_, ?_, ?_, ?_, ?_, ?_, ?_⟩, wfb w0, wfb w1, wfb w3, wfb w4, wfb w5⟩
        · rw [← e0]; exact g0
        · rw [← e1]; exact g1
        · rw [← e2]; exact g2
        · rw [← e3]; exact g3
        · rw [← e4]; exact g4
        · rw [← e5]; exact g5
        · rw [← e6]; exact g6
      have : Inhabited Rl := ⟨⟨0, 0, 0, 0, 0, 0, false⟩⟩
      obtain ⟨y, hy⟩ := choose_lt each
      refine ⟨some ⟨b, off, none⟩, len', m, (List.range len').map y, rfl, ⟨.inr ⟨b, off, rfl, hlt, fun k hk => ?_⟩, fun r hr => ?_⟩, by simp, hl, by omega⟩
      · simp only [List.getElem_map, List.getElem_range]
        exact (hy k (by simp at hk; omega)).1
      · simp only [List.mem_map, List.mem_range] at hr
        obtain ⟨k, hk, rfl⟩ := hr
        exact (hy k (by omega)).2
theorem open_opts_in {H : Type} {enc : TypeId × Value → H} {W : World} {fuel : Nat} {v : Value} {x : DataW H × List MemPlace} (hf : DataW.trod enc Try.prog W 0 (fun _ => true) true fuel 26 [v] = some x) :
    ∃ (A : Option Addr) (n c : Nat) (E : List Ent), v = .slice A n c ∧ OptsAt W W.heap.size A E ∧ n = E.length ∧ n ≤ c ∧ (n : Int) ≤ 9223372036854775807 ∧ ∀ e ∈ E, (e.d.length : Int) ≤ 9223372036854775807 := by
  rcases open_slice_pairs Try.underlying26 Try.underlying59 (by kernel_rfl) rfl rfl (by kernel_rfl) (by kernel_rfl) hf with ⟨hcs, -⟩ | ⟨a', len', cap', m, n, V0, V1, D0, D1, P0, P1, hcs, -, hl, hm, hmm, -, hi⟩
  · simp only [List.cons.injEq, and_true] at hcs
    exact ⟨none, 0, 0, [], hcs, ⟨At.nil _ _ _, fun _ h => by cases h⟩, rfl, Nat.le_refl _, by omega, fun _ h => by cases h⟩
  · simp only [List.cons.injEq, and_true] at hcs
    subst hcs
    simp only [if_true] at hmm
    subst hmm
    unfold maxLen at hm
    have each : ∀ i, i < m → ∃ e : Ent, V0 i = .int .i64 e.t ∧ V1 i = e.v ∧ At W W.heap.size e.a (e.d.map bv) ∧ e.d.length ≤ e.c ∧ (e.d.length : Int) ≤ 9223372036854775807 := by
      intro i him
      obtain ⟨-, -, g0, g1⟩ := hi i him
      obtain ⟨t, e0, -⟩ := DataW.trod_int Try.underlying3 g0
      obtain ⟨A, l1, c, l, hcs, hA, hl1, hc, hb⟩ := open_bytes g1
      simp at e0 hcs
      subst hl1
      exact ⟨⟨t, l, A, c⟩, e0, hcs, hA, hc, hb⟩
    have : Inhabited Ent := ⟨⟨0, [], none, 0⟩⟩
    obtain ⟨y, hy⟩ := choose_lt each
    rcases Nat.eq_zero_or_pos len' with h0 | h0
    · subst h0
      exact ⟨_, 0, m, [], rfl, ⟨At.nil _ _ _, fun _ h => by cases h⟩, rfl, Nat.zero_le _, by omega, fun _ h => by cases h⟩
    · have hc0 := (hi 0 (by omega)).1
      obtain ⟨b, off, spot⟩ := a'
      have hspot : spot = none := by simpa [Addr.add] using World.cell?_spot hc0
      subst hspot
      have hlt : b < W.heap.size := by
        have := World.block_lt_of_cell? W _ hc0
        simpa [Addr.add] using this
      refine ⟨some ⟨b, off, none⟩, len', m, (List.range len').map y, rfl, OptsAt.mk hlt (fun k hk => ?_) (fun e he => ?_), by simp, hl, by omega, fun e he => ?_⟩
      · have hk' : k < m := by simp at hk; omega
        obtain ⟨c0, c1, -, -⟩ := hi k hk'
        obtain ⟨e0, e1, -⟩ := hy k hk'
        rw [add_none] at c0 c1
        simp only [List.getElem_map, List.getElem_range]
        rw [c0, ← Nat.add_assoc] at *
        exact ⟨by rw [e0], by rw [c1, e1]⟩
      · simp only [List.mem_map, List.mem_range] at he
        obtain ⟨k, hk, rfl⟩ := he
        exact ⟨(hy k (by omega)).2.2.1, (hy k (by omega)).2.2.2.1⟩
      · simp only [List.mem_map, List.mem_range] at he
        obtain ⟨k, hk, rfl⟩ := he
        exact (hy k (by omega)).2.2.2.2
theorem arr5 {cs : Array Value} (h : cs.size = 5) {a b c d e : Value} (h0 : cs[0]? = some a) (h1 : cs[1]? = some b) (h2 : cs[2]? = some c) (h3 : cs[3]? = some d) (h4 : cs[4]? = some e) : cs = #[a, b, c, d, e] := by
  obtain ⟨l⟩ := cs
  match l, h with
  | [x0, x1, x2, x3, x4], _ => simp at h0 h1 h2 h3 h4; subst h0 h1 h2 h3 h4; rfl
theorem arr7 {cs : Array Value} (h : cs.size = 7) {a b c d e f g : Value} (h0 : cs[0]? = some a) (h1 : cs[1]? = some b) (h2 : cs[2]? = some c) (h3 : cs[3]? = some d) (h4 : cs[4]? = some e) (h5 : cs[5]? = some f) (h6 : cs[6]? = some g) : cs = #[a, b, c, d, e, f, g] := by
  obtain ⟨l⟩ := cs
  match l, h with
  | [x0, x1, x2, x3, x4, x5, x6], _ => simp at h0 h1 h2 h3 h4 h5 h6; subst h0 h1 h2 h3 h4 h5 h6; rfl
theorem open_conf {H : Type} {enc : TypeId × Value → H} {W : World} {base : Nat} {v : Value} {d : DataW H} {p : List MemPlace} (o : Value.okWide Try.prog W .any base 24 v) (h : DataW.Trod enc Try.prog W 0 (fun _ => true) true 24 v d p) :
    ∃ (A : Option Addr) (n c : Nat) (R : List Rl) (mc mt mf wt : Int), v = .agg #[.slice A n c, .int .i64 mc, .int .i64 mt, .int .i64 mf, .int .i64 wt] ∧ RulesAt W W.heap.size A R ∧ n = R.length ∧ n ≤ c ∧ (n : Int) ≤ 9223372036854775807 := by
  obtain ⟨cs, n, rfl, hs, hf⟩ := open_fields Try.underlying24 (by kernel_rfl) (by kernel_rfl) o h
  obtain ⟨v0, y0, g0, t0⟩ := hf 0 _ rfl
  obtain ⟨v1, y1, g1, t1⟩ := hf 1 _ rfl
  obtain ⟨v2, y2, g2, t2⟩ := hf 2 _ rfl
  obtain ⟨v3, y3, g3, t3⟩ := hf 3 _ rfl
  obtain ⟨v4, y4, g4, t4⟩ := hf 4 _ rfl
  obtain ⟨A, n, c, R, rfl, hR, hn, hc, hl⟩ := open_rules_in t0
  obtain ⟨x1, e1, -, w1⟩ := DataW.trod_int Try.underlying3 t1
  obtain ⟨x2, e2, -, w2⟩ := DataW.trod_int Try.underlying3 t2
  obtain ⟨x3, e3, -, w3⟩ := DataW.trod_int Try.underlying3 t3
  obtain ⟨x4, e4, -, w4⟩ := DataW.trod_int Try.underlying3 t4
  simp only [List.cons.injEq, and_true] at e1 e2 e3 e4
  subst e1 e2 e3 e4
  exact ⟨A, n, c, R, x1, x2, x3, x4, by rw [arr5 hs g0 g1 g2 g3 g4], hR, hn, hc, hl⟩
theorem open_auto {H : Type} {enc : TypeId × Value → H} {W : World} {base : Nat} {v : Value} {d : DataW H} {p : List MemPlace} (o : Value.okWide Try.prog W .any base 28 v) (h : DataW.Trod enc Try.prog W 0 (fun _ => true) true 28 v d p) :
    ∃ (st id req : Int) (A : Option Addr) (n c : Nat) (E : List Ent) (cnt tim nak : Int), v = .agg #[.int .i64 st, .int .i64 id, .int .i64 req, .slice A n c, .int .i64 cnt, .int .i64 tim, .int .i64 nak] ∧ OptsAt W W.heap.size A E ∧ n = E.length ∧ n ≤ c ∧ (n : Int) ≤ 9223372036854775807 ∧ ∀ e ∈ E, (e.d.length : Int) ≤ 9223372036854775807 := by
  obtain ⟨cs, n, rfl, hs, hf⟩ := open_fields Try.underlying28 (by kernel_rfl) (by kernel_rfl) o h
  obtain ⟨v0, y0, g0, t0⟩ := hf 0 _ rfl
  obtain ⟨v1, y1, g1, t1⟩ := hf 1 _ rfl
  obtain ⟨v2, y2, g2, t2⟩ := hf 2 _ rfl
  obtain ⟨v3, y3, g3, t3⟩ := hf 3 _ rfl
  obtain ⟨v4, y4, g4, t4⟩ := hf 4 _ rfl
  obtain ⟨v5, y5, g5, t5⟩ := hf 5 _ rfl
  obtain ⟨v6, y6, g6, t6⟩ := hf 6 _ rfl
  obtain ⟨x0, e0, -, w0⟩ := DataW.trod_int Try.underlying25 t0
  obtain ⟨x1, e1, -, w1⟩ := DataW.trod_int Try.underlying3 t1
  obtain ⟨x2, e2, -, w2⟩ := DataW.trod_int Try.underlying3 t2
  obtain ⟨A, n, c, E, rfl, hE, hn, hc, hl, hd⟩ := open_opts_in t3
  obtain ⟨x4, e4, -, w4⟩ := DataW.trod_int Try.underlying3 t4
  obtain ⟨x5, e5, -, w5⟩ := DataW.trod_int Try.underlying3 t5
  obtain ⟨x6, e6, -, w6⟩ := DataW.trod_int Try.underlying3 t6
  simp only [List.cons.injEq, and_true] at e0 e1 e2 e4 e5 e6
  subst e0 e1 e2 e4 e5 e6
  exact ⟨x0, x1, x2, A, n, c, E, x4, x5, x6, by rw [arr7 hs g0 g1 g2 g3 g4 g5 g6], hE, hn, hc, hl, hd⟩
end Go.Proofs.Ythidhfkbfoejbaa
namespace Go.Proofs.Ythidhfkbfoejbaa
open Go.RowKit
set_option linter.unusedSimpArgs false
set_option linter.unusedVariables false
set_option linter.ambiguousOpen false
open Ne (Rl Opt RulesAt areB)
open Fs (av hasB)
/-- Is the timer set? -/
def setsB (l : List Int) : Bool := l.any fun x => x == 6 || (x == 7 || x == 10)
theorem act_tim (c : Cf) (inn ans : Pk) (tick : Int) (acts : List Int) (a : Au) (x : Int) : (actO c inn ans tick acts a x).1.tim = if (x == 6 || (x == 7 || x == 10)) = true then tick + c.wt else a.tim := by
  unfold actO
  by_cases h5 : x = 5
  · subst h5; rfl
  rw [if_neg h5]
  by_cases h6 : x = 6
  · subst h6; rfl
  rw [if_neg h6]
  by_cases h7 : x = 7
  · subst h7; rfl
  rw [if_neg h7]
  by_cases h8 : x = 8
  · subst h8; rfl
  rw [if_neg h8]
  by_cases h9 : x = 9
  · subst h9; rfl
  rw [if_neg h9]
  by_cases h10 : x = 10
  · subst h10; rfl
  rw [if_neg h10]
  have hf : (x == 6 || (x == 7 || x == 10)) = false := by simp [h6, h7, h10]
  rw [hf]
  split
  · rfl
  · split
    · rfl
    · split <;> rfl
theorem act_st (c : Cf) (inn ans : Pk) (tick : Int) (acts : List Int) (a : Au) (x : Int) : (actO c inn ans tick acts a x).1.st = a.st := by
  unfold actO
  repeat' split
  all_goals rfl
theorem runO_st (c : Cf) (inn ans : Pk) (tick : Int) (acts : List Int) : ∀ (l : List Int) (s : Au × List Pk), (runO c inn ans tick acts s l).1.st = s.1.st
  | [], _ => rfl
  | x :: l, s => by
    unfold runO
    rw [List.foldl_cons]
    exact (runO_st c inn ans tick acts l _).trans (act_st ..)
theorem runO_tim (c : Cf) (inn ans : Pk) (tick : Int) (acts : List Int) : ∀ (l : List Int) (s : Au × List Pk), (runO c inn ans tick acts s l).1.tim = if setsB l = true then tick + c.wt else s.1.tim
  | [], _ => rfl
  | x :: l, s => by
    have h := runO_tim c inn ans tick acts l ((actO c inn ans tick acts s.1 x).1, s.2 ++ (actO c inn ans tick acts s.1 x).2)
    have h2 : runO c inn ans tick acts s (x :: l) = runO c inn ans tick acts ((actO c inn ans tick acts s.1 x).1, s.2 ++ (actO c inn ans tick acts s.1 x).2) l := by
      unfold runO; rw [List.foldl_cons]
    rw [h2, h]
    dsimp only
    rw [act_tim]
    unfold setsB
    rw [List.any_cons]
    cases (x == 6 || (x == 7 || x == 10)) <;> simp
theorem tab_sets (s e : Int) (h : Fs.stepErr s e = 0) : Fs.timedB (Fs.tabNext e s) = true → Fs.timedB s = true ∨ setsB (Fs.tabActs e s) = true := by
  unfold Fs.stepErr at h
  split at h
  · rename_i hi
    simp only [Fs.inTab, decide_eq_true_eq] at hi
    obtain ⟨h1, h2, h3, h4⟩ := hi
    revert h
    rcases Fs.sixteen h1 h2 with rfl | rfl | rfl | rfl | rfl | rfl | rfl | rfl | rfl | rfl | rfl | rfl | rfl | rfl | rfl | rfl <;> rcases Fs.ten h3 h4 with rfl | rfl | rfl | rfl | rfl | rfl | rfl | rfl | rfl | rfl <;> decide
  · omega
theorem isB_parts {a : Au} (h : isB a = true) : (0 ≤ a.st ∧ a.st ≤ 9) ∧ (0 ≤ a.id ∧ a.id ≤ 255) ∧ (0 ≤ a.req ∧ a.req ≤ 255) ∧ (0 ≤ a.cnt ∧ a.cnt ≤ 1000) ∧ (0 ≤ a.nak ∧ a.nak ≤ 1000) ∧ (Op.encR a.ask).2 = 0 ∧ timB a = true := by
  unfold isB numsB inB at h
  simp only [Bool.and_eq_true, decide_eq_true_eq, beq_iff_eq] at h
  obtain ⟨⟨h1, h2, h3, h4, h5⟩, h6, h7⟩ := h
  exact ⟨h1, h2, h3, h4, h5, h6, h7⟩
theorem isB_of {a : Au} (h : (0 ≤ a.st ∧ a.st ≤ 9) ∧ (0 ≤ a.id ∧ a.id ≤ 255) ∧ (0 ≤ a.req ∧ a.req ≤ 255) ∧ (0 ≤ a.cnt ∧ a.cnt ≤ 1000) ∧ (0 ≤ a.nak ∧ a.nak ≤ 1000) ∧ (Op.encR a.ask).2 = 0 ∧ timB a = true) : isB a = true := by
  unfold isB numsB inB
  simp only [Bool.and_eq_true, decide_eq_true_eq, beq_iff_eq]
  obtain ⟨h1, h2, h3, h4, h5, h6, h7⟩ := h
  exact ⟨⟨h1, h2, h3, h4, h5⟩, h6, h7⟩
theorem doO_is {c : Cf} {a : Au} {tick : Int} (ha : isB a = true) (e : Int) (inn ans : Pk) : isB (doO c a e inn ans tick).1 = true := by
  obtain ⟨h1, h2, h3, h4, h5, h6, h7⟩ := isB_parts ha
  unfold doO
  split
  · rename_i hf
    have hN := runO_ok c inn ans tick (Fs.tabActs e a.st) (Fs.tabActs e a.st) ({ a with st := Fs.tabNext e a.st }, []) ((NumOk.of_fine hf.1).state _)
    have hst := runO_st c inn ans tick (Fs.tabActs e a.st) (Fs.tabActs e a.st) ({ a with st := Fs.tabNext e a.st }, [])
    have hask := runO_ask c inn ans tick (Fs.tabActs e a.st) (Fs.tabActs e a.st) ({ a with st := Fs.tabNext e a.st }, [])
    have htim := runO_tim c inn ans tick (Fs.tabActs e a.st) (Fs.tabActs e a.st) ({ a with st := Fs.tabNext e a.st }, [])
    have h9 := (Fs.fins a.st e hf.2).1
    have hset := tab_sets a.st e hf.2
    obtain ⟨r, hr⟩ : ∃ r, (runO c inn ans tick (Fs.tabActs e a.st) ({ a with st := Fs.tabNext e a.st }, []) (Fs.tabActs e a.st)).1 = r := ⟨_, rfl⟩
    rw [hr] at hN hst hask htim
    rw [hr]
    dsimp only at hst hask htim ⊢
    clear hr
    obtain ⟨t0, t1, w0, w1, m0, m1, n0, n1, c0, c1, i0, i1, r0, r1, k0, k1⟩ := hN
    by_cases ht : Fs.timedB (Fs.tabNext e a.st) = true
    · rw [if_pos ht]
      refine isB_of ⟨by rw [hst]; exact h9, ⟨i0, i1⟩, ⟨r0, r1⟩, ⟨c0, c1⟩, ⟨k0, k1⟩, by rw [hask]; exact h6, ?_⟩
      unfold timB
      rw [hst, if_pos ht, htim]
      rcases hset ht with hs | hs
      · split
        · simp [inB]; omega
        · unfold timB at h7
          rw [if_pos hs] at h7
          exact h7
      · rw [if_pos hs]
        simp [inB]; omega
    · rw [if_neg ht]
      refine isB_of ⟨by dsimp only; rw [hst]; exact h9, ⟨i0, i1⟩, ⟨r0, r1⟩, ⟨c0, c1⟩, ⟨k0, k1⟩, by dsimp only; rw [hask]; exact h6, ?_⟩
      unfold timB
      dsimp only
      rw [hst, if_neg ht]
      rfl
  · exact ha
theorem timO_is {c : Cf} {a : Au} {tick : Int} (ha : isB a = true) : isB (timO c a tick).1 = true := by
  unfold timO
  split
  · exact ha
  · exact doO_is ha _ _ _
end Go.Proofs.Ythidhfkbfoejbaa
namespace Go.Proofs.Ythidhfkbfoejbaa
open Go.RowKit
set_option linter.unusedSimpArgs false
set_option linter.unusedVariables false
set_option linter.ambiguousOpen false
open Ne (Rl Opt RulesAt areB)
open Fs (av hasB)
theorem timed_states {s : Int} (h : Fs.timedB s = true) : s = 4 ∨ s = 5 ∨ s = 6 ∨ s = 7 ∨ s = 8 := by
  unfold Fs.timedB at h
  simp only [Bool.and_eq_true, decide_eq_true_eq] at h
  omega
/-- One end of the timer. -/
theorem ends_step {c : Cf} {a : Au} (hc : confB c = true) (ha : isB a = true) (h0 : a.tim ≠ 0) (h1 : a.tim ≤ 1099511627776) :
    isB (timO c a a.tim).1 = true ∧ (0 < a.cnt → (timO c a a.tim).1.tim = a.tim + c.wt ∧ (timO c a a.tim).1.cnt = a.cnt - 1 ∧ (timO c a a.tim).2.1.length = 1) ∧ (a.cnt ≤ 0 → (timO c a a.tim).1.tim = 0 ∧ (timO c a a.tim).2.1.length = 0) := by
  refine ⟨timO_is ha, ?_⟩
  obtain ⟨k1, k2, k3, k4, k5, k6, k7⟩ := isB_parts ha
  have hs : Fs.timedB a.st = true := by
    unfold timB at k7
    by_cases h : Fs.timedB a.st = true
    · exact h
    · rw [if_neg h] at k7
      exact absurd (by simpa using k7) h0
  have ht : 1 ≤ a.tim := by
    unfold timB inB at k7
    rw [if_pos hs] at k7
    simp only [Bool.and_eq_true, decide_eq_true_eq] at k7
    omega
  have hf : fineB c a a.tim = true := by
    unfold fineB
    rw [hc, ha]
    simp [inB]; omega
  obtain ⟨st, id, req, ask, cnt, tim, nak⟩ := a
  dsimp only at *
  have hT : timO c ⟨st, id, req, ask, cnt, tim, nak⟩ tim = doO c ⟨st, id, req, ask, cnt, tim, nak⟩ (if 0 < cnt then 5 else 6) ⟨0, 0, []⟩ ⟨0, 0, []⟩ tim := if_neg (by dsimp only; omega)
  rw [hT]
  have hd : 0 < cnt → dec cnt = cnt - 1 := fun h => by unfold dec; rw [if_pos h]
  constructor
  · intro h
    rw [if_pos h]
    unfold doO
    rcases timed_states hs with rfl | rfl | rfl | rfl | rfl
    all_goals
      rw [if_pos ⟨hf, by rfl⟩, if_pos (by rfl)]
      exact ⟨rfl, hd h, rfl⟩
  · intro h
    rw [if_neg (by omega)]
    unfold doO
    rcases timed_states hs with rfl | rfl | rfl | rfl | rfl
    all_goals
      rw [if_pos ⟨hf, by rfl⟩, if_neg (by first | decide | (dsimp only; decide))]
      exact ⟨rfl, rfl⟩
theorem rest_still {a : Au} (ha : isB a = true) (h0 : a.tim = 0) : Fs.timedB a.st = false := by
  obtain ⟨k1, k2, k3, k4, k5, k6, k7⟩ := isB_parts ha
  by_cases h : Fs.timedB a.st = true
  · unfold timB inB at k7
    rw [if_pos h, h0] at k7
    simp at k7
  · simpa using h
end Go.Proofs.Ythidhfkbfoejbaa
