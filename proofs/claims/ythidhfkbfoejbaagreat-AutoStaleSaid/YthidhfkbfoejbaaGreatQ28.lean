/- A packet, in plain words, and by the program. -/
import Derived.Test.YthidhfkbfoejbaaGreatQ25
namespace Go.Proofs.YthidhfkbfoejbaaGreat
open Go.RowKit
set_option linter.unusedSimpArgs false
set_option linter.unusedVariables false
set_option linter.ambiguousOpen false
open Ne (Rl Opt RulesAt areB answerO learnO)
open Fs (av hasB)
/-- What a packet makes of an automaton, and whether it is one. -/
def packO (c : Cf) (a : Au) (inn : Pk) (tick : Int) : (Au × List Pk × List Int) × Bool :=
  if inB inn.code 1 7 = false then ((a, [], []), false)
  else if Cp.encErr inn.code inn.id inn.data.length ≠ 0 ∨ fineB c a tick = false then ((a, [], []), true)
  else match whichO c a inn with
    | none => ((a, [], []), true)
    | some (e, ans, next) => if Fs.stepErr a.st e ≠ 0 then ((a, [], []), true) else (doO c { a with ask := next } e inn ans tick, true)
/-- What is told of a packet: all in memory of one's own. -/
def PackP (r : (Au × List Pk × List Int) × Bool) (w : World) (x : Ending) (w' : World) : Prop :=
  ∃ va vo vd, x = .returned (.tuple #[auV r.1.1 va, vo, vd, .bool r.2]) ∧ Below w.heap.size w w' ∧ OptsO w' w.heap.size va r.1.1.ask ∧ PksO w' w.heap.size vo r.1.2.1 ∧ ActsO w' w.heap.size vd r.1.2.2
theorem enc_ok {L : List Opt} (h : (Op.encR L).2 = 0) : L.length ≤ 64 ∧ ∀ o ∈ L, o.2.length ≤ 253 := by
  unfold Op.encR at h
  split at h
  · cases h
  · split at h
    · rename_i h3 h4
      refine ⟨by omega, fun o ho => ?_⟩
      have := List.all_eq_true.1 h4 o ho
      simp only [Op.okO, Bool.and_eq_true, decide_eq_true_eq] at this
      exact this.2
    · cases h
theorem whichO_facts {c : Cf} {a : Au} {inn : Pk} {e : Int} {ans : Pk} {next : List Opt} (h : whichO c a inn = some (e, ans, next)) :
    e ≠ 0 ∧ ans.data.length ≤ 1488 ∧ (e ≠ 10 → next = a.ask) ∧ (e = 10 → next.length ≤ 64 ∧ ∀ o ∈ next, o.2.length ≤ 253) := by
  unfold whichO at h
  split at h
  · unfold askedO at h
    split at h
    · cases h
    · split at h
      · cases h
      · cases h
        refine ⟨by split <;> decide, encR_len _, fun _ => rfl, fun h => ?_⟩
        split at h <;> cases h
  · split at h
    · split at h
      · cases h; exact ⟨by decide, by simp, fun _ => rfl, fun h => by cases h⟩
      · cases h
    · split at h
      · unfold learnedO at h
        split at h
        · cases h
        · split at h
          · rename_i h5
            cases h
            exact ⟨by decide, by simp, fun h => absurd rfl h, fun _ => enc_ok h5.2⟩
          · cases h
      · split at h
        · cases h; exact ⟨by decide, by simp, fun _ => rfl, fun h => by cases h⟩
        · split at h
          · cases h; exact ⟨by decide, by simp, fun _ => rfl, fun h => by cases h⟩
          · split at h
            · cases h
            · split at h
              · cases h; exact ⟨by decide, by simp, fun _ => rfl, fun h => by cases h⟩
              · cases h; exact ⟨by decide, by simp, fun _ => rfl, fun h => by cases h⟩
set_option maxRecDepth 100000 in
set_option maxHeartbeats 8000000 in
theorem pack_no (Ar Aa Ai : Option Addr) (nr cr na ca ni ci : Nat) (R : List Rl) (mc mt mf wt st id req cnt tim nak ic ii tick : Int) (E : List Ent) (li : List UInt8) (w : World) (B : Nat) (hB : B ≤ w.heap.size) (hR : RulesAt w B Ar R) (hnr : nr = R.length) (hlr : nr ≤ 1000000) (hE : OptsAt w B Aa E) (hna : na = E.length) (hla : na ≤ 1000000) (hda : ∀ e ∈ E, e.d.length ≤ 1000000) (hI : At w B Ai (li.map bv)) (hni : ni = li.length) (hci : ni ≤ ci) (hli : ni ≤ 400000000) (hno : inB ic 1 7 = false ∨ (Cp.encErr ic ii li.length ≠ 0 ∨ fineB ⟨R, mc, mt, mf, wt⟩ ⟨st, id, req, E.map Ent.o, cnt, tim, nak⟩ tick = false)) : Calls Tryz.prog 19 #[.agg #[.slice Ar nr cr, .int .i64 mc, .int .i64 mt, .int .i64 mf, .int .i64 wt], .agg #[.int .i64 st, .int .i64 id, .int .i64 req, .slice Aa na ca, .int .i64 cnt, .int .i64 tim, .int .i64 nak], .agg #[.int .i64 ic, .int .i64 ii, .slice Ai ni ci], .int .i64 tick] w (PackP (packO ⟨R, mc, mt, mf, wt⟩ ⟨st, id, req, E.map Ent.o, cnt, tim, nak⟩ ⟨ic, ii, li⟩ tick) w) := by
  obtain ⟨ib, hib⟩ : ∃ ib, inB ic 1 7 = ib := ⟨_, rfl⟩
  rw [hib] at hno
  have HIN := Lib.hid hib
  have HB := Lib.hid hB
  have HR := Lib.hid hR
  have HNR := Lib.hid hnr
  have HE := Lib.hid hE
  have HNA := Lib.hid hna
  have HDA := Lib.hid hda
  have HI := Lib.hid hI
  have HNI := Lib.hid hni
  obtain ⟨L, hL⟩ : ∃ L, E.map Ent.o = L := ⟨_, rfl⟩
  have HL := Lib.hid hL
  rw [hL]
  clear hB hR hnr hE hna hda hL hI hni
  rw [HL.out] at hno
  cases ib
  · have HO := Lib.hid (show packO ⟨R, mc, mt, mf, wt⟩ ⟨st, id, req, L, cnt, tim, nak⟩ ⟨ic, ii, li⟩ tick = ((⟨st, id, req, L, cnt, tim, nak⟩, [], []), false) from if_pos hib)
    rw [HO.out]
    clear hib hno HO
    go_enter Tryz.func19, Tryz.ntmps19
    go_upto_region 1 with (fail)
    refine wp_w (fun W => W.heap[w.heap.size]? = some (.cells #[.slice Ar nr cr, .int .i64 mc, .int .i64 mt, .int .i64 mf, .int .i64 wt] 24 (0, 0)) ∧ W.heap[w.heap.size + 1]? = some (.cells #[.int .i64 st, .int .i64 id, .int .i64 req, .slice Aa na ca, .int .i64 cnt, .int .i64 tim, .int .i64 nak] 28 (0, 0)) ∧ W.heap[w.heap.size + 1 + 1]? = some (.cells #[.int .i64 ic, .int .i64 ii, .slice Ai ni ci] 32 (0, 0)) ∧ W.heap[w.heap.size + 1 + 1 + 1]? = some (.cells #[.int .i64 0, .int .i64 0, .int .i64 0, .slice none 0 0, .int .i64 0, .int .i64 0, .int .i64 0] 28 (0, 0)) ∧ Below w.heap.size w W) ⟨by (repeat (first | ((refine heap_alloc_at _ _ _ ?_); (simp [go_sem]; done)) | ((refine (heap_ext _ _ _ _ ?_).trans ?_); (focus (simp [go_sem]; done))) | ((refine (heap_alloc_past _ _ _ ?_).trans ?_); (focus (simp [go_sem]; done))))), by (repeat (first | ((refine heap_alloc_at _ _ _ ?_); (simp [go_sem]; done)) | ((refine (heap_ext _ _ _ _ ?_).trans ?_); (focus (simp [go_sem]; done))) | ((refine (heap_alloc_past _ _ _ ?_).trans ?_); (focus (simp [go_sem]; done))))), by (repeat (first | ((refine heap_alloc_at _ _ _ ?_); (simp [go_sem]; done)) | ((refine (heap_ext _ _ _ _ ?_).trans ?_); (focus (simp [go_sem]; done))) | ((refine (heap_alloc_past _ _ _ ?_).trans ?_); (focus (simp [go_sem]; done))))), by (repeat (first | ((refine heap_alloc_at _ _ _ ?_); (simp [go_sem]; done)) | ((refine (heap_ext _ _ _ _ ?_).trans ?_); (focus (simp [go_sem]; done))) | ((refine (heap_alloc_past _ _ _ ?_).trans ?_); (focus (simp [go_sem]; done))))), by exact bel⟩ ?_
    rintro w2 ⟨h6, h7, h8, h12, hbw⟩
    have HB2 := Lib.hid hbw
    have H62 := Lib.hid h6
    have H72 := Lib.hid h7
    have H82 := Lib.hid h8
    have H122 := Lib.hid h12
    clear h6 h7 h8 h12 hbw
    have hs2 := HB2.out.size
    have l6 := lt_blk H62.out
    have l7 := lt_blk H72.out
    have l8 := lt_blk H82.out
    have l12 := lt_blk H122.out
    obtain ⟨p0, p1, p2, p3, p4⟩ := cells5 H62.out
    obtain ⟨q0, q1, q2, q3, q4, q5, q6⟩ := cells7 H72.out
    obtain ⟨r0, r1, r2⟩ := cells3 H82.out
    obtain ⟨z0, z1, z2, z3, z4, z5, z6⟩ := cells7 H122.out
    have f0 := frees H122.out 0
    have f1 := frees H122.out 1
    have f2 := frees H122.out 2
    have f3 := frees H122.out 3
    have f4 := frees H122.out 4
    have f5 := frees H122.out 5
    have f6 := frees H122.out 6
    have k3 := frees H72.out 3
    go_wp2_with (go_at_call 41; refine (within_f _ _ _ _ HIN.out).mono ?_; rintro e w1 ⟨rfl, rfl⟩)
    refine (as_any st id req cnt tim nak Aa na ca E _ B (by have := HB.out; omega) (HE.out.keep (HB2.out.mono HB.out)) HNA.out hla (fun e he => by have := HDA.out e he; omega)).mono ?_
    rintro x w9 ⟨v, rfl, E9, A9, n9, c9, rfl, he9, hn9, hc9, hb9, ho9⟩
    have HE9 := Lib.hid (show E9.map Ent.o = L from he9.trans HL.out)
    have HO9 := Lib.hid ho9
    have HQ9 := Lib.hid (show Below w2.heap.size w2 w9 from hb9)
    have HB9 := Lib.hid (HB2.out.trans (HQ9.out.mono hs2))
    have H69 := Lib.hid ((HQ9.out.block _ l6).trans H62.out)
    have H79 := Lib.hid ((HQ9.out.block _ l7).trans H72.out)
    have H89 := Lib.hid ((HQ9.out.block _ l8).trans H82.out)
    have H129 := Lib.hid ((HQ9.out.block _ l12).trans H122.out)
    clear p0 p1 p2 p3 p4 q0 q1 q2 q3 q4 q5 q6 r0 r1 r2 z0 z1 z2 z3 z4 z5 z6 f0 f1 f2 f3 f4 f5 f6 k3 l6 l7 l8 l12
    have hs9 := HB9.out.size
    have l6 := lt_blk H69.out
    have l7 := lt_blk H79.out
    have l8 := lt_blk H89.out
    have l12 := lt_blk H129.out
    obtain ⟨p0, p1, p2, p3, p4⟩ := cells5 H69.out
    obtain ⟨q0, q1, q2, q3, q4, q5, q6⟩ := cells7 H79.out
    obtain ⟨r0, r1, r2⟩ := cells3 H89.out
    obtain ⟨z0, z1, z2, z3, z4, z5, z6⟩ := cells7 H129.out
    have f0 := frees H129.out 0
    have f1 := frees H129.out 1
    have f2 := frees H129.out 2
    have f3 := frees H129.out 3
    have f4 := frees H129.out 4
    have f5 := frees H129.out 5
    have f6 := frees H129.out 6
    have k3 := frees H79.out 3
    clear he9 hn9 hc9 hb9 ho9
    dsimp only
    go_wp2_with fail
    obtain ⟨Wf, hWf⟩ : ∃ Wf : World, Wf = (((((((w9.setCell ⟨w.heap.size + 1 + 1 + 1, 0, none⟩ (.int .i64 st)).setCell ⟨w.heap.size + 1 + 1 + 1, 1, none⟩ (.int .i64 id)).setCell ⟨w.heap.size + 1 + 1 + 1, 2, none⟩ (.int .i64 req)).setCell ⟨w.heap.size + 1 + 1 + 1, 3, none⟩ (.slice A9 n9 c9)).setCell ⟨w.heap.size + 1 + 1 + 1, 4, none⟩ (.int .i64 cnt)).setCell ⟨w.heap.size + 1 + 1 + 1, 5, none⟩ (.int .i64 tim)).setCell ⟨w.heap.size + 1 + 1 + 1, 6, none⟩ (.int .i64 nak)) := ⟨_, rfl⟩
    rw [← hWf]
    have hrow : Wf.heap[w.heap.size + 1 + 1 + 1]? = some (.cells #[.int .i64 st, .int .i64 id, .int .i64 req, .slice A9 n9 c9, .int .i64 cnt, .int .i64 tim, .int .i64 nak] 28 (0, 0)) := by rw [hWf]; exact row7 H129.out rfl _ _ _ _ _ _ _
    have hgr : w9.grownBy Wf (some (w.heap.size + 1 + 1 + 1)) := by rw [hWf]; exact grn
    clear hWf
    clear p0 p1 p2 p3 p4 q0 q1 q2 q3 q4 q5 q6 r0 r1 r2 z0 z1 z2 z3 z4 z5 z6 f0 f1 f2 f3 f4 f5 f6 k3 l6 l7 l8 l12
    obtain ⟨u0, u1, u2, u3, u4, u5, u6⟩ := cells7 hrow
    refine bodyPost_ret (v := .tuple #[.agg #[.int .i64 st, .int .i64 id, .int .i64 req, .slice A9 n9 c9, .int .i64 cnt, .int .i64 tim, .int .i64 nak], .slice none 0 0, .slice none 0 0, .bool false]) (by simp [results, Tryz.results19, go_sem, u0, u1, u2, u3, u4, u5, u6]) rfl ?_
    exact ⟨.slice A9 n9 c9, .slice none 0 0, .slice none 0 0, rfl, Below.grown HB9.out hgr hs9 (fun k hk => by cases hk; omega), OptsO.base (OwnOpts.otherx (⟨E9, HO9.out, HE9.out⟩ : OptsO _ _ _ L) hgr H129.out (by decide) (by decide)) hs2, ⟨[], OwnPks.nil _ _, rfl⟩, ActsO.nil _ _⟩
  · have h2 : Cp.encErr ic ii li.length ≠ 0 ∨ fineB ⟨R, mc, mt, mf, wt⟩ ⟨st, id, req, L, cnt, tim, nak⟩ tick = false := by rcases hno with h | h; cases h; exact h
    have HO := Lib.hid (show packO ⟨R, mc, mt, mf, wt⟩ ⟨st, id, req, L, cnt, tim, nak⟩ ⟨ic, ii, li⟩ tick = ((⟨st, id, req, L, cnt, tim, nak⟩, [], []), true) by unfold packO; dsimp only; rw [hib, if_neg (by decide), if_pos h2])
    rw [HO.out]
    obtain ⟨er, her⟩ : ∃ er, Cp.encErr ic ii li.length = er := ⟨_, rfl⟩
    have HEN := Lib.hid her
    rw [her] at h2
    clear hib hno HO her
    by_cases h0 : er = 0
    · have HF := Lib.hid (show fineB ⟨R, mc, mt, mf, wt⟩ ⟨st, id, req, L, cnt, tim, nak⟩ tick = false from h2.resolve_left (fun h => h h0))
      have h0' : (er != 0) = false := by simp [h0]
      clear h0 h2
      go_enter Tryz.func19, Tryz.ntmps19
      go_upto_region 1 with (fail)
      refine wp_w (fun W => W.heap[w.heap.size]? = some (.cells #[.slice Ar nr cr, .int .i64 mc, .int .i64 mt, .int .i64 mf, .int .i64 wt] 24 (0, 0)) ∧ W.heap[w.heap.size + 1]? = some (.cells #[.int .i64 st, .int .i64 id, .int .i64 req, .slice Aa na ca, .int .i64 cnt, .int .i64 tim, .int .i64 nak] 28 (0, 0)) ∧ W.heap[w.heap.size + 1 + 1]? = some (.cells #[.int .i64 ic, .int .i64 ii, .slice Ai ni ci] 32 (0, 0)) ∧ W.heap[w.heap.size + 1 + 1 + 1]? = some (.cells #[.int .i64 0, .int .i64 0, .int .i64 0, .slice none 0 0, .int .i64 0, .int .i64 0, .int .i64 0] 28 (0, 0)) ∧ Below w.heap.size w W) ⟨by (repeat (first | ((refine heap_alloc_at _ _ _ ?_); (simp [go_sem]; done)) | ((refine (heap_ext _ _ _ _ ?_).trans ?_); (focus (simp [go_sem]; done))) | ((refine (heap_alloc_past _ _ _ ?_).trans ?_); (focus (simp [go_sem]; done))))), by (repeat (first | ((refine heap_alloc_at _ _ _ ?_); (simp [go_sem]; done)) | ((refine (heap_ext _ _ _ _ ?_).trans ?_); (focus (simp [go_sem]; done))) | ((refine (heap_alloc_past _ _ _ ?_).trans ?_); (focus (simp [go_sem]; done))))), by (repeat (first | ((refine heap_alloc_at _ _ _ ?_); (simp [go_sem]; done)) | ((refine (heap_ext _ _ _ _ ?_).trans ?_); (focus (simp [go_sem]; done))) | ((refine (heap_alloc_past _ _ _ ?_).trans ?_); (focus (simp [go_sem]; done))))), by (repeat (first | ((refine heap_alloc_at _ _ _ ?_); (simp [go_sem]; done)) | ((refine (heap_ext _ _ _ _ ?_).trans ?_); (focus (simp [go_sem]; done))) | ((refine (heap_alloc_past _ _ _ ?_).trans ?_); (focus (simp [go_sem]; done))))), by exact bel⟩ ?_
      rintro w2 ⟨h6, h7, h8, h12, hbw⟩
      have HB2 := Lib.hid hbw
      have H62 := Lib.hid h6
      have H72 := Lib.hid h7
      have H82 := Lib.hid h8
      have H122 := Lib.hid h12
      clear h6 h7 h8 h12 hbw
      have hs2 := HB2.out.size
      have l6 := lt_blk H62.out
      have l7 := lt_blk H72.out
      have l8 := lt_blk H82.out
      have l12 := lt_blk H122.out
      obtain ⟨p0, p1, p2, p3, p4⟩ := cells5 H62.out
      obtain ⟨q0, q1, q2, q3, q4, q5, q6⟩ := cells7 H72.out
      obtain ⟨r0, r1, r2⟩ := cells3 H82.out
      obtain ⟨z0, z1, z2, z3, z4, z5, z6⟩ := cells7 H122.out
      have f0 := frees H122.out 0
      have f1 := frees H122.out 1
      have f2 := frees H122.out 2
      have f3 := frees H122.out 3
      have f4 := frees H122.out 4
      have f5 := frees H122.out 5
      have f6 := frees H122.out 6
      have k3 := frees H72.out 3
      go_wp2_with (go_at_call 41; refine (within_t _ _ _ _ HIN.out).mono ?_; rintro e w1 ⟨rfl, rfl⟩)
      refine (Cp.enc_any ic ii Ai ni ci li _ B (by have := HB.out; omega) (HI.out.keep (HB2.out.mono HB.out)) HNI.out (by omega)).mono ?_
      unfold Cp.EncP
      rw [HEN.out]
      rintro x w3 ⟨v3, rfl, hb3, -⟩
      have HQ3 := Lib.hid (show Below w2.heap.size w2 w3 from hb3)
      have HB3 := Lib.hid (HB2.out.trans (HQ3.out.mono hs2))
      have H63 := Lib.hid ((HQ3.out.block _ l6).trans H62.out)
      have H73 := Lib.hid ((HQ3.out.block _ l7).trans H72.out)
      have H83 := Lib.hid ((HQ3.out.block _ l8).trans H82.out)
      have H123 := Lib.hid ((HQ3.out.block _ l12).trans H122.out)
      clear p0 p1 p2 p3 p4 q0 q1 q2 q3 q4 q5 q6 r0 r1 r2 z0 z1 z2 z3 z4 z5 z6 f0 f1 f2 f3 f4 f5 f6 k3 l6 l7 l8 l12
      have hs3 := HB3.out.size
      have l6 := lt_blk H63.out
      have l7 := lt_blk H73.out
      have l8 := lt_blk H83.out
      have l12 := lt_blk H123.out
      obtain ⟨p0, p1, p2, p3, p4⟩ := cells5 H63.out
      obtain ⟨q0, q1, q2, q3, q4, q5, q6⟩ := cells7 H73.out
      obtain ⟨r0, r1, r2⟩ := cells3 H83.out
      obtain ⟨z0, z1, z2, z3, z4, z5, z6⟩ := cells7 H123.out
      have f0 := frees H123.out 0
      have f1 := frees H123.out 1
      have f2 := frees H123.out 2
      have f3 := frees H123.out 3
      have f4 := frees H123.out 4
      have f5 := frees H123.out 5
      have f6 := frees H123.out 6
      have k3 := frees H73.out 3
      clear hb3
      go_wp2_with fail
      refine (may_any Ar nr cr R mc mt mf wt st id req cnt tim nak Aa na ca E L HL.out tick _ B (by have := HB.out; omega) (HR.out.keep (HB3.out.mono HB.out)) HNR.out hlr (HE.out.keep (HB3.out.mono HB.out)) HNA.out).mono ?_
      rw [HF.out]
      rintro x w4 ⟨rfl, hb4⟩
      have HQ4 := Lib.hid (show Below w3.heap.size w3 w4 from hb4)
      have HB4 := Lib.hid (HB3.out.trans (HQ4.out.mono hs3))
      have H64 := Lib.hid ((HQ4.out.block _ l6).trans H63.out)
      have H74 := Lib.hid ((HQ4.out.block _ l7).trans H73.out)
      have H84 := Lib.hid ((HQ4.out.block _ l8).trans H83.out)
      have H124 := Lib.hid ((HQ4.out.block _ l12).trans H123.out)
      clear p0 p1 p2 p3 p4 q0 q1 q2 q3 q4 q5 q6 r0 r1 r2 z0 z1 z2 z3 z4 z5 z6 f0 f1 f2 f3 f4 f5 f6 k3 l6 l7 l8 l12
      have hs4 := HB4.out.size
      have l6 := lt_blk H64.out
      have l7 := lt_blk H74.out
      have l8 := lt_blk H84.out
      have l12 := lt_blk H124.out
      obtain ⟨p0, p1, p2, p3, p4⟩ := cells5 H64.out
      obtain ⟨q0, q1, q2, q3, q4, q5, q6⟩ := cells7 H74.out
      obtain ⟨r0, r1, r2⟩ := cells3 H84.out
      obtain ⟨z0, z1, z2, z3, z4, z5, z6⟩ := cells7 H124.out
      have f0 := frees H124.out 0
      have f1 := frees H124.out 1
      have f2 := frees H124.out 2
      have f3 := frees H124.out 3
      have f4 := frees H124.out 4
      have f5 := frees H124.out 5
      have f6 := frees H124.out 6
      have k3 := frees H74.out 3
      clear hb4
      go_wp2_with fail
      refine (as_any st id req cnt tim nak Aa na ca E _ B (by have := HB.out; omega) (HE.out.keep (HB4.out.mono HB.out)) HNA.out hla (fun e he => by have := HDA.out e he; omega)).mono ?_
      rintro x w9 ⟨v, rfl, E9, A9, n9, c9, rfl, he9, hn9, hc9, hb9, ho9⟩
      have HE9 := Lib.hid (show E9.map Ent.o = L from he9.trans HL.out)
      have HO9 := Lib.hid ho9
      have HQ9 := Lib.hid (show Below w4.heap.size w4 w9 from hb9)
      have HB9 := Lib.hid (HB4.out.trans (HQ9.out.mono hs4))
      have H69 := Lib.hid ((HQ9.out.block _ l6).trans H64.out)
      have H79 := Lib.hid ((HQ9.out.block _ l7).trans H74.out)
      have H89 := Lib.hid ((HQ9.out.block _ l8).trans H84.out)
      have H129 := Lib.hid ((HQ9.out.block _ l12).trans H124.out)
      clear p0 p1 p2 p3 p4 q0 q1 q2 q3 q4 q5 q6 r0 r1 r2 z0 z1 z2 z3 z4 z5 z6 f0 f1 f2 f3 f4 f5 f6 k3 l6 l7 l8 l12
      have hs9 := HB9.out.size
      have l6 := lt_blk H69.out
      have l7 := lt_blk H79.out
      have l8 := lt_blk H89.out
      have l12 := lt_blk H129.out
      obtain ⟨p0, p1, p2, p3, p4⟩ := cells5 H69.out
      obtain ⟨q0, q1, q2, q3, q4, q5, q6⟩ := cells7 H79.out
      obtain ⟨r0, r1, r2⟩ := cells3 H89.out
      obtain ⟨z0, z1, z2, z3, z4, z5, z6⟩ := cells7 H129.out
      have f0 := frees H129.out 0
      have f1 := frees H129.out 1
      have f2 := frees H129.out 2
      have f3 := frees H129.out 3
      have f4 := frees H129.out 4
      have f5 := frees H129.out 5
      have f6 := frees H129.out 6
      have k3 := frees H79.out 3
      clear he9 hn9 hc9 hb9 ho9
      dsimp only
      go_wp2_with fail
      obtain ⟨Wf, hWf⟩ : ∃ Wf : World, Wf = (((((((w9.setCell ⟨w.heap.size + 1 + 1 + 1, 0, none⟩ (.int .i64 st)).setCell ⟨w.heap.size + 1 + 1 + 1, 1, none⟩ (.int .i64 id)).setCell ⟨w.heap.size + 1 + 1 + 1, 2, none⟩ (.int .i64 req)).setCell ⟨w.heap.size + 1 + 1 + 1, 3, none⟩ (.slice A9 n9 c9)).setCell ⟨w.heap.size + 1 + 1 + 1, 4, none⟩ (.int .i64 cnt)).setCell ⟨w.heap.size + 1 + 1 + 1, 5, none⟩ (.int .i64 tim)).setCell ⟨w.heap.size + 1 + 1 + 1, 6, none⟩ (.int .i64 nak)) := ⟨_, rfl⟩
      rw [← hWf]
      have hrow : Wf.heap[w.heap.size + 1 + 1 + 1]? = some (.cells #[.int .i64 st, .int .i64 id, .int .i64 req, .slice A9 n9 c9, .int .i64 cnt, .int .i64 tim, .int .i64 nak] 28 (0, 0)) := by rw [hWf]; exact row7 H129.out rfl _ _ _ _ _ _ _
      have hgr : w9.grownBy Wf (some (w.heap.size + 1 + 1 + 1)) := by rw [hWf]; exact grn
      clear hWf
      clear p0 p1 p2 p3 p4 q0 q1 q2 q3 q4 q5 q6 r0 r1 r2 z0 z1 z2 z3 z4 z5 z6 f0 f1 f2 f3 f4 f5 f6 k3 l6 l7 l8 l12
      obtain ⟨u0, u1, u2, u3, u4, u5, u6⟩ := cells7 hrow
      refine bodyPost_ret (v := .tuple #[.agg #[.int .i64 st, .int .i64 id, .int .i64 req, .slice A9 n9 c9, .int .i64 cnt, .int .i64 tim, .int .i64 nak], .slice none 0 0, .slice none 0 0, .bool true]) (by simp [results, Tryz.results19, go_sem, u0, u1, u2, u3, u4, u5, u6]) rfl ?_
      exact ⟨.slice A9 n9 c9, .slice none 0 0, .slice none 0 0, rfl, Below.grown HB9.out hgr hs9 (fun k hk => by cases hk; omega), OptsO.base (OwnOpts.otherx (⟨E9, HO9.out, HE9.out⟩ : OptsO _ _ _ L) hgr H129.out (by decide) (by decide)) hs4, ⟨[], OwnPks.nil _ _, rfl⟩, ActsO.nil _ _⟩
    · have h0' : (er != 0) = true := by simpa using h0
      clear h0 h2
      go_enter Tryz.func19, Tryz.ntmps19
      go_upto_region 1 with (fail)
      refine wp_w (fun W => W.heap[w.heap.size]? = some (.cells #[.slice Ar nr cr, .int .i64 mc, .int .i64 mt, .int .i64 mf, .int .i64 wt] 24 (0, 0)) ∧ W.heap[w.heap.size + 1]? = some (.cells #[.int .i64 st, .int .i64 id, .int .i64 req, .slice Aa na ca, .int .i64 cnt, .int .i64 tim, .int .i64 nak] 28 (0, 0)) ∧ W.heap[w.heap.size + 1 + 1]? = some (.cells #[.int .i64 ic, .int .i64 ii, .slice Ai ni ci] 32 (0, 0)) ∧ W.heap[w.heap.size + 1 + 1 + 1]? = some (.cells #[.int .i64 0, .int .i64 0, .int .i64 0, .slice none 0 0, .int .i64 0, .int .i64 0, .int .i64 0] 28 (0, 0)) ∧ Below w.heap.size w W) ⟨by (repeat (first | ((refine heap_alloc_at _ _ _ ?_); (simp [go_sem]; done)) | ((refine (heap_ext _ _ _ _ ?_).trans ?_); (focus (simp [go_sem]; done))) | ((refine (heap_alloc_past _ _ _ ?_).trans ?_); (focus (simp [go_sem]; done))))), by (repeat (first | ((refine heap_alloc_at _ _ _ ?_); (simp [go_sem]; done)) | ((refine (heap_ext _ _ _ _ ?_).trans ?_); (focus (simp [go_sem]; done))) | ((refine (heap_alloc_past _ _ _ ?_).trans ?_); (focus (simp [go_sem]; done))))), by (repeat (first | ((refine heap_alloc_at _ _ _ ?_); (simp [go_sem]; done)) | ((refine (heap_ext _ _ _ _ ?_).trans ?_); (focus (simp [go_sem]; done))) | ((refine (heap_alloc_past _ _ _ ?_).trans ?_); (focus (simp [go_sem]; done))))), by (repeat (first | ((refine heap_alloc_at _ _ _ ?_); (simp [go_sem]; done)) | ((refine (heap_ext _ _ _ _ ?_).trans ?_); (focus (simp [go_sem]; done))) | ((refine (heap_alloc_past _ _ _ ?_).trans ?_); (focus (simp [go_sem]; done))))), by exact bel⟩ ?_
      rintro w2 ⟨h6, h7, h8, h12, hbw⟩
      have HB2 := Lib.hid hbw
      have H62 := Lib.hid h6
      have H72 := Lib.hid h7
      have H82 := Lib.hid h8
      have H122 := Lib.hid h12
      clear h6 h7 h8 h12 hbw
      have hs2 := HB2.out.size
      have l6 := lt_blk H62.out
      have l7 := lt_blk H72.out
      have l8 := lt_blk H82.out
      have l12 := lt_blk H122.out
      obtain ⟨p0, p1, p2, p3, p4⟩ := cells5 H62.out
      obtain ⟨q0, q1, q2, q3, q4, q5, q6⟩ := cells7 H72.out
      obtain ⟨r0, r1, r2⟩ := cells3 H82.out
      obtain ⟨z0, z1, z2, z3, z4, z5, z6⟩ := cells7 H122.out
      have f0 := frees H122.out 0
      have f1 := frees H122.out 1
      have f2 := frees H122.out 2
      have f3 := frees H122.out 3
      have f4 := frees H122.out 4
      have f5 := frees H122.out 5
      have f6 := frees H122.out 6
      have k3 := frees H72.out 3
      go_wp2_with (go_at_call 41; refine (within_t _ _ _ _ HIN.out).mono ?_; rintro e w1 ⟨rfl, rfl⟩)
      refine (Cp.enc_any ic ii Ai ni ci li _ B (by have := HB.out; omega) (HI.out.keep (HB2.out.mono HB.out)) HNI.out (by omega)).mono ?_
      unfold Cp.EncP
      rw [HEN.out]
      rintro x w3 ⟨v3, rfl, hb3, -⟩
      have HQ3 := Lib.hid (show Below w2.heap.size w2 w3 from hb3)
      have HB3 := Lib.hid (HB2.out.trans (HQ3.out.mono hs2))
      have H63 := Lib.hid ((HQ3.out.block _ l6).trans H62.out)
      have H73 := Lib.hid ((HQ3.out.block _ l7).trans H72.out)
      have H83 := Lib.hid ((HQ3.out.block _ l8).trans H82.out)
      have H123 := Lib.hid ((HQ3.out.block _ l12).trans H122.out)
      clear p0 p1 p2 p3 p4 q0 q1 q2 q3 q4 q5 q6 r0 r1 r2 z0 z1 z2 z3 z4 z5 z6 f0 f1 f2 f3 f4 f5 f6 k3 l6 l7 l8 l12
      have hs3 := HB3.out.size
      have l6 := lt_blk H63.out
      have l7 := lt_blk H73.out
      have l8 := lt_blk H83.out
      have l12 := lt_blk H123.out
      obtain ⟨p0, p1, p2, p3, p4⟩ := cells5 H63.out
      obtain ⟨q0, q1, q2, q3, q4, q5, q6⟩ := cells7 H73.out
      obtain ⟨r0, r1, r2⟩ := cells3 H83.out
      obtain ⟨z0, z1, z2, z3, z4, z5, z6⟩ := cells7 H123.out
      have f0 := frees H123.out 0
      have f1 := frees H123.out 1
      have f2 := frees H123.out 2
      have f3 := frees H123.out 3
      have f4 := frees H123.out 4
      have f5 := frees H123.out 5
      have f6 := frees H123.out 6
      have k3 := frees H73.out 3
      clear hb3
      go_wp2_with fail
      refine (as_any st id req cnt tim nak Aa na ca E _ B (by have := HB.out; omega) (HE.out.keep (HB3.out.mono HB.out)) HNA.out hla (fun e he => by have := HDA.out e he; omega)).mono ?_
      rintro x w9 ⟨v, rfl, E9, A9, n9, c9, rfl, he9, hn9, hc9, hb9, ho9⟩
      have HE9 := Lib.hid (show E9.map Ent.o = L from he9.trans HL.out)
      have HO9 := Lib.hid ho9
      have HQ9 := Lib.hid (show Below w3.heap.size w3 w9 from hb9)
      have HB9 := Lib.hid (HB3.out.trans (HQ9.out.mono hs3))
      have H69 := Lib.hid ((HQ9.out.block _ l6).trans H63.out)
      have H79 := Lib.hid ((HQ9.out.block _ l7).trans H73.out)
      have H89 := Lib.hid ((HQ9.out.block _ l8).trans H83.out)
      have H129 := Lib.hid ((HQ9.out.block _ l12).trans H123.out)
      clear p0 p1 p2 p3 p4 q0 q1 q2 q3 q4 q5 q6 r0 r1 r2 z0 z1 z2 z3 z4 z5 z6 f0 f1 f2 f3 f4 f5 f6 k3 l6 l7 l8 l12
      have hs9 := HB9.out.size
      have l6 := lt_blk H69.out
      have l7 := lt_blk H79.out
      have l8 := lt_blk H89.out
      have l12 := lt_blk H129.out
      obtain ⟨p0, p1, p2, p3, p4⟩ := cells5 H69.out
      obtain ⟨q0, q1, q2, q3, q4, q5, q6⟩ := cells7 H79.out
      obtain ⟨r0, r1, r2⟩ := cells3 H89.out
      obtain ⟨z0, z1, z2, z3, z4, z5, z6⟩ := cells7 H129.out
      have f0 := frees H129.out 0
      have f1 := frees H129.out 1
      have f2 := frees H129.out 2
      have f3 := frees H129.out 3
      have f4 := frees H129.out 4
      have f5 := frees H129.out 5
      have f6 := frees H129.out 6
      have k3 := frees H79.out 3
      clear he9 hn9 hc9 hb9 ho9
      dsimp only
      go_wp2_with fail
      obtain ⟨Wf, hWf⟩ : ∃ Wf : World, Wf = (((((((w9.setCell ⟨w.heap.size + 1 + 1 + 1, 0, none⟩ (.int .i64 st)).setCell ⟨w.heap.size + 1 + 1 + 1, 1, none⟩ (.int .i64 id)).setCell ⟨w.heap.size + 1 + 1 + 1, 2, none⟩ (.int .i64 req)).setCell ⟨w.heap.size + 1 + 1 + 1, 3, none⟩ (.slice A9 n9 c9)).setCell ⟨w.heap.size + 1 + 1 + 1, 4, none⟩ (.int .i64 cnt)).setCell ⟨w.heap.size + 1 + 1 + 1, 5, none⟩ (.int .i64 tim)).setCell ⟨w.heap.size + 1 + 1 + 1, 6, none⟩ (.int .i64 nak)) := ⟨_, rfl⟩
      rw [← hWf]
      have hrow : Wf.heap[w.heap.size + 1 + 1 + 1]? = some (.cells #[.int .i64 st, .int .i64 id, .int .i64 req, .slice A9 n9 c9, .int .i64 cnt, .int .i64 tim, .int .i64 nak] 28 (0, 0)) := by rw [hWf]; exact row7 H129.out rfl _ _ _ _ _ _ _
      have hgr : w9.grownBy Wf (some (w.heap.size + 1 + 1 + 1)) := by rw [hWf]; exact grn
      clear hWf
      clear p0 p1 p2 p3 p4 q0 q1 q2 q3 q4 q5 q6 r0 r1 r2 z0 z1 z2 z3 z4 z5 z6 f0 f1 f2 f3 f4 f5 f6 k3 l6 l7 l8 l12
      obtain ⟨u0, u1, u2, u3, u4, u5, u6⟩ := cells7 hrow
      refine bodyPost_ret (v := .tuple #[.agg #[.int .i64 st, .int .i64 id, .int .i64 req, .slice A9 n9 c9, .int .i64 cnt, .int .i64 tim, .int .i64 nak], .slice none 0 0, .slice none 0 0, .bool true]) (by simp [results, Tryz.results19, go_sem, u0, u1, u2, u3, u4, u5, u6]) rfl ?_
      exact ⟨.slice A9 n9 c9, .slice none 0 0, .slice none 0 0, rfl, Below.grown HB9.out hgr hs9 (fun k hk => by cases hk; omega), OptsO.base (OwnOpts.otherx (⟨E9, HO9.out, HE9.out⟩ : OptsO _ _ _ L) hgr H129.out (by decide) (by decide)) hs3, ⟨[], OwnPks.nil _ _, rfl⟩, ActsO.nil _ _⟩
end Go.Proofs.YthidhfkbfoejbaaGreat
