/- An action, in plain words, and the program's. -/
import Derived.Test.YthidhfkbfoejbaaGreatQ10
namespace Go.Proofs.YthidhfkbfoejbaaGreat
open Go.RowKit
set_option linter.unusedSimpArgs false
set_option linter.unusedVariables false
set_option linter.ambiguousOpen false
open Ne (Rl Opt RulesAt areB)
open Fs (av hasB)
/-- What an action makes of an automaton, and what goes out. -/
def actO (c : Cf) (inn ans : Pk) (tick : Int) (acts : List Int) (a : Au) (x : Int) : Au × List Pk :=
  if x = 5 then ({ a with cnt := if hasB acts 10 = true then c.mt else c.mc }, [])
  else if x = 6 then ({ a with cnt := 0, tim := tick + c.wt }, [])
  else if x = 7 then ({ a with id := nxt a.id, req := nxt a.id, cnt := dec a.cnt, tim := tick + c.wt }, [⟨1, nxt a.id, (Op.encR a.ask).1⟩])
  else if x = 8 then ({ a with nak := 0 }, [ans])
  else if x = 9 then ({ a with nak := if ans.code = 3 then (if a.nak < 1000 then a.nak + 1 else a.nak) else a.nak }, [ans])
  else if x = 10 then ({ a with id := nxt a.id, cnt := dec a.cnt, tim := tick + c.wt }, [⟨5, nxt a.id, []⟩])
  else if x = 11 then (a, [⟨6, inn.id, []⟩])
  else if x = 12 then ({ a with id := nxt a.id }, rejO inn.code inn.id inn.data (nxt a.id))
  else if x = 13 then (a, [ans])
  else (a, [])
def rm (c : Cf) (a : Au) (inn ans : Pk) (tick : Int) (vr va vi vn vd vo : Value) : Rm :=
  ⟨vr, c.mc, c.mt, c.mf, c.wt, a.st, a.id, a.req, va, a.cnt, a.tim, a.nak, inn.code, inn.id, vi, ans.code, ans.id, vn, tick, vd, vo⟩
/-- Numbers within their bounds. -/
structure NumOk (c : Cf) (a : Au) (tick : Int) : Prop where
  t0 : 0 ≤ tick
  t1 : tick ≤ 1099511627776
  w0 : 1 ≤ c.wt
  w1 : c.wt ≤ 1048576
  m0 : 1 ≤ c.mc
  m1 : c.mc ≤ 1000
  n0 : 1 ≤ c.mt
  n1 : c.mt ≤ 1000
  c0 : 0 ≤ a.cnt
  c1 : a.cnt ≤ 1000
  i0 : 0 ≤ a.id
  i1 : a.id ≤ 255
  r0 : 0 ≤ a.req
  r1 : a.req ≤ 255
  k0 : 0 ≤ a.nak
  k1 : a.nak ≤ 1000
theorem NumOk.act {c : Cf} {a : Au} {tick : Int} (h : NumOk c a tick) (inn ans : Pk) (acts : List Int) (x : Int) : NumOk c (actO c inn ans tick acts a x).1 tick := by
  have hj := nxt_in a.id
  obtain ⟨t0, t1, w0, w1, m0, m1, n0, n1, c0, c1, i0, i1, r0, r1, k0, k1⟩ := h
  have hd : 0 ≤ dec a.cnt ∧ dec a.cnt ≤ 1000 := by unfold dec; split <;> omega
  unfold actO
  repeat' split
  all_goals (constructor <;> (try dsimp only) <;> (try split) <;> first | assumption | omega)
theorem act_ask (c : Cf) (inn ans : Pk) (tick : Int) (acts : List Int) (a : Au) (x : Int) : (actO c inn ans tick acts a x).1.ask = a.ask := by
  unfold actO
  repeat' split
  all_goals rfl
theorem act_out (c : Cf) (inn ans : Pk) (tick : Int) (acts : List Int) (a : Au) (x : Int) : (actO c inn ans tick acts a x).2.length ≤ 1 := by
  unfold actO rejO
  repeat' split
  all_goals (first | exact Nat.le_refl _ | (simp; done) | omega)
def wayF (x : Int) : Nat := if x = 5 then 96 else if x = 6 then 97 else if x = 7 then 98 else if x = 8 then 99 else if x = 9 then 100 else if x = 10 then 101 else if x = 11 then 102 else if x = 12 then 103 else if x = 13 then 104 else 105
set_option maxHeartbeats 1000000 in
theorem way_any (x : Int) (w : World) : Calls Tryz.prog 59 #[.int .i64 x] w fun e w' => e = .returned (.func (.func (wayF x)) #[] #[]) ∧ w = w' := by
  have hx : x = 5 ∨ x = 6 ∨ x = 7 ∨ x = 8 ∨ x = 9 ∨ x = 10 ∨ x = 11 ∨ x = 12 ∨ x = 13 ∨ (x ≠ 5 ∧ x ≠ 6 ∧ x ≠ 7 ∧ x ≠ 8 ∧ x ≠ 9 ∧ x ≠ 10 ∧ x ≠ 11 ∧ x ≠ 12 ∧ x ≠ 13) := by omega
  rcases hx with rfl | rfl | rfl | rfl | rfl | rfl | rfl | rfl | rfl | ⟨h5, h6, h7, h8, h9, h10, h11, h12, h13⟩
  iterate 9
    · go_enter Tryz.func59, Tryz.ntmps59
      go_wp2_with fail
      go_ret
      exact ⟨rfl, rfl⟩
  · have HW := Lib.hid (show wayF x = 105 by simp [wayF, h5, h6, h7, h8, h9, h10, h11, h12, h13])
    rw [HW.out]
    have e5 : (x == 5) = false := by simpa using h5
    have e6 : (x == 6) = false := by simpa using h6
    have e7 : (x == 7) = false := by simpa using h7
    have e8 : (x == 8) = false := by simpa using h8
    have e9 : (x == 9) = false := by simpa using h9
    have e10 : (x == 10) = false := by simpa using h10
    have e11 : (x == 11) = false := by simpa using h11
    have e12 : (x == 12) = false := by simpa using h12
    have e13 : (x == 13) = false := by simpa using h13
    clear h5 h6 h7 h8 h9 h10 h11 h12 h13
    go_enter Tryz.func59, Tryz.ntmps59
    go_wp2_with fail
    go_ret
    exact ⟨rfl, rfl⟩
set_option maxRecDepth 100000 in
set_option maxHeartbeats 2000000 in
theorem act_any (b : Nat) (c : Cf) (a : Au) (inn ans : Pk) (tick : Int) (vr va vi vn vd vo : Value) (acts : List Int) (out : List Pk) (x : Int) (w : World) (h : RunI w b (rm c a inn ans tick vr va vi vn vd vo) a.ask inn.data ans.data acts out) (hlo : out.length ≤ 999) (hla : acts.length ≤ 1000) (hk : NumOk c a tick) :
    Calls Tryz.prog 32 #[.pointer (some ⟨b, 0, none⟩), .int .i64 x] w (ActP b (rm c (actO c inn ans tick acts a x).1 inn ans tick vr va vi vn vd vo) a.ask inn.data ans.data acts (out ++ (actO c inn ans tick acts a x).2) w) := by
  have H := Lib.hid h
  have HK := Lib.hid hk
  clear h hk
  have hx : x = 5 ∨ x = 6 ∨ x = 7 ∨ x = 8 ∨ x = 9 ∨ x = 10 ∨ x = 11 ∨ x = 12 ∨ x = 13 ∨ (x ≠ 5 ∧ x ≠ 6 ∧ x ≠ 7 ∧ x ≠ 8 ∧ x ≠ 9 ∧ x ≠ 10 ∧ x ≠ 11 ∧ x ≠ 12 ∧ x ≠ 13) := by omega
  rcases hx with rfl | rfl | rfl | rfl | rfl | rfl | rfl | rfl | rfl | ⟨h5, h6, h7, h8, h9, h10, h11, h12, h13⟩
  · show Calls _ _ _ _ (ActP b { rm c a inn ans tick vr va vi vn vd vo with cnt := if hasB acts 10 = true then c.mt else c.mc } a.ask inn.data ans.data acts (out ++ []) w)
    rw [List.append_nil]
    obtain ⟨cn, hcn⟩ : ∃ cn, (if hasB acts 10 = true then c.mt else c.mc) = cn := ⟨_, rfl⟩
    have HBG := Lib.hid (show Calls Tryz.prog 96 #[.pointer (some ⟨b, 0, none⟩)] w (ActP b { rm c a inn ans tick vr va vi vn vd vo with cnt := cn } a.ask inn.data ans.data acts out w) by rw [← hcn]; exact begin_any b _ _ _ _ _ _ w H.out hla)
    rw [hcn]
    clear hcn
    go_enter Tryz.func32, Tryz.ntmps32
    go_wp2_with fail
    refine (way_any 5 w).mono ?_
    rintro e w1 ⟨rfl, rfl⟩
    go_wp2_with fail
    refine (HBG.out).mono ?_
    rintro e w1 ⟨rfl, hb1, vo1, hi1⟩
    have HB1 := Lib.hid hb1
    have HI1 := Lib.hid hi1
    clear hb1 hi1
    go_wp2_with fail
    exact bodyPost_end (v := .tuple #[]) (by simp [results, Tryz.results32, go_sem]) rfl ⟨rfl, HB1.out, vo1, HI1.out⟩
  · show Calls _ _ _ _ (ActP b { rm c a inn ans tick vr va vi vn vd vo with cnt := 0, tim := tick + c.wt } a.ask inn.data ans.data acts (out ++ []) w)
    rw [List.append_nil]
    go_enter Tryz.func32, Tryz.ntmps32
    go_wp2_with fail
    refine (way_any 6 w).mono ?_
    rintro e w1 ⟨rfl, rfl⟩
    go_wp2_with fail
    refine ((zero_any b _ w H.out.run HK.out.t0 HK.out.t1 HK.out.w0 HK.out.w1).mono (fun _ _ hq => NumP.act hq H.out rfl rfl rfl rfl rfl)).mono ?_
    rintro e w1 ⟨rfl, hb1, vo1, hi1⟩
    have HB1 := Lib.hid hb1
    have HI1 := Lib.hid hi1
    clear hb1 hi1
    go_wp2_with fail
    exact bodyPost_end (v := .tuple #[]) (by simp [results, Tryz.results32, go_sem]) rfl ⟨rfl, HB1.out, vo1, HI1.out⟩
  · go_enter Tryz.func32, Tryz.ntmps32
    go_wp2_with fail
    refine (way_any 7 w).mono ?_
    rintro e w1 ⟨rfl, rfl⟩
    go_wp2_with fail
    refine (ask_any b _ _ _ _ _ _ w H.out hlo HK.out.t0 HK.out.t1 HK.out.w0 HK.out.w1 HK.out.c0 HK.out.c1 HK.out.i0 HK.out.i1).mono ?_
    rintro e w1 ⟨rfl, hb1, vo1, hi1⟩
    have HB1 := Lib.hid hb1
    have HI1 := Lib.hid hi1
    clear hb1 hi1
    go_wp2_with fail
    exact bodyPost_end (v := .tuple #[]) (by simp [results, Tryz.results32, go_sem]) rfl ⟨rfl, HB1.out, vo1, HI1.out⟩
  · go_enter Tryz.func32, Tryz.ntmps32
    go_wp2_with fail
    refine (way_any 8 w).mono ?_
    rintro e w1 ⟨rfl, rfl⟩
    go_wp2_with fail
    refine (ack_any b _ _ _ _ _ _ w H.out hlo).mono ?_
    rintro e w1 ⟨rfl, hb1, vo1, hi1⟩
    have HB1 := Lib.hid hb1
    have HI1 := Lib.hid hi1
    clear hb1 hi1
    go_wp2_with fail
    exact bodyPost_end (v := .tuple #[]) (by simp [results, Tryz.results32, go_sem]) rfl ⟨rfl, HB1.out, vo1, HI1.out⟩
  · go_enter Tryz.func32, Tryz.ntmps32
    go_wp2_with fail
    refine (way_any 9 w).mono ?_
    rintro e w1 ⟨rfl, rfl⟩
    go_wp2_with fail
    refine (nak_any b _ _ _ _ _ _ w H.out hlo HK.out.k0 HK.out.k1).mono ?_
    rintro e w1 ⟨rfl, hb1, vo1, hi1⟩
    have HB1 := Lib.hid hb1
    have HI1 := Lib.hid hi1
    clear hb1 hi1
    go_wp2_with fail
    exact bodyPost_end (v := .tuple #[]) (by simp [results, Tryz.results32, go_sem]) rfl ⟨rfl, HB1.out, vo1, HI1.out⟩
  · go_enter Tryz.func32, Tryz.ntmps32
    go_wp2_with fail
    refine (way_any 10 w).mono ?_
    rintro e w1 ⟨rfl, rfl⟩
    go_wp2_with fail
    refine (end_any b _ _ _ _ _ _ w H.out hlo HK.out.t0 HK.out.t1 HK.out.w0 HK.out.w1 HK.out.c0 HK.out.c1 HK.out.i0 HK.out.i1).mono ?_
    rintro e w1 ⟨rfl, hb1, vo1, hi1⟩
    have HB1 := Lib.hid hb1
    have HI1 := Lib.hid hi1
    clear hb1 hi1
    go_wp2_with fail
    exact bodyPost_end (v := .tuple #[]) (by simp [results, Tryz.results32, go_sem]) rfl ⟨rfl, HB1.out, vo1, HI1.out⟩
  · go_enter Tryz.func32, Tryz.ntmps32
    go_wp2_with fail
    refine (way_any 11 w).mono ?_
    rintro e w1 ⟨rfl, rfl⟩
    go_wp2_with fail
    refine (ended_any b _ _ _ _ _ _ w H.out hlo).mono ?_
    rintro e w1 ⟨rfl, hb1, vo1, hi1⟩
    have HB1 := Lib.hid hb1
    have HI1 := Lib.hid hi1
    clear hb1 hi1
    go_wp2_with fail
    exact bodyPost_end (v := .tuple #[]) (by simp [results, Tryz.results32, go_sem]) rfl ⟨rfl, HB1.out, vo1, HI1.out⟩
  · go_enter Tryz.func32, Tryz.ntmps32
    go_wp2_with fail
    refine (way_any 12 w).mono ?_
    rintro e w1 ⟨rfl, rfl⟩
    go_wp2_with fail
    refine (strange_any b _ _ _ _ _ _ w H.out hlo HK.out.i0 HK.out.i1).mono ?_
    rintro e w1 ⟨rfl, hb1, vo1, hi1⟩
    have HB1 := Lib.hid hb1
    have HI1 := Lib.hid hi1
    clear hb1 hi1
    go_wp2_with fail
    exact bodyPost_end (v := .tuple #[]) (by simp [results, Tryz.results32, go_sem]) rfl ⟨rfl, HB1.out, vo1, HI1.out⟩
  · go_enter Tryz.func32, Tryz.ntmps32
    go_wp2_with fail
    refine (way_any 13 w).mono ?_
    rintro e w1 ⟨rfl, rfl⟩
    go_wp2_with fail
    refine (echo_any b _ _ _ _ _ _ w H.out hlo).mono ?_
    rintro e w1 ⟨rfl, hb1, vo1, hi1⟩
    have HB1 := Lib.hid hb1
    have HI1 := Lib.hid hi1
    clear hb1 hi1
    go_wp2_with fail
    exact bodyPost_end (v := .tuple #[]) (by simp [results, Tryz.results32, go_sem]) rfl ⟨rfl, HB1.out, vo1, HI1.out⟩
  · have HW := Lib.hid (show wayF x = 105 by simp [wayF, h5, h6, h7, h8, h9, h10, h11, h12, h13])
    have HO := Lib.hid (show actO c inn ans tick acts a x = (a, []) by simp [actO, h5, h6, h7, h8, h9, h10, h11, h12, h13])
    rw [HO.out]
    dsimp only
    rw [List.append_nil]
    clear h5 h6 h7 h8 h9 h10 h11 h12 h13
    go_enter Tryz.func32, Tryz.ntmps32
    go_wp2_with fail
    refine (way_any x w).mono ?_
    rw [HW.out]
    rintro e w1 ⟨rfl, rfl⟩
    go_wp2_with fail
    refine ((nothing_any b _ w H.out.run).mono (fun _ _ hq => NumP.act hq H.out rfl rfl rfl rfl rfl)).mono ?_
    rintro e w1 ⟨rfl, hb1, vo1, hi1⟩
    have HB1 := Lib.hid hb1
    have HI1 := Lib.hid hi1
    clear hb1 hi1
    go_wp2_with fail
    exact bodyPost_end (v := .tuple #[]) (by simp [results, Tryz.results32, go_sem]) rfl ⟨rfl, HB1.out, vo1, HI1.out⟩
end Go.Proofs.YthidhfkbfoejbaaGreat
