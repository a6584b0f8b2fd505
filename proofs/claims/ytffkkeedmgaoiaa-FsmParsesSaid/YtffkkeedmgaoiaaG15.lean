/- Up and down in turn. -/
import Derived.Test.YtffkkeedmgaoiaaG14
namespace Go.Proofs.Ytffkkeedmgaoiaa
open Go.RowKit
set_option linter.unusedSimpArgs false
set_option linter.unusedVariables false
theorem walk_gen (s : Int) (A : Option Addr) (n c : Nat) (es : List Int) (w : World) (B : Nat) (hB : B ≤ w.heap.size) (hA : At w B A (es.map av)) (hn : n = es.length) (hl : n ≤ 1000) (en : Int) (l : List Int) (k : Nat) (er : Int) (h : walkF s es = (en, l, k, er)) :
    Calls Try.prog 15 #[.int .i64 s, .slice A n c] w fun x w' => ∃ v, x = .returned (.tuple #[.int .i64 en, v, .int .i64 (k : Nat), .int .i64 er]) ∧ Told w l v w' := by
  refine (walk_any s A n c es w B hB hA hn hl).mono ?_
  intro x w' hx
  unfold WalkP at hx
  rw [h] at hx
  exact hx
theorem scan_at {u : Bool} {l : List Int} {k : Nat} {x : Int} {fin : Bool} (h : scan u (l.drop k) = some fin) (hk : k < l.length) (hx : l.getD k 0 = x) :
    if x = 1 then u = false ∧ scan true (l.drop (k + 1)) = some fin else if x = 2 then u = true ∧ scan false (l.drop (k + 1)) = some fin else scan u (l.drop (k + 1)) = some fin := by
  rw [List.drop_eq_getElem_cons hk] at h
  have e : l[k] = x := by rw [← hx]; simp [List.getD_eq_getElem?_getD, List.getElem?_eq_getElem hk]
  rw [e] at h
  simp only [scan] at h
  split
  · rename_i h1; rw [if_pos h1] at h
    cases u
    · exact ⟨rfl, by simpa using h⟩
    · simp at h
  · rename_i h1; rw [if_neg h1] at h
    split
    · rename_i h2; rw [if_pos h2] at h
      cases u
      · simp at h
      · exact ⟨rfl, by simpa using h⟩
    · rename_i h2; rw [if_neg h2] at h; exact h
set_option maxHeartbeats 4000000 in
theorem fsmBalance_walk (s : Int) (A : Option Addr) (n c : Nat) (es : List Int) (w : World) (hA : At w w.heap.size A (es.map av)) (hn : n = es.length) (hc : n ≤ c) (hm : (n : Int) ≤ 9223372036854775807) : Calls Try.prog 7 #[.int .i64 s, .slice A n c] w fun x w' => x = .returned (.bool true) ∧ Below w.heap.size w w' := by
  obtain ⟨es', he'⟩ : ∃ es', es' = if 60 < n then es.take 60 else es := ⟨_, rfl⟩
  obtain ⟨en, l, kk, er, hw⟩ : ∃ en l kk er, walkF s es' = (en, l, kk, er) := ⟨_, _, _, _, rfl⟩
  have hll : l.length ≤ 3 * es'.length := by have := walkF_le es' s; rw [hw] at this; exact this
  have HW := Lib.hid hw
  by_cases hr : 0 ≤ s ∧ s ≤ 9
  · have HSC := Lib.hid (show scan (s == 9) l = some (en == 9) by have h := scan_walk es' s; have hf : walkF s es' = walkS s es' := by { unfold walkF; rw [if_pos hr] }; rw [← hf, hw] at h; exact h)
    obtain ⟨h0, h9⟩ := hr
    clear hw
    cases hE : (er == 140)
    all_goals
      by_cases h : 60 < n
      · rw [if_pos h] at he'
        have HA := Lib.hid (show At w w.heap.size A (es'.map av) by rw [he', List.map_take]; exact hA.take _)
        have HL := Lib.hid (show 60 = es'.length by rw [he', List.length_take]; omega)
        have HM := Lib.hid (show 60 ≤ 60 by omega)
        have hl2 : l.length ≤ 180 := by have := HL.out; omega
        have hc6 : 60 ≤ c := by omega
        clear hA hn hc he' hll
        go_enter Try.func7, Try.ntmps7
        go_wp2_with fail
        refine (walk_gen s A 60 c es' _ w.heap.size (by simp [go_sem]) (HA.out.keep (by (repeat (first | exact Below.refl _ _ | exact Nat.le_refl _ | (refine below_ext ?_ (by first | (simp [size_ext, grow]; done) | (simp [size_ext, grow]; omega) | omega) _ _) | (refine Below.setCell ?_ (by first | (simp [size_ext, grow]; done) | (simp [size_ext, grow]; omega) | omega) _) | (refine Below.alloc ?_ (by first | (simp [size_ext, grow]; done) | (simp [size_ext, grow]; omega) | omega) _) | refine Below.drew ?_ | refine below_drewN ?_ _ | (refine Below.trans ?_ (Below.mono (by assumption) (by first | (simp [size_ext, grow]; done) | (simp [size_ext, grow]; omega) | omega))))))) HL.out (by have := HM.out; omega) en l kk er HW.out).mono ?_; rintro e' w1 ⟨v, rfl, hb, ho⟩; obtain ⟨xs1, d1, rfl⟩ := ext_of hb; clear hb; obtain ⟨A1, c1, rfl, -, -⟩ := ownsRow_form ho; have HO1 := Lib.hid ho; clear ho
        go_wp2_with fail
        go_loop [9, 10] (fun b i => ∃ (k : Nat) (u : Bool), k ≤ l.length ∧ i = .int .i64 k ∧ b = .bool u ∧ scan u (l.drop k) = some (en == 9)) (fun _ i => l.length - (intOf i).toNat)
        case atStart => exact ⟨0, _, Nat.zero_le _, rfl, rfl, HSC.out⟩
        case round =>
          obtain ⟨k, u, hk, rfl, rfl, hs⟩ := hrel
          have HS := Lib.hid hs
          clear hs
          by_cases hlt : k < l.length
          · have hA1 := At.of_own HO1.out
            obtain ⟨b, o, rfl, -⟩ := hA1.cellAt hlt
            obtain ⟨x, hx, hc⟩ := hA1.readAt hlt
            clear hA1
            have HX := Lib.hid (scan_at HS.out hlt hx)
            clear hx
            by_cases e1 : x = 1
            · subst e1
              have hq := HX.out
              rw [if_pos rfl] at hq
              obtain ⟨rfl, hq2⟩ := hq
              have HQ := Lib.hid hq2
              clear hq2
              go_wp2
              go_round
              case rel => exact ⟨k + 1, true, by omega, by go_num, rfl, HQ.out⟩
              case measure => simp [intOf]; omega
            · by_cases e2 : x = 2
              · subst e2
                have hq := HX.out
                rw [if_neg (by decide), if_pos rfl] at hq
                obtain ⟨rfl, hq2⟩ := hq
                have HQ := Lib.hid hq2
                clear hq2
                go_wp2
                go_round
                case rel => exact ⟨k + 1, false, by omega, by go_num, rfl, HQ.out⟩
                case measure => simp [intOf]; omega
              · have HQ : Hid (scan u (l.drop (k + 1)) = some (en == 9)) := Lib.hid (by have hq := HX.out; rw [if_neg e1, if_neg e2] at hq; exact hq)
                have f1 : (x == 1) = false := by simpa using e1
                have f2 : (x == 2) = false := by simpa using e2
                clear e1 e2
                go_wp2
                go_round
                case rel => exact ⟨k + 1, u, by omega, by go_num, rfl, HQ.out⟩
                case measure => simp [intOf]; omega
          · have hu : u = (en == 9) := by have := HS.out; rw [List.drop_eq_nil_of_le (by omega)] at this; simpa [scan] using this
            subst hu
            go_wp2_with (go_at_call 14; refine (awake_any _).mono ?_; rintro e w1 ⟨rfl, hb⟩; obtain ⟨xs, d, rfl⟩ := ext_of hb; clear hb)
            go_ret
            exact ⟨rfl, by (repeat (first | exact Below.refl _ _ | exact Nat.le_refl _ | (refine below_ext ?_ (by first | (simp [size_ext, grow]; done) | (simp [size_ext, grow]; omega) | omega) _ _) | (refine Below.setCell ?_ (by first | (simp [size_ext, grow]; done) | (simp [size_ext, grow]; omega) | omega) _) | (refine Below.alloc ?_ (by first | (simp [size_ext, grow]; done) | (simp [size_ext, grow]; omega) | omega) _) | refine Below.drew ?_ | refine below_drewN ?_ _ | (refine Below.trans ?_ (Below.mono (by assumption) (by first | (simp [size_ext, grow]; done) | (simp [size_ext, grow]; omega) | omega)))))⟩
      · rw [if_neg h] at he'
        subst he'
        have HA := Lib.hid hA
        have HL := Lib.hid hn
        have HM := Lib.hid (show n ≤ 60 by omega)
        have hl2 : l.length ≤ 180 := by omega
        clear hA hn hc hll
        go_enter Try.func7, Try.ntmps7
        go_wp2_with fail
        refine (walk_gen s A n c es' _ w.heap.size (by simp [go_sem]) (HA.out.keep (by (repeat (first | exact Below.refl _ _ | exact Nat.le_refl _ | (refine below_ext ?_ (by first | (simp [size_ext, grow]; done) | (simp [size_ext, grow]; omega) | omega) _ _) | (refine Below.setCell ?_ (by first | (simp [size_ext, grow]; done) | (simp [size_ext, grow]; omega) | omega) _) | (refine Below.alloc ?_ (by first | (simp [size_ext, grow]; done) | (simp [size_ext, grow]; omega) | omega) _) | refine Below.drew ?_ | refine below_drewN ?_ _ | (refine Below.trans ?_ (Below.mono (by assumption) (by first | (simp [size_ext, grow]; done) | (simp [size_ext, grow]; omega) | omega))))))) HL.out (by have := HM.out; omega) en l kk er HW.out).mono ?_; rintro e' w1 ⟨v, rfl, hb, ho⟩; obtain ⟨xs1, d1, rfl⟩ := ext_of hb; clear hb; obtain ⟨A1, c1, rfl, -, -⟩ := ownsRow_form ho; have HO1 := Lib.hid ho; clear ho
        go_wp2_with fail
        go_loop [9, 10] (fun b i => ∃ (k : Nat) (u : Bool), k ≤ l.length ∧ i = .int .i64 k ∧ b = .bool u ∧ scan u (l.drop k) = some (en == 9)) (fun _ i => l.length - (intOf i).toNat)
        case atStart => exact ⟨0, _, Nat.zero_le _, rfl, rfl, HSC.out⟩
        case round =>
          obtain ⟨k, u, hk, rfl, rfl, hs⟩ := hrel
          have HS := Lib.hid hs
          clear hs
          by_cases hlt : k < l.length
          · have hA1 := At.of_own HO1.out
            obtain ⟨b, o, rfl, -⟩ := hA1.cellAt hlt
            obtain ⟨x, hx, hc⟩ := hA1.readAt hlt
            clear hA1
            have HX := Lib.hid (scan_at HS.out hlt hx)
            clear hx
            by_cases e1 : x = 1
            · subst e1
              have hq := HX.out
              rw [if_pos rfl] at hq
              obtain ⟨rfl, hq2⟩ := hq
              have HQ := Lib.hid hq2
              clear hq2
              go_wp2
              go_round
              case rel => exact ⟨k + 1, true, by omega, by go_num, rfl, HQ.out⟩
              case measure => simp [intOf]; omega
            · by_cases e2 : x = 2
              · subst e2
                have hq := HX.out
                rw [if_neg (by decide), if_pos rfl] at hq
                obtain ⟨rfl, hq2⟩ := hq
                have HQ := Lib.hid hq2
                clear hq2
                go_wp2
                go_round
                case rel => exact ⟨k + 1, false, by omega, by go_num, rfl, HQ.out⟩
                case measure => simp [intOf]; omega
              · have HQ : Hid (scan u (l.drop (k + 1)) = some (en == 9)) := Lib.hid (by have hq := HX.out; rw [if_neg e1, if_neg e2] at hq; exact hq)
                have f1 : (x == 1) = false := by simpa using e1
                have f2 : (x == 2) = false := by simpa using e2
                clear e1 e2
                go_wp2
                go_round
                case rel => exact ⟨k + 1, u, by omega, by go_num, rfl, HQ.out⟩
                case measure => simp [intOf]; omega
          · have hu : u = (en == 9) := by have := HS.out; rw [List.drop_eq_nil_of_le (by omega)] at this; simpa [scan] using this
            subst hu
            go_wp2_with (go_at_call 14; refine (awake_any _).mono ?_; rintro e w1 ⟨rfl, hb⟩; obtain ⟨xs, d, rfl⟩ := ext_of hb; clear hb)
            go_ret
            exact ⟨rfl, by (repeat (first | exact Below.refl _ _ | exact Nat.le_refl _ | (refine below_ext ?_ (by first | (simp [size_ext, grow]; done) | (simp [size_ext, grow]; omega) | omega) _ _) | (refine Below.setCell ?_ (by first | (simp [size_ext, grow]; done) | (simp [size_ext, grow]; omega) | omega) _) | (refine Below.alloc ?_ (by first | (simp [size_ext, grow]; done) | (simp [size_ext, grow]; omega) | omega) _) | refine Below.drew ?_ | refine below_drewN ?_ _ | (refine Below.trans ?_ (Below.mono (by assumption) (by first | (simp [size_ext, grow]; done) | (simp [size_ext, grow]; omega) | omega)))))⟩
  · have hE : walkF s es' = (0, [], 0, 140) := by unfold walkF; rw [if_neg hr]
    rw [hE] at hw
    simp only [Prod.mk.injEq] at hw
    obtain ⟨rfl, rfl, rfl, rfl⟩ := hw
    have hs : s < 0 ∨ 9 < s := by omega
    clear hr hE hll
    by_cases h : 60 < n
    · rw [if_pos h] at he'
      have HA := Lib.hid (show At w w.heap.size A (es'.map av) by rw [he', List.map_take]; exact hA.take _)
      have HL := Lib.hid (show 60 = es'.length by rw [he', List.length_take]; omega)
      have hc6 : 60 ≤ c := by omega
      clear hA hn hc he'
      rcases hs with hs | hs
      all_goals
        go_enter Try.func7, Try.ntmps7
        go_wp2_with fail
        refine (walk_gen s A 60 c es' _ w.heap.size (by simp [go_sem]) (HA.out.keep (by (repeat (first | exact Below.refl _ _ | exact Nat.le_refl _ | (refine below_ext ?_ (by first | (simp [size_ext, grow]; done) | (simp [size_ext, grow]; omega) | omega) _ _) | (refine Below.setCell ?_ (by first | (simp [size_ext, grow]; done) | (simp [size_ext, grow]; omega) | omega) _) | (refine Below.alloc ?_ (by first | (simp [size_ext, grow]; done) | (simp [size_ext, grow]; omega) | omega) _) | refine Below.drew ?_ | refine below_drewN ?_ _ | (refine Below.trans ?_ (Below.mono (by assumption) (by first | (simp [size_ext, grow]; done) | (simp [size_ext, grow]; omega) | omega))))))) HL.out (by decide) 0 [] 0 140 HW.out).mono ?_; rintro e' w1 ⟨v, rfl, hb, ho⟩; obtain ⟨xs1, d1, rfl⟩ := ext_of hb; clear hb; obtain ⟨A1, c1, rfl, -, -⟩ := ownsRow_form ho; have HO1 := Lib.hid ho; clear ho
        go_wp2_with (go_at_call 14; refine (awake_any _).mono ?_; rintro e w1 ⟨rfl, hb⟩; obtain ⟨xs, d, rfl⟩ := ext_of hb; clear hb)
        go_ret
        exact ⟨rfl, by (repeat (first | exact Below.refl _ _ | exact Nat.le_refl _ | (refine below_ext ?_ (by first | (simp [size_ext, grow]; done) | (simp [size_ext, grow]; omega) | omega) _ _) | (refine Below.setCell ?_ (by first | (simp [size_ext, grow]; done) | (simp [size_ext, grow]; omega) | omega) _) | (refine Below.alloc ?_ (by first | (simp [size_ext, grow]; done) | (simp [size_ext, grow]; omega) | omega) _) | refine Below.drew ?_ | refine below_drewN ?_ _ | (refine Below.trans ?_ (Below.mono (by assumption) (by first | (simp [size_ext, grow]; done) | (simp [size_ext, grow]; omega) | omega)))))⟩
    · rw [if_neg h] at he'
      subst he'
      have HA := Lib.hid hA
      have HL := Lib.hid hn
      have HM := Lib.hid (show n ≤ 60 by omega)
      clear hA hn hc
      rcases hs with hs | hs
      all_goals
        go_enter Try.func7, Try.ntmps7
        go_wp2_with fail
        refine (walk_gen s A n c es' _ w.heap.size (by simp [go_sem]) (HA.out.keep (by (repeat (first | exact Below.refl _ _ | exact Nat.le_refl _ | (refine below_ext ?_ (by first | (simp [size_ext, grow]; done) | (simp [size_ext, grow]; omega) | omega) _ _) | (refine Below.setCell ?_ (by first | (simp [size_ext, grow]; done) | (simp [size_ext, grow]; omega) | omega) _) | (refine Below.alloc ?_ (by first | (simp [size_ext, grow]; done) | (simp [size_ext, grow]; omega) | omega) _) | refine Below.drew ?_ | refine below_drewN ?_ _ | (refine Below.trans ?_ (Below.mono (by assumption) (by first | (simp [size_ext, grow]; done) | (simp [size_ext, grow]; omega) | omega))))))) HL.out (by have := HM.out; omega) 0 [] 0 140 HW.out).mono ?_; rintro e' w1 ⟨v, rfl, hb, ho⟩; obtain ⟨xs1, d1, rfl⟩ := ext_of hb; clear hb; obtain ⟨A1, c1, rfl, -, -⟩ := ownsRow_form ho; have HO1 := Lib.hid ho; clear ho
        go_wp2_with (go_at_call 14; refine (awake_any _).mono ?_; rintro e w1 ⟨rfl, hb⟩; obtain ⟨xs, d, rfl⟩ := ext_of hb; clear hb)
        go_ret
        exact ⟨rfl, by (repeat (first | exact Below.refl _ _ | exact Nat.le_refl _ | (refine below_ext ?_ (by first | (simp [size_ext, grow]; done) | (simp [size_ext, grow]; omega) | omega) _ _) | (refine Below.setCell ?_ (by first | (simp [size_ext, grow]; done) | (simp [size_ext, grow]; omega) | omega) _) | (refine Below.alloc ?_ (by first | (simp [size_ext, grow]; done) | (simp [size_ext, grow]; omega) | omega) _) | refine Below.drew ?_ | refine below_drewN ?_ _ | (refine Below.trans ?_ (Below.mono (by assumption) (by first | (simp [size_ext, grow]; done) | (simp [size_ext, grow]; omega) | omega)))))⟩
end Go.Proofs.Ytffkkeedmgaoiaa
