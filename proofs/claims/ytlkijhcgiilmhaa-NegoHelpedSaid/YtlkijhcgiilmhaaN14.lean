/- Which rules may be. -/
import Derived.Test.YtlkijhcgiilmhaaN13
namespace Go.Proofs.Ytlkijhcgiilmhaa
open Go.RowKit
set_option linter.unusedSimpArgs false
set_option linter.unusedVariables false
def lim (sz : Int) : Int := 256 ^ sz.toNat
def inL (n m : Int) : Bool := decide (0 ≤ n) && decide (n < m)
def preB (t sz kd : Int) : Bool := decide (1 ≤ t) && decide (t ≤ 255) && decide (0 ≤ sz) && decide (sz ≤ 4) && !(sz == 0 && kd != 1)
def okB (t sz kd lo hi gd : Int) : Bool := preB t sz kd && (inL lo (lim sz) && (inL hi (lim sz) && (inL gd (lim sz) && ((kd != 2 || decide (lo ≤ hi)) && takesB kd lo hi gd gd))))
def Rl.ok (r : Rl) : Bool := okB r.t r.sz r.kd r.lo r.hi r.gd
theorem takes_unknown {kd lo hi gd n : Int} (h : kindB kd = false) : takesB kd lo hi gd n = false := by
  simp [kindB] at h
  unfold takesB
  rw [if_neg (by omega), if_neg (by omega), if_neg (by omega), if_neg (by omega)]
theorem may_pre (t sz kd lo hi gd : Int) (m : Bool) (w : World) (h : preB t sz kd = false) : Calls Try.prog 30 #[.agg #[.int .i64 t, .int .i64 sz, .int .i64 kd, .int .i64 lo, .int .i64 hi, .int .i64 gd, .bool m]] w fun x w' => x = .returned (.bool (okB t sz kd lo hi gd)) ∧ Below w.heap.size w w' := by
  have HR := Lib.hid (show okB t sz kd lo hi gd = false by unfold okB; rw [h]; rfl)
  have HP := Lib.hid h
  clear h
  by_cases c1 : t < 1
  · go_enter Try.func30, Try.ntmps30
    go_wp2
    go_ret
    exact ⟨by rw [HR.out]; rfl, by exact bel⟩
  · have f1 : decide (t < 1) = false := by simpa using c1
    by_cases c2 : 255 < t
    · go_enter Try.func30, Try.ntmps30
      go_wp2
      go_ret
      exact ⟨by rw [HR.out]; rfl, by exact bel⟩
    · have f2 : decide (255 < t) = false := by simpa using c2
      by_cases c3 : sz < 0
      · go_enter Try.func30, Try.ntmps30
        go_wp2
        go_ret
        exact ⟨by rw [HR.out]; rfl, by exact bel⟩
      · have f3 : decide (sz < 0) = false := by simpa using c3
        by_cases c4 : 4 < sz
        · go_enter Try.func30, Try.ntmps30
          go_wp2
          go_ret
          exact ⟨by rw [HR.out]; rfl, by exact bel⟩
        · have f4 : decide (4 < sz) = false := by simpa using c4
          have h5 : sz = 0 ∧ kd ≠ 1 := by
            have := HP.out
            unfold preB at this
            simp at this
            by_cases h0 : sz = 0
            · exact ⟨h0, by intro e; exact absurd e (by have := this (by omega) (by omega) (by omega) (by omega); exact this.2)⟩
            · exact absurd (this (by omega) (by omega) (by omega) (by omega)).1 h0
          obtain ⟨rfl, c5⟩ := h5
          have f5 : (kd != 1) = true := by simpa using c5
          clear c5
          go_enter Try.func30, Try.ntmps30
          go_wp2
          go_ret
          exact ⟨by rw [HR.out]; rfl, by exact bel⟩
def upto3 (lo hi gd M : Int) (k : Nat) : Prop := (1 ≤ k → inL lo M = true) ∧ (2 ≤ k → inL hi M = true) ∧ (3 ≤ k → inL gd M = true)
set_option maxRecDepth 100000 in
set_option maxHeartbeats 4000000 in
theorem may_post (t sz kd lo hi gd : Int) (m : Bool) (w : World) (h : preB t sz kd = true) : Calls Try.prog 30 #[.agg #[.int .i64 t, .int .i64 sz, .int .i64 kd, .int .i64 lo, .int .i64 hi, .int .i64 gd, .bool m]] w fun x w' => x = .returned (.bool (okB t sz kd lo hi gd)) ∧ Below w.heap.size w w' := by
  have HP := Lib.hid h
  have h' := h
  unfold preB at h'
  simp at h'
  obtain ⟨⟨⟨⟨g1, g2⟩, g3⟩, g4⟩, g5⟩ := h'
  have f1 : decide (t < 1) = false := by simp; omega
  have f2 : decide (255 < t) = false := by simp; omega
  have f3 : decide (sz < 0) = false := by simp; omega
  have f4 : decide (4 < sz) = false := by simp; omega
  cases hk : kindB kd
  · have HR := Lib.hid (show okB t sz kd lo hi gd = false by unfold okB; rw [takes_unknown hk]; simp)
    have HK := Lib.hid hk
    have hk1 : ¬ kd = 1 := by intro e; subst e; cases hk
    have f5 : (sz == 0) = false := by simp; intro e; exact g5.elim (fun h => h e) hk1
    clear h hk hk1 g5
    go_enter Try.func30, Try.ntmps30
    go_wp2_with fail
    refine (of_any t sz kd lo hi gd m _).mono ?_
    rw [HK.out]
    rintro e w1 ⟨rfl, hb⟩; obtain ⟨xs, d, rfl⟩ := ext_of hb; clear hb
    go_wp2_with fail
    go_ret
    exact ⟨by rw [HR.out]; rfl, by exact bel⟩
  · have HK := Lib.hid hk
    clear h hk
    obtain ⟨sz', hsz'⟩ : ∃ s, s = sz := ⟨_, rfl⟩
    have h5 : sz = 0 ∨ sz = 1 ∨ sz = 2 ∨ sz = 3 ∨ sz = 4 := by omega
    have HK1 := Lib.hid g5
    rw [← hsz'] at HK1 HP
    have HSZ := Lib.hid hsz'
    have hok : okB t sz kd lo hi gd = okB t sz' kd lo hi gd := by rw [hsz']
    rw [hok]
    clear hok hsz'
    have hko : (sz == 0) = true → (kd != 1) = false := by intro e; simp at e; exact g5.elim (fun h => absurd e h) (fun h => by simp [h])
    clear g5
    rcases h5 with rfl | rfl | rfl | rfl | rfl
    · have f5 := hko rfl
      have HL := Lib.hid (show lim sz' = 1 by rw [HSZ.out]; rfl)
      clear hko
      have i0 : ∀ w, (Instr.index 70 (.agg #[.int .i64 lo, .int .i64 hi, .int .i64 gd]) (.int .i64 0)).run Try.prog w = .ok (.int .i64 lo) w := fun _ => by kernel_rfl
      have i1 : ∀ w, (Instr.index 70 (.agg #[.int .i64 lo, .int .i64 hi, .int .i64 gd]) (.int .i64 1)).run Try.prog w = .ok (.int .i64 hi) w := fun _ => by kernel_rfl
      have i2 : ∀ w, (Instr.index 70 (.agg #[.int .i64 lo, .int .i64 hi, .int .i64 gd]) (.int .i64 2)).run Try.prog w = .ok (.int .i64 gd) w := fun _ => by kernel_rfl
      go_enter Try.func30, Try.ntmps30
      go_wp2_with fail
      refine (of_any t _ kd lo hi gd m _).mono ?_
      rw [HK.out]
      rintro e w1 ⟨rfl, hb⟩; obtain ⟨xs, d, rfl⟩ := ext_of hb; clear hb
      go_wp2_with fail
      go_loop [55] (fun i => ∃ k : Nat, k ≤ 3 ∧ i = .int .i64 k ∧ upto3 lo hi gd 1 k) (fun i => 3 - (intOf i).toNat)
      case atStart => exact ⟨0, by omega, rfl, by unfold upto3; refine ⟨?_, ?_, ?_⟩ <;> omega⟩
      case round =>
        obtain ⟨k, hk, rfl, hu⟩ := hrel
        have HU := Lib.hid hu
        clear hu
        have hk3 : k = 0 ∨ k = 1 ∨ k = 2 ∨ k = 3 := by omega
        rcases hk3 with rfl | rfl | rfl | rfl
        · by_cases c1 : lo < 0
          · have HR := Lib.hid (show okB t sz' kd lo hi gd = false by unfold okB; rw [show inL lo (lim sz') = false by unfold inL; simp; omega]; simp)
            go_wp2
            go_ret
            exact ⟨by rw [HR.out]; rfl, by exact bel⟩
          · have f1 : decide (lo < 0) = false := by simpa using c1
            by_cases c2 : 1 ≤ lo
            · have HR := Lib.hid (show okB t sz' kd lo hi gd = false by unfold okB; rw [show inL lo (lim sz') = false by unfold inL; rw [HL.out]; simp; omega]; simp)
              go_wp2
              go_ret
              exact ⟨by rw [HR.out]; rfl, by exact bel⟩
            · have f2 : decide (1 ≤ lo) = false := by simpa using c2
              have HI := Lib.hid (show inL lo 1 = true by unfold inL; simp; omega)
              go_wp2
              go_round
              case rel => exact ⟨1, by omega, by go_num, ⟨fun _ => HI.out, fun h => absurd h (by omega), fun h => absurd h (by omega)⟩⟩
              case measure => simp [intOf]
        · by_cases c1 : hi < 0
          · have HR := Lib.hid (show okB t sz' kd lo hi gd = false by unfold okB; rw [show inL hi (lim sz') = false by unfold inL; simp; omega]; simp)
            go_wp2
            go_ret
            exact ⟨by rw [HR.out]; rfl, by exact bel⟩
          · have f1 : decide (hi < 0) = false := by simpa using c1
            by_cases c2 : 1 ≤ hi
            · have HR := Lib.hid (show okB t sz' kd lo hi gd = false by unfold okB; rw [show inL hi (lim sz') = false by unfold inL; rw [HL.out]; simp; omega]; simp)
              go_wp2
              go_ret
              exact ⟨by rw [HR.out]; rfl, by exact bel⟩
            · have f2 : decide (1 ≤ hi) = false := by simpa using c2
              have HI := Lib.hid (show inL hi 1 = true by unfold inL; simp; omega)
              go_wp2
              go_round
              case rel => exact ⟨2, by omega, by go_num, ⟨fun _ => HU.out.1 (by omega), fun _ => HI.out, fun h => absurd h (by omega)⟩⟩
              case measure => simp [intOf]
        · by_cases c1 : gd < 0
          · have HR := Lib.hid (show okB t sz' kd lo hi gd = false by unfold okB; rw [show inL gd (lim sz') = false by unfold inL; simp; omega]; simp)
            go_wp2
            go_ret
            exact ⟨by rw [HR.out]; rfl, by exact bel⟩
          · have f1 : decide (gd < 0) = false := by simpa using c1
            by_cases c2 : 1 ≤ gd
            · have HR := Lib.hid (show okB t sz' kd lo hi gd = false by unfold okB; rw [show inL gd (lim sz') = false by unfold inL; rw [HL.out]; simp; omega]; simp)
              go_wp2
              go_ret
              exact ⟨by rw [HR.out]; rfl, by exact bel⟩
            · have f2 : decide (1 ≤ gd) = false := by simpa using c2
              have HI := Lib.hid (show inL gd 1 = true by unfold inL; simp; omega)
              go_wp2
              go_round
              case rel => exact ⟨3, by omega, by go_num, ⟨fun _ => HU.out.1 (by omega), fun _ => HU.out.2.1 (by omega), fun _ => HI.out⟩⟩
              case measure => simp [intOf]
        · have HB3 := Lib.hid (show okB t sz' kd lo hi gd = ((kd != 2 || decide (lo ≤ hi)) && takesB kd lo hi gd gd) by unfold okB; rw [HP.out, HL.out, HU.out.1 (by omega), HU.out.2.1 (by omega), HU.out.2.2 (by omega)]; simp)
          cases hq : (kd != 2)
          · cases hq2 : decide (lo ≤ hi)
            · have HR := Lib.hid (show okB t sz' kd lo hi gd = false by rw [HB3.out, hq, hq2]; rfl)
              go_wp2
              go_ret
              exact ⟨by rw [HR.out]; rfl, by exact bel⟩
            · have HR := Lib.hid (show okB t sz' kd lo hi gd = takesB kd lo hi gd gd by rw [HB3.out, hq, hq2]; rfl)
              go_wp2_with fail
              refine (takes_any t _ kd lo hi gd gd m _).mono ?_
              rintro e w1 ⟨rfl, hb⟩; obtain ⟨xs2, d2, rfl⟩ := ext_of hb; clear hb
              go_wp2_with fail
              go_ret
              exact ⟨by rw [HR.out]; rfl, by exact bel⟩
          · have HR := Lib.hid (show okB t sz' kd lo hi gd = takesB kd lo hi gd gd by rw [HB3.out, hq]; rfl)
            go_wp2_with fail
            refine (takes_any t _ kd lo hi gd gd m _).mono ?_
            rintro e w1 ⟨rfl, hb⟩; obtain ⟨xs2, d2, rfl⟩ := ext_of hb; clear hb
            go_wp2_with fail
            go_ret
            exact ⟨by rw [HR.out]; rfl, by exact bel⟩
    · have f5 := trivial
      have HL := Lib.hid (show lim sz' = 256 by rw [HSZ.out]; rfl)
      clear hko
      have i0 : ∀ w, (Instr.index 70 (.agg #[.int .i64 lo, .int .i64 hi, .int .i64 gd]) (.int .i64 0)).run Try.prog w = .ok (.int .i64 lo) w := fun _ => by kernel_rfl
      have i1 : ∀ w, (Instr.index 70 (.agg #[.int .i64 lo, .int .i64 hi, .int .i64 gd]) (.int .i64 1)).run Try.prog w = .ok (.int .i64 hi) w := fun _ => by kernel_rfl
      have i2 : ∀ w, (Instr.index 70 (.agg #[.int .i64 lo, .int .i64 hi, .int .i64 gd]) (.int .i64 2)).run Try.prog w = .ok (.int .i64 gd) w := fun _ => by kernel_rfl
      go_enter Try.func30, Try.ntmps30
      go_wp2_with fail
      refine (of_any t _ kd lo hi gd m _).mono ?_
      rw [HK.out]
      rintro e w1 ⟨rfl, hb⟩; obtain ⟨xs, d, rfl⟩ := ext_of hb; clear hb
      go_wp2_with fail
      go_loop [55] (fun i => ∃ k : Nat, k ≤ 3 ∧ i = .int .i64 k ∧ upto3 lo hi gd 256 k) (fun i => 3 - (intOf i).toNat)
      case atStart => exact ⟨0, by omega, rfl, by unfold upto3; refine ⟨?_, ?_, ?_⟩ <;> omega⟩
      case round =>
        obtain ⟨k, hk, rfl, hu⟩ := hrel
        have HU := Lib.hid hu
        clear hu
        have hk3 : k = 0 ∨ k = 1 ∨ k = 2 ∨ k = 3 := by omega
        rcases hk3 with rfl | rfl | rfl | rfl
        · by_cases c1 : lo < 0
          · have HR := Lib.hid (show okB t sz' kd lo hi gd = false by unfold okB; rw [show inL lo (lim sz') = false by unfold inL; simp; omega]; simp)
            go_wp2
            go_ret
            exact ⟨by rw [HR.out]; rfl, by exact bel⟩
          · have f1 : decide (lo < 0) = false := by simpa using c1
            by_cases c2 : 256 ≤ lo
            · have HR := Lib.hid (show okB t sz' kd lo hi gd = false by unfold okB; rw [show inL lo (lim sz') = false by unfold inL; rw [HL.out]; simp; omega]; simp)
              go_wp2
              go_ret
              exact ⟨by rw [HR.out]; rfl, by exact bel⟩
            · have f2 : decide (256 ≤ lo) = false := by simpa using c2
              have HI := Lib.hid (show inL lo 256 = true by unfold inL; simp; omega)
              go_wp2
              go_round
              case rel => exact ⟨1, by omega, by go_num, ⟨fun _ => HI.out, fun h => absurd h (by omega), fun h => absurd h (by omega)⟩⟩
              case measure => simp [intOf]
        · by_cases c1 : hi < 0
          · have HR := Lib.hid (show okB t sz' kd lo hi gd = false by unfold okB; rw [show inL hi (lim sz') = false by unfold inL; simp; omega]; simp)
            go_wp2
            go_ret
            exact ⟨by rw [HR.out]; rfl, by exact bel⟩
          · have f1 : decide (hi < 0) = false := by simpa using c1
            by_cases c2 : 256 ≤ hi
            · have HR := Lib.hid (show okB t sz' kd lo hi gd = false by unfold okB; rw [show inL hi (lim sz') = false by unfold inL; rw [HL.out]; simp; omega]; simp)
              go_wp2
              go_ret
              exact ⟨by rw [HR.out]; rfl, by exact bel⟩
            · have f2 : decide (256 ≤ hi) = false := by simpa using c2
              have HI := Lib.hid (show inL hi 256 = true by unfold inL; simp; omega)
              go_wp2
              go_round
              case rel => exact ⟨2, by omega, by go_num, ⟨fun _ => HU.out.1 (by omega), fun _ => HI.out, fun h => absurd h (by omega)⟩⟩
              case measure => simp [intOf]
        · by_cases c1 : gd < 0
          · have HR := Lib.hid (show okB t sz' kd lo hi gd = false by unfold okB; rw [show inL gd (lim sz') = false by unfold inL; simp; omega]; simp)
            go_wp2
            go_ret
            exact ⟨by rw [HR.out]; rfl, by exact bel⟩
          · have f1 : decide (gd < 0) = false := by simpa using c1
            by_cases c2 : 256 ≤ gd
            · have HR := Lib.hid (show okB t sz' kd lo hi gd = false by unfold okB; rw [show inL gd (lim sz') = false by unfold inL; rw [HL.out]; simp; omega]; simp)
              go_wp2
              go_ret
              exact ⟨by rw [HR.out]; rfl, by exact bel⟩
            · have f2 : decide (256 ≤ gd) = false := by simpa using c2
              have HI := Lib.hid (show inL gd 256 = true by unfold inL; simp; omega)
              go_wp2
              go_round
              case rel => exact ⟨3, by omega, by go_num, ⟨fun _ => HU.out.1 (by omega), fun _ => HU.out.2.1 (by omega), fun _ => HI.out⟩⟩
              case measure => simp [intOf]
        · have HB3 := Lib.hid (show okB t sz' kd lo hi gd = ((kd != 2 || decide (lo ≤ hi)) && takesB kd lo hi gd gd) by unfold okB; rw [HP.out, HL.out, HU.out.1 (by omega), HU.out.2.1 (by omega), HU.out.2.2 (by omega)]; simp)
          cases hq : (kd != 2)
          · cases hq2 : decide (lo ≤ hi)
            · have HR := Lib.hid (show okB t sz' kd lo hi gd = false by rw [HB3.out, hq, hq2]; rfl)
              go_wp2
              go_ret
              exact ⟨by rw [HR.out]; rfl, by exact bel⟩
            · have HR := Lib.hid (show okB t sz' kd lo hi gd = takesB kd lo hi gd gd by rw [HB3.out, hq, hq2]; rfl)
              go_wp2_with fail
              refine (takes_any t _ kd lo hi gd gd m _).mono ?_
              rintro e w1 ⟨rfl, hb⟩; obtain ⟨xs2, d2, rfl⟩ := ext_of hb; clear hb
              go_wp2_with fail
              go_ret
              exact ⟨by rw [HR.out]; rfl, by exact bel⟩
          · have HR := Lib.hid (show okB t sz' kd lo hi gd = takesB kd lo hi gd gd by rw [HB3.out, hq]; rfl)
            go_wp2_with fail
            refine (takes_any t _ kd lo hi gd gd m _).mono ?_
            rintro e w1 ⟨rfl, hb⟩; obtain ⟨xs2, d2, rfl⟩ := ext_of hb; clear hb
            go_wp2_with fail
            go_ret
            exact ⟨by rw [HR.out]; rfl, by exact bel⟩
    · have f5 := trivial
      have HL := Lib.hid (show lim sz' = 65536 by rw [HSZ.out]; rfl)
      clear hko
      have i0 : ∀ w, (Instr.index 70 (.agg #[.int .i64 lo, .int .i64 hi, .int .i64 gd]) (.int .i64 0)).run Try.prog w = .ok (.int .i64 lo) w := fun _ => by kernel_rfl
      have i1 : ∀ w, (Instr.index 70 (.agg #[.int .i64 lo, .int .i64 hi, .int .i64 gd]) (.int .i64 1)).run Try.prog w = .ok (.int .i64 hi) w := fun _ => by kernel_rfl
      have i2 : ∀ w, (Instr.index 70 (.agg #[.int .i64 lo, .int .i64 hi, .int .i64 gd]) (.int .i64 2)).run Try.prog w = .ok (.int .i64 gd) w := fun _ => by kernel_rfl
      go_enter Try.func30, Try.ntmps30
      go_wp2_with fail
      refine (of_any t _ kd lo hi gd m _).mono ?_
      rw [HK.out]
      rintro e w1 ⟨rfl, hb⟩; obtain ⟨xs, d, rfl⟩ := ext_of hb; clear hb
      go_wp2_with fail
      go_loop [55] (fun i => ∃ k : Nat, k ≤ 3 ∧ i = .int .i64 k ∧ upto3 lo hi gd 65536 k) (fun i => 3 - (intOf i).toNat)
      case atStart => exact ⟨0, by omega, rfl, by unfold upto3; refine ⟨?_, ?_, ?_⟩ <;> omega⟩
      case round =>
        obtain ⟨k, hk, rfl, hu⟩ := hrel
        have HU := Lib.hid hu
        clear hu
        have hk3 : k = 0 ∨ k = 1 ∨ k = 2 ∨ k = 3 := by omega
        rcases hk3 with rfl | rfl | rfl | rfl
        · by_cases c1 : lo < 0
          · have HR := Lib.hid (show okB t sz' kd lo hi gd = false by unfold okB; rw [show inL lo (lim sz') = false by unfold inL; simp; omega]; simp)
            go_wp2
            go_ret
            exact ⟨by rw [HR.out]; rfl, by exact bel⟩
          · have f1 : decide (lo < 0) = false := by simpa using c1
            by_cases c2 : 65536 ≤ lo
            · have HR := Lib.hid (show okB t sz' kd lo hi gd = false by unfold okB; rw [show inL lo (lim sz') = false by unfold inL; rw [HL.out]; simp; omega]; simp)
              go_wp2
              go_ret
              exact ⟨by rw [HR.out]; rfl, by exact bel⟩
            · have f2 : decide (65536 ≤ lo) = false := by simpa using c2
              have HI := Lib.hid (show inL lo 65536 = true by unfold inL; simp; omega)
              go_wp2
              go_round
              case rel => exact ⟨1, by omega, by go_num, ⟨fun _ => HI.out, fun h => absurd h (by omega), fun h => absurd h (by omega)⟩⟩
              case measure => simp [intOf]
        · by_cases c1 : hi < 0
          · have HR := Lib.hid (show okB t sz' kd lo hi gd = false by unfold okB; rw [show inL hi (lim sz') = false by unfold inL; simp; omega]; simp)
            go_wp2
            go_ret
            exact ⟨by rw [HR.out]; rfl, by exact bel⟩
          · have f1 : decide (hi < 0) = false := by simpa using c1
            by_cases c2 : 65536 ≤ hi
            · have HR := Lib.hid (show okB t sz' kd lo hi gd = false by unfold okB; rw [show inL hi (lim sz') = false by unfold inL; rw [HL.out]; simp; omega]; simp)
              go_wp2
              go_ret
              exact ⟨by rw [HR.out]; rfl, by exact bel⟩
            · have f2 : decide (65536 ≤ hi) = false := by simpa using c2
              have HI := Lib.hid (show inL hi 65536 = true by unfold inL; simp; omega)
              go_wp2
              go_round
              case rel => exact ⟨2, by omega, by go_num, ⟨fun _ => HU.out.1 (by omega), fun _ => HI.out, fun h => absurd h (by omega)⟩⟩
              case measure => simp [intOf]
        · by_cases c1 : gd < 0
          · have HR := Lib.hid (show okB t sz' kd lo hi gd = false by unfold okB; rw [show inL gd (lim sz') = false by unfold inL; simp; omega]; simp)
            go_wp2
            go_ret
            exact ⟨by rw [HR.out]; rfl, by exact bel⟩
          · have f1 : decide (gd < 0) = false := by simpa using c1
            by_cases c2 : 65536 ≤ gd
            · have HR := Lib.hid (show okB t sz' kd lo hi gd = false by unfold okB; rw [show inL gd (lim sz') = false by unfold inL; rw [HL.out]; simp; omega]; simp)
              go_wp2
              go_ret
              exact ⟨by rw [HR.out]; rfl, by exact bel⟩
            · have f2 : decide (65536 ≤ gd) = false := by simpa using c2
              have HI := Lib.hid (show inL gd 65536 = true by unfold inL; simp; omega)
              go_wp2
              go_round
              case rel => exact ⟨3, by omega, by go_num, ⟨fun _ => HU.out.1 (by omega), fun _ => HU.out.2.1 (by omega), fun _ => HI.out⟩⟩
              case measure => simp [intOf]
        · have HB3 := Lib.hid (show okB t sz' kd lo hi gd = ((kd != 2 || decide (lo ≤ hi)) && takesB kd lo hi gd gd) by unfold okB; rw [HP.out, HL.out, HU.out.1 (by omega), HU.out.2.1 (by omega), HU.out.2.2 (by omega)]; simp)
          cases hq : (kd != 2)
          · cases hq2 : decide (lo ≤ hi)
            · have HR := Lib.hid (show okB t sz' kd lo hi gd = false by rw [HB3.out, hq, hq2]; rfl)
              go_wp2
              go_ret
              exact ⟨by rw [HR.out]; rfl, by exact bel⟩
            · have HR := Lib.hid (show okB t sz' kd lo hi gd = takesB kd lo hi gd gd by rw [HB3.out, hq, hq2]; rfl)
              go_wp2_with fail
              refine (takes_any t _ kd lo hi gd gd m _).mono ?_
              rintro e w1 ⟨rfl, hb⟩; obtain ⟨xs2, d2, rfl⟩ := ext_of hb; clear hb
              go_wp2_with fail
              go_ret
              exact ⟨by rw [HR.out]; rfl, by exact bel⟩
          · have HR := Lib.hid (show okB t sz' kd lo hi gd = takesB kd lo hi gd gd by rw [HB3.out, hq]; rfl)
            go_wp2_with fail
            refine (takes_any t _ kd lo hi gd gd m _).mono ?_
            rintro e w1 ⟨rfl, hb⟩; obtain ⟨xs2, d2, rfl⟩ := ext_of hb; clear hb
            go_wp2_with fail
            go_ret
            exact ⟨by rw [HR.out]; rfl, by exact bel⟩
    · have f5 := trivial
      have HL := Lib.hid (show lim sz' = 16777216 by rw [HSZ.out]; rfl)
      clear hko
      have i0 : ∀ w, (Instr.index 70 (.agg #[.int .i64 lo, .int .i64 hi, .int .i64 gd]) (.int .i64 0)).run Try.prog w = .ok (.int .i64 lo) w := fun _ => by kernel_rfl
      have i1 : ∀ w, (Instr.index 70 (.agg #[.int .i64 lo, .int .i64 hi, .int .i64 gd]) (.int .i64 1)).run Try.prog w = .ok (.int .i64 hi) w := fun _ => by kernel_rfl
      have i2 : ∀ w, (Instr.index 70 (.agg #[.int .i64 lo, .int .i64 hi, .int .i64 gd]) (.int .i64 2)).run Try.prog w = .ok (.int .i64 gd) w := fun _ => by kernel_rfl
      go_enter Try.func30, Try.ntmps30
      go_wp2_with fail
      refine (of_any t _ kd lo hi gd m _).mono ?_
      rw [HK.out]
      rintro e w1 ⟨rfl, hb⟩; obtain ⟨xs, d, rfl⟩ := ext_of hb; clear hb
      go_wp2_with fail
      go_loop [55] (fun i => ∃ k : Nat, k ≤ 3 ∧ i = .int .i64 k ∧ upto3 lo hi gd 16777216 k) (fun i => 3 - (intOf i).toNat)
      case atStart => exact ⟨0, by omega, rfl, by unfold upto3; refine ⟨?_, ?_, ?_⟩ <;> omega⟩
      case round =>
        obtain ⟨k, hk, rfl, hu⟩ := hrel
        have HU := Lib.hid hu
        clear hu
        have hk3 : k = 0 ∨ k = 1 ∨ k = 2 ∨ k = 3 := by omega
        rcases hk3 with rfl | rfl | rfl | rfl
        · by_cases c1 : lo < 0
          · have HR := Lib.hid (show okB t sz' kd lo hi gd = false by unfold okB; rw [show inL lo (lim sz') = false by unfold inL; simp; omega]; simp)
            go_wp2
            go_ret
            exact ⟨by rw [HR.out]; rfl, by exact bel⟩
          · have f1 : decide (lo < 0) = false := by simpa using c1
            by_cases c2 : 16777216 ≤ lo
            · have HR := Lib.hid (show okB t sz' kd lo hi gd = false by unfold okB; rw [show inL lo (lim sz') = false by unfold inL; rw [HL.out]; simp; omega]; simp)
              go_wp2
              go_ret
              exact ⟨by rw [HR.out]; rfl, by exact bel⟩
            · have f2 : decide (16777216 ≤ lo) = false := by simpa using c2
              have HI := Lib.hid (show inL lo 16777216 = true by unfold inL; simp; omega)
              go_wp2
              go_round
              case rel => exact ⟨1, by omega, by go_num, ⟨fun _ => HI.out, fun h => absurd h (by omega), fun h => absurd h (by omega)⟩⟩
              case measure => simp [intOf]
        · by_cases c1 : hi < 0
          · have HR := Lib.hid (show okB t sz' kd lo hi gd = false by unfold okB; rw [show inL hi (lim sz') = false by unfold inL; simp; omega]; simp)
            go_wp2
            go_ret
            exact ⟨by rw [HR.out]; rfl, by exact bel⟩
          · have f1 : decide (hi < 0) = false := by simpa using c1
            by_cases c2 : 16777216 ≤ hi
            · have HR := Lib.hid (show okB t sz' kd lo hi gd = false by unfold okB; rw [show inL hi (lim sz') = false by unfold inL; rw [HL.out]; simp; omega]; simp)
              go_wp2
              go_ret
              exact ⟨by rw [HR.out]; rfl, by exact bel⟩
            · have f2 : decide (16777216 ≤ hi) = false := by simpa using c2
              have HI := Lib.hid (show inL hi 16777216 = true by unfold inL; simp; omega)
              go_wp2
              go_round
              case rel => exact ⟨2, by omega, by go_num, ⟨fun _ => HU.out.1 (by omega), fun _ => HI.out, fun h => absurd h (by omega)⟩⟩
              case measure => simp [intOf]
        · by_cases c1 : gd < 0
          · have HR := Lib.hid (show okB t sz' kd lo hi gd = false by unfold okB; rw [show inL gd (lim sz') = false by unfold inL; simp; omega]; simp)
            go_wp2
            go_ret
            exact ⟨by rw [HR.out]; rfl, by exact bel⟩
          · have f1 : decide (gd < 0) = false := by simpa using c1
            by_cases c2 : 16777216 ≤ gd
            · have HR := Lib.hid (show okB t sz' kd lo hi gd = false by unfold okB; rw [show inL gd (lim sz') = false by unfold inL; rw [HL.out]; simp; omega]; simp)
              go_wp2
              go_ret
              exact ⟨by rw [HR.out]; rfl, by exact bel⟩
            · have f2 : decide (16777216 ≤ gd) = false := by simpa using c2
              have HI := Lib.hid (show inL gd 16777216 = true by unfold inL; simp; omega)
              go_wp2
              go_round
              case rel => exact ⟨3, by omega, by go_num, ⟨fun _ => HU.out.1 (by omega), fun _ => HU.out.2.1 (by omega), fun _ => HI.out⟩⟩
              case measure => simp [intOf]
        · have HB3 := Lib.hid (show okB t sz' kd lo hi gd = ((kd != 2 || decide (lo ≤ hi)) && takesB kd lo hi gd gd) by unfold okB; rw [HP.out, HL.out, HU.out.1 (by omega), HU.out.2.1 (by omega), HU.out.2.2 (by omega)]; simp)
          cases hq : (kd != 2)
          · cases hq2 : decide (lo ≤ hi)
            · have HR := Lib.hid (show okB t sz' kd lo hi gd = false by rw [HB3.out, hq, hq2]; rfl)
              go_wp2
              go_ret
              exact ⟨by rw [HR.out]; rfl, by exact bel⟩
            · have HR := Lib.hid (show okB t sz' kd lo hi gd = takesB kd lo hi gd gd by rw [HB3.out, hq, hq2]; rfl)
              go_wp2_with fail
              refine (takes_any t _ kd lo hi gd gd m _).mono ?_
              rintro e w1 ⟨rfl, hb⟩; obtain ⟨xs2, d2, rfl⟩ := ext_of hb; clear hb
              go_wp2_with fail
              go_ret
              exact ⟨by rw [HR.out]; rfl, by exact bel⟩
          · have HR := Lib.hid (show okB t sz' kd lo hi gd = takesB kd lo hi gd gd by rw [HB3.out, hq]; rfl)
            go_wp2_with fail
            refine (takes_any t _ kd lo hi gd gd m _).mono ?_
            rintro e w1 ⟨rfl, hb⟩; obtain ⟨xs2, d2, rfl⟩ := ext_of hb; clear hb
            go_wp2_with fail
            go_ret
            exact ⟨by rw [HR.out]; rfl, by exact bel⟩
    · have f5 := trivial
      have HL := Lib.hid (show lim sz' = 4294967296 by rw [HSZ.out]; rfl)
      clear hko
      have i0 : ∀ w, (Instr.index 70 (.agg #[.int .i64 lo, .int .i64 hi, .int .i64 gd]) (.int .i64 0)).run Try.prog w = .ok (.int .i64 lo) w := fun _ => by kernel_rfl
      have i1 : ∀ w, (Instr.index 70 (.agg #[.int .i64 lo, .int .i64 hi, .int .i64 gd]) (.int .i64 1)).run Try.prog w = .ok (.int .i64 hi) w := fun _ => by kernel_rfl
      have i2 : ∀ w, (Instr.index 70 (.agg #[.int .i64 lo, .int .i64 hi, .int .i64 gd]) (.int .i64 2)).run Try.prog w = .ok (.int .i64 gd) w := fun _ => by kernel_rfl
      go_enter Try.func30, Try.ntmps30
      go_wp2_with fail
      refine (of_any t _ kd lo hi gd m _).mono ?_
      rw [HK.out]
      rintro e w1 ⟨rfl, hb⟩; obtain ⟨xs, d, rfl⟩ := ext_of hb; clear hb
      go_wp2_with fail
      go_loop [55] (fun i => ∃ k : Nat, k ≤ 3 ∧ i = .int .i64 k ∧ upto3 lo hi gd 4294967296 k) (fun i => 3 - (intOf i).toNat)
      case atStart => exact ⟨0, by omega, rfl, by unfold upto3; refine ⟨?_, ?_, ?_⟩ <;> omega⟩
      case round =>
        obtain ⟨k, hk, rfl, hu⟩ := hrel
        have HU := Lib.hid hu
        clear hu
        have hk3 : k = 0 ∨ k = 1 ∨ k = 2 ∨ k = 3 := by omega
        rcases hk3 with rfl | rfl | rfl | rfl
        · by_cases c1 : lo < 0
          · have HR := Lib.hid (show okB t sz' kd lo hi gd = false by unfold okB; rw [show inL lo (lim sz') = false by unfold inL; simp; omega]; simp)
            go_wp2
            go_ret
            exact ⟨by rw [HR.out]; rfl, by exact bel⟩
          · have f1 : decide (lo < 0) = false := by simpa using c1
            by_cases c2 : 4294967296 ≤ lo
            · have HR := Lib.hid (show okB t sz' kd lo hi gd = false by unfold okB; rw [show inL lo (lim sz') = false by unfold inL; rw [HL.out]; simp; omega]; simp)
              go_wp2
              go_ret
              exact ⟨by rw [HR.out]; rfl, by exact bel⟩
            · have f2 : decide (4294967296 ≤ lo) = false := by simpa using c2
              have HI := Lib.hid (show inL lo 4294967296 = true by unfold inL; simp; omega)
              go_wp2
              go_round
              case rel => exact ⟨1, by omega, by go_num, ⟨fun _ => HI.out, fun h => absurd h (by omega), fun h => absurd h (by omega)⟩⟩
              case measure => simp [intOf]
        · by_cases c1 : hi < 0
          · have HR := Lib.hid (show okB t sz' kd lo hi gd = false by unfold okB; rw [show inL hi (lim sz') = false by unfold inL; simp; omega]; simp)
            go_wp2
            go_ret
            exact ⟨by rw [HR.out]; rfl, by exact bel⟩
          · have f1 : decide (hi < 0) = false := by simpa using c1
            by_cases c2 : 4294967296 ≤ hi
            · have HR := Lib.hid (show okB t sz' kd lo hi gd = false by unfold okB; rw [show inL hi (lim sz') = false by unfold inL; rw [HL.out]; simp; omega]; simp)
              go_wp2
              go_ret
              exact ⟨by rw [HR.out]; rfl, by exact bel⟩
            · have f2 : decide (4294967296 ≤ hi) = false := by simpa using c2
              have HI := Lib.hid (show inL hi 4294967296 = true by unfold inL; simp; omega)
              go_wp2
              go_round
              case rel => exact ⟨2, by omega, by go_num, ⟨fun _ => HU.out.1 (by omega), fun _ => HI.out, fun h => absurd h (by omega)⟩⟩
              case measure => simp [intOf]
        · by_cases c1 : gd < 0
          · have HR := Lib.hid (show okB t sz' kd lo hi gd = false by unfold okB; rw [show inL gd (lim sz') = false by unfold inL; simp; omega]; simp)
            go_wp2
            go_ret
            exact ⟨by rw [HR.out]; rfl, by exact bel⟩
          · have f1 : decide (gd < 0) = false := by simpa using c1
            by_cases c2 : 4294967296 ≤ gd
            · have HR := Lib.hid (show okB t sz' kd lo hi gd = false by unfold okB; rw [show inL gd (lim sz') = false by unfold inL; rw [HL.out]; simp; omega]; simp)
              go_wp2
              go_ret
              exact ⟨by rw [HR.out]; rfl, by exact bel⟩
            · have f2 : decide (4294967296 ≤ gd) = false := by simpa using c2
              have HI := Lib.hid (show inL gd 4294967296 = true by unfold inL; simp; omega)
              go_wp2
              go_round
              case rel => exact ⟨3, by omega, by go_num, ⟨fun _ => HU.out.1 (by omega), fun _ => HU.out.2.1 (by omega), fun _ => HI.out⟩⟩
              case measure => simp [intOf]
        · have HB3 := Lib.hid (show okB t sz' kd lo hi gd = ((kd != 2 || decide (lo ≤ hi)) && takesB kd lo hi gd gd) by unfold okB; rw [HP.out, HL.out, HU.out.1 (by omega), HU.out.2.1 (by omega), HU.out.2.2 (by omega)]; simp)
          cases hq : (kd != 2)
          · cases hq2 : decide (lo ≤ hi)
            · have HR := Lib.hid (show okB t sz' kd lo hi gd = false by rw [HB3.out, hq, hq2]; rfl)
              go_wp2
              go_ret
              exact ⟨by rw [HR.out]; rfl, by exact bel⟩
            · have HR := Lib.hid (show okB t sz' kd lo hi gd = takesB kd lo hi gd gd by rw [HB3.out, hq, hq2]; rfl)
              go_wp2_with fail
              refine (takes_any t _ kd lo hi gd gd m _).mono ?_
              rintro e w1 ⟨rfl, hb⟩; obtain ⟨xs2, d2, rfl⟩ := ext_of hb; clear hb
              go_wp2_with fail
              go_ret
              exact ⟨by rw [HR.out]; rfl, by exact bel⟩
          · have HR := Lib.hid (show okB t sz' kd lo hi gd = takesB kd lo hi gd gd by rw [HB3.out, hq]; rfl)
            go_wp2_with fail
            refine (takes_any t _ kd lo hi gd gd m _).mono ?_
            rintro e w1 ⟨rfl, hb⟩; obtain ⟨xs2, d2, rfl⟩ := ext_of hb; clear hb
            go_wp2_with fail
            go_ret
            exact ⟨by rw [HR.out]; rfl, by exact bel⟩
theorem may_any (t sz kd lo hi gd : Int) (m : Bool) (w : World) : Calls Try.prog 30 #[.agg #[.int .i64 t, .int .i64 sz, .int .i64 kd, .int .i64 lo, .int .i64 hi, .int .i64 gd, .bool m]] w fun x w' => x = .returned (.bool (okB t sz kd lo hi gd)) ∧ Below w.heap.size w w' := by
  cases h : preB t sz kd
  · exact may_pre t sz kd lo hi gd m w h
  · exact may_post t sz kd lo hi gd m w h
end Go.Proofs.Ytlkijhcgiilmhaa
