/- The place of an option's rule; has one of some options a type. -/
import Derived.Test.YtlkijhcgiilmhaaN19
import Derived.Test.YtlkijhcgiilmhaaT2
namespace Go.Proofs.Ytlkijhcgiilmhaa
open Go.RowKit
set_option linter.unusedSimpArgs false
set_option linter.unusedVariables false
/-- The place of an option's rule. -/
def fitB (o : Opt) (r : Rl) : Bool := r.t == o.1 && r.sz == (o.2.length : Int)
def fitI (R : List Rl) (o : Opt) : Option Nat := R.findIdx? (fitB o)
theorem fitI_none {R : List Rl} {o : Opt} (h : ∀ j, (hj : j < R.length) → fitB o R[j] = false) : fitI R o = none := by
  unfold fitI
  rw [List.findIdx?_eq_none_iff]
  intro x hx
  obtain ⟨j, hj, rfl⟩ := List.mem_iff_getElem.1 hx
  exact h j hj
theorem fitI_some {R : List Rl} {o : Opt} {k : Nat} (hk : k < R.length) (h1 : fitB o R[k] = true) (h : ∀ j, (hj : j < k) → fitB o (R[j]'(by omega)) = false) : fitI R o = some k := by
  unfold fitI
  rw [List.findIdx?_eq_some_iff_getElem]
  exact ⟨hk, h1, fun j hj => by rw [h j hj]; simp⟩
theorem fitI_lt {R : List Rl} {o : Opt} {k : Nat} (h : fitI R o = some k) : ∃ hk : k < R.length, fitB o R[k] = true := by
  unfold fitI at h
  obtain ⟨hk, h1, -⟩ := List.findIdx?_eq_some_iff_getElem.1 h
  exact ⟨hk, h1⟩
set_option maxHeartbeats 1000000 in
theorem has_ref (A : Option Addr) (n c : Nat) (E : List Ent) (ty : Int) (w : World) (B : Nat) (hB : B ≤ w.heap.size) (hA : OptsAt w B A E) (hn : n = E.length) (hl : n ≤ 1000000) :
    Calls Try.prog 27 #[.slice A n c, .int .i64 ty] w fun x w' => x = .returned (.bool (plI (E.map Ent.o) ty).isSome) ∧ w = w' := by
  have HA := Lib.hid hA
  have HN := Lib.hid hn
  clear hA hn
  go_enter Try.func27, Try.ntmps27
  go_wp2_with fail
  go_loop [5] (fun i => ∃ k : Nat, k ≤ n ∧ i = .int .i64 k ∧ ∀ j, j < k → ∀ hj : j < E.length, (E[j].t == ty) = false) (fun i => n - (intOf i).toNat)
  case atStart => exact ⟨0, Nat.zero_le _, rfl, fun j hj => absurd hj (Nat.not_lt_zero j)⟩
  case round =>
    obtain ⟨k, hk, rfl, hp⟩ := hrel
    have HP := Lib.hid hp
    clear hp
    by_cases hlt : k < n
    · have HK := Lib.hid (show k < E.length by have := HN.out; omega)
      obtain ⟨b, o, rfl, hbB, hx, hy⟩ := HA.out.get HK.out
      obtain ⟨e0, he0⟩ : ∃ e0, E[k]'HK.out = e0 := ⟨_, rfl⟩
      rw [he0] at hx hy
      obtain ⟨t, d, a, ce⟩ := e0
      have HE0 := Lib.hid he0
      have jj0 : (0 : Int) ≤ (k : Int) := by omega
      have jj1 : (k : Int) < (n : Int) := by omega
      simp only at hx
      clear he0 hy
      cases ht : (t == ty)
      · have HT := Lib.hid ht
        go_wp2_with fail
        go_round
        case rel => exact ⟨k + 1, by omega, by go_num, fun j hj hl => by (by_cases e : j = k; (subst e; rw [HE0.out]; exact HT.out); exact HP.out j (by omega) hl)⟩
        case measure => simp [intOf]; omega
      · have HR := Lib.hid (show plI (E.map Ent.o) ty = some k from plI_some (by simp; exact HK.out) (by simp only [List.getElem_map]; rw [HE0.out]; exact ht) (fun j hj => by simp only [List.getElem_map]; exact HP.out j hj (by have := HK.out; omega)))
        go_wp2_with fail
        go_ret
        exact ⟨by rw [HR.out]; rfl, rfl⟩
    · obtain rfl : k = n := by omega
      have HR := Lib.hid (show plI (E.map Ent.o) ty = none from plI_none (fun j hj => by simp only [List.getElem_map]; exact HP.out j (by simp at hj; have := HN.out; omega) (by simpa using hj)))
      go_wp2_with fail
      go_ret
      exact ⟨by rw [HR.out]; rfl, rfl⟩
set_option maxHeartbeats 1000000 in
theorem rule_ref (A : Option Addr) (n c : Nat) (R : List Rl) (ty : Int) (a : Option Addr) (ce : Nat) (d : List UInt8) (w : World) (B : Nat) (hB : B ≤ w.heap.size) (hR : RulesAt w B A R) (hn : n = R.length) (hl : n ≤ 1000000) :
    Calls Try.prog 26 #[.slice A n c, .agg #[.int .i64 ty, .slice a d.length ce]] w fun x w' => x = .returned (.int .i64 (plV (fitI R (ty, d)))) ∧ Below w.heap.size w w' := by
  have HR := Lib.hid hR
  have HN := Lib.hid hn
  have HB := Lib.hid hB
  clear hR hn hB
  obtain ⟨l, hl0⟩ : ∃ l, d.length = l := ⟨_, rfl⟩
  have HL := Lib.hid hl0
  rw [hl0]
  clear hl0
  go_enter Try.func26, Try.ntmps26
  go_wp2_with fail
  go_loopw [5] (fun i wr => ∃ k : Nat, k ≤ n ∧ i = .int .i64 k ∧ (∀ j, j < k → ∀ hj : j < R.length, fitB (ty, d) R[j] = false) ∧ Below w.heap.size w wr ∧ wr.heap[w.heap.size]? = some (.cells #[.int .i64 ty, .slice a l ce] 42 (0, 0))) (fun i _ => n - (intOf i).toNat)
  case atStart => exact ⟨0, Nat.zero_le _, rfl, fun j hj => absurd hj (Nat.not_lt_zero j), by exact bel, by rw [heap_alloc_new]⟩
  case round =>
    obtain ⟨k, hk, rfl, hp, hbl, hbox⟩ := hrel
    have HP := Lib.hid hp
    have HBL := Lib.hid hbl
    have HBOX := Lib.hid hbox
    obtain ⟨g0, g1, g2, g3⟩ := two_cells hbox
    have hsz := hbl.size
    clear hp hbl hbox
    by_cases hlt : k < n
    · have HK := Lib.hid (show k < R.length by have := HN.out; omega)
      obtain ⟨b, o, rfl, hbB, hat⟩ := (HR.out.keep (HBL.out.mono HB.out)).get HK.out
      obtain ⟨r, hr⟩ : ∃ r, R[k]'HK.out = r := ⟨_, rfl⟩
      rw [hr] at hat
      have HRK := Lib.hid hr
      clear hr
      obtain ⟨t, sz, kd, lo, hi, gd, mu⟩ := r
      obtain ⟨c0, c1, c2, c3, c4, c5, c6⟩ := hat
      simp only at c0 c1 c2 c3 c4 c5 c6
      have hblt : b < wr.heap.size := by have := HB.out; omega
      have hix0 : (0 : Int) ≤ (k : Int) := by omega
      have hix1 : (k : Int) < (n : Int) := by omega
      cases hf : fitB (ty, d) ⟨t, sz, kd, lo, hi, gd, mu⟩
      · have HF := Lib.hid hf
        have h12 : (t == ty) = false ∨ ((t == ty) = true ∧ (sz == (l : Int)) = false) := by
          have := hf; unfold fitB at this; simp only [HL.out] at this
          cases h1 : (t == ty)
          · exact .inl rfl
          · rw [h1] at this; exact .inr ⟨rfl, by simpa using this⟩
        clear hf
        rcases h12 with h1 | ⟨h1, h2⟩
        all_goals
          go_upto_region 5 with (fail)
          go_quiet (fail)
          go_wp2_with fail
          go_roundw
          case rel => exact ⟨k + 1, by omega, by go_num, fun j hj hl => by (by_cases e : j = k; (subst e; rw [HRK.out]; exact HF.out); exact HP.out j (by omega) hl), by have := HBL.out; exact bel, by exact HBOX.out⟩
          case measure => simp [intOf]; omega
      · have HRS := Lib.hid (show fitI R (ty, d) = some k from fitI_some HK.out (by rw [HRK.out]; exact hf) (fun j hj => HP.out j hj (by have := HK.out; omega)))
        have h12 : (t == ty) = true ∧ (sz == (l : Int)) = true := by have := hf; unfold fitB at this; simp only [HL.out] at this; simpa using this
        clear hf
        obtain ⟨h1, h2⟩ := h12
        go_upto_region 5 with (fail)
        go_quiet (fail)
        go_wp2_with fail
        go_ret
        exact ⟨by rw [HRS.out]; rfl, by have := HBL.out; exact bel⟩
    · obtain rfl : k = n := by omega
      have HRS := Lib.hid (show fitI R (ty, d) = none from fitI_none (fun j hj => HP.out j (by have := HN.out; omega) hj))
      go_wp2_with fail
      go_ret
      exact ⟨by rw [HRS.out]; rfl, HBL.out⟩
theorem fits1 (t sz kd lo hi gd : Int) (mu : Bool) (ty : Int) (a : Option Addr) (d : List UInt8) (ce X : Nat) (w : World) (hX : w.cell? ⟨X, 0, none⟩ = some (.int .i64 ty)) (hY : w.cell? ⟨X, 1, none⟩ = some (.slice a d.length ce)) (hz : X < w.heap.size) :
    Calls Try.prog 37 #[.agg #[.int .i64 t, .int .i64 sz, .int .i64 kd, .int .i64 lo, .int .i64 hi, .int .i64 gd, .bool mu], .pointer (some ⟨X, 0, none⟩)] w fun x w' => x = .returned (.bool (fitB (ty, d) ⟨t, sz, kd, lo, hi, gd, mu⟩)) ∧ Below w.heap.size w w' := by
  unfold fitB
  obtain ⟨l, hl0⟩ : ∃ l, d.length = l := ⟨_, rfl⟩
  simp only [hl0]
  rw [hl0] at hY
  clear hl0
  cases h1 : (t == ty) <;> cases h2 : (sz == (l : Int))
  all_goals
    go_enter Try.func37, Try.ntmps37
    go_wp2_with fail
    go_ret
    exact ⟨rfl, by exact bel⟩
set_option maxHeartbeats 1000000 in
theorem indexR_any (A : Option Addr) (n c : Nat) (R : List Rl) (ty : Int) (a : Option Addr) (d : List UInt8) (ce X : Nat) (w : World) (B : Nat) (hB : B ≤ w.heap.size) (hR : RulesAt w B A R) (hn : n = R.length) (hl : n ≤ 1000000) (hX : w.cell? ⟨X, 0, none⟩ = some (.int .i64 ty)) (hY : w.cell? ⟨X, 1, none⟩ = some (.slice a d.length ce)) (hz : X < w.heap.size) :
    Calls Try.prog 36 #[.slice A n c, .func (.func 37) #[] #[.pointer (some ⟨X, 0, none⟩)]] w fun x w' => x = .returned (.int .i64 (plV (fitI R (ty, d)))) ∧ Below w.heap.size w w' := by
  have HR := Lib.hid hR
  have HN := Lib.hid hn
  have HB := Lib.hid hB
  have HX := Lib.hid hX
  have HY := Lib.hid hY
  clear hR hn hB hX hY
  go_enter Try.func36, Try.ntmps36
  go_wp2_with fail
  go_loopw [8] (fun i wr => ∃ k : Nat, k ≤ n ∧ i = .int .i64 k ∧ (∀ j, j < k → ∀ hj : j < R.length, fitB (ty, d) R[j] = false) ∧ Below w.heap.size w wr) (fun i _ => n - (intOf i).toNat)
  case atStart => exact ⟨0, Nat.zero_le _, rfl, fun j hj => absurd hj (Nat.not_lt_zero j), Below.refl _ _⟩
  case round =>
    obtain ⟨k, hk, rfl, hp, hb⟩ := hrel
    have HP := Lib.hid hp
    have HBL := Lib.hid hb
    have hsz := hb.size
    clear hp hb
    by_cases hlt : k < n
    · have HK := Lib.hid (show k < R.length by have := HN.out; omega)
      obtain ⟨b, o, rfl, hbB, hat⟩ := (HR.out.keep (HBL.out.mono HB.out)).get HK.out
      obtain ⟨r, hr⟩ : ∃ r, R[k]'HK.out = r := ⟨_, rfl⟩
      rw [hr] at hat
      have HRK := Lib.hid hr
      clear hr
      obtain ⟨t, sz, kd, lo, hi, gd, mu⟩ := r
      obtain ⟨c0, c1, c2, c3, c4, c5, c6⟩ := hat
      simp only at c0 c1 c2 c3 c4 c5 c6
      have hblt : b < wr.heap.size := by have := HB.out; omega
      have hix0 : (0 : Int) ≤ (k : Int) := by omega
      have hix1 : (k : Int) < (n : Int) := by omega
      cases hf : fitB (ty, d) ⟨t, sz, kd, lo, hi, gd, mu⟩
      · have HF := Lib.hid hf
        clear hf
        go_wp2_with (go_at_call 37; refine (fits1 t sz kd lo hi gd mu ty a d ce X _ ((HBL.out.cell (p := ⟨X, 0, none⟩) hz).trans HX.out) ((HBL.out.cell (p := ⟨X, 1, none⟩) hz).trans HY.out) (by omega)).mono ?_; rw [HF.out]; rintro e w2 ⟨rfl, hb⟩; have HB2 := Lib.hid (HBL.out.trans (hb.mono hsz)); clear hb)
        go_roundw
        case rel => exact ⟨k + 1, by omega, by go_num, fun j hj hl => by (by_cases e : j = k; (subst e; rw [HRK.out]; exact HF.out); exact HP.out j (by omega) hl), HB2.out⟩
        case measure => simp [intOf]; omega
      · have HF := Lib.hid hf
        have HRS := Lib.hid (show fitI R (ty, d) = some k from fitI_some HK.out (by rw [HRK.out]; exact hf) (fun j hj => HP.out j hj (by have := HK.out; omega)))
        clear hf
        go_wp2_with (go_at_call 37; refine (fits1 t sz kd lo hi gd mu ty a d ce X _ ((HBL.out.cell (p := ⟨X, 0, none⟩) hz).trans HX.out) ((HBL.out.cell (p := ⟨X, 1, none⟩) hz).trans HY.out) (by omega)).mono ?_; rw [HF.out]; rintro e w2 ⟨rfl, hb⟩; have HB2 := Lib.hid (HBL.out.trans (hb.mono hsz)); clear hb)
        go_ret
        exact ⟨by rw [HRS.out]; rfl, HB2.out⟩
    · obtain rfl : k = n := by omega
      have HRS := Lib.hid (show fitI R (ty, d) = none from fitI_none (fun j hj => HP.out j (by have := HN.out; omega) hj))
      go_wp2_with fail
      go_ret
      exact ⟨by rw [HRS.out]; rfl, HBL.out⟩
theorem fits_any (A : Option Addr) (n c : Nat) (R : List Rl) (ty : Int) (a : Option Addr) (d : List UInt8) (ce X : Nat) (w : World) (B : Nat) (hB : B ≤ w.heap.size) (hR : RulesAt w B A R) (hn : n = R.length) (hl : n ≤ 1000000) (hX : w.cell? ⟨X, 0, none⟩ = some (.slice A n c)) (hz : X < w.heap.size) :
    Calls Try.prog 35 #[.agg #[.int .i64 ty, .slice a d.length ce], .pointer (some ⟨X, 0, none⟩)] w fun x w' => x = .returned (.int .i64 (plV (fitI R (ty, d)))) ∧ Below w.heap.size w w' := by
  have HR := Lib.hid hR
  have HB := Lib.hid hB
  have HN := Lib.hid hn
  clear hR hB hn
  go_enter Try.func35, Try.ntmps35
  go_wp2_with fail
  refine (indexR_any A n c R ty a d ce w.heap.size _ B (by have := HB.out; simp; omega) (HR.out.keep (by have := HB.out; exact bel)) HN.out hl (by simp [go_sem]) (by simp [go_sem]) (by simp)).mono ?_
  rintro e w1 ⟨rfl, hb⟩; obtain ⟨xs, d, rfl⟩ := ext_of hb; clear hb
  go_wp2_with fail
  go_ret
  exact ⟨rfl, by exact bel⟩
end Go.Proofs.Ytlkijhcgiilmhaa
