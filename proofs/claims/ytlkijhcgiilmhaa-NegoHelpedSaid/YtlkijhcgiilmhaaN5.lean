/- nego.placed: slices.IndexFunc with a closure. -/
import Derived.Test.YtlkijhcgiilmhaaN4
namespace Go.Proofs.Ytlkijhcgiilmhaa
open Go.RowKit
set_option linter.unusedSimpArgs false
set_option linter.unusedVariables false
/-- The place of the first option of a type. -/
def plI (L : List (Int × List UInt8)) (t : Int) : Option Nat := L.findIdx? fun e => e.1 == t
def plV : Option Nat → Int
  | some k => (k : Int)
  | none => -1
theorem closure_any (t ty : Int) (a : Option Addr) (n c X : Nat) (w : World) (hX : w.cell? ⟨X, 0, none⟩ = some (.int .i64 ty)) (hz : X < w.heap.size) :
    Calls Try.prog 50 #[.agg #[.int .i64 t, .slice a n c], .pointer (some ⟨X, 0, none⟩)] w fun x w' => x = .returned (.bool (t == ty)) ∧ Below w.heap.size w w' := by
  go_enter Try.func50, Try.ntmps50
  go_wp2_with fail
  go_ret
  exact ⟨rfl, by exact bel⟩
theorem plI_none {L : List (Int × List UInt8)} {t : Int} (h : ∀ j, (hj : j < L.length) → (L[j].1 == t) = false) : plI L t = none := by
  unfold plI
  rw [List.findIdx?_eq_none_iff]
  intro x hx
  obtain ⟨j, hj, rfl⟩ := List.mem_iff_getElem.1 hx
  exact h j hj
theorem plI_some {L : List (Int × List UInt8)} {t : Int} {k : Nat} (hk : k < L.length) (h1 : (L[k].1 == t) = true) (h : ∀ j, (hj : j < k) → ((L[j]'(by omega)).1 == t) = false) : plI L t = some k := by
  unfold plI
  rw [List.findIdx?_eq_some_iff_getElem]
  exact ⟨hk, h1, fun j hj => by rw [h j hj]; simp⟩
set_option maxHeartbeats 1000000 in
theorem index_any (A : Option Addr) (n c : Nat) (E : List Ent) (ty : Int) (X : Nat) (w : World) (B : Nat) (hB : B ≤ w.heap.size) (hA : OptsAt w B A E) (hn : n = E.length) (hl : n ≤ 1000000) (hX : w.cell? ⟨X, 0, none⟩ = some (.int .i64 ty)) (hz : X < w.heap.size) :
    Calls Try.prog 49 #[.slice A n c, .func (.func 50) #[] #[.pointer (some ⟨X, 0, none⟩)]] w fun x w' => x = .returned (.int .i64 (plV (plI (E.map Ent.o) ty))) ∧ Below w.heap.size w w' := by
  have HA := Lib.hid hA
  have HN := Lib.hid hn
  have HB := Lib.hid hB
  have HX := Lib.hid hX
  clear hA hn hB hX
  go_enter Try.func49, Try.ntmps49
  go_wp2_with fail
  go_loopw [8] (fun i wr => ∃ k : Nat, k ≤ n ∧ i = .int .i64 k ∧ (∀ j, j < k → ∀ hj : j < E.length, (E[j].t == ty) = false) ∧ Below w.heap.size w wr) (fun i _ => n - (intOf i).toNat)
  case atStart => exact ⟨0, Nat.zero_le _, rfl, fun j hj => absurd hj (Nat.not_lt_zero j), Below.refl _ _⟩
  case round =>
    obtain ⟨k, hk, rfl, hp, hb⟩ := hrel
    have HP := Lib.hid hp
    have HBL := Lib.hid hb
    have hsz := hb.size
    clear hp hb
    by_cases hlt : k < n
    · have HK := Lib.hid (show k < E.length by have := HN.out; omega)
      obtain ⟨b, o, rfl, hbB, hx, hy⟩ := (HA.out.keep (HBL.out.mono HB.out)).get HK.out
      obtain ⟨e0, he0⟩ : ∃ e0, E[k]'HK.out = e0 := ⟨_, rfl⟩
      rw [he0] at hx hy
      obtain ⟨t, d, a, ce⟩ := e0
      have HE0 := Lib.hid he0
      have hbz : b < wr.heap.size := by have := HB.out; omega
      have jj0 : (0 : Int) ≤ (k : Int) := by omega
      have jj1 : (k : Int) < (n : Int) := by omega
      unfold Ent.v at hy
      simp only at hx hy
      clear he0
      cases ht : (t == ty)
      · have HT := Lib.hid ht
        clear ht
        go_wp2_with (go_at_call 50; refine (closure_any t ty a d.length ce X _ ((HBL.out.cell (p := ⟨X, 0, none⟩) hz).trans HX.out) (by omega)).mono ?_; rw [HT.out]; rintro e w2 ⟨rfl, hb⟩; have HB2 := Lib.hid (HBL.out.trans (hb.mono hsz)); clear hb)
        go_roundw
        case rel => exact ⟨k + 1, by omega, by go_num, fun j hj hl => by (by_cases e : j = k; (subst e; rw [HE0.out]; exact HT.out); exact HP.out j (by omega) hl), HB2.out⟩
        case measure => simp [intOf]; omega
      · have HT := Lib.hid ht
        have HR := Lib.hid (show plI (E.map Ent.o) ty = some k from plI_some (by simp; exact HK.out) (by simp only [List.getElem_map]; rw [HE0.out]; exact ht) (fun j hj => by simp only [List.getElem_map]; exact HP.out j hj (by have := HK.out; omega)))
        clear ht
        go_wp2_with (go_at_call 50; refine (closure_any t ty a d.length ce X _ ((HBL.out.cell (p := ⟨X, 0, none⟩) hz).trans HX.out) (by omega)).mono ?_; rw [HT.out]; rintro e w2 ⟨rfl, hb⟩; have HB2 := Lib.hid (HBL.out.trans (hb.mono hsz)); clear hb)
        go_ret
        exact ⟨by rw [HR.out]; rfl, HB2.out⟩
    · obtain rfl : k = n := by omega
      have HR := Lib.hid (show plI (E.map Ent.o) ty = none from plI_none (fun j hj => by simp only [List.getElem_map]; exact HP.out j (by simp at hj; have := HN.out; omega) (by simpa using hj)))
      go_wp2_with fail
      go_ret
      exact ⟨by rw [HR.out]; rfl, HBL.out⟩
theorem placed_any (A : Option Addr) (n c : Nat) (E : List Ent) (ty : Int) (w : World) (B : Nat) (hB : B ≤ w.heap.size) (hA : OptsAt w B A E) (hn : n = E.length) (hl : n ≤ 1000000) :
    Calls Try.prog 38 #[.slice A n c, .int .i64 ty] w fun x w' => x = .returned (.int .i64 (plV (plI (E.map Ent.o) ty))) ∧ Below w.heap.size w w' := by
  have HA := Lib.hid hA
  have HB := Lib.hid hB
  have HN := Lib.hid hn
  clear hA hB hn
  go_enter Try.func38, Try.ntmps38
  go_wp2_with fail
  refine (index_any A n c E ty w.heap.size _ B (by have := HB.out; simp; omega) (HA.out.keep (by have := HB.out; exact bel)) HN.out hl ?_ (by simp)).mono ?_
  · simp [go_sem]
  · rintro e w2 ⟨rfl, hb⟩
    obtain ⟨xs, dr, rfl⟩ := ext_of hb
    go_wp2_with fail
    go_ret
    exact ⟨rfl, by exact bel⟩
end Go.Proofs.Ytlkijhcgiilmhaa
