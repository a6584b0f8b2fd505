/- The reference: rows of actions, names of actions. -/
import Derived.Test.YtffkkeedmgaoiaaG1
import Derived.Deep.QuietTactic
namespace Go.Proofs.Ytffkkeedmgaoiaa
open Go.RowKit
set_option linter.unusedSimpArgs false
set_option linter.unusedVariables false
/-- A cell of what stands at an address. -/
theorem At.cellAt {w : World} {B : Nat} {A : Option Addr} {l : List Int} (h : At w B A (l.map av)) {k : Nat} (hk : k < l.length) : ∃ b o, A = some ⟨b, o, none⟩ ∧ b < B := by
  obtain ⟨b, o, e, hb, _⟩ := h.get (by simp; omega)
  exact ⟨b, o, e, hb⟩
theorem At.readAt {w : World} {B : Nat} {b o : Nat} {l : List Int} (h : At w B (some ⟨b, o, none⟩) (l.map av)) {k : Nat} (hk : k < l.length) : ∃ x, l.getD k 0 = x ∧ w.cell? ⟨b, o + k, none⟩ = some (.int .i64 x) := by
  refine ⟨_, rfl, ?_⟩
  obtain ⟨b', o', e, hb, hc⟩ := h.get (by simp; omega)
  cases e
  exact hc k _ (by rw [List.getElem?_map, List.getElem?_eq_getElem hk]; simp [List.getD_eq_getElem?_getD, List.getElem?_eq_getElem hk]; rfl)
def hasB (l : List Int) (a : Int) : Bool := l.contains a
theorem hasB_take {l : List Int} {k : Nat} {a : Int} (hk : k < l.length) (h : hasB (l.take k) a = false) (hne : (l.getD k 0 == a) = false) : hasB (l.take (k + 1)) a = false := by
  unfold hasB at *
  rw [List.take_succ_eq_append_getElem hk]
  have e : l.getD k 0 = l[k] := by simp [List.getD_eq_getElem?_getD, List.getElem?_eq_getElem hk]
  rw [e] at hne
  simp only [List.contains_eq_mem, List.mem_append, decide_eq_false_iff_not, not_or] at *
  refine ⟨h, ?_⟩
  simp only [List.mem_singleton]
  intro c
  rw [c] at hne; simp at hne
theorem hasB_at {l : List Int} {k : Nat} {a : Int} (hk : k < l.length) (he : (l.getD k 0 == a) = true) : hasB l a = true := by
  have e : l.getD k 0 = l[k] := by simp [List.getD_eq_getElem?_getD, List.getElem?_eq_getElem hk]
  rw [e] at he
  have : l[k] = a := by simpa using he
  unfold hasB
  rw [← this]; simp
set_option maxHeartbeats 1000000 in
theorem has_any (A : Option Addr) (n c : Nat) (l : List Int) (a : Int) (w : World) (B : Nat) (hA : At w B A (l.map av)) (hn : n = l.length) (hl : n ≤ 1000000000) :
    Calls Try.prog 17 #[.slice A n c, .int .i64 a] w fun e w' => e = .returned (.bool (hasB l a)) ∧ w = w' := by
  subst hn
  have HA := Lib.hid hA
  clear hA
  go_enter Try.func17, Try.ntmps17
  go_wp2
  go_loop [5] (fun i => ∃ k : Nat, k ≤ l.length ∧ i = .int .i64 k ∧ hasB (l.take k) a = false) (fun i => l.length - (intOf i).toNat)
  case atStart => exact ⟨0, Nat.zero_le _, rfl, by simp [hasB]⟩
  case round =>
    obtain ⟨k, hk, rfl, hh⟩ := hrel
    have HH := Lib.hid hh
    clear hh
    by_cases hlt : k < l.length
    · obtain ⟨b, o, rfl, -⟩ := HA.out.cellAt hlt
      obtain ⟨x, hx, hc⟩ := HA.out.readAt hlt
      have HX := Lib.hid hx
      clear hx
      cases he : (x == a)
      · have HE := Lib.hid (show (l.getD k 0 == a) = false by rw [HX.out]; exact he)
        go_wp2
        go_round
        case rel => exact ⟨k + 1, by omega, by go_num, hasB_take hlt HH.out HE.out⟩
        case measure => simp [intOf]; omega
      · have HE := Lib.hid (show (l.getD k 0 == a) = true by rw [HX.out]; exact he)
        go_wp2
        go_ret
        exact ⟨by rw [hasB_at hlt HE.out]; rfl, rfl⟩
    · have HL := Lib.hid (show hasB l a = false by have := HH.out; rwa [List.take_of_length_le (by omega)] at this)
      go_wp2
      go_ret
      exact ⟨by rw [HL.out]; rfl, rfl⟩
set_option maxHeartbeats 1000000 in
theorem same_any (A1 A2 : Option Addr) (n m c1 c2 : Nat) (l : List Int) (w : World) (B : Nat) (hB : B ≤ w.heap.size) (h1 : At w B A1 (l.map av)) (h2 : At w B A2 (l.map av)) (hn : n = l.length) (hm : m = l.length) (hl : n ≤ 1000000000) :
    Calls Try.prog 13 #[.slice A1 n c1, .slice A2 m c2] w fun e w' => e = .returned (.bool true) ∧ Below w.heap.size w w' := by
  subst hm
  subst hn
  have H1 := Lib.hid h1
  have H2 := Lib.hid h2
  clear h1 h2
  go_enter Try.func13, Try.ntmps13
  go_wp2
  go_loopw [5] (fun i wr => ∃ k : Nat, k ≤ l.length ∧ i = .int .i64 k ∧ ∃ n, wr = w.drewN n) (fun i _ => l.length - (intOf i).toNat)
  case atStart => exact ⟨0, Nat.zero_le _, rfl, 0, rfl⟩
  case round =>
    obtain ⟨k, hk, rfl, d, rfl⟩ := hrel
    by_cases hlt : k < l.length
    · obtain ⟨b1, o1, rfl, -⟩ := H1.out.cellAt hlt
      obtain ⟨b2, o2, rfl, -⟩ := H2.out.cellAt hlt
      obtain ⟨x, hx, hc1⟩ := H1.out.readAt hlt
      obtain ⟨y, hy, hc2⟩ := H2.out.readAt hlt
      obtain rfl : x = y := hx.symm.trans hy
      clear hx hy
      go_wp2
      go_quiet (fail)
      go_wp2
      go_roundw
      case rel => exact ⟨k + 1, by omega, by go_num, _, rfl⟩
      case measure => simp [intOf]; omega
    · go_wp2
      go_ret
      exact ⟨rfl, by (repeat (first | exact Below.refl _ _ | exact Nat.le_refl _ | (refine below_ext ?_ (by first | (simp [size_ext, grow]; done) | (simp [size_ext, grow]; omega)) _ _) | (refine Below.setCell ?_ (by first | (simp [size_ext, grow]; done) | (simp [size_ext, grow]; omega)) _) | (refine Below.alloc ?_ (by first | (simp [size_ext, grow]; done) | (simp [size_ext, grow]; omega)) _) | refine Below.drew ?_ | refine below_drewN ?_ _ | (refine Below.trans ?_ (Below.mono (by assumption) (by first | (simp [size_ext, grow]; done) | (simp [size_ext, grow]; omega))))))⟩
end Go.Proofs.Ytffkkeedmgaoiaa
