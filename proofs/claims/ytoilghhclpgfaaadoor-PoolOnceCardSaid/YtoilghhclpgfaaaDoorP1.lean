/- Rows of bits: walks. -/
import Derived.Test.YtoilghhclpgfaaaDoorP0
import Derived.Outline
namespace Go.Proofs.YtoilghhclpgfaaaDoor
open Go.RowKit
set_option linter.unusedSimpArgs false
set_option linter.unusedVariables false
def u64s (ws : List Nat) : List Value := ws.map fun (x : Nat) => Value.int .u64 (x : Int)
/-- A row of words as it lies. -/
structure RowAt (w : World) (A : Option Addr) (n : Nat) (ws : List Nat) : Prop where
  n : n = ws.length
  wide : Wide ws
  row : ws = [] ∨ ∃ b rest, A = some ⟨b, 0, none⟩ ∧ w.heap[b]? = some (.cells (u64s ws ++ rest).toArray 69 (0, 0))
theorem RowAt.get {w : World} {A : Option Addr} {n : Nat} {ws : List Nat} (h : RowAt w A n ws) {k : Nat} (hk : k < ws.length) :
    ∃ b, A = some ⟨b, 0, none⟩ ∧ b < w.heap.size ∧ w.cell? ⟨b, k, none⟩ = some (.int .u64 ((ws.getD k 0 : Nat) : Int)) ∧ w.frozen? ⟨b, k, none⟩ = false := by
  rcases h.row with rfl | ⟨b, rest, rfl, hh⟩
  · simp at hk
  · refine ⟨b, rfl, lt_of_block hh, ?_, frozen_of_row w b k _ 69 hh⟩
    rw [cell_of_row w b k _ 69 (0, 0) hh]
    have : k < (u64s ws ++ rest).length := by simp [u64s]; omega
    simp only [List.getElem?_toArray]
    rw [List.getElem?_append_left (by simp [u64s]; omega)]
    simp [u64s, List.getElem?_map, List.getElem?_eq_getElem hk, List.getD_eq_getElem?_getD]
theorem word_has {x k : Nat} (hx : x < W64) : (bits BinOp.and IntKind.u64 ((x : Int) / 2 ^ k) 1 == 1) = x.testBit k := by
  have e : (x : Int) / 2 ^ k = ((x / 2 ^ k : Nat) : Int) := by simp
  have h1 : x / 2 ^ k < 18446744073709551616 := Nat.lt_of_le_of_lt (Nat.div_le_self _ _) hx
  rw [e, show (1 : Int) = ((1 : Nat) : Int) from rfl, u64_and_nat _ 1 h1 (by decide), Nat.and_one_is_mod, Nat.testBit_eq_decide_div_mod_eq]
  rw [Bool.eq_iff_iff]
  simp
  omega
theorem word_two {k : Nat} (hk : k < 64) : IntKind.u64.wrap (2 ^ k) = ((2 ^ k : Nat) : Int) := by
  have h := two_lt hk
  unfold W64 at h
  rw [IntKind.wrap_u64, show (2 : Int) ^ k = ((2 ^ k : Nat) : Int) by simp]
  generalize 2 ^ k = x at h ⊢
  omega
theorem ret_bool {a b : Bool} (h : a = b) : Ending.returned (.bool a) = .returned (.bool b) := by rw [h]
set_option maxHeartbeats 400000 in
theorem has_any (A : Option Addr) (n c : Nat) (ws : List Nat) (i : Nat) (w : World) (h : RowAt w A n ws) (hi : i / 64 < ws.length) (hl : ws.length ≤ 1000000) :
    Calls Tryd.prog 33 #[.slice A n c, .int .i64 (i : Int)] w fun e w' => e = .returned (.bool (bitW ws i)) ∧ w = w' := by
  obtain ⟨b, rfl, hb, hc, -⟩ := h.get hi
  have hn := h.n
  have hw := h.wide.get (i / 64)
  obtain ⟨x, hx⟩ : ∃ x, ws.getD (i / 64) 0 = x := ⟨_, rfl⟩
  rw [hx] at hc hw
  have HN := Lib.hid (And.intro hw hx)
  have e1 : ((i : Int) / 64).toNat = i / 64 := by omega
  have e2 : (0 : Int) ≤ (i : Int) / 64 := by omega
  have e3 : (i : Int) / 64 < (n : Int) := by omega
  have e4 : (i : Int) ≤ 64000000 := by omega
  clear hn h hw hx
  go_enter Tryd.func33, Tryd.ntmps33
  go_wp2_with fail
  go_ret
  exact ⟨ret_bool (by unfold bitW; rw [HN.out.2]; exact word_has HN.out.1), rfl⟩
set_option maxHeartbeats 400000 in
theorem set_on (A : Option Addr) (n c : Nat) (ws : List Nat) (i : Nat) (on : Bool) (w : World) (h : RowAt w A n ws) (hi : i / 64 < ws.length) (hl : ws.length ≤ 1000000) :
    Calls Tryd.prog 29 #[.slice A n c, .int .i64 (i : Int), .bool on] w fun e w' => e = .returned (.tuple #[]) ∧ ∃ b, A = some ⟨b, 0, none⟩ ∧ w' = w.setCell ⟨b, i / 64, none⟩ (.int .u64 ((putB (ws.getD (i / 64) 0) (i % 64) on : Nat) : Int)) := by
  obtain ⟨b, rfl, hb, hc, hf⟩ := h.get hi
  have hn := h.n
  have hw := h.wide.get (i / 64)
  obtain ⟨x, hx⟩ : ∃ x, ws.getD (i / 64) 0 = x := ⟨_, rfl⟩
  rw [hx] at hc hw ⊢
  have HN := Lib.hid (And.intro hw hx)
  have e1 : ((i : Int) / 64).toNat = i / 64 := by omega
  have e2 : (0 : Int) ≤ (i : Int) / 64 := by omega
  have e3 : (i : Int) / 64 < (n : Int) := by omega
  have e4 : (i : Int) ≤ 64000000 := by omega
  clear hn h hw hx
  have HP := Lib.hid (show IntKind.u64.wrap (2 ^ (i % 64)) = ((2 ^ (i % 64) : Nat) : Int) from word_two (by omega))
  cases on
  · go_enter Tryd.func29, Tryd.ntmps29
    go_wp2_with fail
    go_end0
    refine ⟨rfl, b, rfl, ?_⟩
    rw [HP.out, u64_andNot_nat x _ HN.out.1 (two_lt (by omega))]
    rfl
  · go_enter Tryd.func29, Tryd.ntmps29
    go_wp2_with fail
    go_end0
    refine ⟨rfl, b, rfl, ?_⟩
    rw [HP.out, u64_or_nat x _ HN.out.1 (two_lt (by omega))]
    rfl
/-- What stands behind a turned word. -/
theorem RowAt.set {w : World} {A : Option Addr} {n b : Nat} {ws : List Nat} (h : RowAt w A n ws) (hA : A = some ⟨b, 0, none⟩) {i : Nat} (hi : i / 64 < ws.length) (on : Bool) :
    RowAt (w.setCell ⟨b, i / 64, none⟩ (.int .u64 ((putB (ws.getD (i / 64) 0) (i % 64) on : Nat) : Int))) A n (setW ws i on) := by
  refine ⟨by rw [setW_len]; exact h.n, setW_wide h.wide i on, .inr ?_⟩
  rcases h.row with rfl | ⟨b', rest, rfl, hh⟩
  · simp at hi
  · cases hA
    refine ⟨_, rest, rfl, ?_⟩
    rw [heap_setCell_same w b (i / 64) _ 69 _ hh]
    congr 2
    simp only [List.setIfInBounds_toArray]
    congr 1
    rw [List.set_append_left _ _ (by simp [u64s]; omega)]
    congr 1
    unfold setW u64s
    rw [List.map_set]
theorem RowAt.kept {w w' : World} {A : Option Addr} {n : Nat} {ws : List Nat} (h : RowAt w A n ws) (hb : ∀ b, A = some ⟨b, 0, none⟩ → b < w.heap.size → w'.heap[b]? = w.heap[b]?) : RowAt w' A n ws := by
  refine ⟨h.n, h.wide, ?_⟩
  rcases h.row with h1 | ⟨b, rest, rfl, hh⟩
  · exact .inl h1
  · exact .inr ⟨b, rest, rfl, (hb b rfl (lt_of_block hh)).trans hh⟩
theorem RowAt.keep {w w' : World} {A : Option Addr} {n : Nat} {ws : List Nat} (h : RowAt w A n ws) (hb : Below w.heap.size w w') : RowAt w' A n ws := h.kept fun b _ hl => hb.block b hl
theorem none_no (p : Nat) (w : World) (h5 : w.cell? ⟨p, 5, none⟩ = some (.bool true)) : Calls Tryd.prog 32 #[.pointer (some ⟨p, 0, none⟩)] w fun e w' => e = .returned (.bool false) ∧ w = w' := by
  have hz := World.block_lt_of_cell? w _ h5
  simp only at hz
  go_enter Tryd.func32, Tryd.ntmps32
  go_wp2
  go_ret
  exact ⟨rfl, rfl⟩
theorem none_unmade (p : Nat) (w : World) (h5 : w.cell? ⟨p, 5, none⟩ = some (.bool false)) : Calls Tryd.prog 32 #[.pointer (some ⟨p, 0, none⟩)] w fun e w' => e = .returned (.bool true) ∧ w = w' := by
  have hz := World.block_lt_of_cell? w _ h5
  simp only at hz
  go_enter Tryd.func32, Tryd.ntmps32
  go_wp2
  go_ret
  exact ⟨rfl, rfl⟩
theorem none_nil (w : World) : Calls Tryd.prog 32 #[.pointer none] w fun e w' => e = .returned (.bool true) ∧ w = w' := by
  go_enter Tryd.func32, Tryd.ntmps32
  go_wp2
  go_ret
  exact ⟨rfl, rfl⟩
/-- A new row, all 0. -/
def zeroRow (k : Nat) : Array Value := (u64s (List.replicate k 0)).toArray
theorem made_zero (k : Nat) : madeCells #[Value.int .u64 0] (k * 1) = zeroRow k := by
  unfold madeCells zeroRow u64s
  apply Array.ext
  · simp
  · intro i h1 h2
    simp [Nat.mod_one]
theorem run_makeRow (W : World) (k : Nat) (hk : k ≤ 1000000) (a : Int) (ha : a = (k : Int)) : (Instr.makeSlice 58 (.int .i64 a) (.int .i64 a)).run Tryd.prog W = .ok (.slice (some ⟨W.heap.size, 0, none⟩) k k) (W.alloc (.cells (zeroRow k) 69)) := by
  subst ha
  have hinfo : (Tryd.prog.info? 69).map (fun i => (i.zero, i.size, i.bytes)) = some (some (.int .u64 0), 1, 8) := by kernel_rfl
  obtain ⟨i0, hi, hz0, hz1, hz2⟩ := info_parts hinfo
  have h := run_makeSlice (P := Tryd.prog) W 58 69 i0 (.int .u64 0) Tryd.underlying58 hi hz0 .i64 .i64 k k (by omega) (Int.le_refl _) (by rw [hz1]; simp; omega) (by rw [hz2]; omega) (by omega)
  rw [h, hz1]
  simp only [Int.toNat_natCast]
  rw [show (Value.int .u64 0).cells = #[Value.int .u64 0] from rfl, made_zero]
theorem rowOf_any (n : Nat) (w : World) (hn : n ≤ 65536) : Calls Tryd.prog 28 #[.int .i64 (n : Int)] w fun e w' => e = .returned (.slice (some ⟨w.heap.size, 0, none⟩) ((n + 63) / 64) ((n + 63) / 64)) ∧ w' = w.alloc (.cells (zeroRow ((n + 63) / 64)) 69) := by
  have q := fun W => run_makeRow W ((n + 63) / 64) (by omega) (((n : Int) + 64 - 1) / 64) (by omega)
  go_enter Tryd.func28, Tryd.ntmps28
  go_wp2
  go_ret
  exact ⟨rfl, rfl⟩
theorem row_zero (w : World) (k : Nat) : RowAt (w.alloc (.cells (zeroRow k) 69)) (some ⟨w.heap.size, 0, none⟩) k (List.replicate k 0) :=
  ⟨by simp, wide_zero k, .inr ⟨_, [], rfl, by rw [heap_alloc_new]; simp [zeroRow]⟩⟩
end Go.Proofs.YtoilghhclpgfaaaDoor
