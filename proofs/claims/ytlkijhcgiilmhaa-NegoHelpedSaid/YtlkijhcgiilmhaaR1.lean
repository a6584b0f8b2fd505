/- The reference's Put. -/
import Derived.Test.YtlkijhcgiilmhaaO
namespace Go.Proofs.Ytlkijhcgiilmhaa
open Go.RowKit
set_option linter.unusedSimpArgs false
set_option linter.unusedVariables false

theorem rput_no (n size : Int) (w : World) (h : size < 1 ∨ 8 < size) :
    Calls Try.prog 43 #[.int .u64 n, .int .i64 size] w fun e w' => e = .returned (.slice none 0 0) ∧ w = w' := by
  by_cases h1 : size < 1
  · go_enter Try.func43, Try.ntmps43
    go_wp2
    go_ret
    exact ⟨rfl, rfl⟩
  · have h2 : 8 < size := by omega
    go_enter Try.func43, Try.ntmps43
    go_wp2
    go_ret
    exact ⟨rfl, rfl⟩

/-- A new block of bytes, known whole, is a row of the call's own. -/
theorem own_new (w : World) (e : TypeId) (l : List UInt8) (n : Nat) (cs : Array Value) (hn : n = l.length) (hm : n ≤ 1000000000) (hcs : cs.toList = l.map bv) : (w.alloc (.cells cs e)).ownsRow w.heap.size e 1 (.slice (some ⟨w.heap.size, 0, none⟩) n n) n (l.map bv) := by
  subst hn
  have hs : cs.size = l.length := by rw [← Array.length_toList, hcs]; simp
  refine ⟨by simp, .inr ⟨w.heap.size, l.length, cs, rfl, Nat.le_refl _, heap_alloc_new w _, Nat.le_refl _, by unfold maxLen; omega, by omega, ?_⟩⟩
  rw [hcs, List.take_of_length_le (by simp)]

set_option maxHeartbeats 4000000 in
theorem rput_yes (n k : Nat) (w : World) (hn : n < 18446744073709551616) (h1 : 1 ≤ k) (h8 : k ≤ 8) :
    Calls Try.prog 43 #[.int .u64 (n : Int), .int .i64 (k : Int)] w (PutP w n k) := by
  have HK : k = 1 ∨ k = 2 ∨ k = 3 ∨ k = 4 ∨ k = 5 ∨ k = 6 ∨ k = 7 ∨ k = 8 := by omega
  clear h1 h8
  rcases HK with rfl | rfl | rfl | rfl | rfl | rfl | rfl | rfl
  · have hmk : ∀ w : World, (Instr.makeSlice 40 (.int .i64 1) (.int .i64 1)).run Try.prog w = .ok (.slice (some ⟨w.heap.size, 0, none⟩) 1 1) (w.alloc (.cells #[.int .u8 0] 5)) := fun _ => by kernel_rfl
    go_enter Try.func43, Try.ntmps43
    go_wp2
    refine wp_loop_rounds 2 ?_
    iterate 2 (rw [rounds_succ]; go_wp2)
    go_ret
    exact ⟨_, rfl, by exact bel, own_new w 5 (putB n 1) 1 _ (putB_length n 1).symm (by omega) (by simp [putB, bv_ofNat])⟩
  · have hmk : ∀ w : World, (Instr.makeSlice 40 (.int .i64 2) (.int .i64 2)).run Try.prog w = .ok (.slice (some ⟨w.heap.size, 0, none⟩) 2 2) (w.alloc (.cells #[.int .u8 0, .int .u8 0] 5)) := fun _ => by kernel_rfl
    go_enter Try.func43, Try.ntmps43
    go_wp2
    refine wp_loop_rounds 3 ?_
    iterate 3 (rw [rounds_succ]; go_wp2)
    go_ret
    exact ⟨_, rfl, by exact bel, own_new w 5 (putB n 2) 2 _ (putB_length n 2).symm (by omega) (by simp [putB, bv_ofNat])⟩
  · have hmk : ∀ w : World, (Instr.makeSlice 40 (.int .i64 3) (.int .i64 3)).run Try.prog w = .ok (.slice (some ⟨w.heap.size, 0, none⟩) 3 3) (w.alloc (.cells #[.int .u8 0, .int .u8 0, .int .u8 0] 5)) := fun _ => by kernel_rfl
    go_enter Try.func43, Try.ntmps43
    go_wp2
    refine wp_loop_rounds 4 ?_
    iterate 4 (rw [rounds_succ]; go_wp2)
    go_ret
    exact ⟨_, rfl, by exact bel, own_new w 5 (putB n 3) 3 _ (putB_length n 3).symm (by omega) (by simp [putB, bv_ofNat])⟩
  · have hmk : ∀ w : World, (Instr.makeSlice 40 (.int .i64 4) (.int .i64 4)).run Try.prog w = .ok (.slice (some ⟨w.heap.size, 0, none⟩) 4 4) (w.alloc (.cells #[.int .u8 0, .int .u8 0, .int .u8 0, .int .u8 0] 5)) := fun _ => by kernel_rfl
    go_enter Try.func43, Try.ntmps43
    go_wp2
    refine wp_loop_rounds 5 ?_
    iterate 5 (rw [rounds_succ]; go_wp2)
    go_ret
    exact ⟨_, rfl, by exact bel, own_new w 5 (putB n 4) 4 _ (putB_length n 4).symm (by omega) (by simp [putB, bv_ofNat])⟩
  · have hmk : ∀ w : World, (Instr.makeSlice 40 (.int .i64 5) (.int .i64 5)).run Try.prog w = .ok (.slice (some ⟨w.heap.size, 0, none⟩) 5 5) (w.alloc (.cells #[.int .u8 0, .int .u8 0, .int .u8 0, .int .u8 0, .int .u8 0] 5)) := fun _ => by kernel_rfl
    go_enter Try.func43, Try.ntmps43
    go_wp2
    refine wp_loop_rounds 6 ?_
    iterate 6 (rw [rounds_succ]; go_wp2)
    go_ret
    exact ⟨_, rfl, by exact bel, own_new w 5 (putB n 5) 5 _ (putB_length n 5).symm (by omega) (by simp [putB, bv_ofNat])⟩
  · have hmk : ∀ w : World, (Instr.makeSlice 40 (.int .i64 6) (.int .i64 6)).run Try.prog w = .ok (.slice (some ⟨w.heap.size, 0, none⟩) 6 6) (w.alloc (.cells #[.int .u8 0, .int .u8 0, .int .u8 0, .int .u8 0, .int .u8 0, .int .u8 0] 5)) := fun _ => by kernel_rfl
    go_enter Try.func43, Try.ntmps43
    go_wp2
    refine wp_loop_rounds 7 ?_
    iterate 7 (rw [rounds_succ]; go_wp2)
    go_ret
    exact ⟨_, rfl, by exact bel, own_new w 5 (putB n 6) 6 _ (putB_length n 6).symm (by omega) (by simp [putB, bv_ofNat])⟩
  · have hmk : ∀ w : World, (Instr.makeSlice 40 (.int .i64 7) (.int .i64 7)).run Try.prog w = .ok (.slice (some ⟨w.heap.size, 0, none⟩) 7 7) (w.alloc (.cells #[.int .u8 0, .int .u8 0, .int .u8 0, .int .u8 0, .int .u8 0, .int .u8 0, .int .u8 0] 5)) := fun _ => by kernel_rfl
    go_enter Try.func43, Try.ntmps43
    go_wp2
    refine wp_loop_rounds 8 ?_
    iterate 8 (rw [rounds_succ]; go_wp2)
    go_ret
    exact ⟨_, rfl, by exact bel, own_new w 5 (putB n 7) 7 _ (putB_length n 7).symm (by omega) (by simp [putB, bv_ofNat])⟩
  · have hmk : ∀ w : World, (Instr.makeSlice 40 (.int .i64 8) (.int .i64 8)).run Try.prog w = .ok (.slice (some ⟨w.heap.size, 0, none⟩) 8 8) (w.alloc (.cells #[.int .u8 0, .int .u8 0, .int .u8 0, .int .u8 0, .int .u8 0, .int .u8 0, .int .u8 0, .int .u8 0] 5)) := fun _ => by kernel_rfl
    go_enter Try.func43, Try.ntmps43
    go_wp2
    refine wp_loop_rounds 9 ?_
    iterate 9 (rw [rounds_succ]; go_wp2)
    go_ret
    exact ⟨_, rfl, by exact bel, own_new w 5 (putB n 8) 8 _ (putB_length n 8).symm (by omega) (by simp [putB, bv_ofNat])⟩
end Go.Proofs.Ytlkijhcgiilmhaa
