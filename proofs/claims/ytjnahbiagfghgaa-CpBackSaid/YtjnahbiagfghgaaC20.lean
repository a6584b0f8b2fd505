/- What tells that a code, or a protocol, is none. -/
import Derived.Test.YtjnahbiagfghgaaC17
import Derived.Test.YtjnahbiagfghgaaF
namespace Go.Proofs.Ytjnahbiagfghgaa
open Go.RowKit
set_option linter.unusedSimpArgs false
set_option linter.unusedVariables false
def AboutP (w : World) (k id : Int) (l : List UInt8) (e : Ending) (w' : World) : Prop :=
  ∃ v, e = .returned (.agg #[.int .i64 k, .int .i64 id, v]) ∧ Below w.heap.size w w' ∧ w'.ownsRow w.heap.size 5 1 v (l.take 1488).length ((l.take 1488).map bv)
set_option maxRecDepth 100000 in
set_option maxHeartbeats 1000000 in
theorem about_any (k id : Int) (A : Option Addr) (len c : Nat) (l : List UInt8) (w : World) (B : Nat) (hB : B ≤ w.heap.size) (hA : At w B A (l.map bv)) (hlen : len = l.length) (hl : len ≤ 1000000000) (hlc : len ≤ c) :
    Calls Try.prog 32 #[.int .i64 k, .int .i64 id, .slice A len c] w (AboutP w k id l) := by
  by_cases h0 : len = 0
  · have hl0 : l = [] := List.eq_nil_of_length_eq_zero (by omega)
    subst hl0
    subst h0
    clear hA hB hlen
    go_enter Try.func32, Try.ntmps32
    go_wp2_with (at_builtin; refine wpList_dupb _ rfl (.tmp 13) (.tmp 17) 22 rfl 5 Try.underlying22 infoU8 _ (by simp) rfl w.heap.size _ 0 _ [] rfl rfl (by omega) (At.nil _ _ _) (by simp only [World.size_alloc]; omega) ?_; intro v' ys d hown; obtain ⟨A2, c2, rfl, -, -⟩ := ownsRow_form hown; have HO := Lib.hid hown; clear hown)
    all_goals
      refine bodyPost_ret (v := .agg #[.int .i64 k, .int .i64 id, .slice A2 0 c2]) (by simp [results, Try.results32, go_sem]) rfl ⟨.slice A2 0 c2, rfl, ?_, ?_⟩
      · (repeat (first | exact Below.refl _ _ | exact Nat.le_refl _ | (refine below_ext ?_ (by first | (simp [size_ext, grow]; done) | (simp [size_ext, grow]; omega)) _ _) | (refine Below.setCell ?_ (by first | (simp [size_ext, grow]; done) | (simp [size_ext, grow]; omega)) _) | (refine Below.alloc ?_ (by first | (simp [size_ext, grow]; done) | (simp [size_ext, grow]; omega)) _) | refine Below.drew ?_ | refine below_drewN ?_ _ | (refine Below.trans ?_ (Below.mono (by assumption) (by first | (simp [size_ext, grow]; done) | (simp [size_ext, grow]; omega))))))
      · exact own_base (own_swap HO.out (by simp) (by simp)) (by simp only [World.size_alloc]; omega)
  · obtain ⟨b, o, rfl, hb, hc⟩ := hA.get (by simp; omega)
    have HA := Lib.hid (show At w w.heap.size (some ⟨b, o, none⟩) ((l.take 1488).map bv) by rw [List.map_take]; exact (hA.more hB).take _)
    have hbw : b < w.heap.size := by omega
    have c0 : ¬ c = 0 := by omega
    by_cases h : 1488 < len
    · have HM := Lib.hid (show 1488 = (l.take 1488).length by rw [List.length_take]; omega)
      have hcc : (1488 : Int) ≤ (c : Int) := by omega
      clear hA hB hlen hc hb
      go_enter Try.func32, Try.ntmps32
      go_wp2_with (at_builtin; refine wpList_dupb _ rfl (.tmp 13) (.tmp 17) 22 rfl 5 Try.underlying22 infoU8 _ (by simp) rfl w.heap.size _ 1488 _ (l.take 1488) rfl HM.out (by omega) (HA.out.keep (by (repeat (first | exact Below.refl _ _ | exact Nat.le_refl _ | (refine below_ext ?_ (by first | (simp [size_ext, grow]; done) | (simp [size_ext, grow]; omega)) _ _) | (refine Below.setCell ?_ (by first | (simp [size_ext, grow]; done) | (simp [size_ext, grow]; omega)) _) | (refine Below.alloc ?_ (by first | (simp [size_ext, grow]; done) | (simp [size_ext, grow]; omega)) _) | refine Below.drew ?_ | refine below_drewN ?_ _ | (refine Below.trans ?_ (Below.mono (by assumption) (by first | (simp [size_ext, grow]; done) | (simp [size_ext, grow]; omega)))))))) (by simp only [World.size_alloc]; omega) ?_; intro v' ys d hown; obtain ⟨A2, c2, rfl, -, -⟩ := ownsRow_form hown; have HO := Lib.hid hown; clear hown)
      refine bodyPost_ret (v := .agg #[.int .i64 k, .int .i64 id, .slice A2 1488 c2]) (by simp [results, Try.results32, go_sem]) rfl ⟨.slice A2 1488 c2, rfl, ?_, ?_⟩
      · (repeat (first | exact Below.refl _ _ | exact Nat.le_refl _ | (refine below_ext ?_ (by first | (simp [size_ext, grow]; done) | (simp [size_ext, grow]; omega)) _ _) | (refine Below.setCell ?_ (by first | (simp [size_ext, grow]; done) | (simp [size_ext, grow]; omega)) _) | (refine Below.alloc ?_ (by first | (simp [size_ext, grow]; done) | (simp [size_ext, grow]; omega)) _) | refine Below.drew ?_ | refine below_drewN ?_ _ | (refine Below.trans ?_ (Below.mono (by assumption) (by first | (simp [size_ext, grow]; done) | (simp [size_ext, grow]; omega))))))
      · rw [← HM.out]; exact own_base (own_swap HO.out (by simp) (by simp)) (by simp only [World.size_alloc]; omega)
    · have HM := Lib.hid (show len = (l.take 1488).length by rw [List.length_take]; omega)
      have hcc : (len : Int) ≤ (c : Int) := by omega
      have hl1 : (0 : Int) < (len : Int) := by omega
      clear hA hB hlen hc hb
      go_enter Try.func32, Try.ntmps32
      go_wp2_with (at_builtin; refine wpList_dupb _ rfl (.tmp 13) (.tmp 17) 22 rfl 5 Try.underlying22 infoU8 _ (by simp) rfl w.heap.size _ len _ (l.take 1488) rfl HM.out (by omega) (HA.out.keep (by (repeat (first | exact Below.refl _ _ | exact Nat.le_refl _ | (refine below_ext ?_ (by first | (simp [size_ext, grow]; done) | (simp [size_ext, grow]; omega)) _ _) | (refine Below.setCell ?_ (by first | (simp [size_ext, grow]; done) | (simp [size_ext, grow]; omega)) _) | (refine Below.alloc ?_ (by first | (simp [size_ext, grow]; done) | (simp [size_ext, grow]; omega)) _) | refine Below.drew ?_ | refine below_drewN ?_ _ | (refine Below.trans ?_ (Below.mono (by assumption) (by first | (simp [size_ext, grow]; done) | (simp [size_ext, grow]; omega)))))))) (by simp only [World.size_alloc]; omega) ?_; intro v' ys d hown; obtain ⟨A2, c2, rfl, -, -⟩ := ownsRow_form hown; have HO := Lib.hid hown; clear hown)
      refine bodyPost_ret (v := .agg #[.int .i64 k, .int .i64 id, .slice A2 len c2]) (by simp [results, Try.results32, go_sem]) rfl ⟨.slice A2 len c2, rfl, ?_, ?_⟩
      · (repeat (first | exact Below.refl _ _ | exact Nat.le_refl _ | (refine below_ext ?_ (by first | (simp [size_ext, grow]; done) | (simp [size_ext, grow]; omega)) _ _) | (refine Below.setCell ?_ (by first | (simp [size_ext, grow]; done) | (simp [size_ext, grow]; omega)) _) | (refine Below.alloc ?_ (by first | (simp [size_ext, grow]; done) | (simp [size_ext, grow]; omega)) _) | refine Below.drew ?_ | refine below_drewN ?_ _ | (refine Below.trans ?_ (Below.mono (by assumption) (by first | (simp [size_ext, grow]; done) | (simp [size_ext, grow]; omega))))))
      · rw [← HM.out]; exact own_base (own_swap HO.out (by simp) (by simp)) (by simp only [World.size_alloc]; omega)
set_option maxRecDepth 100000 in
set_option maxHeartbeats 1000000 in
theorem told_any (k id : Int) (A : Option Addr) (len c : Nat) (l : List UInt8) (w : World) (B : Nat) (hB : B ≤ w.heap.size) (hA : At w B A (l.map bv)) (hlen : len = l.length) (hl : len ≤ 1000000000) (hlc : len ≤ c) :
    Calls Try.prog 33 #[.int .i64 k, .int .i64 id, .slice A len c] w (AboutP w k id l) := by
  by_cases h0 : len = 0
  · have hl0 : l = [] := List.eq_nil_of_length_eq_zero (by omega)
    subst hl0
    subst h0
    clear hA hB hlen
    go_enter Try.func33, Try.ntmps33
    go_wp2_with (at_builtin; refine wpList_dupb _ rfl (.tmp 9) (.tmp 14) 22 rfl 5 Try.underlying22 infoU8 _ (by simp) rfl w.heap.size _ 0 _ [] rfl rfl (by omega) (At.nil _ _ _) (by simp only [World.size_alloc]; omega) ?_; intro v' ys d hown; obtain ⟨A2, c2, rfl, -, -⟩ := ownsRow_form hown; have HO := Lib.hid hown; clear hown)
    all_goals
      refine bodyPost_ret (v := .agg #[.int .i64 k, .int .i64 id, .slice A2 0 c2]) (by simp [results, Try.results33, go_sem]) rfl ⟨.slice A2 0 c2, rfl, ?_, ?_⟩
      · (repeat (first | exact Below.refl _ _ | exact Nat.le_refl _ | (refine below_ext ?_ (by first | (simp [size_ext, grow]; done) | (simp [size_ext, grow]; omega)) _ _) | (refine Below.setCell ?_ (by first | (simp [size_ext, grow]; done) | (simp [size_ext, grow]; omega)) _) | (refine Below.alloc ?_ (by first | (simp [size_ext, grow]; done) | (simp [size_ext, grow]; omega)) _) | refine Below.drew ?_ | refine below_drewN ?_ _ | (refine Below.trans ?_ (Below.mono (by assumption) (by first | (simp [size_ext, grow]; done) | (simp [size_ext, grow]; omega))))))
      · exact own_base (own_swap HO.out (by simp) (by simp)) (by simp only [World.size_alloc]; omega)
  · obtain ⟨b, o, rfl, hb, hc⟩ := hA.get (by simp; omega)
    have HA := Lib.hid (show At w w.heap.size (some ⟨b, o, none⟩) ((l.take 1488).map bv) by rw [List.map_take]; exact (hA.more hB).take _)
    have hbw : b < w.heap.size := by omega
    have c0 : ¬ c = 0 := by omega
    by_cases h : 1488 < len
    · have HM := Lib.hid (show 1488 = (l.take 1488).length by rw [List.length_take]; omega)
      have hcc : (1488 : Int) ≤ (c : Int) := by omega
      clear hA hB hlen hc hb
      go_enter Try.func33, Try.ntmps33
      go_wp2_with (at_builtin; refine wpList_dupb _ rfl (.tmp 9) (.tmp 14) 22 rfl 5 Try.underlying22 infoU8 _ (by simp) rfl w.heap.size _ 1488 _ (l.take 1488) rfl HM.out (by omega) (HA.out.keep (by (repeat (first | exact Below.refl _ _ | exact Nat.le_refl _ | (refine below_ext ?_ (by first | (simp [size_ext, grow]; done) | (simp [size_ext, grow]; omega)) _ _) | (refine Below.setCell ?_ (by first | (simp [size_ext, grow]; done) | (simp [size_ext, grow]; omega)) _) | (refine Below.alloc ?_ (by first | (simp [size_ext, grow]; done) | (simp [size_ext, grow]; omega)) _) | refine Below.drew ?_ | refine below_drewN ?_ _ | (refine Below.trans ?_ (Below.mono (by assumption) (by first | (simp [size_ext, grow]; done) | (simp [size_ext, grow]; omega)))))))) (by simp only [World.size_alloc]; omega) ?_; intro v' ys d hown; obtain ⟨A2, c2, rfl, -, -⟩ := ownsRow_form hown; have HO := Lib.hid hown; clear hown)
      refine bodyPost_ret (v := .agg #[.int .i64 k, .int .i64 id, .slice A2 1488 c2]) (by simp [results, Try.results33, go_sem]) rfl ⟨.slice A2 1488 c2, rfl, ?_, ?_⟩
      · (repeat (first | exact Below.refl _ _ | exact Nat.le_refl _ | (refine below_ext ?_ (by first | (simp [size_ext, grow]; done) | (simp [size_ext, grow]; omega)) _ _) | (refine Below.setCell ?_ (by first | (simp [size_ext, grow]; done) | (simp [size_ext, grow]; omega)) _) | (refine Below.alloc ?_ (by first | (simp [size_ext, grow]; done) | (simp [size_ext, grow]; omega)) _) | refine Below.drew ?_ | refine below_drewN ?_ _ | (refine Below.trans ?_ (Below.mono (by assumption) (by first | (simp [size_ext, grow]; done) | (simp [size_ext, grow]; omega))))))
      · rw [← HM.out]; exact own_base (own_swap HO.out (by simp) (by simp)) (by simp only [World.size_alloc]; omega)
    · have HM := Lib.hid (show len = (l.take 1488).length by rw [List.length_take]; omega)
      have hcc : (len : Int) ≤ (c : Int) := by omega
      have hl1 : (0 : Int) < (len : Int) := by omega
      clear hA hB hlen hc hb
      go_enter Try.func33, Try.ntmps33
      go_wp2_with (at_builtin; refine wpList_dupb _ rfl (.tmp 9) (.tmp 14) 22 rfl 5 Try.underlying22 infoU8 _ (by simp) rfl w.heap.size _ len _ (l.take 1488) rfl HM.out (by omega) (HA.out.keep (by (repeat (first | exact Below.refl _ _ | exact Nat.le_refl _ | (refine below_ext ?_ (by first | (simp [size_ext, grow]; done) | (simp [size_ext, grow]; omega)) _ _) | (refine Below.setCell ?_ (by first | (simp [size_ext, grow]; done) | (simp [size_ext, grow]; omega)) _) | (refine Below.alloc ?_ (by first | (simp [size_ext, grow]; done) | (simp [size_ext, grow]; omega)) _) | refine Below.drew ?_ | refine below_drewN ?_ _ | (refine Below.trans ?_ (Below.mono (by assumption) (by first | (simp [size_ext, grow]; done) | (simp [size_ext, grow]; omega)))))))) (by simp only [World.size_alloc]; omega) ?_; intro v' ys d hown; obtain ⟨A2, c2, rfl, -, -⟩ := ownsRow_form hown; have HO := Lib.hid hown; clear hown)
      refine bodyPost_ret (v := .agg #[.int .i64 k, .int .i64 id, .slice A2 len c2]) (by simp [results, Try.results33, go_sem]) rfl ⟨.slice A2 len c2, rfl, ?_, ?_⟩
      · (repeat (first | exact Below.refl _ _ | exact Nat.le_refl _ | (refine below_ext ?_ (by first | (simp [size_ext, grow]; done) | (simp [size_ext, grow]; omega)) _ _) | (refine Below.setCell ?_ (by first | (simp [size_ext, grow]; done) | (simp [size_ext, grow]; omega)) _) | (refine Below.alloc ?_ (by first | (simp [size_ext, grow]; done) | (simp [size_ext, grow]; omega)) _) | refine Below.drew ?_ | refine below_drewN ?_ _ | (refine Below.trans ?_ (Below.mono (by assumption) (by first | (simp [size_ext, grow]; done) | (simp [size_ext, grow]; omega))))))
      · rw [← HM.out]; exact own_base (own_swap HO.out (by simp) (by simp)) (by simp only [World.size_alloc]; omega)
end Go.Proofs.Ytjnahbiagfghgaa
