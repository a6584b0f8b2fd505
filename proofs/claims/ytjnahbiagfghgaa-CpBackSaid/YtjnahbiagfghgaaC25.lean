/- CpBack's plain laws: what was joined is split, what was encoded decoded, and back. -/
import Derived.Test.YtjnahbiagfghgaaC21
namespace Go.Proofs.Ytjnahbiagfghgaa
open Go.RowKit
set_option linter.unusedSimpArgs false
set_option linter.unusedVariables false
theorem be_putB2 (q : Nat) (h : q < 65536) : be (putB q 2) = q := by
  have : putB q 2 = [UInt8.ofNat (q / 256), UInt8.ofNat q] := rfl
  rw [this]
  show (0 * 256 + (UInt8.ofNat (q / 256)).toNat) * 256 + (UInt8.ofNat q).toNat = q
  rw [show (UInt8.ofNat (q / 256)).toNat = q / 256 % 256 from by simp, show (UInt8.ofNat q).toNat = q % 256 from by simp]
  omega
theorem putB2_be (x y : UInt8) : putB (x.toNat * 256 + y.toNat) 2 = [x, y] := by
  have hx := x.toNat_lt
  have hy := y.toNat_lt
  show [UInt8.ofNat ((x.toNat * 256 + y.toNat) / 256), UInt8.ofNat (x.toNat * 256 + y.toNat)] = [x, y]
  congr 1
  · rw [show (x.toNat * 256 + y.toNat) / 256 = x.toNat by omega]; simp
  · congr 1
    apply UInt8.toNat_inj.1
    rw [show (UInt8.ofNat (x.toNat * 256 + y.toNat)).toNat = (x.toNat * 256 + y.toNat) % 256 from by simp]
    omega

theorem back_split (p : Int) (l : List UInt8) (h : joinErr p l.length = 0) : splitErr (joinB p l) = 0 ∧ splitNum (joinB p l) = p ∧ splitRest (joinB p l) = l := by
  have hj : joinB p l = putB p.toNat 2 ++ l := by simp [joinB, h]
  have hp : proto p = true := by
    unfold joinErr at h
    split at h
    · omega
    · rename_i h1; simpa using h1
  have hl : l.length ≤ 1492 := by
    unfold joinErr at h
    rw [hp] at h
    simp only [Bool.not_true, Bool.false_eq_true, if_false] at h
    split at h <;> omega
  have hb := proto_bd hp
  have ht : (putB p.toNat 2 ++ l).take 2 = putB p.toNat 2 := by rw [List.take_append_of_le_length (by rw [putB_length]; omega), List.take_of_length_le (by rw [putB_length]; omega)]
  have hd : (putB p.toNat 2 ++ l).drop 2 = l := by rw [List.drop_append_of_le_length (by rw [putB_length]; omega), List.drop_of_length_le (by rw [putB_length]; omega), List.nil_append]
  have hbe : ((be ((putB p.toNat 2 ++ l).take 2) : Nat) : Int) = p := by rw [ht, be_putB2 _ (by omega)]; omega
  have he : splitErr (putB p.toNat 2 ++ l) = 0 := by
    unfold splitErr
    rw [if_neg (by rw [hbe, hp, List.length_append, putB_length]; simp), if_neg (by rw [List.length_append, putB_length]; omega)]
  rw [hj]
  exact ⟨he, by rw [splitNum, if_pos he, hbe], by rw [splitRest, if_pos he, hd]⟩

theorem back_join (l : List UInt8) (h : splitErr l = 0) : joinErr (splitNum l) (splitRest l).length = 0 ∧ joinB (splitNum l) (splitRest l) = l := by
  have hh := h
  unfold splitErr at h
  split at h
  · omega
  · rename_i h1
    split at h
    · omega
    · rename_i h2
      simp only [Bool.or_eq_true, decide_eq_true_eq, Bool.not_eq_true', not_or, Bool.not_eq_false] at h1
      obtain ⟨x, y, t, rfl⟩ := two_of (l := l) (by omega)
      have hn : splitNum (x :: y :: t) = ((x.toNat * 256 + y.toNat : Nat) : Int) := by rw [splitNum, if_pos hh, be2]
      have hr : splitRest (x :: y :: t) = t := by rw [splitRest, if_pos hh]; rfl
      have hp : proto (((x.toNat * 256 + y.toNat : Nat)) : Int) = true := by rw [← be2 x y t]; exact h1.2
      have he : joinErr (((x.toNat * 256 + y.toNat : Nat)) : Int) t.length = 0 := by
        unfold joinErr
        rw [if_neg (by rw [hp]; simp), if_neg (by simp at h2; omega)]
      rw [hn, hr]
      refine ⟨he, ?_⟩
      unfold joinB
      rw [if_pos he, Int.toNat_natCast, putB2_be]
      rfl

theorem encErr_in {a b : Int} {n : Nat} (h : encErr a b n = 0) : inB a 0 255 = true ∧ inB b 0 255 = true ∧ n ≤ 1488 := by
  unfold encErr at h
  split at h
  · omega
  · rename_i h1
    split at h
    · omega
    · simp only [Bool.or_eq_true, Bool.not_eq_true', not_or, Bool.not_eq_false] at h1
      exact ⟨h1.1, h1.2, by omega⟩
theorem back_dec (a b : Int) (l m : List UInt8) (h : encErr a b l.length = 0) : decErr (encB a b l ++ m) = 0 ∧ decCode (encB a b l ++ m) = a ∧ decID (encB a b l ++ m) = b ∧ decData (encB a b l ++ m) = l := by
  obtain ⟨h1, h2, h3⟩ := encErr_in h
  obtain ⟨x, rfl, hx⟩ := byte_of h1
  obtain ⟨y, rfl, hy⟩ := byte_of h2
  obtain ⟨u, v, huv⟩ : ∃ u v, putB (l.length + 4) 2 = [u, v] := ⟨_, _, rfl⟩
  have hE : encB x.toNat y.toNat l ++ m = x :: y :: u :: v :: (l ++ m) := by
    unfold encB
    rw [if_pos h, hx, hy, huv]
    simp
  have hN : decN (x :: y :: u :: v :: (l ++ m)) = l.length + 4 := by
    show be [u, v] = _
    rw [← huv, be_putB2 _ (by omega)]
  have he : decErr (x :: y :: u :: v :: (l ++ m)) = 0 := by
    unfold decErr
    rw [if_neg (by simp), if_neg (by rw [hN]; simp)]
  rw [hE]
  refine ⟨he, by simp [decCode, he], by simp [decID, he], ?_⟩
  rw [decData, if_pos he, hN, List.drop_take]
  show ((l ++ m).take (l.length + 4 - 4)) = l
  rw [Nat.add_sub_cancel]
  simp

theorem back_enc (l : List UInt8) (h : decErr l = 0) (h2 : (decData l).length ≤ 1488) :
    encErr (decCode l) (decID l) (decData l).length = 0 ∧ encB (decCode l) (decID l) (decData l) = l.take (decN l) ∧ decN l ≤ l.length := by
  have hh := h
  unfold decErr at h
  split at h
  · omega
  · rename_i h1
    split at h
    · omega
    · rename_i h3
      obtain ⟨x, y, u, v, t, rfl⟩ := four_of h1
      have hN : decN (x :: y :: u :: v :: t) = u.toNat * 256 + v.toNat := by simp [decN, be]
      have hD : decData (x :: y :: u :: v :: t) = t.take (u.toNat * 256 + v.toNat - 4) := by rw [decData, if_pos hh, hN, List.drop_take]; rfl
      have hC : decCode (x :: y :: u :: v :: t) = x.toNat := by simp [decCode, hh]
      have hI : decID (x :: y :: u :: v :: t) = y.toNat := by simp [decID, hh]
      have hl : (decData (x :: y :: u :: v :: t)).length = u.toNat * 256 + v.toNat - 4 := by
        rw [hD, List.length_take]; rw [hN] at h3; simp at h3; omega
      have bx : inB (x.toNat : Int) 0 255 = true := by have := x.toNat_lt; simp [inB]; omega
      have by' : inB (y.toNat : Int) 0 255 = true := by have := y.toNat_lt; simp [inB]; omega
      have he : encErr (x.toNat : Int) (y.toNat : Int) (decData (x :: y :: u :: v :: t)).length = 0 := by
        unfold encErr
        rw [if_neg (by rw [bx, by']; simp), if_neg (by omega)]
      rw [hC, hI]
      refine ⟨he, ?_, by omega⟩
      unfold encB
      rw [if_pos he, hl, hN, hD]
      rw [hN] at h3
      obtain ⟨k, hk⟩ : ∃ k, u.toNat * 256 + v.toNat = k + 4 := ⟨u.toNat * 256 + v.toNat - 4, by omega⟩
      rw [show u.toNat * 256 + v.toNat - 4 + 4 = u.toNat * 256 + v.toNat by omega, putB2_be, hk]
      simp
end Go.Proofs.Ytjnahbiagfghgaa
