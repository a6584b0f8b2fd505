/- Reject and Protocol, both. -/
import Derived.Test.YtjnahbiagfghgaaC20
namespace Go.Proofs.Ytjnahbiagfghgaa
open Go.RowKit
set_option linter.unusedSimpArgs false
set_option linter.unusedVariables false
def rejE (id e : Int) : Int := if !inB id 0 255 then 1 else e
def rK (err k : Int) : Int := if err = 0 then k else 0
def rL (err : Int) (l : List UInt8) : List UInt8 := if err = 0 then l.take 1488 else []
def RejP (w : World) (k id err : Int) (l : List UInt8) (e : Ending) (w' : World) : Prop :=
  ∃ v, e = .returned (.tuple #[.agg #[.int .i64 (rK err k), .int .i64 (rK err id), v], .int .i64 err]) ∧ Below w.heap.size w w' ∧ w'.ownsRow w.heap.size 5 1 v (rL err l).length ((rL err l).map bv)
theorem encB_len (a b : Int) (l : List UInt8) : (encB a b l).length ≤ 1492 := by
  unfold encB
  split
  · rename_i h
    unfold encErr at h
    split at h
    · omega
    · split at h
      · omega
      · simp [putB_length]; omega
  · simp
theorem joinB_len (p : Int) (l : List UInt8) : (joinB p l).length ≤ 1494 := by
  unfold joinB
  split
  · rename_i h
    unfold joinErr at h
    split at h
    · omega
    · split at h
      · omega
      · simp [putB_length]; omega
  · simp
theorem encErr_ne (a b : Int) (n : Nat) : encErr a b n = 0 ∨ encErr a b n = 1 ∨ encErr a b n = 2 := by
  unfold encErr; split
  · exact .inr (.inl rfl)
  · split
    · exact .inr (.inr rfl)
    · exact .inl rfl
theorem joinErr_ne (p : Int) (n : Nat) : joinErr p n = 0 ∨ joinErr p n = 70 ∨ joinErr p n = 2 := by
  unfold joinErr; split
  · exact .inr (.inl rfl)
  · split
    · exact .inr (.inr rfl)
    · exact .inl rfl
set_option maxRecDepth 100000 in
set_option maxHeartbeats 2000000 in
theorem rej_any (a b : Int) (A : Option Addr) (len c : Nat) (l : List UInt8) (id : Int) (w : World) (B : Nat) (hB : B ≤ w.heap.size) (hA : At w B A (l.map bv)) (hlen : len = l.length) (hl : len ≤ 1000000000) :
    Calls Try.prog 20 #[.agg #[.int .i64 a, .int .i64 b, .slice A len c], .int .i64 id] w (RejP w 7 id (rejE id (encErr a b l.length)) (encB a b l)) := by
  have HA := Lib.hid (hA.more hB)
  have HL := Lib.hid hlen
  clear hA hB hlen
  cases h1 : inB id 0 255
  · have He := Lib.hid (show rejE id (encErr a b l.length) = 1 by simp [rejE, h1])
    rcases encErr_ne a b l.length with e0 | e0 | e0
    all_goals
      have E0 := Lib.hid e0
      rw [He.out]
      go_enter Try.func20, Try.ntmps20
      go_wp2_with (first | (go_at_call 30; refine (isByte_any _ _).mono ?_; rintro e w1 ⟨rfl, rfl⟩) | (go_at_call 17; refine (enc_any a b A len c l _ w.heap.size (by simp [go_sem]) (HA.out.keep (by (repeat (first | exact Below.refl _ _ | exact Nat.le_refl _ | (refine below_ext ?_ (by first | (simp [size_ext, grow]; done) | (simp [size_ext, grow]; omega)) _ _) | (refine Below.setCell ?_ (by first | (simp [size_ext, grow]; done) | (simp [size_ext, grow]; omega)) _) | (refine Below.alloc ?_ (by first | (simp [size_ext, grow]; done) | (simp [size_ext, grow]; omega)) _) | refine Below.drew ?_ | refine below_drewN ?_ _ | (refine Below.trans ?_ (Below.mono (by assumption) (by first | (simp [size_ext, grow]; done) | (simp [size_ext, grow]; omega)))))))) HL.out (by omega)).mono ?_; rintro e w1 ⟨v, rfl, hb, ho⟩; obtain ⟨xs1, d1, rfl⟩ := ext_of hb; clear hb; obtain ⟨B1, k1, rfl, hk1, -⟩ := ownsRow_form ho; have HO1 := Lib.hid ho; have HK1 := Lib.hid hk1; clear ho hk1) | (go_at_call 32; refine (about_any _ _ B1 _ k1 (encB a b l) _ _ (Nat.le_refl _) (At.of_own HO1.out) rfl (by have := encB_len a b l; omega) HK1.out).mono ?_; rintro e w1 ⟨v, rfl, hb, ho⟩; obtain ⟨xs2, d2, rfl⟩ := ext_of hb; clear hb; obtain ⟨B2, k2, rfl, hk2, -⟩ := ownsRow_form ho; have HO2 := Lib.hid ho; have HK2 := Lib.hid hk2; clear ho hk2))
      refine bodyPost_ret (v := .tuple #[.agg #[.int .i64 0, .int .i64 0, .slice none 0 0], .int .i64 1]) (by simp [results, Try.results20, go_sem]) rfl ⟨.slice none 0 0, rfl, ?_, by exact own_nil _ _ _ _⟩
      (repeat (first | exact Below.refl _ _ | exact Nat.le_refl _ | (refine below_ext ?_ (by first | (simp [size_ext, grow]; done) | (simp [size_ext, grow]; omega)) _ _) | (refine Below.setCell ?_ (by first | (simp [size_ext, grow]; done) | (simp [size_ext, grow]; omega)) _) | (refine Below.alloc ?_ (by first | (simp [size_ext, grow]; done) | (simp [size_ext, grow]; omega)) _) | refine Below.drew ?_ | refine below_drewN ?_ _ | (refine Below.trans ?_ (Below.mono (by assumption) (by first | (simp [size_ext, grow]; done) | (simp [size_ext, grow]; omega))))))
  · rcases encErr_ne a b l.length with e0 | e0 | e0
    · have He := Lib.hid (show rejE id (encErr a b l.length) = 0 by simp [rejE, h1, e0])
      rw [He.out]
      go_enter Try.func20, Try.ntmps20
      go_wp2_with (first | (go_at_call 30; refine (isByte_any _ _).mono ?_; rintro e w1 ⟨rfl, rfl⟩) | (go_at_call 17; refine (enc_any a b A len c l _ w.heap.size (by simp [go_sem]) (HA.out.keep (by (repeat (first | exact Below.refl _ _ | exact Nat.le_refl _ | (refine below_ext ?_ (by first | (simp [size_ext, grow]; done) | (simp [size_ext, grow]; omega)) _ _) | (refine Below.setCell ?_ (by first | (simp [size_ext, grow]; done) | (simp [size_ext, grow]; omega)) _) | (refine Below.alloc ?_ (by first | (simp [size_ext, grow]; done) | (simp [size_ext, grow]; omega)) _) | refine Below.drew ?_ | refine below_drewN ?_ _ | (refine Below.trans ?_ (Below.mono (by assumption) (by first | (simp [size_ext, grow]; done) | (simp [size_ext, grow]; omega)))))))) HL.out (by omega)).mono ?_; rintro e w1 ⟨v, rfl, hb, ho⟩; obtain ⟨xs1, d1, rfl⟩ := ext_of hb; clear hb; obtain ⟨B1, k1, rfl, hk1, -⟩ := ownsRow_form ho; have HO1 := Lib.hid ho; have HK1 := Lib.hid hk1; clear ho hk1) | (go_at_call 32; refine (about_any _ _ B1 _ k1 (encB a b l) _ _ (Nat.le_refl _) (At.of_own HO1.out) rfl (by have := encB_len a b l; omega) HK1.out).mono ?_; rintro e w1 ⟨v, rfl, hb, ho⟩; obtain ⟨xs2, d2, rfl⟩ := ext_of hb; clear hb; obtain ⟨B2, k2, rfl, hk2, -⟩ := ownsRow_form ho; have HO2 := Lib.hid ho; have HK2 := Lib.hid hk2; clear ho hk2))
      refine bodyPost_ret (v := .tuple #[.agg #[.int .i64 7, .int .i64 id, .slice B2 ((encB a b l).take 1488).length k2], .int .i64 0]) (by simp [results, Try.results20, go_sem]) rfl ⟨.slice B2 ((encB a b l).take 1488).length k2, rfl, ?_, ?_⟩
      · (repeat (first | exact Below.refl _ _ | exact Nat.le_refl _ | (refine below_ext ?_ (by first | (simp [size_ext, grow]; done) | (simp [size_ext, grow]; omega)) _ _) | (refine Below.setCell ?_ (by first | (simp [size_ext, grow]; done) | (simp [size_ext, grow]; omega)) _) | (refine Below.alloc ?_ (by first | (simp [size_ext, grow]; done) | (simp [size_ext, grow]; omega)) _) | refine Below.drew ?_ | refine below_drewN ?_ _ | (refine Below.trans ?_ (Below.mono (by assumption) (by first | (simp [size_ext, grow]; done) | (simp [size_ext, grow]; omega))))))
      · exact own_base (own_swap HO2.out (by simp [size_ext]) (by simp)) (by simp [size_ext, grow]; omega)
    all_goals
      have He := Lib.hid (show rejE id (encErr a b l.length) = encErr a b l.length by simp [rejE, h1])
      rw [He.out]
      rw [e0]
      go_enter Try.func20, Try.ntmps20
      go_wp2_with (first | (go_at_call 30; refine (isByte_any _ _).mono ?_; rintro e w1 ⟨rfl, rfl⟩) | (go_at_call 17; refine (enc_any a b A len c l _ w.heap.size (by simp [go_sem]) (HA.out.keep (by (repeat (first | exact Below.refl _ _ | exact Nat.le_refl _ | (refine below_ext ?_ (by first | (simp [size_ext, grow]; done) | (simp [size_ext, grow]; omega)) _ _) | (refine Below.setCell ?_ (by first | (simp [size_ext, grow]; done) | (simp [size_ext, grow]; omega)) _) | (refine Below.alloc ?_ (by first | (simp [size_ext, grow]; done) | (simp [size_ext, grow]; omega)) _) | refine Below.drew ?_ | refine below_drewN ?_ _ | (refine Below.trans ?_ (Below.mono (by assumption) (by first | (simp [size_ext, grow]; done) | (simp [size_ext, grow]; omega)))))))) HL.out (by omega)).mono ?_; rintro e w1 ⟨v, rfl, hb, ho⟩; obtain ⟨xs1, d1, rfl⟩ := ext_of hb; clear hb; obtain ⟨B1, k1, rfl, hk1, -⟩ := ownsRow_form ho; have HO1 := Lib.hid ho; have HK1 := Lib.hid hk1; clear ho hk1) | (go_at_call 32; refine (about_any _ _ B1 _ k1 (encB a b l) _ _ (Nat.le_refl _) (At.of_own HO1.out) rfl (by have := encB_len a b l; omega) HK1.out).mono ?_; rintro e w1 ⟨v, rfl, hb, ho⟩; obtain ⟨xs2, d2, rfl⟩ := ext_of hb; clear hb; obtain ⟨B2, k2, rfl, hk2, -⟩ := ownsRow_form ho; have HO2 := Lib.hid ho; have HK2 := Lib.hid hk2; clear ho hk2))
      refine bodyPost_ret (v := .tuple #[.agg #[.int .i64 0, .int .i64 0, .slice none 0 0], .int .i64 _]) (by simp [results, Try.results20, go_sem]) rfl ⟨.slice none 0 0, rfl, ?_, by exact own_nil _ _ _ _⟩
      (repeat (first | exact Below.refl _ _ | exact Nat.le_refl _ | (refine below_ext ?_ (by first | (simp [size_ext, grow]; done) | (simp [size_ext, grow]; omega)) _ _) | (refine Below.setCell ?_ (by first | (simp [size_ext, grow]; done) | (simp [size_ext, grow]; omega)) _) | (refine Below.alloc ?_ (by first | (simp [size_ext, grow]; done) | (simp [size_ext, grow]; omega)) _) | refine Below.drew ?_ | refine below_drewN ?_ _ | (refine Below.trans ?_ (Below.mono (by assumption) (by first | (simp [size_ext, grow]; done) | (simp [size_ext, grow]; omega))))))
set_option maxRecDepth 100000 in
set_option maxHeartbeats 2000000 in
theorem rej_ref (a b : Int) (A : Option Addr) (len c : Nat) (l : List UInt8) (id : Int) (w : World) (B : Nat) (hB : B ≤ w.heap.size) (hA : At w B A (l.map bv)) (hlen : len = l.length) (hl : len ≤ 1000000000) :
    Calls Try.prog 21 #[.agg #[.int .i64 a, .int .i64 b, .slice A len c], .int .i64 id] w (RejP w 7 id (rejE id (encErr a b l.length)) (encB a b l)) := by
  have HA := Lib.hid (hA.more hB)
  have HL := Lib.hid hlen
  clear hA hB hlen
  cases h1 : inB id 0 255
  · have He := Lib.hid (show rejE id (encErr a b l.length) = 1 by simp [rejE, h1])
    rcases encErr_ne a b l.length with e0 | e0 | e0
    all_goals
      have E0 := Lib.hid e0
      rw [He.out]
      go_enter Try.func21, Try.ntmps21
      go_wp2_with (first | (go_at_call 31; refine (byteOK_any _ _).mono ?_; rintro e w1 ⟨rfl, rfl⟩) | (go_at_call 18; refine (enc_ref a b A len c l _ w.heap.size (by simp [go_sem]) (HA.out.keep (by (repeat (first | exact Below.refl _ _ | exact Nat.le_refl _ | (refine below_ext ?_ (by first | (simp [size_ext, grow]; done) | (simp [size_ext, grow]; omega)) _ _) | (refine Below.setCell ?_ (by first | (simp [size_ext, grow]; done) | (simp [size_ext, grow]; omega)) _) | (refine Below.alloc ?_ (by first | (simp [size_ext, grow]; done) | (simp [size_ext, grow]; omega)) _) | refine Below.drew ?_ | refine below_drewN ?_ _ | (refine Below.trans ?_ (Below.mono (by assumption) (by first | (simp [size_ext, grow]; done) | (simp [size_ext, grow]; omega)))))))) HL.out (by omega)).mono ?_; rintro e w1 ⟨v, rfl, hb, ho⟩; obtain ⟨xs1, d1, rfl⟩ := ext_of hb; clear hb; obtain ⟨B1, k1, rfl, hk1, -⟩ := ownsRow_form ho; have HO1 := Lib.hid ho; have HK1 := Lib.hid hk1; clear ho hk1) | (go_at_call 33; refine (told_any _ _ B1 _ k1 (encB a b l) _ _ (Nat.le_refl _) (At.of_own HO1.out) rfl (by have := encB_len a b l; omega) HK1.out).mono ?_; rintro e w1 ⟨v, rfl, hb, ho⟩; obtain ⟨xs2, d2, rfl⟩ := ext_of hb; clear hb; obtain ⟨B2, k2, rfl, hk2, -⟩ := ownsRow_form ho; have HO2 := Lib.hid ho; have HK2 := Lib.hid hk2; clear ho hk2))
      refine bodyPost_ret (v := .tuple #[.agg #[.int .i64 0, .int .i64 0, .slice none 0 0], .int .i64 1]) (by simp [results, Try.results21, go_sem]) rfl ⟨.slice none 0 0, rfl, ?_, by exact own_nil _ _ _ _⟩
      (repeat (first | exact Below.refl _ _ | exact Nat.le_refl _ | (refine below_ext ?_ (by first | (simp [size_ext, grow]; done) | (simp [size_ext, grow]; omega)) _ _) | (refine Below.setCell ?_ (by first | (simp [size_ext, grow]; done) | (simp [size_ext, grow]; omega)) _) | (refine Below.alloc ?_ (by first | (simp [size_ext, grow]; done) | (simp [size_ext, grow]; omega)) _) | refine Below.drew ?_ | refine below_drewN ?_ _ | (refine Below.trans ?_ (Below.mono (by assumption) (by first | (simp [size_ext, grow]; done) | (simp [size_ext, grow]; omega))))))
  · rcases encErr_ne a b l.length with e0 | e0 | e0
    · have He := Lib.hid (show rejE id (encErr a b l.length) = 0 by simp [rejE, h1, e0])
      rw [He.out]
      go_enter Try.func21, Try.ntmps21
      go_wp2_with (first | (go_at_call 31; refine (byteOK_any _ _).mono ?_; rintro e w1 ⟨rfl, rfl⟩) | (go_at_call 18; refine (enc_ref a b A len c l _ w.heap.size (by simp [go_sem]) (HA.out.keep (by (repeat (first | exact Below.refl _ _ | exact Nat.le_refl _ | (refine below_ext ?_ (by first | (simp [size_ext, grow]; done) | (simp [size_ext, grow]; omega)) _ _) | (refine Below.setCell ?_ (by first | (simp [size_ext, grow]; done) | (simp [size_ext, grow]; omega)) _) | (refine Below.alloc ?_ (by first | (simp [size_ext, grow]; done) | (simp [size_ext, grow]; omega)) _) | refine Below.drew ?_ | refine below_drewN ?_ _ | (refine Below.trans ?_ (Below.mono (by assumption) (by first | (simp [size_ext, grow]; done) | (simp [size_ext, grow]; omega)))))))) HL.out (by omega)).mono ?_; rintro e w1 ⟨v, rfl, hb, ho⟩; obtain ⟨xs1, d1, rfl⟩ := ext_of hb; clear hb; obtain ⟨B1, k1, rfl, hk1, -⟩ := ownsRow_form ho; have HO1 := Lib.hid ho; have HK1 := Lib.hid hk1; clear ho hk1) | (go_at_call 33; refine (told_any _ _ B1 _ k1 (encB a b l) _ _ (Nat.le_refl _) (At.of_own HO1.out) rfl (by have := encB_len a b l; omega) HK1.out).mono ?_; rintro e w1 ⟨v, rfl, hb, ho⟩; obtain ⟨xs2, d2, rfl⟩ := ext_of hb; clear hb; obtain ⟨B2, k2, rfl, hk2, -⟩ := ownsRow_form ho; have HO2 := Lib.hid ho; have HK2 := Lib.hid hk2; clear ho hk2))
      refine bodyPost_ret (v := .tuple #[.agg #[.int .i64 7, .int .i64 id, .slice B2 ((encB a b l).take 1488).length k2], .int .i64 0]) (by simp [results, Try.results21, go_sem]) rfl ⟨.slice B2 ((encB a b l).take 1488).length k2, rfl, ?_, ?_⟩
      · (repeat (first | exact Below.refl _ _ | exact Nat.le_refl _ | (refine below_ext ?_ (by first | (simp [size_ext, grow]; done) | (simp [size_ext, grow]; omega)) _ _) | (refine Below.setCell ?_ (by first | (simp [size_ext, grow]; done) | (simp [size_ext, grow]; omega)) _) | (refine Below.alloc ?_ (by first | (simp [size_ext, grow]; done) | (simp [size_ext, grow]; omega)) _) | refine Below.drew ?_ | refine below_drewN ?_ _ | (refine Below.trans ?_ (Below.mono (by assumption) (by first | (simp [size_ext, grow]; done) | (simp [size_ext, grow]; omega))))))
      · exact own_base (own_swap HO2.out (by simp [size_ext]) (by simp)) (by simp [size_ext, grow]; omega)
    all_goals
      have He := Lib.hid (show rejE id (encErr a b l.length) = encErr a b l.length by simp [rejE, h1])
      rw [He.out]
      rw [e0]
      go_enter Try.func21, Try.ntmps21
      go_wp2_with (first | (go_at_call 31; refine (byteOK_any _ _).mono ?_; rintro e w1 ⟨rfl, rfl⟩) | (go_at_call 18; refine (enc_ref a b A len c l _ w.heap.size (by simp [go_sem]) (HA.out.keep (by (repeat (first | exact Below.refl _ _ | exact Nat.le_refl _ | (refine below_ext ?_ (by first | (simp [size_ext, grow]; done) | (simp [size_ext, grow]; omega)) _ _) | (refine Below.setCell ?_ (by first | (simp [size_ext, grow]; done) | (simp [size_ext, grow]; omega)) _) | (refine Below.alloc ?_ (by first | (simp [size_ext, grow]; done) | (simp [size_ext, grow]; omega)) _) | refine Below.drew ?_ | refine below_drewN ?_ _ | (refine Below.trans ?_ (Below.mono (by assumption) (by first | (simp [size_ext, grow]; done) | (simp [size_ext, grow]; omega)))))))) HL.out (by omega)).mono ?_; rintro e w1 ⟨v, rfl, hb, ho⟩; obtain ⟨xs1, d1, rfl⟩ := ext_of hb; clear hb; obtain ⟨B1, k1, rfl, hk1, -⟩ := ownsRow_form ho; have HO1 := Lib.hid ho; have HK1 := Lib.hid hk1; clear ho hk1) | (go_at_call 33; refine (told_any _ _ B1 _ k1 (encB a b l) _ _ (Nat.le_refl _) (At.of_own HO1.out) rfl (by have := encB_len a b l; omega) HK1.out).mono ?_; rintro e w1 ⟨v, rfl, hb, ho⟩; obtain ⟨xs2, d2, rfl⟩ := ext_of hb; clear hb; obtain ⟨B2, k2, rfl, hk2, -⟩ := ownsRow_form ho; have HO2 := Lib.hid ho; have HK2 := Lib.hid hk2; clear ho hk2))
      refine bodyPost_ret (v := .tuple #[.agg #[.int .i64 0, .int .i64 0, .slice none 0 0], .int .i64 _]) (by simp [results, Try.results21, go_sem]) rfl ⟨.slice none 0 0, rfl, ?_, by exact own_nil _ _ _ _⟩
      (repeat (first | exact Below.refl _ _ | exact Nat.le_refl _ | (refine below_ext ?_ (by first | (simp [size_ext, grow]; done) | (simp [size_ext, grow]; omega)) _ _) | (refine Below.setCell ?_ (by first | (simp [size_ext, grow]; done) | (simp [size_ext, grow]; omega)) _) | (refine Below.alloc ?_ (by first | (simp [size_ext, grow]; done) | (simp [size_ext, grow]; omega)) _) | refine Below.drew ?_ | refine below_drewN ?_ _ | (refine Below.trans ?_ (Below.mono (by assumption) (by first | (simp [size_ext, grow]; done) | (simp [size_ext, grow]; omega))))))
set_option maxRecDepth 100000 in
set_option maxHeartbeats 2000000 in
theorem prot_any (p : Int) (A : Option Addr) (len c : Nat) (l : List UInt8) (id : Int) (w : World) (B : Nat) (hB : B ≤ w.heap.size) (hA : At w B A (l.map bv)) (hlen : len = l.length) (hl : len ≤ 1000000000) :
    Calls Try.prog 22 #[.agg #[.int .i64 p, .slice A len c], .int .i64 id] w (RejP w 8 id (rejE id (joinErr p l.length)) (joinB p l)) := by
  have HA := Lib.hid (hA.more hB)
  have HL := Lib.hid hlen
  clear hA hB hlen
  cases h1 : inB id 0 255
  · have He := Lib.hid (show rejE id (joinErr p l.length) = 1 by simp [rejE, h1])
    rcases joinErr_ne p l.length with e0 | e0 | e0
    all_goals
      have E0 := Lib.hid e0
      rw [He.out]
      go_enter Try.func22, Try.ntmps22
      go_wp2_with (first | (go_at_call 30; refine (isByte_any _ _).mono ?_; rintro e w1 ⟨rfl, rfl⟩) | (go_at_call 11; refine (join_any p A len c l _ w.heap.size (by simp [go_sem]) (HA.out.keep (by (repeat (first | exact Below.refl _ _ | exact Nat.le_refl _ | (refine below_ext ?_ (by first | (simp [size_ext, grow]; done) | (simp [size_ext, grow]; omega)) _ _) | (refine Below.setCell ?_ (by first | (simp [size_ext, grow]; done) | (simp [size_ext, grow]; omega)) _) | (refine Below.alloc ?_ (by first | (simp [size_ext, grow]; done) | (simp [size_ext, grow]; omega)) _) | refine Below.drew ?_ | refine below_drewN ?_ _ | (refine Below.trans ?_ (Below.mono (by assumption) (by first | (simp [size_ext, grow]; done) | (simp [size_ext, grow]; omega)))))))) HL.out (by omega)).mono ?_; rintro e w1 ⟨v, rfl, hb, ho⟩; obtain ⟨xs1, d1, rfl⟩ := ext_of hb; clear hb; obtain ⟨B1, k1, rfl, hk1, -⟩ := ownsRow_form ho; have HO1 := Lib.hid ho; have HK1 := Lib.hid hk1; clear ho hk1) | (go_at_call 32; refine (about_any _ _ B1 _ k1 (joinB p l) _ _ (Nat.le_refl _) (At.of_own HO1.out) rfl (by have := joinB_len p l; omega) HK1.out).mono ?_; rintro e w1 ⟨v, rfl, hb, ho⟩; obtain ⟨xs2, d2, rfl⟩ := ext_of hb; clear hb; obtain ⟨B2, k2, rfl, hk2, -⟩ := ownsRow_form ho; have HO2 := Lib.hid ho; have HK2 := Lib.hid hk2; clear ho hk2))
      refine bodyPost_ret (v := .tuple #[.agg #[.int .i64 0, .int .i64 0, .slice none 0 0], .int .i64 1]) (by simp [results, Try.results22, go_sem]) rfl ⟨.slice none 0 0, rfl, ?_, by exact own_nil _ _ _ _⟩
      (repeat (first | exact Below.refl _ _ | exact Nat.le_refl _ | (refine below_ext ?_ (by first | (simp [size_ext, grow]; done) | (simp [size_ext, grow]; omega)) _ _) | (refine Below.setCell ?_ (by first | (simp [size_ext, grow]; done) | (simp [size_ext, grow]; omega)) _) | (refine Below.alloc ?_ (by first | (simp [size_ext, grow]; done) | (simp [size_ext, grow]; omega)) _) | refine Below.drew ?_ | refine below_drewN ?_ _ | (refine Below.trans ?_ (Below.mono (by assumption) (by first | (simp [size_ext, grow]; done) | (simp [size_ext, grow]; omega))))))
  · rcases joinErr_ne p l.length with e0 | e0 | e0
    · have He := Lib.hid (show rejE id (joinErr p l.length) = 0 by simp [rejE, h1, e0])
      rw [He.out]
      go_enter Try.func22, Try.ntmps22
      go_wp2_with (first | (go_at_call 30; refine (isByte_any _ _).mono ?_; rintro e w1 ⟨rfl, rfl⟩) | (go_at_call 11; refine (join_any p A len c l _ w.heap.size (by simp [go_sem]) (HA.out.keep (by (repeat (first | exact Below.refl _ _ | exact Nat.le_refl _ | (refine below_ext ?_ (by first | (simp [size_ext, grow]; done) | (simp [size_ext, grow]; omega)) _ _) | (refine Below.setCell ?_ (by first | (simp [size_ext, grow]; done) | (simp [size_ext, grow]; omega)) _) | (refine Below.alloc ?_ (by first | (simp [size_ext, grow]; done) | (simp [size_ext, grow]; omega)) _) | refine Below.drew ?_ | refine below_drewN ?_ _ | (refine Below.trans ?_ (Below.mono (by assumption) (by first | (simp [size_ext, grow]; done) | (simp [size_ext, grow]; omega)))))))) HL.out (by omega)).mono ?_; rintro e w1 ⟨v, rfl, hb, ho⟩; obtain ⟨xs1, d1, rfl⟩ := ext_of hb; clear hb; obtain ⟨B1, k1, rfl, hk1, -⟩ := ownsRow_form ho; have HO1 := Lib.hid ho; have HK1 := Lib.hid hk1; clear ho hk1) | (go_at_call 32; refine (about_any _ _ B1 _ k1 (joinB p l) _ _ (Nat.le_refl _) (At.of_own HO1.out) rfl (by have := joinB_len p l; omega) HK1.out).mono ?_; rintro e w1 ⟨v, rfl, hb, ho⟩; obtain ⟨xs2, d2, rfl⟩ := ext_of hb; clear hb; obtain ⟨B2, k2, rfl, hk2, -⟩ := ownsRow_form ho; have HO2 := Lib.hid ho; have HK2 := Lib.hid hk2; clear ho hk2))
      refine bodyPost_ret (v := .tuple #[.agg #[.int .i64 8, .int .i64 id, .slice B2 ((joinB p l).take 1488).length k2], .int .i64 0]) (by simp [results, Try.results22, go_sem]) rfl ⟨.slice B2 ((joinB p l).take 1488).length k2, rfl, ?_, ?_⟩
      · (repeat (first | exact Below.refl _ _ | exact Nat.le_refl _ | (refine below_ext ?_ (by first | (simp [size_ext, grow]; done) | (simp [size_ext, grow]; omega)) _ _) | (refine Below.setCell ?_ (by first | (simp [size_ext, grow]; done) | (simp [size_ext, grow]; omega)) _) | (refine Below.alloc ?_ (by first | (simp [size_ext, grow]; done) | (simp [size_ext, grow]; omega)) _) | refine Below.drew ?_ | refine below_drewN ?_ _ | (refine Below.trans ?_ (Below.mono (by assumption) (by first | (simp [size_ext, grow]; done) | (simp [size_ext, grow]; omega))))))
      · exact own_base (own_swap HO2.out (by simp [size_ext]) (by simp)) (by simp [size_ext, grow]; omega)
    all_goals
      have He := Lib.hid (show rejE id (joinErr p l.length) = joinErr p l.length by simp [rejE, h1])
      rw [He.out]
      rw [e0]
      go_enter Try.func22, Try.ntmps22
      go_wp2_with (first | (go_at_call 30; refine (isByte_any _ _).mono ?_; rintro e w1 ⟨rfl, rfl⟩) | (go_at_call 11; refine (join_any p A len c l _ w.heap.size (by simp [go_sem]) (HA.out.keep (by (repeat (first | exact Below.refl _ _ | exact Nat.le_refl _ | (refine below_ext ?_ (by first | (simp [size_ext, grow]; done) | (simp [size_ext, grow]; omega)) _ _) | (refine Below.setCell ?_ (by first | (simp [size_ext, grow]; done) | (simp [size_ext, grow]; omega)) _) | (refine Below.alloc ?_ (by first | (simp [size_ext, grow]; done) | (simp [size_ext, grow]; omega)) _) | refine Below.drew ?_ | refine below_drewN ?_ _ | (refine Below.trans ?_ (Below.mono (by assumption) (by first | (simp [size_ext, grow]; done) | (simp [size_ext, grow]; omega)))))))) HL.out (by omega)).mono ?_; rintro e w1 ⟨v, rfl, hb, ho⟩; obtain ⟨xs1, d1, rfl⟩ := ext_of hb; clear hb; obtain ⟨B1, k1, rfl, hk1, -⟩ := ownsRow_form ho; have HO1 := Lib.hid ho; have HK1 := Lib.hid hk1; clear ho hk1) | (go_at_call 32; refine (about_any _ _ B1 _ k1 (joinB p l) _ _ (Nat.le_refl _) (At.of_own HO1.out) rfl (by have := joinB_len p l; omega) HK1.out).mono ?_; rintro e w1 ⟨v, rfl, hb, ho⟩; obtain ⟨xs2, d2, rfl⟩ := ext_of hb; clear hb; obtain ⟨B2, k2, rfl, hk2, -⟩ := ownsRow_form ho; have HO2 := Lib.hid ho; have HK2 := Lib.hid hk2; clear ho hk2))
      refine bodyPost_ret (v := .tuple #[.agg #[.int .i64 0, .int .i64 0, .slice none 0 0], .int .i64 _]) (by simp [results, Try.results22, go_sem]) rfl ⟨.slice none 0 0, rfl, ?_, by exact own_nil _ _ _ _⟩
      (repeat (first | exact Below.refl _ _ | exact Nat.le_refl _ | (refine below_ext ?_ (by first | (simp [size_ext, grow]; done) | (simp [size_ext, grow]; omega)) _ _) | (refine Below.setCell ?_ (by first | (simp [size_ext, grow]; done) | (simp [size_ext, grow]; omega)) _) | (refine Below.alloc ?_ (by first | (simp [size_ext, grow]; done) | (simp [size_ext, grow]; omega)) _) | refine Below.drew ?_ | refine below_drewN ?_ _ | (refine Below.trans ?_ (Below.mono (by assumption) (by first | (simp [size_ext, grow]; done) | (simp [size_ext, grow]; omega))))))
set_option maxRecDepth 100000 in
set_option maxHeartbeats 2000000 in
theorem prot_ref (p : Int) (A : Option Addr) (len c : Nat) (l : List UInt8) (id : Int) (w : World) (B : Nat) (hB : B ≤ w.heap.size) (hA : At w B A (l.map bv)) (hlen : len = l.length) (hl : len ≤ 1000000000) :
    Calls Try.prog 23 #[.agg #[.int .i64 p, .slice A len c], .int .i64 id] w (RejP w 8 id (rejE id (joinErr p l.length)) (joinB p l)) := by
  have HA := Lib.hid (hA.more hB)
  have HL := Lib.hid hlen
  clear hA hB hlen
  cases h1 : inB id 0 255
  · have He := Lib.hid (show rejE id (joinErr p l.length) = 1 by simp [rejE, h1])
    rcases joinErr_ne p l.length with e0 | e0 | e0
    all_goals
      have E0 := Lib.hid e0
      rw [He.out]
      go_enter Try.func23, Try.ntmps23
      go_wp2_with (first | (go_at_call 31; refine (byteOK_any _ _).mono ?_; rintro e w1 ⟨rfl, rfl⟩) | (go_at_call 12; refine (join_ref p A len c l _ w.heap.size (by simp [go_sem]) (HA.out.keep (by (repeat (first | exact Below.refl _ _ | exact Nat.le_refl _ | (refine below_ext ?_ (by first | (simp [size_ext, grow]; done) | (simp [size_ext, grow]; omega)) _ _) | (refine Below.setCell ?_ (by first | (simp [size_ext, grow]; done) | (simp [size_ext, grow]; omega)) _) | (refine Below.alloc ?_ (by first | (simp [size_ext, grow]; done) | (simp [size_ext, grow]; omega)) _) | refine Below.drew ?_ | refine below_drewN ?_ _ | (refine Below.trans ?_ (Below.mono (by assumption) (by first | (simp [size_ext, grow]; done) | (simp [size_ext, grow]; omega)))))))) HL.out (by omega)).mono ?_; rintro e w1 ⟨v, rfl, hb, ho⟩; obtain ⟨xs1, d1, rfl⟩ := ext_of hb; clear hb; obtain ⟨B1, k1, rfl, hk1, -⟩ := ownsRow_form ho; have HO1 := Lib.hid ho; have HK1 := Lib.hid hk1; clear ho hk1) | (go_at_call 33; refine (told_any _ _ B1 _ k1 (joinB p l) _ _ (Nat.le_refl _) (At.of_own HO1.out) rfl (by have := joinB_len p l; omega) HK1.out).mono ?_; rintro e w1 ⟨v, rfl, hb, ho⟩; obtain ⟨xs2, d2, rfl⟩ := ext_of hb; clear hb; obtain ⟨B2, k2, rfl, hk2, -⟩ := ownsRow_form ho; have HO2 := Lib.hid ho; have HK2 := Lib.hid hk2; clear ho hk2))
      refine bodyPost_ret (v := .tuple #[.agg #[.int .i64 0, .int .i64 0, .slice none 0 0], .int .i64 1]) (by simp [results, Try.results23, go_sem]) rfl ⟨.slice none 0 0, rfl, ?_, by exact own_nil _ _ _ _⟩
      (repeat (first | exact Below.refl _ _ | exact Nat.le_refl _ | (refine below_ext ?_ (by first | (simp [size_ext, grow]; done) | (simp [size_ext, grow]; omega)) _ _) | (refine Below.setCell ?_ (by first | (simp [size_ext, grow]; done) | (simp [size_ext, grow]; omega)) _) | (refine Below.alloc ?_ (by first | (simp [size_ext, grow]; done) | (simp [size_ext, grow]; omega)) _) | refine Below.drew ?_ | refine below_drewN ?_ _ | (refine Below.trans ?_ (Below.mono (by assumption) (by first | (simp [size_ext, grow]; done) | (simp [size_ext, grow]; omega))))))
  · rcases joinErr_ne p l.length with e0 | e0 | e0
    · have He := Lib.hid (show rejE id (joinErr p l.length) = 0 by simp [rejE, h1, e0])
      rw [He.out]
      go_enter Try.func23, Try.ntmps23
      go_wp2_with (first | (go_at_call 31; refine (byteOK_any _ _).mono ?_; rintro e w1 ⟨rfl, rfl⟩) | (go_at_call 12; refine (join_ref p A len c l _ w.heap.size (by simp [go_sem]) (HA.out.keep (by (repeat (first | exact Below.refl _ _ | exact Nat.le_refl _ | (refine below_ext ?_ (by first | (simp [size_ext, grow]; done) | (simp [size_ext, grow]; omega)) _ _) | (refine Below.setCell ?_ (by first | (simp [size_ext, grow]; done) | (simp [size_ext, grow]; omega)) _) | (refine Below.alloc ?_ (by first | (simp [size_ext, grow]; done) | (simp [size_ext, grow]; omega)) _) | refine Below.drew ?_ | refine below_drewN ?_ _ | (refine Below.trans ?_ (Below.mono (by assumption) (by first | (simp [size_ext, grow]; done) | (simp [size_ext, grow]; omega)))))))) HL.out (by omega)).mono ?_; rintro e w1 ⟨v, rfl, hb, ho⟩; obtain ⟨xs1, d1, rfl⟩ := ext_of hb; clear hb; obtain ⟨B1, k1, rfl, hk1, -⟩ := ownsRow_form ho; have HO1 := Lib.hid ho; have HK1 := Lib.hid hk1; clear ho hk1) | (go_at_call 33; refine (told_any _ _ B1 _ k1 (joinB p l) _ _ (Nat.le_refl _) (At.of_own HO1.out) rfl (by have := joinB_len p l; omega) HK1.out).mono ?_; rintro e w1 ⟨v, rfl, hb, ho⟩; obtain ⟨xs2, d2, rfl⟩ := ext_of hb; clear hb; obtain ⟨B2, k2, rfl, hk2, -⟩ := ownsRow_form ho; have HO2 := Lib.hid ho; have HK2 := Lib.hid hk2; clear ho hk2))
      refine bodyPost_ret (v := .tuple #[.agg #[.int .i64 8, .int .i64 id, .slice B2 ((joinB p l).take 1488).length k2], .int .i64 0]) (by simp [results, Try.results23, go_sem]) rfl ⟨.slice B2 ((joinB p l).take 1488).length k2, rfl, ?_, ?_⟩
      · (repeat (first | exact Below.refl _ _ | exact Nat.le_refl _ | (refine below_ext ?_ (by first | (simp [size_ext, grow]; done) | (simp [size_ext, grow]; omega)) _ _) | (refine Below.setCell ?_ (by first | (simp [size_ext, grow]; done) | (simp [size_ext, grow]; omega)) _) | (refine Below.alloc ?_ (by first | (simp [size_ext, grow]; done) | (simp [size_ext, grow]; omega)) _) | refine Below.drew ?_ | refine below_drewN ?_ _ | (refine Below.trans ?_ (Below.mono (by assumption) (by first | (simp [size_ext, grow]; done) | (simp [size_ext, grow]; omega))))))
      · exact own_base (own_swap HO2.out (by simp [size_ext]) (by simp)) (by simp [size_ext, grow]; omega)
    all_goals
      have He := Lib.hid (show rejE id (joinErr p l.length) = joinErr p l.length by simp [rejE, h1])
      rw [He.out]
      rw [e0]
      go_enter Try.func23, Try.ntmps23
      go_wp2_with (first | (go_at_call 31; refine (byteOK_any _ _).mono ?_; rintro e w1 ⟨rfl, rfl⟩) | (go_at_call 12; refine (join_ref p A len c l _ w.heap.size (by simp [go_sem]) (HA.out.keep (by (repeat (first | exact Below.refl _ _ | exact Nat.le_refl _ | (refine below_ext ?_ (by first | (simp [size_ext, grow]; done) | (simp [size_ext, grow]; omega)) _ _) | (refine Below.setCell ?_ (by first | (simp [size_ext, grow]; done) | (simp [size_ext, grow]; omega)) _) | (refine Below.alloc ?_ (by first | (simp [size_ext, grow]; done) | (simp [size_ext, grow]; omega)) _) | refine Below.drew ?_ | refine below_drewN ?_ _ | (refine Below.trans ?_ (Below.mono (by assumption) (by first | (simp [size_ext, grow]; done) | (simp [size_ext, grow]; omega)))))))) HL.out (by omega)).mono ?_; rintro e w1 ⟨v, rfl, hb, ho⟩; obtain ⟨xs1, d1, rfl⟩ := ext_of hb; clear hb; obtain ⟨B1, k1, rfl, hk1, -⟩ := ownsRow_form ho; have HO1 := Lib.hid ho; have HK1 := Lib.hid hk1; clear ho hk1) | (go_at_call 33; refine (told_any _ _ B1 _ k1 (joinB p l) _ _ (Nat.le_refl _) (At.of_own HO1.out) rfl (by have := joinB_len p l; omega) HK1.out).mono ?_; rintro e w1 ⟨v, rfl, hb, ho⟩; obtain ⟨xs2, d2, rfl⟩ := ext_of hb; clear hb; obtain ⟨B2, k2, rfl, hk2, -⟩ := ownsRow_form ho; have HO2 := Lib.hid ho; have HK2 := Lib.hid hk2; clear ho hk2))
      refine bodyPost_ret (v := .tuple #[.agg #[.int .i64 0, .int .i64 0, .slice none 0 0], .int .i64 _]) (by simp [results, Try.results23, go_sem]) rfl ⟨.slice none 0 0, rfl, ?_, by exact own_nil _ _ _ _⟩
      (repeat (first | exact Below.refl _ _ | exact Nat.le_refl _ | (refine below_ext ?_ (by first | (simp [size_ext, grow]; done) | (simp [size_ext, grow]; omega)) _ _) | (refine Below.setCell ?_ (by first | (simp [size_ext, grow]; done) | (simp [size_ext, grow]; omega)) _) | (refine Below.alloc ?_ (by first | (simp [size_ext, grow]; done) | (simp [size_ext, grow]; omega)) _) | refine Below.drew ?_ | refine below_drewN ?_ _ | (refine Below.trans ?_ (Below.mono (by assumption) (by first | (simp [size_ext, grow]; done) | (simp [size_ext, grow]; omega))))))
end Go.Proofs.Ytjnahbiagfghgaa
