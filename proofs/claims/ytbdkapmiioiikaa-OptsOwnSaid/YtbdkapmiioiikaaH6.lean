/- The reference's Number; opts.Make. -/
import Derived.Test.YtbdkapmiioiikaaH5
namespace Go.Proofs.Ytbdkapmiioiikaa
open Go.RowKit
set_option linter.unusedSimpArgs false
set_option linter.unusedVariables false
set_option maxHeartbeats 1000000 in
theorem number_ref (t : Int) (A : Option Addr) (n c : Nat) (d : List UInt8) (w : World) (B : Nat) (hB : B ≤ w.heap.size) (hA : At w B A (d.map bv)) (hn : n = d.length) (hl : n ≤ 1000000) (hc : n ≤ c) :
    Calls Try.prog 19 #[.agg #[.int .i64 t, .slice A n c]] w fun x w' => x = .returned (.tuple #[.int .i64 (numN d), .bool (numB d)]) ∧ Below w.heap.size w w' := by
  by_cases h1 : n < 1
  · have HR := Lib.hid (show numN d = 0 ∧ numB d = false by unfold numN numB; exact ⟨by rw [if_neg (by omega)], by simp; omega⟩)
    clear hA hB hn
    go_enter Try.func19, Try.ntmps19
    go_wp2
    go_ret2
    exact ⟨by rw [HR.out.1, HR.out.2]; rfl, by (repeat (first | exact Below.refl _ _ | exact Nat.le_refl _ | (refine below_ext ?_ (by first | (simp [size_ext, grow]; done) | (simp [size_ext, grow]; omega) | omega) _ _) | (refine Below.setCell ?_ (by first | (simp [size_ext, grow]; done) | (simp [size_ext, grow]; omega) | omega) _) | (refine Below.alloc ?_ (by first | (simp [size_ext, grow]; done) | (simp [size_ext, grow]; omega) | omega) _) | refine Below.drew ?_ | refine below_drewN ?_ _ | (refine Below.trans ?_ (Below.mono (by assumption) (by first | (simp [size_ext, grow]; done) | (simp [size_ext, grow]; omega) | omega)))))⟩
  · by_cases h4 : 4 < n
    · have HR := Lib.hid (show numN d = 0 ∧ numB d = false by unfold numN numB; exact ⟨by rw [if_neg (by omega)], by simp; omega⟩)
      clear hA hB hn
      go_enter Try.func19, Try.ntmps19
      go_wp2
      go_ret2
      exact ⟨by rw [HR.out.1, HR.out.2]; rfl, by (repeat (first | exact Below.refl _ _ | exact Nat.le_refl _ | (refine below_ext ?_ (by first | (simp [size_ext, grow]; done) | (simp [size_ext, grow]; omega) | omega) _ _) | (refine Below.setCell ?_ (by first | (simp [size_ext, grow]; done) | (simp [size_ext, grow]; omega) | omega) _) | (refine Below.alloc ?_ (by first | (simp [size_ext, grow]; done) | (simp [size_ext, grow]; omega) | omega) _) | refine Below.drew ?_ | refine below_drewN ?_ _ | (refine Below.trans ?_ (Below.mono (by assumption) (by first | (simp [size_ext, grow]; done) | (simp [size_ext, grow]; omega) | omega)))))⟩
    · have HR := Lib.hid (show numN d = (be d : Int) ∧ numB d = true by unfold numN numB; exact ⟨by rw [if_pos (by omega)], by simp; omega⟩)
      obtain ⟨b, o, rfl, hbB, hcs⟩ := hA.get (by simp; omega)
      have HC := Lib.hid (show ∀ i, i < n → w.cell? ⟨b, o + i, none⟩ = some (.int .u8 ((d.getD i 0).toNat : Int)) from fun i hi => by
        have := hcs i _ (bv_get (show i < d.length by omega))
        rw [this, List.getD_eq_getElem?_getD, List.getElem?_eq_getElem (show i < d.length by omega)]
        rfl)
      have hbw : b < w.heap.size := by omega
      have HN := Lib.hid hn
      clear hcs hA hB hn hbB
      go_enter Try.func19, Try.ntmps19
      go_wp2
      go_loop [4, 5] (fun v i => ∃ k : Nat, k ≤ n ∧ i = .int .i64 k ∧ v = .int .i64 (be (d.take k))) (fun _ i => n - (intOf i).toNat)
      case atStart => exact ⟨0, Nat.zero_le _, rfl, by simp [be]⟩
      case round =>
        obtain ⟨k, hk, rfl, rfl⟩ := hrel
        by_cases hlt : k < n
        · have hck := HC.out k hlt
          have hbe : (be (d.take k) : Int) < 4294967296 := by have := be_lt4 (d.take k) (by rw [List.length_take]; omega); omega
          have hbe0 : (0 : Int) ≤ (be (d.take k) : Int) := by omega
          obtain ⟨y, hy⟩ : ∃ y, d.getD k 0 = y := ⟨_, rfl⟩
          rw [hy] at hck
          have hy2 : ((y.toNat : Nat) : Int) < 256 := by have := y.toNat_lt; omega
          have HY := Lib.hid (show be (d.take (k + 1)) = be (d.take k) * 256 + y.toNat by rw [be_take_succ d k (by have := HN.out; omega), ← hy, List.getD_eq_getElem?_getD, List.getElem?_eq_getElem (show k < d.length by have := HN.out; omega)])
          clear hy
          go_wp2
          go_round
          case rel => exact ⟨k + 1, by omega, by go_num, by rw [HY.out]; go_num⟩
          case measure => simp [intOf]; omega
        · obtain rfl : k = n := by omega
          have HT := Lib.hid (show d.take k = d by rw [HN.out]; exact List.take_length)
          go_wp2
          go_ret2
          exact ⟨ret_num (by rw [HR.out.1, HT.out]) (by rw [HR.out.2]), by (repeat (first | exact Below.refl _ _ | exact Nat.le_refl _ | (refine below_ext ?_ (by first | (simp [size_ext, grow]; done) | (simp [size_ext, grow]; omega) | omega) _ _) | (refine Below.setCell ?_ (by first | (simp [size_ext, grow]; done) | (simp [size_ext, grow]; omega) | omega) _) | (refine Below.alloc ?_ (by first | (simp [size_ext, grow]; done) | (simp [size_ext, grow]; omega) | omega) _) | refine Below.drew ?_ | refine below_drewN ?_ _ | (refine Below.trans ?_ (Below.mono (by assumption) (by first | (simp [size_ext, grow]; done) | (simp [size_ext, grow]; omega) | omega)))))⟩
def makeB (typ size n : Int) : Bool := decide (0 ≤ typ ∧ typ ≤ 255 ∧ 1 ≤ size ∧ size ≤ 4 ∧ 0 ≤ n ∧ n < 256 ^ size.toNat)
def makeE (b : Bool) : Int := if b = true then 0 else 80
def makeO (b : Bool) (typ size n : Int) : Int × List UInt8 := if b = true then (typ, putB n.toNat size.toNat) else (0, [])
def MakeP (w : World) (typ size n : Int) (x : Ending) (w' : World) : Prop :=
  ∃ e : Ent, x = .returned (.tuple #[.agg #[.int .i64 e.t, e.v], .int .i64 (makeE (makeB typ size n))]) ∧ Below w.heap.size w w' ∧ w'.ownsRow w.heap.size 5 1 e.v e.d.length (e.d.map bv) ∧ e.o = makeO (makeB typ size n) typ size n
theorem putB_len (n k : Nat) : (putB n k).length = k := putB_length n k
set_option maxHeartbeats 1000000 in
theorem make_1 (typ : Int) (m : Nat) (w : World) (h0 : inB typ 0 255 = true) (hn2 : (m : Int) ≤ 9223372036854775807) : Calls Try.prog 20 #[.int .i64 typ, .int .i64 1, .int .i64 m] w (MakeP w typ 1 m) := by
  have hd : decide ((m : Int) < 0) = false := by simp
  have hty : 0 ≤ typ ∧ typ ≤ 255 := by simpa [inB] using h0
  have HTY := Lib.hid hty
  clear hty
  by_cases hlt : m < 256
  · have HM := Lib.hid (show makeB typ 1 m = true by have := HTY.out; unfold makeB; simp; omega)
    have e : ((m : Int) / 256 != 0) = false := by simp; omega
    have HP := Lib.hid (putB_len m 1)
    go_enter Try.func20, Try.ntmps20
    go_wp2_with (first | (go_at_call 26; refine (within_any _ _ _ _).mono ?_; rw [h0]; rintro e w1 ⟨rfl, rfl⟩) | (go_at_call 26; refine (within_any 1 1 4 _).mono ?_; rw [show inB 1 1 4 = true from rfl]; rintro e w1 ⟨rfl, rfl⟩) | (go_at_call 30; refine (put_yes m 1 _ (by omega) (by decide) (by decide)).mono ?_; rintro e w1 ⟨v, rfl, hb, ho⟩; obtain ⟨xs, dd, rfl⟩ := ext_of hb; clear hb; obtain ⟨A2, c2, rfl, -, -⟩ := ownsRow_form ho; have HO := Lib.hid ho; clear ho))
    refine bodyPost_ret (v := .tuple #[.agg #[.int .i64 typ, .slice A2 1 c2], .int .i64 0]) (by simp [results, Try.results20, go_sem]) rfl ⟨⟨typ, putB m 1, A2, c2⟩, by rw [HM.out]; simp only [Ent.v]; rw [HP.out]; rfl, by (repeat (first | exact Below.refl _ _ | exact Nat.le_refl _ | (refine below_ext ?_ (by first | (simp [size_ext, grow]; done) | (simp [size_ext, grow]; omega) | omega) _ _) | (refine Below.setCell ?_ (by first | (simp [size_ext, grow]; done) | (simp [size_ext, grow]; omega) | omega) _) | (refine Below.alloc ?_ (by first | (simp [size_ext, grow]; done) | (simp [size_ext, grow]; omega) | omega) _) | refine Below.drew ?_ | refine below_drewN ?_ _ | (refine Below.trans ?_ (Below.mono (by assumption) (by first | (simp [size_ext, grow]; done) | (simp [size_ext, grow]; omega) | omega))))), ?_, by rw [HM.out]; rfl⟩
    simp only [Ent.v]
    rw [HP.out]
    exact own_base (own_swap HO.out (by simp) (Nat.le_refl _)) (by simp)
  · have HM := Lib.hid (show makeB typ 1 m = false by unfold makeB; simp; omega)
    have e : ((m : Int) / 256 != 0) = true := by simp; omega
    go_enter Try.func20, Try.ntmps20
    go_wp2_with (first | (go_at_call 26; refine (within_any _ _ _ _).mono ?_; rw [h0]; rintro e w1 ⟨rfl, rfl⟩) | (go_at_call 26; refine (within_any 1 1 4 _).mono ?_; rw [show inB 1 1 4 = true from rfl]; rintro e w1 ⟨rfl, rfl⟩))
    exact bodyPost_ret (v := .tuple #[.agg #[.int .i64 0, .slice none 0 0], .int .i64 80]) (by simp [results, Try.results20, go_sem]) rfl ⟨⟨0, [], none, 0⟩, by rw [HM.out]; rfl, by (repeat (first | exact Below.refl _ _ | exact Nat.le_refl _ | (refine below_ext ?_ (by first | (simp [size_ext, grow]; done) | (simp [size_ext, grow]; omega) | omega) _ _) | (refine Below.setCell ?_ (by first | (simp [size_ext, grow]; done) | (simp [size_ext, grow]; omega) | omega) _) | (refine Below.alloc ?_ (by first | (simp [size_ext, grow]; done) | (simp [size_ext, grow]; omega) | omega) _) | refine Below.drew ?_ | refine below_drewN ?_ _ | (refine Below.trans ?_ (Below.mono (by assumption) (by first | (simp [size_ext, grow]; done) | (simp [size_ext, grow]; omega) | omega))))), own_nil _ _ _ _, by rw [HM.out]; rfl⟩
set_option maxHeartbeats 1000000 in
theorem make_2 (typ : Int) (m : Nat) (w : World) (h0 : inB typ 0 255 = true) (hn2 : (m : Int) ≤ 9223372036854775807) : Calls Try.prog 20 #[.int .i64 typ, .int .i64 2, .int .i64 m] w (MakeP w typ 2 m) := by
  have hd : decide ((m : Int) < 0) = false := by simp
  have hty : 0 ≤ typ ∧ typ ≤ 255 := by simpa [inB] using h0
  have HTY := Lib.hid hty
  clear hty
  by_cases hlt : m < 65536
  · have HM := Lib.hid (show makeB typ 2 m = true by have := HTY.out; unfold makeB; simp; omega)
    have e : ((m : Int) / 65536 != 0) = false := by simp; omega
    have HP := Lib.hid (putB_len m 2)
    go_enter Try.func20, Try.ntmps20
    go_wp2_with (first | (go_at_call 26; refine (within_any _ _ _ _).mono ?_; rw [h0]; rintro e w1 ⟨rfl, rfl⟩) | (go_at_call 26; refine (within_any 2 1 4 _).mono ?_; rw [show inB 2 1 4 = true from rfl]; rintro e w1 ⟨rfl, rfl⟩) | (go_at_call 30; refine (put_yes m 2 _ (by omega) (by decide) (by decide)).mono ?_; rintro e w1 ⟨v, rfl, hb, ho⟩; obtain ⟨xs, dd, rfl⟩ := ext_of hb; clear hb; obtain ⟨A2, c2, rfl, -, -⟩ := ownsRow_form ho; have HO := Lib.hid ho; clear ho))
    refine bodyPost_ret (v := .tuple #[.agg #[.int .i64 typ, .slice A2 2 c2], .int .i64 0]) (by simp [results, Try.results20, go_sem]) rfl ⟨⟨typ, putB m 2, A2, c2⟩, by rw [HM.out]; simp only [Ent.v]; rw [HP.out]; rfl, by (repeat (first | exact Below.refl _ _ | exact Nat.le_refl _ | (refine below_ext ?_ (by first | (simp [size_ext, grow]; done) | (simp [size_ext, grow]; omega) | omega) _ _) | (refine Below.setCell ?_ (by first | (simp [size_ext, grow]; done) | (simp [size_ext, grow]; omega) | omega) _) | (refine Below.alloc ?_ (by first | (simp [size_ext, grow]; done) | (simp [size_ext, grow]; omega) | omega) _) | refine Below.drew ?_ | refine below_drewN ?_ _ | (refine Below.trans ?_ (Below.mono (by assumption) (by first | (simp [size_ext, grow]; done) | (simp [size_ext, grow]; omega) | omega))))), ?_, by rw [HM.out]; rfl⟩
    simp only [Ent.v]
    rw [HP.out]
    exact own_base (own_swap HO.out (by simp) (Nat.le_refl _)) (by simp)
  · have HM := Lib.hid (show makeB typ 2 m = false by unfold makeB; simp; omega)
    have e : ((m : Int) / 65536 != 0) = true := by simp; omega
    go_enter Try.func20, Try.ntmps20
    go_wp2_with (first | (go_at_call 26; refine (within_any _ _ _ _).mono ?_; rw [h0]; rintro e w1 ⟨rfl, rfl⟩) | (go_at_call 26; refine (within_any 2 1 4 _).mono ?_; rw [show inB 2 1 4 = true from rfl]; rintro e w1 ⟨rfl, rfl⟩))
    exact bodyPost_ret (v := .tuple #[.agg #[.int .i64 0, .slice none 0 0], .int .i64 80]) (by simp [results, Try.results20, go_sem]) rfl ⟨⟨0, [], none, 0⟩, by rw [HM.out]; rfl, by (repeat (first | exact Below.refl _ _ | exact Nat.le_refl _ | (refine below_ext ?_ (by first | (simp [size_ext, grow]; done) | (simp [size_ext, grow]; omega) | omega) _ _) | (refine Below.setCell ?_ (by first | (simp [size_ext, grow]; done) | (simp [size_ext, grow]; omega) | omega) _) | (refine Below.alloc ?_ (by first | (simp [size_ext, grow]; done) | (simp [size_ext, grow]; omega) | omega) _) | refine Below.drew ?_ | refine below_drewN ?_ _ | (refine Below.trans ?_ (Below.mono (by assumption) (by first | (simp [size_ext, grow]; done) | (simp [size_ext, grow]; omega) | omega))))), own_nil _ _ _ _, by rw [HM.out]; rfl⟩
set_option maxHeartbeats 1000000 in
theorem make_3 (typ : Int) (m : Nat) (w : World) (h0 : inB typ 0 255 = true) (hn2 : (m : Int) ≤ 9223372036854775807) : Calls Try.prog 20 #[.int .i64 typ, .int .i64 3, .int .i64 m] w (MakeP w typ 3 m) := by
  have hd : decide ((m : Int) < 0) = false := by simp
  have hty : 0 ≤ typ ∧ typ ≤ 255 := by simpa [inB] using h0
  have HTY := Lib.hid hty
  clear hty
  by_cases hlt : m < 16777216
  · have HM := Lib.hid (show makeB typ 3 m = true by have := HTY.out; unfold makeB; simp; omega)
    have e : ((m : Int) / 16777216 != 0) = false := by simp; omega
    have HP := Lib.hid (putB_len m 3)
    go_enter Try.func20, Try.ntmps20
    go_wp2_with (first | (go_at_call 26; refine (within_any _ _ _ _).mono ?_; rw [h0]; rintro e w1 ⟨rfl, rfl⟩) | (go_at_call 26; refine (within_any 3 1 4 _).mono ?_; rw [show inB 3 1 4 = true from rfl]; rintro e w1 ⟨rfl, rfl⟩) | (go_at_call 30; refine (put_yes m 3 _ (by omega) (by decide) (by decide)).mono ?_; rintro e w1 ⟨v, rfl, hb, ho⟩; obtain ⟨xs, dd, rfl⟩ := ext_of hb; clear hb; obtain ⟨A2, c2, rfl, -, -⟩ := ownsRow_form ho; have HO := Lib.hid ho; clear ho))
    refine bodyPost_ret (v := .tuple #[.agg #[.int .i64 typ, .slice A2 3 c2], .int .i64 0]) (by simp [results, Try.results20, go_sem]) rfl ⟨⟨typ, putB m 3, A2, c2⟩, by rw [HM.out]; simp only [Ent.v]; rw [HP.out]; rfl, by (repeat (first | exact Below.refl _ _ | exact Nat.le_refl _ | (refine below_ext ?_ (by first | (simp [size_ext, grow]; done) | (simp [size_ext, grow]; omega) | omega) _ _) | (refine Below.setCell ?_ (by first | (simp [size_ext, grow]; done) | (simp [size_ext, grow]; omega) | omega) _) | (refine Below.alloc ?_ (by first | (simp [size_ext, grow]; done) | (simp [size_ext, grow]; omega) | omega) _) | refine Below.drew ?_ | refine below_drewN ?_ _ | (refine Below.trans ?_ (Below.mono (by assumption) (by first | (simp [size_ext, grow]; done) | (simp [size_ext, grow]; omega) | omega))))), ?_, by rw [HM.out]; rfl⟩
    simp only [Ent.v]
    rw [HP.out]
    exact own_base (own_swap HO.out (by simp) (Nat.le_refl _)) (by simp)
  · have HM := Lib.hid (show makeB typ 3 m = false by unfold makeB; simp; omega)
    have e : ((m : Int) / 16777216 != 0) = true := by simp; omega
    go_enter Try.func20, Try.ntmps20
    go_wp2_with (first | (go_at_call 26; refine (within_any _ _ _ _).mono ?_; rw [h0]; rintro e w1 ⟨rfl, rfl⟩) | (go_at_call 26; refine (within_any 3 1 4 _).mono ?_; rw [show inB 3 1 4 = true from rfl]; rintro e w1 ⟨rfl, rfl⟩))
    exact bodyPost_ret (v := .tuple #[.agg #[.int .i64 0, .slice none 0 0], .int .i64 80]) (by simp [results, Try.results20, go_sem]) rfl ⟨⟨0, [], none, 0⟩, by rw [HM.out]; rfl, by (repeat (first | exact Below.refl _ _ | exact Nat.le_refl _ | (refine below_ext ?_ (by first | (simp [size_ext, grow]; done) | (simp [size_ext, grow]; omega) | omega) _ _) | (refine Below.setCell ?_ (by first | (simp [size_ext, grow]; done) | (simp [size_ext, grow]; omega) | omega) _) | (refine Below.alloc ?_ (by first | (simp [size_ext, grow]; done) | (simp [size_ext, grow]; omega) | omega) _) | refine Below.drew ?_ | refine below_drewN ?_ _ | (refine Below.trans ?_ (Below.mono (by assumption) (by first | (simp [size_ext, grow]; done) | (simp [size_ext, grow]; omega) | omega))))), own_nil _ _ _ _, by rw [HM.out]; rfl⟩
set_option maxHeartbeats 1000000 in
theorem make_4 (typ : Int) (m : Nat) (w : World) (h0 : inB typ 0 255 = true) (hn2 : (m : Int) ≤ 9223372036854775807) : Calls Try.prog 20 #[.int .i64 typ, .int .i64 4, .int .i64 m] w (MakeP w typ 4 m) := by
  have hd : decide ((m : Int) < 0) = false := by simp
  have hty : 0 ≤ typ ∧ typ ≤ 255 := by simpa [inB] using h0
  have HTY := Lib.hid hty
  clear hty
  by_cases hlt : m < 4294967296
  · have HM := Lib.hid (show makeB typ 4 m = true by have := HTY.out; unfold makeB; simp; omega)
    have e : ((m : Int) / 4294967296 != 0) = false := by simp; omega
    have HP := Lib.hid (putB_len m 4)
    go_enter Try.func20, Try.ntmps20
    go_wp2_with (first | (go_at_call 26; refine (within_any _ _ _ _).mono ?_; rw [h0]; rintro e w1 ⟨rfl, rfl⟩) | (go_at_call 26; refine (within_any 4 1 4 _).mono ?_; rw [show inB 4 1 4 = true from rfl]; rintro e w1 ⟨rfl, rfl⟩) | (go_at_call 30; refine (put_yes m 4 _ (by omega) (by decide) (by decide)).mono ?_; rintro e w1 ⟨v, rfl, hb, ho⟩; obtain ⟨xs, dd, rfl⟩ := ext_of hb; clear hb; obtain ⟨A2, c2, rfl, -, -⟩ := ownsRow_form ho; have HO := Lib.hid ho; clear ho))
    refine bodyPost_ret (v := .tuple #[.agg #[.int .i64 typ, .slice A2 4 c2], .int .i64 0]) (by simp [results, Try.results20, go_sem]) rfl ⟨⟨typ, putB m 4, A2, c2⟩, by rw [HM.out]; simp only [Ent.v]; rw [HP.out]; rfl, by (repeat (first | exact Below.refl _ _ | exact Nat.le_refl _ | (refine below_ext ?_ (by first | (simp [size_ext, grow]; done) | (simp [size_ext, grow]; omega) | omega) _ _) | (refine Below.setCell ?_ (by first | (simp [size_ext, grow]; done) | (simp [size_ext, grow]; omega) | omega) _) | (refine Below.alloc ?_ (by first | (simp [size_ext, grow]; done) | (simp [size_ext, grow]; omega) | omega) _) | refine Below.drew ?_ | refine below_drewN ?_ _ | (refine Below.trans ?_ (Below.mono (by assumption) (by first | (simp [size_ext, grow]; done) | (simp [size_ext, grow]; omega) | omega))))), ?_, by rw [HM.out]; rfl⟩
    simp only [Ent.v]
    rw [HP.out]
    exact own_base (own_swap HO.out (by simp) (Nat.le_refl _)) (by simp)
  · have HM := Lib.hid (show makeB typ 4 m = false by unfold makeB; simp; omega)
    have e : ((m : Int) / 4294967296 != 0) = true := by simp; omega
    go_enter Try.func20, Try.ntmps20
    go_wp2_with (first | (go_at_call 26; refine (within_any _ _ _ _).mono ?_; rw [h0]; rintro e w1 ⟨rfl, rfl⟩) | (go_at_call 26; refine (within_any 4 1 4 _).mono ?_; rw [show inB 4 1 4 = true from rfl]; rintro e w1 ⟨rfl, rfl⟩))
    exact bodyPost_ret (v := .tuple #[.agg #[.int .i64 0, .slice none 0 0], .int .i64 80]) (by simp [results, Try.results20, go_sem]) rfl ⟨⟨0, [], none, 0⟩, by rw [HM.out]; rfl, by (repeat (first | exact Below.refl _ _ | exact Nat.le_refl _ | (refine below_ext ?_ (by first | (simp [size_ext, grow]; done) | (simp [size_ext, grow]; omega) | omega) _ _) | (refine Below.setCell ?_ (by first | (simp [size_ext, grow]; done) | (simp [size_ext, grow]; omega) | omega) _) | (refine Below.alloc ?_ (by first | (simp [size_ext, grow]; done) | (simp [size_ext, grow]; omega) | omega) _) | refine Below.drew ?_ | refine below_drewN ?_ _ | (refine Below.trans ?_ (Below.mono (by assumption) (by first | (simp [size_ext, grow]; done) | (simp [size_ext, grow]; omega) | omega))))), own_nil _ _ _ _, by rw [HM.out]; rfl⟩
theorem make_any (typ size n : Int) (w : World) (hn2 : n ≤ 9223372036854775807) : Calls Try.prog 20 #[.int .i64 typ, .int .i64 size, .int .i64 n] w (MakeP w typ size n) := by
  cases h0 : inB typ 0 255
  · have HM := Lib.hid (show makeB typ size n = false by simp [inB] at h0; unfold makeB; simp; omega)
    go_enter Try.func20, Try.ntmps20
    go_wp2_with (go_at_call 26; refine (within_any _ _ _ _).mono ?_; rw [h0]; rintro e w1 ⟨rfl, rfl⟩)
    exact bodyPost_ret (v := .tuple #[.agg #[.int .i64 0, .slice none 0 0], .int .i64 80]) (by simp [results, Try.results20, go_sem]) rfl ⟨⟨0, [], none, 0⟩, by rw [HM.out]; rfl, by (repeat (first | exact Below.refl _ _ | exact Nat.le_refl _ | (refine below_ext ?_ (by first | (simp [size_ext, grow]; done) | (simp [size_ext, grow]; omega) | omega) _ _) | (refine Below.setCell ?_ (by first | (simp [size_ext, grow]; done) | (simp [size_ext, grow]; omega) | omega) _) | (refine Below.alloc ?_ (by first | (simp [size_ext, grow]; done) | (simp [size_ext, grow]; omega) | omega) _) | refine Below.drew ?_ | refine below_drewN ?_ _ | (refine Below.trans ?_ (Below.mono (by assumption) (by first | (simp [size_ext, grow]; done) | (simp [size_ext, grow]; omega) | omega))))), own_nil _ _ _ _, by rw [HM.out]; rfl⟩
  · cases h1 : inB size 1 4
    · have HM := Lib.hid (show makeB typ size n = false by simp [inB] at h1; unfold makeB; simp; omega)
      go_enter Try.func20, Try.ntmps20
      go_wp2_with (first | (go_at_call 26; refine (within_any _ _ _ _).mono ?_; rw [h0]; rintro e w1 ⟨rfl, rfl⟩) | (go_at_call 26; refine (within_any _ _ _ _).mono ?_; rw [h1]; rintro e w1 ⟨rfl, rfl⟩))
      exact bodyPost_ret (v := .tuple #[.agg #[.int .i64 0, .slice none 0 0], .int .i64 80]) (by simp [results, Try.results20, go_sem]) rfl ⟨⟨0, [], none, 0⟩, by rw [HM.out]; rfl, by (repeat (first | exact Below.refl _ _ | exact Nat.le_refl _ | (refine below_ext ?_ (by first | (simp [size_ext, grow]; done) | (simp [size_ext, grow]; omega) | omega) _ _) | (refine Below.setCell ?_ (by first | (simp [size_ext, grow]; done) | (simp [size_ext, grow]; omega) | omega) _) | (refine Below.alloc ?_ (by first | (simp [size_ext, grow]; done) | (simp [size_ext, grow]; omega) | omega) _) | refine Below.drew ?_ | refine below_drewN ?_ _ | (refine Below.trans ?_ (Below.mono (by assumption) (by first | (simp [size_ext, grow]; done) | (simp [size_ext, grow]; omega) | omega))))), own_nil _ _ _ _, by rw [HM.out]; rfl⟩
    · by_cases hn : n < 0
      · have HM := Lib.hid (show makeB typ size n = false by unfold makeB; simp; omega)
        go_enter Try.func20, Try.ntmps20
        go_wp2_with (first | (go_at_call 26; refine (within_any _ _ _ _).mono ?_; rw [h0]; rintro e w1 ⟨rfl, rfl⟩) | (go_at_call 26; refine (within_any _ _ _ _).mono ?_; rw [h1]; rintro e w1 ⟨rfl, rfl⟩))
        exact bodyPost_ret (v := .tuple #[.agg #[.int .i64 0, .slice none 0 0], .int .i64 80]) (by simp [results, Try.results20, go_sem]) rfl ⟨⟨0, [], none, 0⟩, by rw [HM.out]; rfl, by (repeat (first | exact Below.refl _ _ | exact Nat.le_refl _ | (refine below_ext ?_ (by first | (simp [size_ext, grow]; done) | (simp [size_ext, grow]; omega) | omega) _ _) | (refine Below.setCell ?_ (by first | (simp [size_ext, grow]; done) | (simp [size_ext, grow]; omega) | omega) _) | (refine Below.alloc ?_ (by first | (simp [size_ext, grow]; done) | (simp [size_ext, grow]; omega) | omega) _) | refine Below.drew ?_ | refine below_drewN ?_ _ | (refine Below.trans ?_ (Below.mono (by assumption) (by first | (simp [size_ext, grow]; done) | (simp [size_ext, grow]; omega) | omega))))), own_nil _ _ _ _, by rw [HM.out]; rfl⟩
      · obtain ⟨m, rfl⟩ := Int.eq_ofNat_of_zero_le (show 0 ≤ n by omega)
        have hs : size = 1 ∨ size = 2 ∨ size = 3 ∨ size = 4 := by simp [inB] at h1; omega
        rcases hs with rfl | rfl | rfl | rfl
        · exact make_1 typ m w h0 hn2
        · exact make_2 typ m w h0 hn2
        · exact make_3 typ m w h0 hn2
        · exact make_4 typ m w h0 hn2
end Go.Proofs.Ytbdkapmiioiikaa
