/- Numbers of options; what a rule asks for. -/
import Derived.Test.YtlkijhcgiilmhaaN18
import Derived.Test.YtlkijhcgiilmhaaR1
namespace Go.Proofs.Ytlkijhcgiilmhaa
open Go.RowKit
set_option linter.unusedSimpArgs false
set_option linter.unusedVariables false
theorem be_lt4 {d : List UInt8} (h : d.length ≤ 4) : be d < 4294967296 := by
  have h1 := be_lt d
  have h2 : 256 ^ d.length ≤ 256 ^ 4 := Nat.pow_le_pow_right (by omega) h
  have h3 : (256 : Nat) ^ 4 = 4294967296 := by decide
  omega
theorem number_any (t : Int) (A : Option Addr) (n c : Nat) (d : List UInt8) (w : World) (B : Nat) (hB : B ≤ w.heap.size) (hA : At w B A (d.map bv)) (hn : n = d.length) (h4 : n ≤ 4) (hc : n ≤ c) :
    Calls Try.prog 41 #[.agg #[.int .i64 t, .slice A n c]] w fun x w' => x = .returned (.int .i64 (be d : Int)) ∧ Below w.heap.size w w' := by
  have HA := Lib.hid hA
  have HB := Lib.hid hB
  rcases Nat.eq_zero_or_pos n with h0 | h0
  · subst h0
    have hd : d = [] := List.length_eq_zero_iff.1 hn.symm
    subst hd
    clear hA hB hn
    go_enter Try.func41, Try.ntmps41
    go_wp2_with fail
    refine (take_no A 0 c 0 _ (.inl (by decide))).mono ?_
    rintro e w1 ⟨rfl, rfl⟩
    go_wp2_with fail
    go_ret
    exact ⟨rfl, by exact bel⟩
  · have hb4 := be_lt4 (d := d) (by omega)
    obtain ⟨q, hq⟩ : ∃ q, be d = q := ⟨_, rfl⟩
    rw [hq] at hb4 ⊢
    have HQ := Lib.hid hq
    have HN := Lib.hid hn
    have e1 : IntKind.i64.wrap (q : Int) = (q : Int) := IntWalk.i64_in _ (by omega)
    have q4 : (q : Int) < 4294967296 := by omega
    clear hA hB hn hq hb4
    go_enter Try.func41, Try.ntmps41
    go_wp2_with fail
    refine (take_yes A n c d (n : Int) _ B (by have := HB.out; simp; omega) (HA.out.keep (by have := HB.out; exact bel)) HN.out (by omega) (by omega) (by omega) (by omega) hc).mono ?_
    rintro e w1 ⟨v, rfl, hb, ho⟩
    have HT := Lib.hid (show be (d.take ((n : Int).toNat)) = q by rw [List.take_of_length_le (by have := HN.out; omega)]; exact HQ.out)
    rw [HT.out]
    obtain ⟨xs, dr, rfl⟩ := ext_of hb
    clear hb ho
    go_wp2_with fail
    go_ret
    exact ⟨rfl, by exact bel⟩
theorem rnumber_ref (t : Int) (A : Option Addr) (n c : Nat) (d : List UInt8) (w : World) (B : Nat) (hB : B ≤ w.heap.size) (hA : At w B A (d.map bv)) (hn : n = d.length) (h4 : n ≤ 4) :
    Calls Try.prog 28 #[.agg #[.int .i64 t, .slice A n c]] w fun x w' => x = .returned (.int .i64 (be d : Int)) ∧ Below w.heap.size w w' := by
  have HA := Lib.hid (hA.more hB)
  have HN := Lib.hid hn
  clear hA hn hB
  go_enter Try.func28, Try.ntmps28
  go_wp2_with fail
  go_loopw [3, 4] (fun v i wr => ∃ (k q : Nat), k ≤ n ∧ i = .int .i64 k ∧ v = .int .i64 q ∧ be (d.take k) = q ∧ Below w.heap.size w wr ∧ wr.heap[w.heap.size]? = some (.cells #[.int .i64 t, .slice A n c] 42 (0, 0))) (fun _ i _ => n - (intOf i).toNat)
  case atStart => exact ⟨0, 0, Nat.zero_le _, rfl, rfl, rfl, by exact bel, by rw [heap_alloc_new]⟩
  case round =>
    obtain ⟨k, q, hk, rfl, rfl, hq, hb, hbox⟩ := hrel
    have HQ := Lib.hid hq
    have HBL := Lib.hid hb
    have HBOX := Lib.hid hbox
    obtain ⟨g0, g1, g2, g3⟩ := two_cells hbox
    have hsz := hb.size
    clear hq hb hbox
    by_cases hlt : k < n
    · have HK := Lib.hid (show k < d.length by have := HN.out; omega)
      obtain ⟨b, o, rfl, hbB, hx⟩ := bytes_get (HA.out.keep HBL.out) HK.out
      obtain ⟨x, hxx⟩ : ∃ x, d[k]'HK.out = x := ⟨_, rfl⟩
      rw [hxx] at hx
      have hx8 := x.toNat_lt
      have hq4 : q < 4294967296 := by rw [← HQ.out]; exact be_lt4 (by rw [List.length_take]; omega)
      have HNX := Lib.hid (show be (d.take (k + 1)) = 256 * q + x.toNat by rw [List.take_succ_eq_append_getElem HK.out, be_snoc, HQ.out, hxx]; omega)
      have z1 : b < wr.heap.size := by omega
      have jj0 : (0 : Int) ≤ (k : Int) := by omega
      have jj1 : (k : Int) < (n : Int) := by omega
      have q4 : (q : Int) < 4294967296 := by omega
      have x8 : ((x.toNat : Nat) : Int) < 256 := by omega
      have e1 : IntKind.i64.wrap ((x.toNat : Nat) : Int) = ((x.toNat : Nat) : Int) := IntWalk.i64_in _ (by omega)
      have e2 : IntKind.i64.wrap (256 * (q : Int)) = 256 * (q : Int) := IntWalk.i64_in _ (by omega)
      have e3 : IntKind.i64.wrap (256 * (q : Int) + ((x.toNat : Nat) : Int)) = 256 * (q : Int) + ((x.toNat : Nat) : Int) := IntWalk.i64_in _ (by omega)
      clear hxx
      go_wp2_with fail
      go_roundw
      case rel => exact ⟨k + 1, 256 * q + x.toNat, by omega, by go_num, by go_num, HNX.out, by have := HBL.out; exact bel, by exact HBOX.out⟩
      case measure => simp [intOf]; omega
    · obtain rfl : k = n := by omega
      have HR := Lib.hid (show be d = q by rw [← HQ.out, List.take_of_length_le (by have := HN.out; omega)])
      go_wp2_with fail
      go_ret
      exact ⟨by rw [HR.out]; rfl, HBL.out⟩
theorem good_any (t kd lo hi : Int) (s g : Nat) (m : Bool) (w : World) (hs : s ≤ 4) (hg : g < 4294967296) :
    Calls Try.prog 24 #[.agg #[.int .i64 t, .int .i64 (s : Int), .int .i64 kd, .int .i64 lo, .int .i64 hi, .int .i64 (g : Int), .bool m]] w (OwnP t s (putB g s) w) := by
  have e1 : IntKind.u64.wrap (g : Int) = (g : Int) := by unfold IntKind.wrap; simp [IntKind.signed, IntKind.bits]; omega
  have hg4 : (g : Int) < 4294967296 := by omega
  rcases Nat.eq_zero_or_pos s with h0 | h0
  · subst h0
    go_enter Try.func24, Try.ntmps24
    go_upto_region 1 with (fail)
    go_region_held3 (fun w' => w'.cell? ⟨w.heap.size, 0, none⟩ = some (.int .i64 t) ∧ w'.cell? ⟨w.heap.size, 1, none⟩ = some (.int .i64 0) ∧ w'.cell? ⟨w.heap.size, 5, none⟩ = some (.int .i64 (g : Int))) (first | (go_keep; done) | (go_simp; done) | (simp [go_sem]; done)) ((go_at_call 42; go_must (refine (put_no (g : Int) 0 _ (by decide)).mono ?_); (rintro e w1 ⟨rfl, rfl⟩)))
    all_goals
      go_wp2_with fail
      refine bodyPost_ret (v := .agg #[.int .i64 t, .slice none 0 0]) (by simp [results, Try.results24, go_sem]) rfl ?_
    exact ⟨none, 0, rfl, by exact bel, own_nil _ _ _ _⟩
  · go_enter Try.func24, Try.ntmps24
    go_upto_region 1 with (fail)
    go_region_held3 (fun w' => w'.cell? ⟨w.heap.size, 0, none⟩ = some (.int .i64 t) ∧ w'.cell? ⟨w.heap.size, 1, none⟩ = some (.int .i64 (s : Int)) ∧ w'.cell? ⟨w.heap.size, 5, none⟩ = some (.int .i64 (g : Int))) (first | (go_keep; done) | (go_simp; done) | (simp [go_sem]; done)) ((go_at_call 42; go_must (refine (put_yes g s _ (by omega) h0 (by omega)).mono ?_); (rintro e w1 ⟨v, rfl, hb, ho⟩; obtain ⟨A2, c2, rfl, -, -⟩ := ownsRow_form ho; obtain ⟨xs, dr, rfl⟩ := ext_of hb; have HO := Lib.hid ho; clear hb ho)))
    all_goals
      go_wp2_with fail
      refine bodyPost_ret (v := .agg #[.int .i64 t, .slice A2 s c2]) (by simp [results, Try.results24, go_sem]) rfl ?_
    refine ⟨A2, c2, rfl, by exact bel, ?_⟩
    have h := own_base (base' := w.heap.size) HO.out (by simp; omega)
    exact own_keep h fun k hk => ext_high _ _ xs dr dr k (by simp) (own_le HO.out hk)
theorem rgood_ref (t kd lo hi : Int) (s g : Nat) (m : Bool) (w : World) (hs : s ≤ 4) (hg : g < 4294967296) :
    Calls Try.prog 29 #[.agg #[.int .i64 t, .int .i64 (s : Int), .int .i64 kd, .int .i64 lo, .int .i64 hi, .int .i64 (g : Int), .bool m]] w (OwnP t s (putB g s) w) := by
  have e1 : IntKind.u64.wrap (g : Int) = (g : Int) := by unfold IntKind.wrap; simp [IntKind.signed, IntKind.bits]; omega
  have hg4 : (g : Int) < 4294967296 := by omega
  rcases Nat.eq_zero_or_pos s with h0 | h0
  · subst h0
    go_enter Try.func29, Try.ntmps29
    go_upto_region 1 with (fail)
    go_region_held3 (fun w' => w'.cell? ⟨w.heap.size, 0, none⟩ = some (.int .i64 t) ∧ w'.cell? ⟨w.heap.size, 1, none⟩ = some (.int .i64 0) ∧ w'.cell? ⟨w.heap.size, 5, none⟩ = some (.int .i64 (g : Int))) (first | (go_keep; done) | (go_simp; done) | (simp [go_sem]; done)) ((go_at_call 43; go_must (refine (rput_no (g : Int) 0 _ (by decide)).mono ?_); (rintro e w1 ⟨rfl, rfl⟩)))
    all_goals
      go_wp2_with fail
      refine bodyPost_ret (v := .agg #[.int .i64 t, .slice none 0 0]) (by simp [results, Try.results29, go_sem]) rfl ?_
    exact ⟨none, 0, rfl, by exact bel, own_nil _ _ _ _⟩
  · go_enter Try.func29, Try.ntmps29
    go_upto_region 1 with (fail)
    go_region_held3 (fun w' => w'.cell? ⟨w.heap.size, 0, none⟩ = some (.int .i64 t) ∧ w'.cell? ⟨w.heap.size, 1, none⟩ = some (.int .i64 (s : Int)) ∧ w'.cell? ⟨w.heap.size, 5, none⟩ = some (.int .i64 (g : Int))) (first | (go_keep; done) | (go_simp; done) | (simp [go_sem]; done)) ((go_at_call 43; go_must (refine (rput_yes g s _ (by omega) h0 (by omega)).mono ?_); (rintro e w1 ⟨v, rfl, hb, ho⟩; obtain ⟨A2, c2, rfl, -, -⟩ := ownsRow_form ho; obtain ⟨xs, dr, rfl⟩ := ext_of hb; have HO := Lib.hid ho; clear hb ho)))
    all_goals
      go_wp2_with fail
      refine bodyPost_ret (v := .agg #[.int .i64 t, .slice A2 s c2]) (by simp [results, Try.results29, go_sem]) rfl ?_
    refine ⟨A2, c2, rfl, by exact bel, ?_⟩
    have h := own_base (base' := w.heap.size) HO.out (by simp; omega)
    exact own_keep h fun k hk => ext_high _ _ xs dr dr k (by simp) (own_le HO.out hk)
end Go.Proofs.Ytlkijhcgiilmhaa
