/- NegoTaken: the plain law, the law's own number, its walk. -/
import Derived.Test.YtlkijhcgiilmhaaN28
import Derived.Deep.QuietTactic
import Derived.BigQuiet
import Derived.Deep.RegionHeld3
namespace Go.Proofs.Ytlkijhcgiilmhaa
open Go.RowKit
set_option linter.unusedSimpArgs false
set_option linter.unusedVariables false
def anyB (R : List Rl) (o : Opt) (q : Nat) : Bool := (R.take q).any fun r => fitB o r && r.takes (be o.2 : Int)
theorem any_succ {R : List Rl} {o : Opt} {q : Nat} (hq : q < R.length) : anyB R o (q + 1) = (anyB R o q || (fitB o R[q] && R[q].takes (be o.2 : Int))) := by
  unfold anyB
  rw [List.take_succ_eq_append_getElem hq, List.any_append]
  simp
theorem any_all {R : List Rl} {o : Opt} (h : ∃ r ∈ R, fitB o r = true ∧ r.takes (be o.2 : Int) = true) : anyB R o R.length = true := by
  unfold anyB
  rw [List.take_length, List.any_eq_true]
  obtain ⟨r, hr, h1, h2⟩ := h
  exact ⟨r, hr, by rw [h1, h2]; rfl⟩
def thereB (L : List Opt) (r : Rl) (q : Nat) : Bool := !r.must || (L.take q).any fun o => o.1 == r.t
theorem there_zero (L : List Opt) (r : Rl) : thereB L r 0 = !r.must := by unfold thereB; simp
theorem there_succ {L : List Opt} {r : Rl} {q : Nat} (hq : q < L.length) : thereB L r (q + 1) = (thereB L r q || L[q].1 == r.t) := by
  unfold thereB
  rw [List.take_succ_eq_append_getElem hq, List.any_append, Bool.or_assoc]
  simp
theorem sort_taken (R : List Rl) (L : List Opt) : ∀ k, k ≤ L.length → (sortK R L k).1 = [] → (sortK R L k).2.2 = [] → ∀ i (hi : i < L.length), i < k → ∃ r ∈ R, fitB L[i] r = true ∧ r.takes (be L[i].2 : Int) = true
  | 0, _, _, _, i, _, h => by omega
  | k + 1, hk, h1, h2, i, hi, hik => by
    have ih := sort_taken R L k (by omega)
    rw [sortK_succ] at h1 h2
    unfold stepS at h1 h2
    rw [List.getElem?_eq_getElem (by omega)] at h1 h2
    simp only at h1 h2
    cases hko : kindO R L k L[k] with
    | none => rw [hko] at h1; simp at h1
    | some r =>
      rw [hko] at h1 h2
      simp only at h1 h2
      by_cases ht : r.takes (be L[k].2 : Int) = true
      · rw [if_pos ht] at h1 h2
        by_cases e : i = k
        · subst e
          obtain ⟨hm, hf⟩ := kindO_mem hko
          exact ⟨r, hm, hf, ht⟩
        · exact ih h1 h2 i hi (by omega)
      · rw [if_neg ht] at h2; simp at h2
theorem answer_taken {R : List Rl} {L : List Opt} {naks most : Int} (h : (answerO R L naks most).1 = 2) :
    areB R = true ∧ (answerO R L naks most).2 = L ∧ (∀ o ∈ L, anyB R o R.length = true) ∧ ∀ r ∈ R, thereB L r L.length = true := by
  unfold answerO at h ⊢
  by_cases h0 : areB R = false
  · rw [if_pos h0] at h; simp at h
  · rw [if_neg h0] at h ⊢
    by_cases h1 : 0 < (sortK R L L.length).1.length
    · rw [if_pos h1] at h; simp at h
    · rw [if_neg h1] at h ⊢
      by_cases h2 : (nakR R L).length = 0
      · rw [if_pos h2]
        unfold nakR at h2
        rw [List.length_append] at h2
        have e1 : (sortK R L L.length).1 = [] := List.length_eq_zero_iff.1 (by omega)
        have e2 : (sortK R L L.length).2.2 = [] := List.length_eq_zero_iff.1 (by omega)
        have e3 : lackL R L = [] := List.length_eq_zero_iff.1 (by omega)
        refine ⟨by simpa using h0, rfl, fun o ho => ?_, fun r hr => ?_⟩
        · obtain ⟨i, hi, rfl⟩ := List.mem_iff_getElem.1 ho
          exact any_all (sort_taken R L L.length (Nat.le_refl _) e1 e2 i hi hi)
        · unfold lackL at e3
          rw [List.filter_eq_nil_iff] at e3
          have h3 := e3 r hr
          unfold lackB at h3
          unfold thereB
          rw [List.take_length]
          cases hmu : r.must
          · rfl
          · rw [hmu] at h3
            have h4 : (plI L r.t).isSome = true := by rw [Option.isSome_iff_ne_none]; simpa using h3
            unfold plI at h4
            rw [List.findIdx?_isSome] at h4
            rw [h4]; rfl
      · rw [if_neg h2] at h
        split at h <;> simp at h
theorem number_law (t : Int) (A : Option Addr) (n c : Nat) (d : List UInt8) (w : World) (B : Nat) (hB : B ≤ w.heap.size) (hA : At w B A (d.map bv)) (hn : n = d.length) (h4 : n ≤ 4) :
    Calls Try.prog 20 #[.agg #[.int .i64 t, .slice A n c]] w fun x w' => x = .returned (.int .i64 (be d : Int)) ∧ Below w.heap.size w w' := by
  have HA := Lib.hid (hA.more hB)
  have HN := Lib.hid hn
  clear hA hn hB
  go_enter Try.func20, Try.ntmps20
  go_wp2_with fail
  go_loopw [3, 4] (fun v i wr => ∃ (k q : Nat), k ≤ n ∧ i = .int .i64 k ∧ v = .int .i64 q ∧ be (d.take k) = q ∧ Below w.heap.size w wr ∧ wr.heap[w.heap.size]? = some (.cells #[.int .i64 t, .slice A n c] 42 (0, 0))) (fun _ i _ => n - (intOf i).toNat)
  case atStart => exact ⟨0, 0, Nat.zero_le _, rfl, rfl, rfl, by exact bel, by rw [heap_alloc_new]⟩
  case round =>
    obtain ⟨k, q, hk, rfl, rfl, hq, hb, hbox⟩ := hrel
    have HQ := Lib.hid hq
    have HBL := Lib.hid hb
    have HBOX := Lib.hid hbox
    obtain ⟨g0, g1, g2, g3⟩ := two_cells hbox
    have hsz := hb.size
    clear hq hb hbox
    by_cases hlt : k < n
    · have HK := Lib.hid (show k < d.length by have := HN.out; omega)
      obtain ⟨b, o, rfl, hbB, hx⟩ := bytes_get (HA.out.keep HBL.out) HK.out
      obtain ⟨x, hxx⟩ : ∃ x, d[k]'HK.out = x := ⟨_, rfl⟩
      rw [hxx] at hx
      have hx8 := x.toNat_lt
      have hq4 : q < 4294967296 := by rw [← HQ.out]; exact be_lt4 (by rw [List.length_take]; omega)
      have HNX := Lib.hid (show be (d.take (k + 1)) = 256 * q + x.toNat by rw [List.take_succ_eq_append_getElem HK.out, be_snoc, HQ.out, hxx]; omega)
      have z1 : b < wr.heap.size := by omega
      have jj0 : (0 : Int) ≤ (k : Int) := by omega
      have jj1 : (k : Int) < (n : Int) := by omega
      have jj4 : (k : Int) < 4 := by omega
      have q4 : (q : Int) < 4294967296 := by omega
      have x8 : ((x.toNat : Nat) : Int) < 256 := by omega
      have e1 : IntKind.i64.wrap ((x.toNat : Nat) : Int) = ((x.toNat : Nat) : Int) := IntWalk.i64_in _ (by omega)
      have e2 : IntKind.i64.wrap (256 * (q : Int)) = 256 * (q : Int) := IntWalk.i64_in _ (by omega)
      have e3 : IntKind.i64.wrap (256 * (q : Int) + ((x.toNat : Nat) : Int)) = 256 * (q : Int) + ((x.toNat : Nat) : Int) := IntWalk.i64_in _ (by omega)
      clear hxx
      go_wp2_with fail
      go_roundw
      case rel => exact ⟨k + 1, 256 * q + x.toNat, by omega, by go_num, by go_num, HNX.out, by have := HBL.out; exact bel, by exact HBOX.out⟩
      case measure => simp [intOf]; omega
    · obtain rfl : k = n := by omega
      have HR := Lib.hid (show be d = q by rw [← HQ.out, List.take_of_length_le (by have := HN.out; omega)])
      go_wp2_with fail
      go_ret
      exact ⟨by rw [HR.out]; rfl, HBL.out⟩
end Go.Proofs.Ytlkijhcgiilmhaa
