/- nego.Learn: what is asked for behind an answer. -/
import Derived.Test.YtlkijhcgiilmhaaN7
namespace Go.Proofs.Ytlkijhcgiilmhaa
open Go.RowKit
set_option linter.unusedSimpArgs false
set_option linter.unusedVariables false
def learnO (O : List Opt) (code : Int) (L : List Opt) : List Opt × Bool :=
  if L.length = 0 then (O, false) else if code = 3 then (nakL O L, true) else if code = 4 then (if (rejS O L).2 = L.length then ((rejS O L).1, true) else (O, false)) else (O, false)
set_option maxHeartbeats 2000000 in
theorem learn_any (A1 A2 : Option Addr) (n1 n2 c1 c2 : Nat) (code : Int) (E1 E2 : List Ent) (w : World) (B : Nat) (hB : B ≤ w.heap.size) (hA1 : OptsAt w B A1 E1) (hA2 : OptsAt w B A2 E2) (hn1 : n1 = E1.length) (hn2 : n2 = E2.length) (hc2 : n2 ≤ c2) (hl1 : n1 ≤ 1000000) (hl2 : n2 ≤ 1000000) (hd1 : ∀ e ∈ E1, e.d.length ≤ 1000000) (hd2 : ∀ e ∈ E2, e.d.length ≤ 1000000) :
    Calls Try.prog 17 #[.slice A1 n1 c1, .int .i64 code, .slice A2 n2 c2] w (RowsB (learnO (E1.map Ent.o) code (E2.map Ent.o)).1 (learnO (E1.map Ent.o) code (E2.map Ent.o)).2 w) := by
  have HA1 := Lib.hid hA1
  have HA2 := Lib.hid hA2
  have HN1 := Lib.hid hn1
  have HN2 := Lib.hid hn2
  have HB := Lib.hid hB
  have HD1 := Lib.hid hd1
  have HD2 := Lib.hid hd2
  have HLL := Lib.hid (show (E2.map Ent.o).length = n2 by simp [hn2])
  clear hA1 hA2 hn1 hn2 hB hd1 hd2
  obtain ⟨O, hO⟩ : ∃ O, E1.map Ent.o = O := ⟨_, rfl⟩
  obtain ⟨L, hL⟩ : ∃ L, E2.map Ent.o = L := ⟨_, rfl⟩
  rw [hO, hL]
  rw [hL] at HLL
  have HL := Lib.hid hL
  have HO := Lib.hid hO
  clear hO hL
  by_cases h0 : n2 = 0
  · subst h0
    have HR := Lib.hid (show learnO O code L = (O, false) by unfold learnO; rw [if_pos HLL.out])
    go_enter Try.func17, Try.ntmps17
    go_wp2_with fail
    refine (owns_any A1 n1 c1 E1 _ B (by have := HB.out; simp [size_ext, grow] <;> omega) (by exact HA1.out.keep (by have := HB.out; exact bel)) HN1.out hl1 (by intro e he; have := HD1.out e he; omega)).mono ?_
    rw [HO.out]
    rintro e w1 ⟨E7, A7, c7, rfl, hE7, hb7, ho7⟩
    have HE7 := Lib.hid hE7
    have HO7 := Lib.hid ho7
    obtain ⟨xs7, dr7, rfl⟩ := ext_of hb7
    clear hE7 hb7 ho7
    go_wp2_with fail
    refine bodyPost_ret (v := .tuple #[.slice A7 O.length c7, .bool false]) (by simp [results, Try.results17, go_sem]) rfl ⟨E7, A7, c7, by rw [HR.out], by rw [HR.out]; exact HE7.out, by exact bel, by rw [HR.out]; first | exact HO7.out | exact OwnOpts.base HO7.out (by simp [size_ext, grow])⟩
  · have e0 : ((n2 : Int) == 0) = false := by simp; omega
    have hL0 : ¬ L.length = 0 := by rw [HLL.out]; exact h0
    by_cases h3 : code = 3
    · have HR := Lib.hid (show learnO O code L = (nakL O L, true) by unfold learnO; rw [if_neg hL0, if_pos h3])
      have e3 : (code == 3) = true := by simpa using h3
      clear h3 h0 hL0
      go_enter Try.func17, Try.ntmps17
      go_wp2_with fail
      refine (nak_any A1 A2 n1 n2 c1 c2 E1 E2 _ B HB.out HA1.out HA2.out HN1.out HN2.out hl1 hl2 (by intro e he; have := HD1.out e he; omega) (by intro e he; have := HD2.out e he; omega)).mono ?_
      rw [HO.out, HL.out]
      rintro e w1 ⟨E7, A7, c7, rfl, hE7, hb7, ho7⟩
      have HE7 := Lib.hid hE7
      have HO7 := Lib.hid ho7
      obtain ⟨xs7, dr7, rfl⟩ := ext_of hb7
      clear hE7 hb7 ho7
      go_wp2_with fail
      refine bodyPost_ret (v := .tuple #[.slice A7 (nakL O L).length c7, .bool true]) (by simp [results, Try.results17, go_sem]) rfl ⟨E7, A7, c7, by rw [HR.out], by rw [HR.out]; exact HE7.out, by exact bel, by rw [HR.out]; first | exact HO7.out | exact OwnOpts.base HO7.out (by simp [size_ext, grow])⟩
    · have e3 : (code == 3) = false := by simpa using h3
      by_cases h4 : code = 4
      · have e4 : (code == 4) = true := by simpa using h4
        have HNB := Lib.hid (show E2.length = L.length by rw [HLL.out]; exact HN2.out.symm)
        by_cases hr : (rejS O L).2 = L.length
        · have HR := Lib.hid (show learnO O code L = ((rejS O L).1, true) by unfold learnO; rw [if_neg hL0, if_neg h3, if_pos h4, if_pos hr])
          have HD := Lib.hid (decide_eq_true hr)
          clear h3 h0 hL0 h4 hr
          go_enter Try.func17, Try.ntmps17
          go_wp2_with fail
          refine (rej_any A1 A2 n1 n2 c1 c2 E1 E2 _ B HB.out HA1.out HA2.out HN1.out HN2.out hc2 hl1 hl2 HD1.out HD2.out).mono ?_
          rw [HO.out, HL.out, HNB.out, HD.out]
          rintro e w1 ⟨E7, A7, c7, rfl, hE7, hb7, ho7⟩
          have HE7 := Lib.hid hE7
          have HO7 := Lib.hid ho7
          obtain ⟨xs7, dr7, rfl⟩ := ext_of hb7
          clear hE7 hb7 ho7
          go_wp2_with fail
          refine bodyPost_ret (v := .tuple #[.slice A7 (rejS O L).1.length c7, .bool true]) (by simp [results, Try.results17, go_sem]) rfl ⟨E7, A7, c7, by rw [HR.out], by rw [HR.out]; exact HE7.out, by exact bel, by rw [HR.out]; first | exact HO7.out | exact OwnOpts.base HO7.out (by simp [size_ext, grow])⟩
        · have HR := Lib.hid (show learnO O code L = (O, false) by unfold learnO; rw [if_neg hL0, if_neg h3, if_pos h4, if_neg hr])
          have HD := Lib.hid (decide_eq_false hr)
          clear h3 h0 hL0 h4 hr
          go_enter Try.func17, Try.ntmps17
          go_wp2_with fail
          refine (rej_any A1 A2 n1 n2 c1 c2 E1 E2 _ B HB.out HA1.out HA2.out HN1.out HN2.out hc2 hl1 hl2 HD1.out HD2.out).mono ?_
          rw [HO.out, HL.out, HNB.out, HD.out]
          rintro e w1 ⟨E8, A8, c8, rfl, -, hb8, -⟩
          obtain ⟨xs8, dr8, rfl⟩ := ext_of hb8
          clear hb8
          go_wp2_with fail
          refine (owns_any A1 n1 c1 E1 _ B (by have := HB.out; simp [size_ext, grow] <;> omega) (by exact HA1.out.keep (by have := HB.out; exact bel)) HN1.out hl1 (by intro e he; have := HD1.out e he; omega)).mono ?_
          rw [HO.out]
          rintro e w1 ⟨E7, A7, c7, rfl, hE7, hb7, ho7⟩
          have HE7 := Lib.hid hE7
          have HO7 := Lib.hid ho7
          obtain ⟨xs7, dr7, rfl⟩ := ext_of hb7
          clear hE7 hb7 ho7
          go_wp2_with fail
          refine bodyPost_ret (v := .tuple #[.slice A7 O.length c7, .bool false]) (by simp [results, Try.results17, go_sem]) rfl ⟨E7, A7, c7, by rw [HR.out], by rw [HR.out]; exact HE7.out, by exact bel, by rw [HR.out]; first | exact HO7.out | exact OwnOpts.base HO7.out (by simp [size_ext, grow])⟩
      · have HR := Lib.hid (show learnO O code L = (O, false) by unfold learnO; rw [if_neg hL0, if_neg h3, if_neg h4])
        have e4 : (code == 4) = false := by simpa using h4
        clear h3 h0 hL0 h4
        go_enter Try.func17, Try.ntmps17
        go_wp2_with fail
        refine (owns_any A1 n1 c1 E1 _ B (by have := HB.out; simp [size_ext, grow] <;> omega) (by exact HA1.out.keep (by have := HB.out; exact bel)) HN1.out hl1 (by intro e he; have := HD1.out e he; omega)).mono ?_
        rw [HO.out]
        rintro e w1 ⟨E7, A7, c7, rfl, hE7, hb7, ho7⟩
        have HE7 := Lib.hid hE7
        have HO7 := Lib.hid ho7
        obtain ⟨xs7, dr7, rfl⟩ := ext_of hb7
        clear hE7 hb7 ho7
        go_wp2_with fail
        refine bodyPost_ret (v := .tuple #[.slice A7 O.length c7, .bool false]) (by simp [results, Try.results17, go_sem]) rfl ⟨E7, A7, c7, by rw [HR.out], by rw [HR.out]; exact HE7.out, by exact bel, by rw [HR.out]; first | exact HO7.out | exact OwnOpts.base HO7.out (by simp [size_ext, grow])⟩
end Go.Proofs.Ytlkijhcgiilmhaa
