/- OptsCodes: its walk. -/
import Derived.Test.YtbdkapmiioiikaaH17
namespace Go.Proofs.Ytbdkapmiioiikaa
open Go.RowKit
set_option linter.unusedSimpArgs false
set_option linter.unusedVariables false
theorem same_self (a : List (Int × List UInt8)) : sameB a a = true := by simp [sameB]
set_option maxRecDepth 100000 in
set_option maxHeartbeats 4000000 in
theorem codes_any (A : Option Addr) (n c : Nat) (E : List Ent) (A' : Option Addr) (n' c' : Nat) (l : List UInt8) (w : World) (hE : OptsAt w w.heap.size A E) (hn : n = E.length) (hn2 : (n : Int) ≤ 9223372036854775807) (hd : ∀ e ∈ E, (e.d.length : Int) ≤ 9223372036854775807)
    (hA : At w w.heap.size A' (l.map bv)) (hl : n' = l.length) (hc : n' ≤ c') (hl2 : (n' : Int) ≤ 9223372036854775807) :
    Calls Try.prog 3 #[.slice A n c, .slice A' n' c'] w fun e w' => e = .returned (.bool true) ∧ Below w.heap.size w w' := by
  have HE := Lib.hid hE
  have HN := Lib.hid hn
  have HD := Lib.hid hd
  have HL := Lib.hid (show At w w.heap.size A' ((l.take 1500).map bv) ∧ min n' 1500 = (l.take 1500).length by
    rw [List.map_take]; exact ⟨hA.take 1500, by simp; omega⟩)
  obtain ⟨m, hm⟩ : ∃ m, min n' 1500 = m := ⟨_, rfl⟩
  rw [hm] at HL
  have HM := Lib.hid hm
  have hmc : m ≤ c' := by omega
  clear hE hn hd hA hl hm
  generalize l.take 1500 = b at HL
  go_enter Try.func3, Try.ntmps3
  go_wp2_with fail
  refine (few_any A n c E _ _ (Nat.le_refl _) HE.out HN.out hn2 HD.out).mono ?_
  rintro e w1 ⟨A1, n1, c1, rfl, hb, ho, hn⟩
  have HA1 := Lib.hid (few_at (HE.out) (by simp [go_sem]) (by simpa [go_sem] using hb) ho)
  obtain ⟨xs1, dr1, rfl⟩ := ext_of hb
  clear hb ho
  have hl1 : n1 ≤ 70 := by rw [hn]; exact few_len _
  have HN1 := Lib.hid hn
  clear hn
  generalize fewE E = F at HA1 HN1
  go_wp2_with fail
  refine (cut_any A' n' c' _ (by omega) hl2).mono ?_
  rintro e w1 ⟨rfl, rfl⟩
  rw [HM.out]
  go_wp2_with fail
  refine (enc_any A1 n1 c1 F _ _ (Nat.le_refl _) HA1.out HN1.out).mono ?_
  obtain ⟨⟨y, ye⟩, hR⟩ : ∃ R, encR (F.map Ent.o) = R := ⟨_, rfl⟩
  obtain ⟨yn, hyn⟩ : ∃ n, y.length = n := ⟨_, rfl⟩
  have HR := Lib.hid hR
  have HYN := Lib.hid hyn
  clear hR hyn
  rintro e w1 h1
  obtain ⟨A2, c2, rfl, hb, ho, hc2⟩ := h1.get HR.out HYN.out
  clear h1
  obtain ⟨xs2, dr2, rfl⟩ := ext_of hb
  clear hb
  have HO2 := Lib.hid ho
  clear ho
  go_wp2_with fail
  refine (renc_any A1 n1 c1 F _ _ (Nat.le_refl _) (⟨(HA1.out.1.move (by (repeat (first | exact Below.refl _ _ | exact Nat.le_refl _ | (refine below_ext ?_ (by first | (simp [size_ext, grow]; done) | (simp [size_ext, grow]; omega) | omega) _ _) | (refine Below.setCell ?_ (by first | (simp [size_ext, grow]; done) | (simp [size_ext, grow]; omega) | omega) _) | (refine Below.alloc ?_ (by first | (simp [size_ext, grow]; done) | (simp [size_ext, grow]; omega) | omega) _) | refine Below.drew ?_ | refine below_drewN ?_ _ | (refine Below.trans ?_ (Below.mono (by assumption) (by first | (simp [size_ext, grow]; done) | (simp [size_ext, grow]; omega) | omega)))))) (by simp [go_sem])), fun e he => ⟨(HA1.out.2 e he).1.move (by (repeat (first | exact Below.refl _ _ | exact Nat.le_refl _ | (refine below_ext ?_ (by first | (simp [size_ext, grow]; done) | (simp [size_ext, grow]; omega) | omega) _ _) | (refine Below.setCell ?_ (by first | (simp [size_ext, grow]; done) | (simp [size_ext, grow]; omega) | omega) _) | (refine Below.alloc ?_ (by first | (simp [size_ext, grow]; done) | (simp [size_ext, grow]; omega) | omega) _) | refine Below.drew ?_ | refine below_drewN ?_ _ | (refine Below.trans ?_ (Below.mono (by assumption) (by first | (simp [size_ext, grow]; done) | (simp [size_ext, grow]; omega) | omega)))))) (by simp [go_sem]), (HA1.out.2 e he).2⟩⟩) HN1.out).mono ?_
  rintro e w1 h1
  obtain ⟨A3, c3, rfl, hb, ho, hc3⟩ := h1.get HR.out HYN.out
  clear h1
  obtain ⟨xs3, dr3, rfl⟩ := ext_of hb
  clear hb
  have HO3 := Lib.hid ho
  clear ho
  go_wp2_with fail
  refine (dec_any A' m c' b _ w.heap.size (by simp [go_sem]) (HL.out.1.keep (by (repeat (first | exact Below.refl _ _ | exact Nat.le_refl _ | (refine below_ext ?_ (by first | (simp [size_ext, grow]; done) | (simp [size_ext, grow]; omega) | omega) _ _) | (refine Below.setCell ?_ (by first | (simp [size_ext, grow]; done) | (simp [size_ext, grow]; omega) | omega) _) | (refine Below.alloc ?_ (by first | (simp [size_ext, grow]; done) | (simp [size_ext, grow]; omega) | omega) _) | refine Below.drew ?_ | refine below_drewN ?_ _ | (refine Below.trans ?_ (Below.mono (by assumption) (by first | (simp [size_ext, grow]; done) | (simp [size_ext, grow]; omega) | omega))))))) HL.out.2 hmc).mono ?_
  obtain ⟨⟨Y, Ye⟩, hS⟩ : ∃ S, decR b = S := ⟨_, rfl⟩
  have HS := Lib.hid hS
  clear hS
  rintro e w1 h1
  obtain ⟨E4, A4, n4, c4, rfl, hb, ho, he, hne, hc4, hl4⟩ := h1.get HS.out
  clear h1
  obtain ⟨xs4, dr4, rfl⟩ := ext_of hb
  clear hb
  have HO4 := Lib.hid ho
  have HE4 := Lib.hid he
  have HN4 := Lib.hid hne
  clear ho he hne
  go_wp2_with fail
  refine (rdec_any A' m c' b _ w.heap.size (by simp [go_sem]) (HL.out.1.keep (by (repeat (first | exact Below.refl _ _ | exact Nat.le_refl _ | (refine below_ext ?_ (by first | (simp [size_ext, grow]; done) | (simp [size_ext, grow]; omega) | omega) _ _) | (refine Below.setCell ?_ (by first | (simp [size_ext, grow]; done) | (simp [size_ext, grow]; omega) | omega) _) | (refine Below.alloc ?_ (by first | (simp [size_ext, grow]; done) | (simp [size_ext, grow]; omega) | omega) _) | refine Below.drew ?_ | refine below_drewN ?_ _ | (refine Below.trans ?_ (Below.mono (by assumption) (by first | (simp [size_ext, grow]; done) | (simp [size_ext, grow]; omega) | omega))))))) HL.out.2 hmc).mono ?_
  rintro e w1 h1
  obtain ⟨E5, A5, n5, c5, rfl, hb, ho, he, hne, hc5, hl5⟩ := h1.get HS.out
  clear h1
  obtain ⟨xs5, dr5, rfl⟩ := ext_of hb
  clear hb
  have HO5 := Lib.hid ho
  have HE5 := Lib.hid he
  have HN5 := Lib.hid hne
  clear ho he hne
  obtain ⟨W5, hW5⟩ : ∃ W5, W5 = (ext (ext (ext (ext (ext w xs1 dr1) xs2 dr2) xs3 dr3) xs4 dr4) xs5 dr5) := ⟨_, rfl⟩
  have HB5 := Lib.hid (show Below w.heap.size w W5 by rw [hW5]; (repeat (first | exact Below.refl _ _ | exact Nat.le_refl _ | (refine below_ext ?_ (by first | (simp [size_ext, grow]; done) | (simp [size_ext, grow]; omega) | omega) _ _) | (refine Below.setCell ?_ (by first | (simp [size_ext, grow]; done) | (simp [size_ext, grow]; omega) | omega) _) | (refine Below.alloc ?_ (by first | (simp [size_ext, grow]; done) | (simp [size_ext, grow]; omega) | omega) _) | refine Below.drew ?_ | refine below_drewN ?_ _ | (refine Below.trans ?_ (Below.mono (by assumption) (by first | (simp [size_ext, grow]; done) | (simp [size_ext, grow]; omega) | omega))))))
  have H2 := Lib.hid (show At W5 W5.heap.size A2 (y.map bv) by rw [hW5]; exact (At.of_own HO2.out).move (by (repeat (first | exact Below.refl _ _ | exact Nat.le_refl _ | (refine below_ext ?_ (by first | (simp [size_ext, grow]; done) | (simp [size_ext, grow]; omega) | omega) _ _) | (refine Below.setCell ?_ (by first | (simp [size_ext, grow]; done) | (simp [size_ext, grow]; omega) | omega) _) | (refine Below.alloc ?_ (by first | (simp [size_ext, grow]; done) | (simp [size_ext, grow]; omega) | omega) _) | refine Below.drew ?_ | refine below_drewN ?_ _ | (refine Below.trans ?_ (Below.mono (by assumption) (by first | (simp [size_ext, grow]; done) | (simp [size_ext, grow]; omega) | omega)))))) (by simp [go_sem]))
  have H3 := Lib.hid (show At W5 W5.heap.size A3 (y.map bv) by rw [hW5]; exact (At.of_own HO3.out).move (by (repeat (first | exact Below.refl _ _ | exact Nat.le_refl _ | (refine below_ext ?_ (by first | (simp [size_ext, grow]; done) | (simp [size_ext, grow]; omega) | omega) _ _) | (refine Below.setCell ?_ (by first | (simp [size_ext, grow]; done) | (simp [size_ext, grow]; omega) | omega) _) | (refine Below.alloc ?_ (by first | (simp [size_ext, grow]; done) | (simp [size_ext, grow]; omega) | omega) _) | refine Below.drew ?_ | refine below_drewN ?_ _ | (refine Below.trans ?_ (Below.mono (by assumption) (by first | (simp [size_ext, grow]; done) | (simp [size_ext, grow]; omega) | omega)))))) (by simp [go_sem]))
  have H4 := Lib.hid (show OptsAt W5 W5.heap.size A4 E4 by rw [hW5]; exact OptsAt.move HO4.out.at (by (repeat (first | exact Below.refl _ _ | exact Nat.le_refl _ | (refine below_ext ?_ (by first | (simp [size_ext, grow]; done) | (simp [size_ext, grow]; omega) | omega) _ _) | (refine Below.setCell ?_ (by first | (simp [size_ext, grow]; done) | (simp [size_ext, grow]; omega) | omega) _) | (refine Below.alloc ?_ (by first | (simp [size_ext, grow]; done) | (simp [size_ext, grow]; omega) | omega) _) | refine Below.drew ?_ | refine below_drewN ?_ _ | (refine Below.trans ?_ (Below.mono (by assumption) (by first | (simp [size_ext, grow]; done) | (simp [size_ext, grow]; omega) | omega)))))) (by simp [go_sem]))
  have H5 := Lib.hid (show OptsAt W5 W5.heap.size A5 E5 by rw [hW5]; exact HO5.out.at)
  rw [← hW5]
  clear hW5
  have q2 : ∀ W : World, At W W5.heap.size A2 (y.map bv) → (convert 23 9 (.slice A2 yn c2)).run Try.prog W = .ok (.string ⟨y.toArray⟩) W := fun W h => run_str Try.underlying23 Try.underlying5 Try.underlying9 HYN.out.symm h
  have h2 := H2.out
  have q3 : ∀ W : World, At W W5.heap.size A3 (y.map bv) → (convert 23 9 (.slice A3 yn c3)).run Try.prog W = .ok (.string ⟨y.toArray⟩) W := fun W h => run_str Try.underlying23 Try.underlying5 Try.underlying9 HYN.out.symm h
  have h3 := H3.out
  go_wp2_with fail
  clear q2 q3 h2 h3
  refine (same_ref A4 A5 n4 n5 c4 c5 E4 E5 _ _ (Nat.le_refl _) H4.out H5.out HN4.out HN5.out (by omega)).mono ?_
  rw [HE4.out, HE5.out, same_self]
  rintro e w1 ⟨rfl, hb⟩
  obtain ⟨xs6, dr6, rfl⟩ := ext_of hb
  clear hb
  go_wp2_with fail
  refine (awake_any _).mono ?_
  rintro e w1 ⟨rfl, hb⟩
  obtain ⟨xs7, dr7, rfl⟩ := ext_of hb
  clear hb
  go_wp2_with fail
  go_ret
  exact ⟨rfl, by have h := HB5.out; have hz := h.size; (repeat (first | exact Below.refl _ _ | exact Nat.le_refl _ | (refine below_ext ?_ (by first | (simp [size_ext, grow]; done) | (simp [size_ext, grow]; omega) | omega) _ _) | (refine Below.setCell ?_ (by first | (simp [size_ext, grow]; done) | (simp [size_ext, grow]; omega) | omega) _) | (refine Below.alloc ?_ (by first | (simp [size_ext, grow]; done) | (simp [size_ext, grow]; omega) | omega) _) | refine Below.drew ?_ | refine below_drewN ?_ _ | (refine Below.trans ?_ (Below.mono (by assumption) (by first | (simp [size_ext, grow]; done) | (simp [size_ext, grow]; omega) | omega)))))⟩
theorem optsCodes_calls {H : Type} (enc : TypeId × Value → H) (W : World) (base : Nat) (v0 v1 : Value) (d0 d1 : DataW H) (p0 p1 : List MemPlace)
    (o0 : Value.okWide Try.prog W .any base 22 v0) (o1 : Value.okWide Try.prog W .any base 23 v1)
    (h0 : DataW.Trod enc Try.prog W 0 (fun _ => true) true 22 v0 d0 p0) (h1 : DataW.Trod enc Try.prog W 0 (fun _ => true) true 23 v1 d1 p1) :
    Calls Try.prog 3 #[v0, v1] W fun e W' => e = .returned (.bool true) ∧ Below W.heap.size W W' := by
  obtain ⟨A, n, c, E, rfl, hE, hn, hc, hl, hd⟩ := open_opts_arg o0 h0
  obtain ⟨A', n', c', l, rfl, hA, hn', hc', hl'⟩ := open_bytes_arg o1 h1
  exact codes_any A n c E A' n' c' l W hE hn hl hd hA hn' hc' hl'
end Go.Proofs.Ytbdkapmiioiikaa
