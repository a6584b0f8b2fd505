/- OptsFinds: its walk. -/
import Derived.Test.YtbdkapmiioiikaaH18
import Derived.Test.YtbdkapmiioiikaaH19
namespace Go.Proofs.Ytbdkapmiioiikaa
open Go.ChangeShapes Go.WideShapes Go.ChangeAt Go.RowKit Go.Joins Go.Deep
set_option linter.unusedSimpArgs false
set_option linter.unusedVariables false
set_option maxRecDepth 100000 in
set_option maxHeartbeats 1000000 in
theorem finds_any (A : Option Addr) (n c : Nat) (E : List Ent) (A' : Option Addr) (n' c' : Nat) (E' : List Ent) (typ : Int) (w : World) (hE : OptsAt w w.heap.size A E) (hn : n = E.length) (hn2 : (n : Int) ≤ 9223372036854775807) (hd : ∀ e ∈ E, (e.d.length : Int) ≤ 9223372036854775807)
    (hE' : OptsAt w w.heap.size A' E') (hn' : n' = E'.length) (hn2' : (n' : Int) ≤ 9223372036854775807) (hd' : ∀ e ∈ E', (e.d.length : Int) ≤ 9223372036854775807) :
    Calls Try.prog 9 #[.slice A n c, .slice A' n' c', .int .i64 typ] w fun e w' => e = .returned (.bool true) ∧ Below w.heap.size w w' := by
  have HE := Lib.hid hE
  have HN := Lib.hid hn
  have HD := Lib.hid hd
  have HE' := Lib.hid hE'
  have HN' := Lib.hid hn'
  have HD' := Lib.hid hd'
  clear hE hn hd hE' hn' hd'
  go_enter Try.func9, Try.ntmps9
  go_wp2_with fail
  refine (few_any A n c E _ _ (Nat.le_refl _) HE.out HN.out hn2 HD.out).mono ?_
  rintro e w1 ⟨A1, n1, c1, rfl, hb, ho, hn⟩
  have HA1 := Lib.hid (few_at (HE.out) (Nat.le_refl _) hb ho)
  obtain ⟨xs1, dr1, rfl⟩ := ext_of hb
  clear hb ho
  have hl1 : n1 ≤ 70 := by rw [hn]; exact few_len _
  have HN1 := Lib.hid hn
  clear hn
  have HF1 := Lib.hid (few_data E)
  generalize fewE E = F at HA1 HN1 HF1
  go_wp2_with fail
  refine (few_any A' n' c' E' _ w.heap.size (by simp [go_sem]) (HE'.out.keep (by (repeat (first | exact Below.refl _ _ | exact Nat.le_refl _ | (refine below_ext ?_ (by first | (simp [size_ext, grow]; done) | (simp [size_ext, grow]; omega) | omega) _ _) | (refine Below.setCell ?_ (by first | (simp [size_ext, grow]; done) | (simp [size_ext, grow]; omega) | omega) _) | (refine Below.alloc ?_ (by first | (simp [size_ext, grow]; done) | (simp [size_ext, grow]; omega) | omega) _) | refine Below.drew ?_ | refine below_drewN ?_ _ | (refine Below.trans ?_ (Below.mono (by assumption) (by first | (simp [size_ext, grow]; done) | (simp [size_ext, grow]; omega) | omega))))))) HN'.out hn2' HD'.out).mono ?_
  have HE2 := Lib.hid (show OptsAt (ext w xs1 dr1) (ext w xs1 dr1).heap.size A' E' from OptsAt.move HE'.out (by (repeat (first | exact Below.refl _ _ | exact Nat.le_refl _ | (refine below_ext ?_ (by first | (simp [size_ext, grow]; done) | (simp [size_ext, grow]; omega) | omega) _ _) | (refine Below.setCell ?_ (by first | (simp [size_ext, grow]; done) | (simp [size_ext, grow]; omega) | omega) _) | (refine Below.alloc ?_ (by first | (simp [size_ext, grow]; done) | (simp [size_ext, grow]; omega) | omega) _) | refine Below.drew ?_ | refine below_drewN ?_ _ | (refine Below.trans ?_ (Below.mono (by assumption) (by first | (simp [size_ext, grow]; done) | (simp [size_ext, grow]; omega) | omega)))))) (by simp [go_sem]))
  rintro e w1 ⟨A2, n2, c2, rfl, hb, ho, hn⟩
  have HA2 := Lib.hid (few_at (HE2.out) (Nat.le_refl _) hb ho)
  obtain ⟨xs2, dr2, rfl⟩ := ext_of hb
  clear hb ho
  have hl2 : n2 ≤ 70 := by rw [hn]; exact few_len _
  have HN2 := Lib.hid hn
  clear hn
  generalize fewE E' = F' at HA2 HN2
  have HA1 := Lib.hid (show OptsAt (ext (ext w xs1 dr1) xs2 dr2) (ext (ext w xs1 dr1) xs2 dr2).heap.size A1 F from OptsAt.move HA1.out (by (repeat (first | exact Below.refl _ _ | exact Nat.le_refl _ | (refine below_ext ?_ (by first | (simp [size_ext, grow]; done) | (simp [size_ext, grow]; omega) | omega) _ _) | (refine Below.setCell ?_ (by first | (simp [size_ext, grow]; done) | (simp [size_ext, grow]; omega) | omega) _) | (refine Below.alloc ?_ (by first | (simp [size_ext, grow]; done) | (simp [size_ext, grow]; omega) | omega) _) | refine Below.drew ?_ | refine below_drewN ?_ _ | (refine Below.trans ?_ (Below.mono (by assumption) (by first | (simp [size_ext, grow]; done) | (simp [size_ext, grow]; omega) | omega)))))) (by simp [go_sem]))
  obtain ⟨W2, hW2⟩ : ∃ W2, W2 = (ext (ext w xs1 dr1) xs2 dr2) := ⟨_, rfl⟩
  have HB2 := Lib.hid (show Below w.heap.size w W2 by rw [hW2]; (repeat (first | exact Below.refl _ _ | exact Nat.le_refl _ | (refine below_ext ?_ (by first | (simp [size_ext, grow]; done) | (simp [size_ext, grow]; omega) | omega) _ _) | (refine Below.setCell ?_ (by first | (simp [size_ext, grow]; done) | (simp [size_ext, grow]; omega) | omega) _) | (refine Below.alloc ?_ (by first | (simp [size_ext, grow]; done) | (simp [size_ext, grow]; omega) | omega) _) | refine Below.drew ?_ | refine below_drewN ?_ _ | (refine Below.trans ?_ (Below.mono (by assumption) (by first | (simp [size_ext, grow]; done) | (simp [size_ext, grow]; omega) | omega))))))
  rw [← hW2] at HA1 HA2 ⊢
  clear hW2
  go_wp2_with fail
  refine (find_any A1 n1 c1 typ F _ W2.heap.size (by simp [go_sem]) HA1.out HN1.out (by omega) (fun e he => by have := HF1.out e he; omega)).mono ?_
  rintro e w1 ⟨⟨t3, d3, a3, c3⟩, rfl, hb, hat, hc3, he, -⟩
  obtain ⟨xs3, dr3, rfl⟩ := ext_of hb
  clear hb
  simp only [Ent.v, Ent.o] at hat hc3 he ⊢
  have HO3 := Lib.hid hat
  have HE3 := Lib.hid he
  clear hat he
  obtain ⟨n3, hn3⟩ : ∃ n, d3.length = n := ⟨_, rfl⟩
  rw [hn3] at hc3 ⊢
  have HN3 := Lib.hid hn3.symm
  clear hn3
  go_wp2_with fail
  refine (find_ref A1 n1 c1 typ F _ W2.heap.size (by simp [go_sem]) (HA1.out.keep (by (repeat (first | exact Below.refl _ _ | exact Nat.le_refl _ | (refine below_ext ?_ (by first | (simp [size_ext, grow]; done) | (simp [size_ext, grow]; omega) | omega) _ _) | (refine Below.setCell ?_ (by first | (simp [size_ext, grow]; done) | (simp [size_ext, grow]; omega) | omega) _) | (refine Below.alloc ?_ (by first | (simp [size_ext, grow]; done) | (simp [size_ext, grow]; omega) | omega) _) | refine Below.drew ?_ | refine below_drewN ?_ _ | (refine Below.trans ?_ (Below.mono (by assumption) (by first | (simp [size_ext, grow]; done) | (simp [size_ext, grow]; omega) | omega))))))) HN1.out (by omega)).mono ?_
  rintro e w1 ⟨⟨t4, d4, a4, c4⟩, rfl, hb, hat, hc4, he, -⟩
  obtain ⟨xs4, dr4, rfl⟩ := ext_of hb
  clear hb
  simp only [Ent.v, Ent.o] at hat hc4 he ⊢
  have HO4 := Lib.hid hat
  have HE4 := Lib.hid he
  clear hat he
  obtain ⟨n4, hn4⟩ : ∃ n, d4.length = n := ⟨_, rfl⟩
  rw [hn4] at hc4 ⊢
  have HN4 := Lib.hid hn4.symm
  clear hn4
  go_wp2_with fail
  refine (one_ref t3 t4 a3 a4 n3 n4 c3 c4 d3 d4 _ _ (Nat.le_refl _) (HO3.out.move (by (repeat (first | exact Below.refl _ _ | exact Nat.le_refl _ | (refine below_ext ?_ (by first | (simp [size_ext, grow]; done) | (simp [size_ext, grow]; omega) | omega) _ _) | (refine Below.setCell ?_ (by first | (simp [size_ext, grow]; done) | (simp [size_ext, grow]; omega) | omega) _) | (refine Below.alloc ?_ (by first | (simp [size_ext, grow]; done) | (simp [size_ext, grow]; omega) | omega) _) | refine Below.drew ?_ | refine below_drewN ?_ _ | (refine Below.trans ?_ (Below.mono (by assumption) (by first | (simp [size_ext, grow]; done) | (simp [size_ext, grow]; omega) | omega)))))) (by simp [go_sem])) (HO4.out.move (by (repeat (first | exact Below.refl _ _ | exact Nat.le_refl _ | (refine below_ext ?_ (by first | (simp [size_ext, grow]; done) | (simp [size_ext, grow]; omega) | omega) _ _) | (refine Below.setCell ?_ (by first | (simp [size_ext, grow]; done) | (simp [size_ext, grow]; omega) | omega) _) | (refine Below.alloc ?_ (by first | (simp [size_ext, grow]; done) | (simp [size_ext, grow]; omega) | omega) _) | refine Below.drew ?_ | refine below_drewN ?_ _ | (refine Below.trans ?_ (Below.mono (by assumption) (by first | (simp [size_ext, grow]; done) | (simp [size_ext, grow]; omega) | omega)))))) (by simp [go_sem])) HN3.out HN4.out).mono ?_
  rw [HE3.out, HE4.out, one_self]
  rintro e w1 ⟨rfl, hb⟩
  obtain ⟨xs5, dr5, rfl⟩ := ext_of hb
  clear hb
  go_wp2_with fail
  refine (same_any A1 A2 n1 n2 c1 c2 F F' _ W2.heap.size (by simp [go_sem]) (HA1.out.keep (by (repeat (first | exact Below.refl _ _ | exact Nat.le_refl _ | (refine below_ext ?_ (by first | (simp [size_ext, grow]; done) | (simp [size_ext, grow]; omega) | omega) _ _) | (refine Below.setCell ?_ (by first | (simp [size_ext, grow]; done) | (simp [size_ext, grow]; omega) | omega) _) | (refine Below.alloc ?_ (by first | (simp [size_ext, grow]; done) | (simp [size_ext, grow]; omega) | omega) _) | refine Below.drew ?_ | refine below_drewN ?_ _ | (refine Below.trans ?_ (Below.mono (by assumption) (by first | (simp [size_ext, grow]; done) | (simp [size_ext, grow]; omega) | omega))))))) (HA2.out.keep (by (repeat (first | exact Below.refl _ _ | exact Nat.le_refl _ | (refine below_ext ?_ (by first | (simp [size_ext, grow]; done) | (simp [size_ext, grow]; omega) | omega) _ _) | (refine Below.setCell ?_ (by first | (simp [size_ext, grow]; done) | (simp [size_ext, grow]; omega) | omega) _) | (refine Below.alloc ?_ (by first | (simp [size_ext, grow]; done) | (simp [size_ext, grow]; omega) | omega) _) | refine Below.drew ?_ | refine below_drewN ?_ _ | (refine Below.trans ?_ (Below.mono (by assumption) (by first | (simp [size_ext, grow]; done) | (simp [size_ext, grow]; omega) | omega))))))) HN1.out HN2.out (by omega)).mono ?_
  rintro e w1 ⟨rfl, hb⟩
  obtain ⟨xs6, dr6, rfl⟩ := ext_of hb
  clear hb
  go_wp2_with fail
  refine (same_ref A1 A2 n1 n2 c1 c2 F F' _ W2.heap.size (by simp [go_sem]) (HA1.out.keep (by (repeat (first | exact Below.refl _ _ | exact Nat.le_refl _ | (refine below_ext ?_ (by first | (simp [size_ext, grow]; done) | (simp [size_ext, grow]; omega) | omega) _ _) | (refine Below.setCell ?_ (by first | (simp [size_ext, grow]; done) | (simp [size_ext, grow]; omega) | omega) _) | (refine Below.alloc ?_ (by first | (simp [size_ext, grow]; done) | (simp [size_ext, grow]; omega) | omega) _) | refine Below.drew ?_ | refine below_drewN ?_ _ | (refine Below.trans ?_ (Below.mono (by assumption) (by first | (simp [size_ext, grow]; done) | (simp [size_ext, grow]; omega) | omega))))))) (HA2.out.keep (by (repeat (first | exact Below.refl _ _ | exact Nat.le_refl _ | (refine below_ext ?_ (by first | (simp [size_ext, grow]; done) | (simp [size_ext, grow]; omega) | omega) _ _) | (refine Below.setCell ?_ (by first | (simp [size_ext, grow]; done) | (simp [size_ext, grow]; omega) | omega) _) | (refine Below.alloc ?_ (by first | (simp [size_ext, grow]; done) | (simp [size_ext, grow]; omega) | omega) _) | refine Below.drew ?_ | refine below_drewN ?_ _ | (refine Below.trans ?_ (Below.mono (by assumption) (by first | (simp [size_ext, grow]; done) | (simp [size_ext, grow]; omega) | omega))))))) HN1.out HN2.out (by omega)).mono ?_
  rintro e w1 ⟨rfl, hb⟩
  obtain ⟨xs7, dr7, rfl⟩ := ext_of hb
  clear hb
  go_wp2_with fail
  refine (same_any A1 A1 n1 n1 c1 c1 F F _ W2.heap.size (by simp [go_sem]) (HA1.out.keep (by (repeat (first | exact Below.refl _ _ | exact Nat.le_refl _ | (refine below_ext ?_ (by first | (simp [size_ext, grow]; done) | (simp [size_ext, grow]; omega) | omega) _ _) | (refine Below.setCell ?_ (by first | (simp [size_ext, grow]; done) | (simp [size_ext, grow]; omega) | omega) _) | (refine Below.alloc ?_ (by first | (simp [size_ext, grow]; done) | (simp [size_ext, grow]; omega) | omega) _) | refine Below.drew ?_ | refine below_drewN ?_ _ | (refine Below.trans ?_ (Below.mono (by assumption) (by first | (simp [size_ext, grow]; done) | (simp [size_ext, grow]; omega) | omega))))))) (HA1.out.keep (by (repeat (first | exact Below.refl _ _ | exact Nat.le_refl _ | (refine below_ext ?_ (by first | (simp [size_ext, grow]; done) | (simp [size_ext, grow]; omega) | omega) _ _) | (refine Below.setCell ?_ (by first | (simp [size_ext, grow]; done) | (simp [size_ext, grow]; omega) | omega) _) | (refine Below.alloc ?_ (by first | (simp [size_ext, grow]; done) | (simp [size_ext, grow]; omega) | omega) _) | refine Below.drew ?_ | refine below_drewN ?_ _ | (refine Below.trans ?_ (Below.mono (by assumption) (by first | (simp [size_ext, grow]; done) | (simp [size_ext, grow]; omega) | omega))))))) HN1.out HN1.out (by omega)).mono ?_
  rw [same_self]
  rintro e w1 ⟨rfl, hb⟩
  obtain ⟨xs8, dr8, rfl⟩ := ext_of hb
  clear hb
  go_wp2_with fail
  refine (awake_any _).mono ?_
  rintro e w1 ⟨rfl, hb⟩
  obtain ⟨xs9, dr9, rfl⟩ := ext_of hb
  clear hb
  go_wp2_with fail
  go_ret
  exact ⟨rfl, by have h := HB2.out; have hz := h.size; (repeat (first | exact Below.refl _ _ | exact Nat.le_refl _ | (refine below_ext ?_ (by first | (simp [size_ext, grow]; done) | (simp [size_ext, grow]; omega) | omega) _ _) | (refine Below.setCell ?_ (by first | (simp [size_ext, grow]; done) | (simp [size_ext, grow]; omega) | omega) _) | (refine Below.alloc ?_ (by first | (simp [size_ext, grow]; done) | (simp [size_ext, grow]; omega) | omega) _) | refine Below.drew ?_ | refine below_drewN ?_ _ | (refine Below.trans ?_ (Below.mono (by assumption) (by first | (simp [size_ext, grow]; done) | (simp [size_ext, grow]; omega) | omega)))))⟩
theorem optsFinds_calls {H : Type} (enc : TypeId × Value → H) (W : World) (base : Nat) (v0 v1 v2 : Value) (d0 d1 d2 : DataW H) (p0 p1 p2 : List MemPlace)
    (o0 : Value.okWide Try.prog W .any base 22 v0) (o1 : Value.okWide Try.prog W .any base 22 v1) (o2 : Value.okWide Try.prog W .any base 3 v2)
    (h0 : DataW.Trod enc Try.prog W 0 (fun _ => true) true 22 v0 d0 p0) (h1 : DataW.Trod enc Try.prog W 0 (fun _ => true) true 22 v1 d1 p1) (h2 : DataW.Trod enc Try.prog W 0 (fun _ => true) true 3 v2 d2 p2) :
    Calls Try.prog 9 #[v0, v1, v2] W fun e W' => e = .returned (.bool true) ∧ Below W.heap.size W W' := by
  obtain ⟨A, n, c, E, rfl, hE, hn, hc, hl, hd⟩ := open_opts_arg o0 h0
  obtain ⟨A', n', c', E', rfl, hE', hn', hc', hl', hd'⟩ := open_opts_arg o1 h1
  obtain ⟨i2, rfl, rfl, rfl, w2⟩ := open_int Try.underlying3 o2 h2
  exact finds_any A n c E A' n' c' E' i2 W hE hn hl hd hE' hn' hl' hd'
end Go.Proofs.Ytbdkapmiioiikaa
