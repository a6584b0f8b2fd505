/- The reference's Step. -/
import Derived.Test.YtffkkeedmgaoiaaG6
import Derived.Test.YtffkkeedmgaoiaaT
namespace Go.Proofs.Ytffkkeedmgaoiaa
open Go.RowKit
set_option linter.unusedSimpArgs false
set_option linter.unusedVariables false
theorem infoAct : (Try.prog.info? 37).map (fun i => (i.zero, i.size, i.bytes)) = some (some (.int .i64 0), 1, 8) := by kernel_rfl
theorem rowref_ten (e : Int) (w : World) (h1 : 1 ≤ e) (h2 : e ≤ 16) : Calls Try.prog 30 #[.int .i64 e] w fun x w' => ∃ A, x = .returned (.slice A 10 10) ∧ Below w.heap.size w w' ∧ At w' w'.heap.size A ((rowOf e).map sv) :=
  (rowref_in e w h1 h2).mono fun x w' ⟨A, hx, h⟩ => ⟨A, by rw [rowOf_len e h1 h2] at hx; exact hx, h⟩
theorem ext3 (x : List UInt8) (a b : Nat) : (⟨x.toArray⟩ : ByteArray).extract a b = ⟨((x.drop a).take (b - a)).toArray⟩ := by
  apply ByteArray.ext
  rw [ByteArray.data_extract]
  apply Array.ext'
  simp [List.extract_eq_take_drop]
theorem byte_get (x : List UInt8) (i : Nat) (h : i < (⟨x.toArray⟩ : ByteArray).size) : (⟨x.toArray⟩ : ByteArray)[i] = x.getD i 0 := by
  have h' : i < x.length := by simpa [ByteArray.size] using h
  rw [List.getD_eq_getElem?_getD, List.getElem?_eq_getElem h']
  rfl
theorem trip {a b c a' b' c' : Value} (h1 : a = a') (h2 : b = b') (h3 : c = c') : Ending.returned (.tuple #[a, b, c]) = .returned (.tuple #[a', b', c']) := by rw [h1, h2, h3]
theorem cellActs_succ (x : List UInt8) (k : Nat) : (cellActs x (k + 1)).map av = (cellActs x k).map av ++ [av (actionOf ((x.drop (4 * k)).take 3))] := by
  unfold cellActs; rw [List.range_succ]; simp
set_option maxHeartbeats 4000000 in
theorem stepref_in (n : Nat) (e : Int) (w : World) (h1 : 1 ≤ e) (h2 : e ≤ 16) (hn : n ≤ 9) : Calls Try.prog 12 #[.int .i64 n, .int .i64 e] w (StepP n e w) := by
  have HE := Lib.hid (And.intro h1 h2)
  have HT := Lib.hid (cell_tab e n h1 h2 (by omega) (by omega))
  have HER := Lib.hid (show stepErr n e = if tabOk e n = true then 0 else 5 by unfold stepErr; rw [if_pos (by simp [inTab]; omega)])
  clear h1 h2
  go_enter Try.func12, Try.ntmps12
  go_wp2_with fail
  refine (rowref_ten e _ HE.out.1 HE.out.2).mono ?_
  rintro e' w1 ⟨A, rfl, hb, hA⟩; obtain ⟨xs, d, rfl⟩ := ext_of hb; clear hb
  obtain ⟨b, o, x, rfl, hx, hc⟩ := hA.strAt (k := n) (by rw [rowOf_len e HE.out.1 HE.out.2]; omega)
  clear hA
  have HX := Lib.hid (show cellOf e n = x from hx)
  clear hx
  have hlen : x.length ≤ 20 ∧ 1 ≤ x.length := by have := HT.out; rw [HX.out] at this; omega
  obtain ⟨hl1, hl2⟩ := hlen
  obtain ⟨wz, hwz⟩ : ∃ wz, wz = ext w xs d := ⟨_, rfl⟩
  rw [← hwz] at hc ⊢
  have HWZ := Lib.hid (show Below w.heap.size w wz by subst hwz; (repeat (first | exact Below.refl _ _ | exact Nat.le_refl _ | (refine below_ext ?_ (by first | (simp [size_ext, grow]; done) | (simp [size_ext, grow]; omega) | omega) _ _) | (refine Below.setCell ?_ (by first | (simp [size_ext, grow]; done) | (simp [size_ext, grow]; omega) | omega) _) | (refine Below.alloc ?_ (by first | (simp [size_ext, grow]; done) | (simp [size_ext, grow]; omega) | omega) _) | refine Below.drew ?_ | refine below_drewN ?_ _ | (refine Below.trans ?_ (Below.mono (by assumption) (by first | (simp [size_ext, grow]; done) | (simp [size_ext, grow]; omega) | omega))))))
  clear hwz
  cases hd : (x == [45])
  · have HD := Lib.hid (show tabOk e n = true by have := HT.out.1; rw [HX.out, hd] at this; exact this)
    go_wp2_with fail
    go_loopw [9, 10] (fun v i wr => ∃ (k c : Nat) (A : Option Addr), 4 * k ≤ x.length + 3 ∧ (k = 0 ∨ 4 * k ≤ x.length) ∧ i = .int .i64 ((4 * k : Nat) : Int) ∧ v = .slice A k c ∧ k ≤ c ∧ Below w.heap.size w wr ∧ wr.ownsRow w.heap.size 37 1 (.slice A k c) k ((cellActs x k).map av)) (fun _ i _ => x.length + 4 - (intOf i).toNat)
    case atStart => exact ⟨0, 0, none, by omega, .inl rfl, rfl, rfl, Nat.le_refl _, HWZ.out, own_nil _ _ _ _⟩
    case round =>
      obtain ⟨k, c, A, hk, hk2, rfl, rfl, hkc, hbel, hown⟩ := hrel
      have HB := Lib.hid hbel
      have HO := Lib.hid hown
      have HK := Lib.hid hk2
      clear hbel hown hk2
      by_cases hlt : 4 * k + 3 < x.length
      · have hbel := HB.out
        have hsz := hbel.size
        have hk5 : k ≤ 5 := by omega
        go_wp2_with fail
        rw [ext3, show 4 * k + 3 - 4 * k = 3 by omega]
        refine (action_ref _ _).mono ?_
        rintro e' w1 ⟨rfl, hb⟩; obtain ⟨xs2, d2, rfl⟩ := ext_of hb; clear hb
        generalize hq : actionOf ((x.drop (4 * k)).take 3) = q
        have HQ := Lib.hid hq
        clear hq
        have HN := Lib.hid (show At ((ext wr xs2 d2).alloc (.cells #[.int .i64 q] 37)) (grow wr.heap.size xs2 + 1) (some ⟨grow wr.heap.size xs2, 0, none⟩) [av q] by have := At.new (ext wr xs2 d2) #[.int .i64 q] 37 [av q] rfl; rw [size_ext] at this; exact this)
        go_wp2_with (at_builtin; go_loud (refine wpList_appv w rfl (.tmp 37) (.tmp 44) 24 rfl 37 Try.underlying24 (.int .i64 0) 1 8 infoAct rfl (by decide) (by decide) (.slice A k c) k ((cellActs x k).map av) rfl (own_below HO.out (by (repeat (first | exact Below.refl _ _ | exact Nat.le_refl _ | (refine below_ext ?_ (by first | (simp [size_ext, grow]; done) | (simp [size_ext, grow]; omega) | omega) _ _) | (refine Below.setCell ?_ (by first | (simp [size_ext, grow]; done) | (simp [size_ext, grow]; omega) | omega) _) | (refine Below.alloc ?_ (by first | (simp [size_ext, grow]; done) | (simp [size_ext, grow]; omega) | omega) _) | refine Below.drew ?_ | refine below_drewN ?_ _ | (refine Below.trans ?_ (Below.mono (by assumption) (by first | (simp [size_ext, grow]; done) | (simp [size_ext, grow]; omega) | omega))))))) _ (some ⟨_, 0, none⟩) 1 1 [av q] rfl rfl (by omega) HN.out (by intro u hu; simp at hu; subst hu; rfl) (by (repeat (first | exact Below.refl _ _ | exact Nat.le_refl _ | (refine below_ext ?_ (by first | (simp [size_ext, grow]; done) | (simp [size_ext, grow]; omega) | omega) _ _) | (refine Below.setCell ?_ (by first | (simp [size_ext, grow]; done) | (simp [size_ext, grow]; omega) | omega) _) | (refine Below.alloc ?_ (by first | (simp [size_ext, grow]; done) | (simp [size_ext, grow]; omega) | omega) _) | refine Below.drew ?_ | refine below_drewN ?_ _ | (refine Below.trans ?_ (Below.mono (by assumption) (by first | (simp [size_ext, grow]; done) | (simp [size_ext, grow]; omega) | omega)))))) ?_); intro A' c' w' ho' hc' hb' hg'; clear hg'; have HO' := Lib.hid ho'; have HB' := Lib.hid hb'; have HC' := Lib.hid hc'; clear ho' hb' hc')
        clear hbel hsz
        go_roundw
        case rel => exact ⟨k + 1, c', A', by omega, by omega, by go_num, rfl, HC'.out, HB'.out, by rw [cellActs_succ, HQ.out]; exact HO'.out⟩
        case measure => simp [intOf]; omega
      · have hkl : k = x.length / 4 := by have := HK.out; omega
        have HKL := Lib.hid hkl
        clear hkl
        have HV := Lib.hid (show cellActs x k = tabActs e n ∧ (x.getD (x.length - 1) 0).toNat = 48 + (tabNext e n).toNat ∧ 0 ≤ tabNext e n ∧ tabNext e n ≤ 9 by have := HT.out.2.2.2 HD.out; rw [HX.out] at this; rw [HKL.out]; exact this)
        go_wp2_with fail
        go_ret3
        refine ⟨_, trip (congrArg (Value.int .i64) ?_) rfl (congrArg (Value.int .i64) ?_), HB.out, ?_⟩
        · rw [byte_get]; have := HV.out; omega
        · rw [HER.out, if_pos HD.out]
        · have := HO.out; have hv := HV.out.1; rw [← hv, show (cellActs x k).length = k by simp [cellActs]]; exact this
  · have HD := Lib.hid (show tabOk e n = false by have := HT.out.1; rw [HX.out, hd] at this; exact this)
    go_wp2
    go_ret3
    exact ⟨.slice none 0 0, by rw [HER.out, HD.out, (tab_out HD.out).1]; rfl, HWZ.out, by rw [(tab_out HD.out).2]; exact own_nil _ _ _ _⟩
theorem stepref_neg (s e : Int) (w : World) (h1 : 1 ≤ e) (h2 : e ≤ 16) (hs : s < 0 ∨ 9 < s) : Calls Try.prog 12 #[.int .i64 s, .int .i64 e] w (StepP s e w) := by
  have HS := Lib.hid (show stepErr s e = 140 ∧ tabOk e s = false from ⟨by simp [stepErr, inTab]; intros; omega, tabOk_out (by simp [inTab]; omega)⟩)
  have HE := Lib.hid (And.intro h1 h2)
  clear h1 h2
  rcases hs with hs | hs
  all_goals
    go_enter Try.func12, Try.ntmps12
    go_wp2_with (go_at_call 30; refine (rowref_ten e _ HE.out.1 HE.out.2).mono ?_; rintro e' w1 ⟨A, rfl, hb, hA⟩; obtain ⟨xs, d, rfl⟩ := ext_of hb; clear hb hA)
    go_ret3
    exact ⟨.slice none 0 0, by rw [HS.out.1, (tab_out HS.out.2).1]; rfl, by (repeat (first | exact Below.refl _ _ | exact Nat.le_refl _ | (refine below_ext ?_ (by first | (simp [size_ext, grow]; done) | (simp [size_ext, grow]; omega) | omega) _ _) | (refine Below.setCell ?_ (by first | (simp [size_ext, grow]; done) | (simp [size_ext, grow]; omega) | omega) _) | (refine Below.alloc ?_ (by first | (simp [size_ext, grow]; done) | (simp [size_ext, grow]; omega) | omega) _) | refine Below.drew ?_ | refine below_drewN ?_ _ | (refine Below.trans ?_ (Below.mono (by assumption) (by first | (simp [size_ext, grow]; done) | (simp [size_ext, grow]; omega) | omega))))), by rw [(tab_out HS.out.2).2]; exact own_nil _ _ _ _⟩
theorem stepref_out (s e : Int) (w : World) (h : e < 1 ∨ 16 < e) : Calls Try.prog 12 #[.int .i64 s, .int .i64 e] w (StepP s e w) := by
  have HS := Lib.hid (show stepErr s e = 140 ∧ tabOk e s = false from ⟨by simp [stepErr, inTab]; intros; omega, tabOk_out (by simp [inTab]; omega)⟩)
  have HE := Lib.hid h
  clear h
  by_cases h1 : s < 0
  · go_enter Try.func12, Try.ntmps12
    go_wp2_with (go_at_call 30; refine (rowref_out e _ HE.out).mono ?_; rintro e' w1 ⟨rfl, rfl⟩)
    go_ret3
    exact ⟨.slice none 0 0, by rw [HS.out.1, (tab_out HS.out.2).1]; rfl, by (repeat (first | exact Below.refl _ _ | exact Nat.le_refl _ | (refine below_ext ?_ (by first | (simp [size_ext, grow]; done) | (simp [size_ext, grow]; omega) | omega) _ _) | (refine Below.setCell ?_ (by first | (simp [size_ext, grow]; done) | (simp [size_ext, grow]; omega) | omega) _) | (refine Below.alloc ?_ (by first | (simp [size_ext, grow]; done) | (simp [size_ext, grow]; omega) | omega) _) | refine Below.drew ?_ | refine below_drewN ?_ _ | (refine Below.trans ?_ (Below.mono (by assumption) (by first | (simp [size_ext, grow]; done) | (simp [size_ext, grow]; omega) | omega))))), by rw [(tab_out HS.out.2).2]; exact own_nil _ _ _ _⟩
  · by_cases h2 : 9 < s
    all_goals
      go_enter Try.func12, Try.ntmps12
      go_wp2_with (go_at_call 30; refine (rowref_out e _ HE.out).mono ?_; rintro e' w1 ⟨rfl, rfl⟩)
      go_ret3
      exact ⟨.slice none 0 0, by rw [HS.out.1, (tab_out HS.out.2).1]; rfl, by (repeat (first | exact Below.refl _ _ | exact Nat.le_refl _ | (refine below_ext ?_ (by first | (simp [size_ext, grow]; done) | (simp [size_ext, grow]; omega) | omega) _ _) | (refine Below.setCell ?_ (by first | (simp [size_ext, grow]; done) | (simp [size_ext, grow]; omega) | omega) _) | (refine Below.alloc ?_ (by first | (simp [size_ext, grow]; done) | (simp [size_ext, grow]; omega) | omega) _) | refine Below.drew ?_ | refine below_drewN ?_ _ | (refine Below.trans ?_ (Below.mono (by assumption) (by first | (simp [size_ext, grow]; done) | (simp [size_ext, grow]; omega) | omega))))), by rw [(tab_out HS.out.2).2]; exact own_nil _ _ _ _⟩
theorem stepref_any (s e : Int) (w : World) : Calls Try.prog 12 #[.int .i64 s, .int .i64 e] w (StepP s e w) := by
  by_cases he : 1 ≤ e ∧ e ≤ 16
  · by_cases hs : 0 ≤ s ∧ s ≤ 9
    · obtain ⟨n, rfl⟩ := Int.eq_ofNat_of_zero_le hs.1
      exact stepref_in n e w he.1 he.2 (by omega)
    · exact stepref_neg s e w he.1 he.2 (by omega)
  · exact stepref_out s e w (by omega)
end Go.Proofs.Ytffkkeedmgaoiaa
