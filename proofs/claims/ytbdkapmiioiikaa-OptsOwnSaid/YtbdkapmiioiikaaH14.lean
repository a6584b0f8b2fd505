/- The reference's Encode at any row; its Decode. -/
import Derived.Test.YtbdkapmiioiikaaH13
namespace Go.Proofs.Ytbdkapmiioiikaa
open Go.RowKit
set_option linter.unusedSimpArgs false
set_option linter.unusedVariables false
theorem renc_any (A : Option Addr) (n c : Nat) (E : List Ent) (w : World) (B : Nat) (hB : B ≤ w.heap.size) (hE : OptsAt w B A E) (hn : n = E.length) :
    Calls Try.prog 13 #[.slice A n c] w (EncP w (E.map Ent.o)) := by
  subst hn
  by_cases hl : E.length ≤ 64
  · exact renc_in A c E w B hB hE hl
  · have HR := Lib.hid (show encR (E.map Ent.o) = ([], 3) by unfold encR; rw [if_pos (by rw [List.length_map]; omega)])
    have h : 64 < E.length := by omega
    clear hE hB hl
    go_enter Try.func13, Try.ntmps13
    go_wp2
    go_ret2
    exact ⟨.slice none 0 0, by rw [HR.out]; rfl, Below.refl _ _, by rw [HR.out]; exact own_nil _ _ _ _⟩
theorem At.sub {W : World} {B b o : Nat} {l : List UInt8} (q : Nat) (h : At W B (some ⟨b, o, none⟩) (l.map bv)) : At W B (some ⟨b, o + q, none⟩) ((l.drop q).map bv) := by
  rcases h with h | ⟨b', o', e, hb, hc⟩
  · have : l = [] := by simpa using h
    subst this; exact .inl (by simp)
  · cases e
    refine .inr ⟨b, o + q, rfl, hb, fun j u hu => ?_⟩
    have := hc (q + j) u (by simpa [List.getElem?_map, List.getElem?_drop] using hu)
    rwa [← Nat.add_assoc] at this
theorem drop_two {l : List UInt8} {p : Nat} (h : p + 2 ≤ l.length) : ∃ t m, l.drop p = t :: m :: l.drop (p + 2) := by
  refine ⟨l[p], l[p + 1], ?_⟩
  rw [List.drop_eq_getElem_cons (show p < l.length by omega), List.drop_eq_getElem_cons (show p + 1 < l.length by omega)]
theorem drop_one {l : List UInt8} {p : Nat} (h : p + 1 = l.length) : ∃ t, l.drop p = [t] := by
  refine ⟨l[p], ?_⟩
  rw [List.drop_eq_getElem_cons (show p < l.length by omega), List.drop_eq_nil_of_le (by omega)]
theorem OwnOpts.pushed {W W2 : World} {base : Nat} {v v3 : Value} {E : List Ent} {tt : Int} {A2 : Option Addr} {dd : List UInt8} {c2 : Nat} (h : OwnOpts W base v E)
    (h2 : W.ownsRow base 5 1 (.slice A2 dd.length c2) dd.length (dd.map bv)) (h3 : W2.ownsRow base 36 2 v3 (E.length + 1) (cellsE E ++ [.int .i64 tt, .slice A2 dd.length c2]))
    (hg : W.grownBy W2 v.ownBlock) : OwnOpts W2 base v3 (E ++ [⟨tt, dd, A2, c2⟩]) := by
  have hr : ∀ r, v.ownBlock = some r → r < base ∨ (∃ o : Obj, W.heap[r]? = some o ∧ o.isCells = false) ∨ (∃ cur e', W.heap[r]? = some (.cells cur e' (0, 0)) ∧ e' ≠ 5) := fun r e => by
    obtain ⟨cur, hc⟩ := own_type h.1 e
    exact .inr (.inr ⟨cur, 36, hc, by decide⟩)
  refine ⟨by rw [cellsE_snoc]; simpa [Ent.v] using h3, fun e he => ?_⟩
  rcases List.mem_append.1 he with he | he
  · exact own_stays (h.2 e he) hg hr
  · simp only [List.mem_singleton] at he
    subst he
    exact own_stays h2 hg hr
theorem meas_lt {N p : Nat} {y : Int} (h : (p : Int) < y) (h2 : p < N) : N - (intOf (.int .i64 y)).toNat < N - (intOf (.int .i64 (p : Int))).toNat := by
  simp only [intOf]; omega
set_option maxRecDepth 100000 in
set_option maxHeartbeats 4000000 in
theorem rdec_in (A : Option Addr) (N c : Nat) (l : List UInt8) (w : World) (B : Nat) (hB : B ≤ w.heap.size) (hA : At w B A (l.map bv)) (hn : N = l.length) (hc : N ≤ c) (hl : N ≤ 1488) :
    Calls Try.prog 15 #[.slice A N c] w (DecP w l) := by
  have HR := Lib.hid (show decR l = decW l.length l [] by unfold decR; rw [if_neg (by omega)])
  have HA := Lib.hid hA
  have HB := Lib.hid hB
  have HN := Lib.hid hn
  clear hA hB hn
  go_enter Try.func15, Try.ntmps15
  go_wp2
  go_loopw [5, 4] (fun i v wr => ∃ (p f n c' : Nat) (A' : Option Addr) (E : List Ent), p ≤ N ∧ i = .int .i64 p ∧ v = .slice A' n c' ∧ n = E.length ∧ n ≤ 64 ∧ (l.drop p).length ≤ f ∧ decW l.length l [] = decW f (l.drop p) (E.map Ent.o) ∧ Below w.heap.size w wr ∧ OwnOpts wr w.heap.size (.slice A' n c') E) (fun i _ _ => N - (intOf i).toNat)
  case atStart => exact ⟨0, l.length, 0, 0, none, [], Nat.zero_le _, rfl, rfl, rfl, by decide, by simp, by simp, Below.refl _ _, OwnOpts.nil _ _⟩
  case round =>
    obtain ⟨p, f, n, c', A', E, hp, rfl, rfl, rfl, h64, hf, hd, hb, ho⟩ := hrel
    have HF := Lib.hid (And.intro hf hd)
    have HBW := Lib.hid hb
    have HO := Lib.hid ho
    have hsz := hb.size
    clear hf hd hb ho
    by_cases hlt : p < N
    · by_cases h1 : N - p < 2
      · obtain ⟨t, ht⟩ := drop_one (l := l) (p := p) (by have := HN.out; omega)
        have HD := Lib.hid (decW_none (acc := E.map Ent.o) HF.out.1 (by rw [ht]; simp) (by rw [ht]; rfl))
        clear ht
        have h1' : decide ((N : Int) - (p : Int) < 2) = true := by simp; omega
        go_wp2
        go_ret2
        exact ⟨[], .slice none 0 0, by rw [HR.out, HF.out.2, HD.out]; rfl, HBW.out, OwnOpts.nil _ _, by rw [HR.out, HF.out.2, HD.out]; rfl⟩
      · obtain ⟨t, m, hdr⟩ := drop_two (l := l) (p := p) (by have := HN.out; omega)
        obtain ⟨b, o, rfl, hbB, hcs⟩ := (HA.out.keep (HBW.out.mono HB.out)).get (by simp; have := HN.out; omega)
        have g0 : l[p]? = some t := by have := congrArg (fun q => q[0]?) hdr; simpa [List.getElem?_drop] using this
        have g1 : l[p + 1]? = some m := by have := congrArg (fun q => q[1]?) hdr; simpa [List.getElem?_drop] using this
        have c0 : wr.cell? ⟨b, o + p, none⟩ = some (.int .u8 (t.toNat : Int)) := by have := hcs p (bv t) (by rw [List.getElem?_map, g0]; rfl); simpa [bv] using this
        have c1 : wr.cell? ⟨b, o + (p + 1), none⟩ = some (.int .u8 (m.toNat : Int)) := by have := hcs (p + 1) (bv m) (by rw [List.getElem?_map, g1]; rfl); simpa [bv] using this
        obtain ⟨x, hx⟩ : ∃ x : Nat, m.toNat = x := ⟨_, rfl⟩
        rw [hx] at c1
        have HX := Lib.hid hx
        have HDR := Lib.hid hdr
        have x256 : (x : Int) < 256 := by have := m.toNat_lt; omega
        have hrl : (l.drop (p + 2)).length = N - p - 2 := by rw [List.length_drop]; have := HN.out; omega
        have HRL := Lib.hid hrl
        have h1' : decide ((N : Int) - (p : Int) < 2) = false := by simp; omega
        have z1 : b < wr.heap.size := by have := HB.out; omega
        clear hcs g0 g1 hx hdr hrl
        by_cases hx2 : x < 2
        · have HD := Lib.hid (decW_none (acc := E.map Ent.o) HF.out.1 (by rw [HDR.out]; simp) (by rw [HDR.out, cutOne_cons, HX.out, if_neg (by omega)]))
          go_wp2
          go_ret2
          exact ⟨[], .slice none 0 0, by rw [HR.out, HF.out.2, HD.out]; rfl, HBW.out, OwnOpts.nil _ _, by rw [HR.out, HF.out.2, HD.out]; rfl⟩
        · by_cases hx3 : N - p < x
          · have HD := Lib.hid (decW_none (acc := E.map Ent.o) HF.out.1 (by rw [HDR.out]; simp) (by rw [HDR.out, cutOne_cons, HX.out, if_neg (by have := HRL.out; omega)]))
            have h2' : decide ((N : Int) - (p : Int) < (x : Int)) = true := by simp; omega
            go_wp2
            go_ret2
            exact ⟨[], .slice none 0 0, by rw [HR.out, HF.out.2, HD.out]; rfl, HBW.out, OwnOpts.nil _ _, by rw [HR.out, HF.out.2, HD.out]; rfl⟩
          · have h2' : decide ((N : Int) - (p : Int) < (x : Int)) = false := by simp; omega
            have HCUT := Lib.hid (show cutOne (l.drop p) = some (((t.toNat : Int), (l.drop (p + 2)).take (x - 2)), l.drop (p + x)) by
              rw [HDR.out, cutOne_cons, HX.out, if_pos (by have := HRL.out; omega), List.drop_drop]
              congr 3
              omega)
            by_cases h6 : E.length = 64
            · have HD := Lib.hid (decW_many (acc := E.map Ent.o) HF.out.1 HCUT.out (by rw [List.length_map]; exact h6))
              have e6 : ((E.length : Int) == 64) = true := by simp; omega
              clear h6
              go_wp2
              go_ret2
              exact ⟨[], .slice none 0 0, by rw [HR.out, HF.out.2, HD.out]; rfl, HBW.out, OwnOpts.nil _ _, by rw [HR.out, HF.out.2, HD.out]; rfl⟩
            · have e6 : ((E.length : Int) == 64) = false := by simp; omega
              have H6 := Lib.hid h6
              clear h6
              have t256 : ((t.toNat : Nat) : Int) < 256 := by have := t.toNat_lt; omega
              have i1 : IntKind.i64.wrap (t.toNat : Int) = (t.toNat : Int) := IntWalk.i64_in _ (by omega)
              have i2 : IntKind.i64.wrap ((p : Int) + 2) = (p : Int) + 2 := IntWalk.i64_in _ (by omega)
              have i3 : IntKind.i64.wrap ((p : Int) + (x : Int)) = (p : Int) + (x : Int) := IntWalk.i64_in _ (by omega)
              have n2 : ((p : Int) + 2).toNat = p + 2 := by omega
              have n3 : ((p : Int) + (x : Int)).toNat = p + x := by omega
              have a2 : (0 : Int) ≤ (p : Int) + 2 := by omega
              have a3 : (p : Int) + 2 ≤ (p : Int) + (x : Int) := by omega
              have a4 : (p : Int) + (x : Int) ≤ (c : Int) := by omega
              have a5 : p + 2 ≤ p + x := by omega
              have a6 : p + x ≤ c := by omega
              have n4 : p + x - (p + 2) = x - 2 := by omega
              have zw : b < w.heap.size := by have := HB.out; omega
              have a7 : (p : Int) < (N : Int) := by omega
              have HSUB := Lib.hid ((HA.out.keep (HBW.out.mono HB.out)).sub (p + 2))
              have HSUB := Lib.hid (HSUB.out.take (x - 2))
              rw [← List.map_take] at HSUB
              by_cases hcc : c = p + 2
              · have hx0 : x = 2 := by omega
                subst hx0
                subst hcc
                have HC0 := Lib.hid (show cutOne (l.drop p) = some (((t.toNat : Int), []), l.drop (p + 2)) by rw [HCUT.out]; rfl)
                go_wp2_with fail
                go_region_held3 (fun w' => w'.cell? ⟨b, o + p, none⟩ = some (.int .u8 (t.toNat : Int))) (first | (go_keep; done) | (go_simp; done) | (simp [go_sem]; done)) (first | ((refine step_appv wr rfl (.tmp 44) (.tmp 51) 23 rfl 5 Try.underlying23 (.int .u8 0) 1 1 infoU8 rfl (by decide) (by decide) (.slice (some ⟨wr.heap.size, 0, none⟩) 0 0) 0 [] rfl (by exact own_empty wr wr.heap.size 5 1 (Nat.le_refl _)) B _ 0 _ [] rfl rfl (by omega) (At.nil _ _ _) (by intro u hu; cases hu) (by (repeat (first | exact Below.refl _ _ | exact Nat.le_refl _ | (refine below_ext ?_ (by first | (simp [size_ext, grow]; done) | (simp [size_ext, grow]; omega) | omega) _ _) | (refine Below.setCell ?_ (by first | (simp [size_ext, grow]; done) | (simp [size_ext, grow]; omega) | omega) _) | (refine Below.alloc ?_ (by first | (simp [size_ext, grow]; done) | (simp [size_ext, grow]; omega) | omega) _) | refine Below.drew ?_ | refine below_drewN ?_ _ | (refine Below.trans ?_ (Below.mono (by assumption) (by first | (simp [size_ext, grow]; done) | (simp [size_ext, grow]; omega) | omega)))))) ?_); intro A1 c1 w1 ho1 hc1 hb1 hg1; clear hg1; have q0 : w1.cell? ⟨b, o + p, none⟩ = some (.int .u8 (t.toNat : Int)) := (hb1.cell (p := ⟨b, _, none⟩) z1).trans c0; have HO1 := Lib.hid ho1; simp only [Nat.zero_add, List.nil_append] at ho1; have HO1 := Lib.hid ho1; have HB1 := Lib.hid hb1; have HNEW := Lib.hid (At.newN w1 #[.int .i64 (t.toNat : Int), .slice A1 0 c1] 36 [.int .i64 (t.toNat : Int), .slice A1 0 c1] w1.heap.size rfl rfl); have HOB := Lib.hid (HO.out.below hb1); have HBW1 := Lib.hid (HBW.out.trans (hb1.mono hsz)); clear ho1 hc1 hb1) | ((refine step_appv w rfl (.tmp 38) (.tmp 54) 22 rfl 36 Try.underlying22 (.agg #[.int .i64 0, .slice none 0 0]) 2 32 infoOpt rfl (by decide) (by decide) (.slice A' E.length c') E.length (cellsE E) rfl (by exact own_below HOB.out.1 (by (repeat (first | exact Below.refl _ _ | exact Nat.le_refl _ | (refine below_ext ?_ (by first | (simp [size_ext, grow]; done) | (simp [size_ext, grow]; omega) | omega) _ _) | (refine Below.setCell ?_ (by first | (simp [size_ext, grow]; done) | (simp [size_ext, grow]; omega) | omega) _) | (refine Below.alloc ?_ (by first | (simp [size_ext, grow]; done) | (simp [size_ext, grow]; omega) | omega) _) | refine Below.drew ?_ | refine below_drewN ?_ _ | (refine Below.trans ?_ (Below.mono (by assumption) (by first | (simp [size_ext, grow]; done) | (simp [size_ext, grow]; omega) | omega))))))) (w1.heap.size + 1) (some ⟨w1.heap.size, 0, none⟩) 1 1 [.int .i64 (t.toNat : Int), .slice A1 0 c1] rfl rfl (by omega) (by exact HNEW.out) (by intro u hu; simp at hu; rcases hu with rfl | rfl <;> rfl) (by have := HBW1.out; have := this.size; (repeat (first | exact Below.refl _ _ | exact Nat.le_refl _ | (refine below_ext ?_ (by first | (simp [size_ext, grow]; done) | (simp [size_ext, grow]; omega) | omega) _ _) | (refine Below.setCell ?_ (by first | (simp [size_ext, grow]; done) | (simp [size_ext, grow]; omega) | omega) _) | (refine Below.alloc ?_ (by first | (simp [size_ext, grow]; done) | (simp [size_ext, grow]; omega) | omega) _) | refine Below.drew ?_ | refine below_drewN ?_ _ | (refine Below.trans ?_ (Below.mono (by assumption) (by first | (simp [size_ext, grow]; done) | (simp [size_ext, grow]; omega) | omega)))))) ?_); intro A3 c3 w3 ho3 hc3 hb3 hg3; have q3 : w3.cell? ⟨b, o + p, none⟩ = some (.int .u8 (t.toNat : Int)) := (hb3.cell (p := ⟨b, _, none⟩) zw).trans ((HBW.out.cell (p := ⟨b, _, none⟩) zw).symm.trans c0); have HO3 := Lib.hid ho3; have HB3 := Lib.hid hb3; have HC3 := Lib.hid hc3; have HG3 := Lib.hid hg3; clear ho3 hc3 hb3 hg3))
                have HOE := Lib.hid (OwnOpts.pushed (tt := (t.toNat : Int)) (dd := []) (A2 := A1) (c2 := c1) (HOB.out.below (Below.alloc (Below.refl _ w1) (Nat.le_refl _) _)) (by have h := own_base HO1.out hsz; exact own_below h (Below.alloc (Below.refl _ w1) (Nat.le_refl _) _)) (by exact HO3.out) HG3.out)
                obtain ⟨f', hf', hd'⟩ := decW_step (acc := E.map Ent.o) HF.out.1 HC0.out (by rw [List.length_map]; exact H6.out)
                have HF' := Lib.hid (And.intro hf' (HF.out.2.trans hd'))
                clear hf' hd'
                go_wp2_with fail
                go_roundw
                case rel => exact ⟨p + 2, f', E.length + 1, c3, A3, _, by omega, by go_num, rfl, by simp, by have := H6.out; omega, HF'.out.1, by rw [HF'.out.2, ent_map]; rfl, HB3.out, HOE.out⟩
                case measure => exact meas_lt (by omega) (by omega)
              · have c5 : decide (c = p + 2) = false := by simpa using hcc
                go_wp2_with fail
                go_region_held3 (fun w' => w'.cell? ⟨b, o + p, none⟩ = some (.int .u8 (t.toNat : Int))) (first | (go_keep; done) | (go_simp; done) | (simp [go_sem]; done)) (first | ((refine step_appv wr rfl (.tmp 44) (.tmp 51) 23 rfl 5 Try.underlying23 (.int .u8 0) 1 1 infoU8 rfl (by decide) (by decide) (.slice (some ⟨wr.heap.size, 0, none⟩) 0 0) 0 [] rfl (by exact own_empty wr wr.heap.size 5 1 (Nat.le_refl _)) B _ (x - 2) _ (((l.drop (p + 2)).take (x - 2)).map bv) rfl (by have := HRL.out; have := HN.out; simp; omega) (by omega) (by exact HSUB.out.keep (by have := HBW.out; have := HB.out; (repeat (first | exact Below.refl _ _ | exact Nat.le_refl _ | (refine below_ext ?_ (by first | (simp [size_ext, grow]; done) | (simp [size_ext, grow]; omega) | omega) _ _) | (refine Below.setCell ?_ (by first | (simp [size_ext, grow]; done) | (simp [size_ext, grow]; omega) | omega) _) | (refine Below.alloc ?_ (by first | (simp [size_ext, grow]; done) | (simp [size_ext, grow]; omega) | omega) _) | refine Below.drew ?_ | refine below_drewN ?_ _ | (refine Below.trans ?_ (Below.mono (by assumption) (by first | (simp [size_ext, grow]; done) | (simp [size_ext, grow]; omega) | omega))))))) (bv_all _) (by (repeat (first | exact Below.refl _ _ | exact Nat.le_refl _ | (refine below_ext ?_ (by first | (simp [size_ext, grow]; done) | (simp [size_ext, grow]; omega) | omega) _ _) | (refine Below.setCell ?_ (by first | (simp [size_ext, grow]; done) | (simp [size_ext, grow]; omega) | omega) _) | (refine Below.alloc ?_ (by first | (simp [size_ext, grow]; done) | (simp [size_ext, grow]; omega) | omega) _) | refine Below.drew ?_ | refine below_drewN ?_ _ | (refine Below.trans ?_ (Below.mono (by assumption) (by first | (simp [size_ext, grow]; done) | (simp [size_ext, grow]; omega) | omega)))))) ?_); intro A1 c1 w1 ho1 hc1 hb1 hg1; clear hg1; have q0 : w1.cell? ⟨b, o + p, none⟩ = some (.int .u8 (t.toNat : Int)) := (hb1.cell (p := ⟨b, _, none⟩) z1).trans c0; have HO1 := Lib.hid ho1; simp only [Nat.zero_add, List.nil_append] at ho1; have HO1 := Lib.hid ho1; have HB1 := Lib.hid hb1; have HNEW := Lib.hid (At.newN w1 #[.int .i64 (t.toNat : Int), .slice A1 (x - 2) c1] 36 [.int .i64 (t.toNat : Int), .slice A1 (x - 2) c1] w1.heap.size rfl rfl); have HOB := Lib.hid (HO.out.below hb1); have HBW1 := Lib.hid (HBW.out.trans (hb1.mono hsz)); clear ho1 hc1 hb1) | ((refine step_appv w rfl (.tmp 38) (.tmp 54) 22 rfl 36 Try.underlying22 (.agg #[.int .i64 0, .slice none 0 0]) 2 32 infoOpt rfl (by decide) (by decide) (.slice A' E.length c') E.length (cellsE E) rfl (by exact own_below HOB.out.1 (by (repeat (first | exact Below.refl _ _ | exact Nat.le_refl _ | (refine below_ext ?_ (by first | (simp [size_ext, grow]; done) | (simp [size_ext, grow]; omega) | omega) _ _) | (refine Below.setCell ?_ (by first | (simp [size_ext, grow]; done) | (simp [size_ext, grow]; omega) | omega) _) | (refine Below.alloc ?_ (by first | (simp [size_ext, grow]; done) | (simp [size_ext, grow]; omega) | omega) _) | refine Below.drew ?_ | refine below_drewN ?_ _ | (refine Below.trans ?_ (Below.mono (by assumption) (by first | (simp [size_ext, grow]; done) | (simp [size_ext, grow]; omega) | omega))))))) (w1.heap.size + 1) (some ⟨w1.heap.size, 0, none⟩) 1 1 [.int .i64 (t.toNat : Int), .slice A1 (x - 2) c1] rfl rfl (by omega) (by exact HNEW.out) (by intro u hu; simp at hu; rcases hu with rfl | rfl <;> rfl) (by have := HBW1.out; have := this.size; (repeat (first | exact Below.refl _ _ | exact Nat.le_refl _ | (refine below_ext ?_ (by first | (simp [size_ext, grow]; done) | (simp [size_ext, grow]; omega) | omega) _ _) | (refine Below.setCell ?_ (by first | (simp [size_ext, grow]; done) | (simp [size_ext, grow]; omega) | omega) _) | (refine Below.alloc ?_ (by first | (simp [size_ext, grow]; done) | (simp [size_ext, grow]; omega) | omega) _) | refine Below.drew ?_ | refine below_drewN ?_ _ | (refine Below.trans ?_ (Below.mono (by assumption) (by first | (simp [size_ext, grow]; done) | (simp [size_ext, grow]; omega) | omega)))))) ?_); intro A3 c3 w3 ho3 hc3 hb3 hg3; have q3 : w3.cell? ⟨b, o + p, none⟩ = some (.int .u8 (t.toNat : Int)) := (hb3.cell (p := ⟨b, _, none⟩) zw).trans ((HBW.out.cell (p := ⟨b, _, none⟩) zw).symm.trans c0); have HO3 := Lib.hid ho3; have HB3 := Lib.hid hb3; have HC3 := Lib.hid hc3; have HG3 := Lib.hid hg3; clear ho3 hc3 hb3 hg3))
                have HOE := Lib.hid (OwnOpts.pushed (tt := (t.toNat : Int)) (dd := (l.drop (p + 2)).take (x - 2)) (A2 := A1) (c2 := c1) (HOB.out.below (Below.alloc (Below.refl _ w1) (Nat.le_refl _) _)) (by have h := own_base HO1.out hsz; rw [show ((l.drop (p + 2)).take (x - 2)).length = x - 2 by have := HRL.out; have := HN.out; simp; omega]; exact own_below h (Below.alloc (Below.refl _ w1) (Nat.le_refl _) _)) (by rw [show ((l.drop (p + 2)).take (x - 2)).length = x - 2 by have := HRL.out; have := HN.out; simp; omega]; exact HO3.out) HG3.out)
                obtain ⟨f', hf', hd'⟩ := decW_step (acc := E.map Ent.o) HF.out.1 HCUT.out (by rw [List.length_map]; exact H6.out)
                have HF' := Lib.hid (And.intro hf' (HF.out.2.trans hd'))
                clear hf' hd'
                go_wp2_with fail
                go_roundw
                case rel => exact ⟨p + x, f', E.length + 1, c3, A3, _, by omega, by go_num, rfl, by simp, by have := H6.out; omega, HF'.out.1, by rw [HF'.out.2, ent_map]; rfl, HB3.out, HOE.out⟩
                case measure => exact meas_lt (by omega) (by omega)
    · obtain rfl : p = N := by omega
      have HE0 := Lib.hid (show decW l.length l [] = (E.map Ent.o, 0) by rw [HF.out.2, List.drop_eq_nil_of_le (by have := HN.out; omega), decW_nil])
      go_wp2
      go_ret2
      exact ⟨E, _, by rw [HR.out, HE0.out]; rfl, HBW.out, HO.out, by rw [HR.out, HE0.out]⟩
end Go.Proofs.Ytbdkapmiioiikaa
