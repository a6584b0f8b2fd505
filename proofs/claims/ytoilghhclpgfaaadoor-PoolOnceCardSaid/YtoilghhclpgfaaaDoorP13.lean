/- Leased, Fork. -/
import Derived.Test.YtoilghhclpgfaaaDoorP12
namespace Go.Proofs.YtoilghhclpgfaaaDoor
open Go.RowKit
set_option linter.unusedSimpArgs false
set_option linter.unusedVariables false
theorem info3 : (Tryd.prog.info? 3).map (fun i => (i.zero, i.size, i.bytes)) = some (some (.int .i64 0), 1, 8) := by kernel_rfl
theorem info69 : (Tryd.prog.info? 69).map (fun i => (i.zero, i.size, i.bytes)) = some (some (.int .u64 0), 1, 8) := by kernel_rfl
/-- A call that makes a row of integers. -/
def RowP (L : List Int) (W : World) (e : Ending) (w' : World) : Prop :=
  ∃ (A : Option Addr) (c : Nat), e = .returned (.slice A L.length c) ∧ Below W.heap.size W w' ∧ At w' w'.heap.size A (ints L) ∧ L.length ≤ c ∧ ∀ a, A = some a → W.heap.size ≤ a.block
theorem own_basis {w : World} {base : Nat} {e : TypeId} {size n n' c : Nat} {A : Option Addr} {xs : List Value} (h : w.ownsRow base e size (.slice A n' c) n xs) : ∀ a, A = some a → base ≤ a.block := fun a ha => own_le h (by rw [ha]; rfl)
theorem own_le_cap {w : World} {base : Nat} {e : TypeId} {size n n' c : Nat} {A : Option Addr} {xs : List Value} (h : w.ownsRow base e size (.slice A n' c) n xs) : n' ≤ c := by
  rcases h.2 with ⟨h1, _⟩ | ⟨g, cap, cur, h1, _, _, h2, _⟩
  · simp only [Value.slice.injEq] at h1; omega
  · simp only [Value.slice.injEq] at h1; omega
theorem own_drewN {w : World} {base : Nat} {e : TypeId} {size n : Nat} {v : Value} {xs : List Value} (h : w.ownsRow base e size v n xs) (q : Nat) : (w.drewN q).ownsRow base e size v n xs := h
theorem ints_snoc (L : List Int) (x : Int) : ints (L ++ [x]) = ints L ++ [.int .i64 x] := by simp [ints]
theorem ints_one (L : List Int) : ∀ u ∈ ints L, u.oneCell' = true := by
  intro u hu
  unfold ints at hu
  obtain ⟨x, -, rfl⟩ := List.mem_map.1 hu
  rfl
def isL (S : PoolS) (i : Nat) : Bool := bitW S.ow i && !bitW S.fw i
def lsd (S : PoolS) (k : Nat) : List Int := ((List.range k).filter (isL S)).map fun (i : Nat) => S.b + (i : Int)
theorem lsd_succ (S : PoolS) (k : Nat) : lsd S (k + 1) = if isL S k = true then lsd S k ++ [S.b + (k : Int)] else lsd S k := by
  unfold lsd
  rw [List.range_succ, List.filter_append]
  by_cases h : isL S k = true <;> simp [h]
theorem lsd_len (S : PoolS) (k : Nat) : (lsd S k).length ≤ k := by
  unfold lsd
  rw [List.length_map]
  have := List.length_filter_le (isL S) (List.range k)
  simpa using this
set_option maxRecDepth 100000 in
set_option maxHeartbeats 1000000 in
theorem Leased_any (p : Nat) (S : PoolS) (W : World) (h : PoolAt W p S) (hs : Sound S) :
    Calls Tryd.prog 18 #[.pointer (some ⟨p, 0, none⟩)] W (RowP (lsd S S.s) W) := by
  have HP := Lib.hid h
  have c1 : W.cell? ⟨p, 1, none⟩ = some (.int .i64 (S.s : Int)) := (cell_of_row W p 1 _ _ (0, 0) h.st).trans rfl
  have c5 : W.cell? ⟨p, 5, none⟩ = some (.bool true) := (cell_of_row W p 5 _ _ (0, 0) h.st).trans rfl
  have hz : p < W.heap.size := lt_of_block h.st
  have hso := hs.s
  have hb1 := hs.b1
  have hb2 := hs.b2
  have HLO := Lib.hid (show S.ow.length ≤ 1000000 by rw [← h.own.n]; unfold PoolS.nw; omega)
  have HLF := Lib.hid (show S.fw.length ≤ 1000000 by rw [← h.free.n]; unfold PoolS.nw; omega)
  clear h hs
  go_enter Tryd.func18, Tryd.ntmps18
  go_wp2_with (go_at_call 32; refine (none_no p W c5).mono ?_; rintro e w1 ⟨rfl, rfl⟩)
  go_loopw [11, 3] (fun i v wr => ∃ (k n c : Nat) (A : Option Addr), k ≤ S.s ∧ i = .int .i64 k ∧ v = .slice A n c ∧ n = (lsd S k).length ∧ n ≤ k ∧ Below W.heap.size W wr ∧ wr.ownsRow W.heap.size 3 1 (.slice A n c) n (ints (lsd S k))) (fun i _ _ => S.s - (intOf i).toNat)
  case atStart => exact ⟨0, 0, 0, none, Nat.zero_le _, rfl, rfl, rfl, Nat.le_refl _, Below.refl _ _, own_nil _ _ _ _⟩
  case round =>
    obtain ⟨k, n, c, A, hk, rfl, rfl, hn, hnk, hbl, hown⟩ := hrel
    have HBL := Lib.hid hbl
    have HN := Lib.hid hn
    have HOW := Lib.hid hown
    have HPR := Lib.hid (HP.out.keep hbl)
    have hszr := hbl.size
    clear hbl hn hown c1 c5
    by_cases hlt : k < S.s
    · have c0 : wr.cell? ⟨p, 0, none⟩ = some (.int .i64 S.b) := (cell_of_row wr p 0 _ _ (0, 0) HPR.out.st).trans rfl
      have c2 : wr.cell? ⟨p, 2, none⟩ = some (.slice (some ⟨S.af, 0, none⟩) S.nw S.cf) := (cell_of_row wr p 2 _ _ (0, 0) HPR.out.st).trans rfl
      have c3 : wr.cell? ⟨p, 3, none⟩ = some (.slice (some ⟨S.ao, 0, none⟩) S.nw S.co) := (cell_of_row wr p 3 _ _ (0, 0) HPR.out.st).trans rfl
      have pz : p < wr.heap.size := by omega
      have HIO := Lib.hid (show k / 64 < S.ow.length by rw [← HP.out.own.n]; unfold PoolS.nw; omega)
      have HIF := Lib.hid (show k / 64 < S.fw.length by rw [← HP.out.free.n]; unfold PoolS.nw; omega)
      have HSU := Lib.hid (lsd_succ S k)
      cases ho : bitW S.ow k
      · have HNX := Lib.hid (show lsd S (k + 1) = lsd S k by rw [HSU.out]; unfold isL; rw [ho]; rfl)
        have HO := Lib.hid ho
        clear ho
        go_wp2_with fail
        refine (has_any (some ⟨S.ao, 0, none⟩) _ S.co S.ow k _ HPR.out.own HIO.out HLO.out).mono ?_
        rw [HO.out]
        rintro e w1 ⟨rfl, rfl⟩
        go_wp2_with fail
        go_roundw
        case rel => exact ⟨k + 1, n, c, A, by omega, by go_num, rfl, by rw [HNX.out]; exact HN.out, by omega, HBL.out, by rw [HNX.out]; exact HOW.out⟩
        case measure => simp [intOf]; omega
      · have HO := Lib.hid ho
        cases hf : bitW S.fw k
        · have HNX := Lib.hid (show lsd S (k + 1) = lsd S k ++ [S.b + (k : Int)] by rw [HSU.out]; unfold isL; rw [ho, hf]; rfl)
          have HF := Lib.hid hf
          clear ho hf
          go_wp2_with fail
          refine (has_any (some ⟨S.ao, 0, none⟩) _ S.co S.ow k _ HPR.out.own HIO.out HLO.out).mono ?_
          rw [HO.out]
          rintro e w1 ⟨rfl, rfl⟩
          go_wp2_with fail
          refine (has_any (some ⟨S.af, 0, none⟩) _ S.cf S.fw k _ HPR.out.free HIF.out HLF.out).mono ?_
          rw [HF.out]
          rintro e w1 ⟨rfl, rfl⟩
          go_wp2_with (at_builtin; refine wpList_appv W rfl (.tmp 29) (.tmp 36) 22 rfl 3 Tryd.underlying22 (.int .i64 0) 1 8 info3 rfl (by decide) (by decide) (.slice A n c) n (ints (lsd S k)) rfl (by exact own_below HOW.out (by (repeat (first | exact Below.refl _ _ | exact Nat.le_refl _ | (refine below_ext ?_ (by first | (simp [size_ext, grow]; done) | (simp [size_ext, grow]; omega) | omega) _ _) | (refine Below.setCell ?_ (by first | (simp [size_ext, grow]; done) | (simp [size_ext, grow]; omega) | omega) _) | (refine Below.alloc ?_ (by first | (simp [size_ext, grow]; done) | (simp [size_ext, grow]; omega) | omega) _) | refine Below.drew ?_ | refine below_drewN ?_ _ | (refine Below.trans ?_ (Below.mono (by assumption) (by first | (simp [size_ext, grow]; done) | (simp [size_ext, grow]; omega) | omega))))))) (wr.heap.size + 1) (some ⟨wr.heap.size, 0, none⟩) 1 1 [.int .i64 (S.b + (k : Int))] rfl rfl (by omega) (by exact At.newN _ _ _ _ _ rfl rfl) (by intro u hu; simp at hu; rw [hu]; rfl) (by have := HBL.out; (repeat (first | exact Below.refl _ _ | exact Nat.le_refl _ | (refine below_ext ?_ (by first | (simp [size_ext, grow]; done) | (simp [size_ext, grow]; omega) | omega) _ _) | (refine Below.setCell ?_ (by first | (simp [size_ext, grow]; done) | (simp [size_ext, grow]; omega) | omega) _) | (refine Below.alloc ?_ (by first | (simp [size_ext, grow]; done) | (simp [size_ext, grow]; omega) | omega) _) | refine Below.drew ?_ | refine below_drewN ?_ _ | (refine Below.trans ?_ (Below.mono (by assumption) (by first | (simp [size_ext, grow]; done) | (simp [size_ext, grow]; omega) | omega)))))) ?_; intro A3 c3' w7 ho3 hc3 hb3 hg3; have HO3 := Lib.hid ho3; have HB3 := Lib.hid hb3; clear ho3 hc3 hb3 hg3)
          go_roundw
          case rel => exact ⟨k + 1, n + 1, c3', A3, by omega, by go_num, rfl, by rw [HNX.out, List.length_append, ← HN.out]; rfl, by omega, HB3.out, by rw [HNX.out, ints_snoc]; exact HO3.out⟩
          case measure => simp [intOf]; omega
        · have HNX := Lib.hid (show lsd S (k + 1) = lsd S k by rw [HSU.out]; unfold isL; rw [ho, hf]; rfl)
          have HF := Lib.hid hf
          clear ho hf
          go_wp2_with fail
          refine (has_any (some ⟨S.ao, 0, none⟩) _ S.co S.ow k _ HPR.out.own HIO.out HLO.out).mono ?_
          rw [HO.out]
          rintro e w1 ⟨rfl, rfl⟩
          go_wp2_with fail
          refine (has_any (some ⟨S.af, 0, none⟩) _ S.cf S.fw k _ HPR.out.free HIF.out HLF.out).mono ?_
          rw [HF.out]
          rintro e w1 ⟨rfl, rfl⟩
          go_wp2_with fail
          go_roundw
          case rel => exact ⟨k + 1, n, c, A, by omega, by go_num, rfl, by rw [HNX.out]; exact HN.out, by omega, HBL.out, by rw [HNX.out]; exact HOW.out⟩
          case measure => simp [intOf]; omega
    · have hks : S.s = k := by omega
      have HKS := Lib.hid hks
      clear hks
      go_wp2_with fail
      go_ret
      rw [HKS.out]
      exact ⟨A, c, by rw [← HN.out]; rfl, HBL.out, At.of_own HOW.out, by rw [← HN.out]; exact own_le_cap HOW.out, own_basis HOW.out⟩
theorem own_void (w : World) (base N : Nat) (hN : N = w.heap.size) (hb : base ≤ N) : (w.alloc (.cells #[] 69)).ownsRow base 69 1 (.slice (some ⟨N, 0, none⟩) 0 0) 0 [] := by
  subst hN; exact World.ownsRow_made w #[] 0 hb (by decide) rfl
theorem RowAt.at_ {w : World} {A : Option Addr} {n : Nat} {ws : List Nat} (h : RowAt w A n ws) : At w w.heap.size A (u64s ws) := by
  rcases h.row with rfl | ⟨b, rest, rfl, hh⟩
  · exact .inl rfl
  · refine .inr ⟨b, 0, rfl, lt_of_block hh, fun j u hu => ?_⟩
    rw [cell_of_row w b (0 + j) _ 69 (0, 0) hh]
    have hj : j < (u64s ws).length := by
      rcases Nat.lt_or_ge j (u64s ws).length with h | h
      · exact h
      · rw [List.getElem?_eq_none h] at hu; cases hu
    simp only [List.getElem?_toArray, Nat.zero_add]
    rw [List.getElem?_append_left hj]
    exact hu
theorem row_of_own {w : World} {base n c : Nat} {A : Option Addr} {ws : List Nat} (h : w.ownsRow base 69 1 (.slice A n c) n (u64s ws)) (hw : Wide ws) (hn : n = ws.length) (h0 : n ≠ 0) : ∃ g, A = some ⟨g, 0, none⟩ ∧ base ≤ g ∧ RowAt w (some ⟨g, 0, none⟩) n ws := by
  rcases h.2 with ⟨h1, h2⟩ | ⟨g, cap, cur, h1, h2, h3, h4, h5, h6, h7⟩
  · simp only [Value.slice.injEq] at h1; omega
  · simp only [Value.slice.injEq] at h1
    obtain ⟨rfl, -, rfl⟩ := h1
    refine ⟨g, rfl, h2, hn, hw, .inr ⟨g, cur.toList.drop ws.length, rfl, ?_⟩⟩
    rw [h3]
    have : cur.toList.take ws.length = u64s ws := by rw [← h7, hn]; simp
    rw [← this, List.take_append_drop]
def ForkP (S : PoolS) (W : World) (e : Ending) (w' : World) : Prop :=
  ∃ (F af cf : Nat), e = .returned (.pointer (some ⟨F, 0, none⟩)) ∧ Below W.heap.size W w' ∧ W.heap.size ≤ F ∧ W.heap.size ≤ af ∧ af < w'.heap.size ∧ PoolAt w' F { S with af := af, cf := cf }
set_option maxRecDepth 100000 in
set_option maxHeartbeats 1000000 in
theorem Fork_any (p : Nat) (S : PoolS) (W : World) (h : PoolAt W p S) (hs : Sound S) (hao : S.ao < W.heap.size) :
    Calls Tryd.prog 25 #[.pointer (some ⟨p, 0, none⟩)] W (ForkP S W) := by
  have HP := Lib.hid h
  have c0 : W.cell? ⟨p, 0, none⟩ = some (.int .i64 S.b) := (cell_of_row W p 0 _ _ (0, 0) h.st).trans rfl
  have c1 : W.cell? ⟨p, 1, none⟩ = some (.int .i64 (S.s : Int)) := (cell_of_row W p 1 _ _ (0, 0) h.st).trans rfl
  have c2 : W.cell? ⟨p, 2, none⟩ = some (.slice (some ⟨S.af, 0, none⟩) S.nw S.cf) := (cell_of_row W p 2 _ _ (0, 0) h.st).trans rfl
  have c3 : W.cell? ⟨p, 3, none⟩ = some (.slice (some ⟨S.ao, 0, none⟩) S.nw S.co) := (cell_of_row W p 3 _ _ (0, 0) h.st).trans rfl
  have c4 : W.cell? ⟨p, 4, none⟩ = some (.int .i64 S.left) := (cell_of_row W p 4 _ _ (0, 0) h.st).trans rfl
  have c5 : W.cell? ⟨p, 5, none⟩ = some (.bool true) := (cell_of_row W p 5 _ _ (0, 0) h.st).trans rfl
  have hz : p < W.heap.size := lt_of_block h.st
  have hnw : S.nw ≤ 1100 := by have := hs.s; unfold PoolS.nw; omega
  obtain ⟨nw, hn⟩ : ∃ nw, S.nw = nw := ⟨_, rfl⟩
  rw [hn] at c2 c3 hnw
  have HN := Lib.hid hn
  have HAO := Lib.hid hao
  clear h hs hn hao
  by_cases h0 : nw = 0
  · subst h0
    go_enter Tryd.func25, Tryd.ntmps25
    go_wp2_with (go_at_call 32; refine (none_no p W c5).mono ?_; rintro e w1 ⟨rfl, rfl⟩)
    go_ret
    refine ⟨W.heap.size, W.heap.size + 1, 0, rfl, by (repeat (first | exact Below.refl _ _ | exact Nat.le_refl _ | (refine below_ext ?_ (by first | (simp [size_ext, grow]; done) | (simp [size_ext, grow]; omega) | omega) _ _) | (refine Below.setCell ?_ (by first | (simp [size_ext, grow]; done) | (simp [size_ext, grow]; omega) | omega) _) | (refine Below.alloc ?_ (by first | (simp [size_ext, grow]; done) | (simp [size_ext, grow]; omega) | omega) _) | refine Below.drew ?_ | refine below_drewN ?_ _ | (refine Below.trans ?_ (Below.mono (by assumption) (by first | (simp [size_ext, grow]; done) | (simp [size_ext, grow]; omega) | omega))))), Nat.le_refl _, by omega, by simp, ?_, ?_, ?_, ?_⟩
    · have e : PoolS.nw { S with af := W.heap.size + 1, cf := 0 } = 0 := HN.out
      rw [e]
      (repeat (first | ((refine heap_alloc_at _ _ _ ?_); (simp [go_sem]; done)) | ((refine (heap_ext _ _ _ _ ?_).trans ?_); (focus (simp [go_sem]; done))) | ((refine (heap_alloc_past _ _ _ ?_).trans ?_); (focus (simp [go_sem]; done)))))
    · have e : PoolS.nw { S with af := W.heap.size + 1, cf := 0 } = S.nw := rfl
      rw [e]
      exact ⟨HP.out.free.n, HP.out.free.wide, .inl (List.eq_nil_of_length_eq_zero (by rw [← HP.out.free.n, HN.out]))⟩
    · exact HP.out.own.keep (by (repeat (first | exact Below.refl _ _ | exact Nat.le_refl _ | (refine below_ext ?_ (by first | (simp [size_ext, grow]; done) | (simp [size_ext, grow]; omega) | omega) _ _) | (refine Below.setCell ?_ (by first | (simp [size_ext, grow]; done) | (simp [size_ext, grow]; omega) | omega) _) | (refine Below.alloc ?_ (by first | (simp [size_ext, grow]; done) | (simp [size_ext, grow]; omega) | omega) _) | refine Below.drew ?_ | refine below_drewN ?_ _ | (refine Below.trans ?_ (Below.mono (by assumption) (by first | (simp [size_ext, grow]; done) | (simp [size_ext, grow]; omega) | omega))))))
    · have := HAO.out; simp only; omega
  · obtain ⟨W1, hW1⟩ : ∃ W1, W1 = W.alloc (.cells #[.int .i64 S.b, .int .i64 (S.s : Int), .slice (some ⟨S.af, 0, none⟩) nw S.cf, .slice (some ⟨S.ao, 0, none⟩) nw S.co, .int .i64 S.left, .bool true] 60) := ⟨_, rfl⟩
    have hs1 : W1.heap.size = W.heap.size + 1 := by rw [hW1]; simp
    have HF1 := Lib.hid (show W1.heap[W.heap.size]? = some (.cells #[.int .i64 S.b, .int .i64 (S.s : Int), .slice (some ⟨S.af, 0, none⟩) nw S.cf, .slice (some ⟨S.ao, 0, none⟩) nw S.co, .int .i64 S.left, .bool true] 60 (0, 0)) by rw [hW1]; exact heap_alloc_new W _)
    have HB1 := Lib.hid (show Below W.heap.size W W1 by rw [hW1]; (repeat (first | exact Below.refl _ _ | exact Nat.le_refl _ | (refine below_ext ?_ (by first | (simp [size_ext, grow]; done) | (simp [size_ext, grow]; omega) | omega) _ _) | (refine Below.setCell ?_ (by first | (simp [size_ext, grow]; done) | (simp [size_ext, grow]; omega) | omega) _) | (refine Below.alloc ?_ (by first | (simp [size_ext, grow]; done) | (simp [size_ext, grow]; omega) | omega) _) | refine Below.drew ?_ | refine below_drewN ?_ _ | (refine Below.trans ?_ (Below.mono (by assumption) (by first | (simp [size_ext, grow]; done) | (simp [size_ext, grow]; omega) | omega))))))
    have HW1 := Lib.hid hW1
    have HS1 := Lib.hid hs1
    clear hW1 hs1
    go_enter Tryd.func25, Tryd.ntmps25
    go_upto_region 5 with (first | (go_at_call 32; refine (none_no p W c5).mono ?_; rintro e w1 ⟨rfl, rfl⟩) | (at_builtin; go_must (rw [← HW1.out]; refine wpList_appv W1 rfl (.tmp 9) (.tmp 13) 58 rfl 69 Tryd.underlying58 (.int .u64 0) 1 8 info69 rfl (by decide) (by decide) (.slice (some ⟨W.heap.size + 1, 0, none⟩) 0 0) 0 [] rfl (own_void W1 _ _ HS1.out.symm (by rw [HS1.out]; exact Nat.le_refl _)) W.heap.size (some ⟨S.af, 0, none⟩) nw S.cf (u64s S.fw) rfl (by rw [u64s_len, ← HP.out.free.n, HN.out]; omega) (by omega) (HP.out.free.at_.keep (by have := HB1.out; have := HS1.out; (repeat (first | exact Below.refl _ _ | exact Nat.le_refl _ | (refine below_ext ?_ (by first | (simp [size_ext, grow]; done) | (simp [size_ext, grow]; omega) | omega) _ _) | (refine Below.setCell ?_ (by first | (simp [size_ext, grow]; done) | (simp [size_ext, grow]; omega) | omega) _) | (refine Below.alloc ?_ (by first | (simp [size_ext, grow]; done) | (simp [size_ext, grow]; omega) | omega) _) | refine Below.drew ?_ | refine below_drewN ?_ _ | (refine Below.trans ?_ (Below.mono (by assumption) (by first | (simp [size_ext, grow]; done) | (simp [size_ext, grow]; omega) | omega))))))) (fun u hu => by unfold u64s at hu; obtain ⟨x, -, rfl⟩ := List.mem_map.1 hu; rfl) (by (repeat (first | exact Below.refl _ _ | exact Nat.le_refl _ | (refine below_ext ?_ (by first | (simp [size_ext, grow]; done) | (simp [size_ext, grow]; omega) | omega) _ _) | (refine Below.setCell ?_ (by first | (simp [size_ext, grow]; done) | (simp [size_ext, grow]; omega) | omega) _) | (refine Below.alloc ?_ (by first | (simp [size_ext, grow]; done) | (simp [size_ext, grow]; omega) | omega) _) | refine Below.drew ?_ | refine below_drewN ?_ _ | (refine Below.trans ?_ (Below.mono (by assumption) (by first | (simp [size_ext, grow]; done) | (simp [size_ext, grow]; omega) | omega)))))) ?_); intro A3 c3' w7 ho3 hc3 hb3 hg3; have HO3 := Lib.hid ho3; have HB3 := Lib.hid hb3; have f2 : w7.cell? ⟨W.heap.size, 2, none⟩ = some (.slice (some ⟨S.af, 0, none⟩) nw S.cf) := (cell_of_row w7 _ 2 _ _ (0, 0) ((hb3.block _ (by rw [HS1.out]; omega)).trans HF1.out)).trans rfl; have ff2 : w7.frozen? ⟨W.heap.size, 2, none⟩ = false := frozen_of_row w7 _ 2 _ 60 ((hb3.block _ (by rw [HS1.out]; omega)).trans HF1.out); have fz : W.heap.size < w7.heap.size := lt_of_block ((hb3.block _ (by rw [HS1.out]; omega)).trans HF1.out); clear ho3 hc3 hb3 hg3))
    go_wp2_with fail
    go_ret
    have ho := HO3.out
    simp only [Nat.zero_add, List.nil_append] at ho
    obtain ⟨g, rfl, hg, hr⟩ := row_of_own ho HP.out.free.wide (by rw [← HP.out.free.n, HN.out]) h0
    have hF7 := (HB3.out.block W.heap.size (by rw [HS1.out]; omega)).trans HF1.out
    have hg1 : W.heap.size + 1 ≤ g := by rw [← HS1.out]; exact hg
    have hbw : Below W.heap.size W w7 := HB1.out.trans (HB3.out.mono (by rw [HS1.out]; omega))
    refine ⟨W.heap.size, g, c3', rfl, hbw.setCell (p := ⟨W.heap.size, 2, none⟩) (Nat.le_refl _) _, Nat.le_refl _, by omega, by have := own_lt ho (k := g) rfl; simpa using this, ?_, ?_, ?_, ?_⟩
    · have e : PoolS.nw { S with af := g, cf := c3' } = nw := HN.out
      rw [e]
      exact heap_setCell_same w7 _ 2 _ 60 _ hF7
    · have e : PoolS.nw { S with af := g, cf := c3' } = nw := HN.out
      rw [e]
      exact hr.kept (fun b hb _ => by cases hb; exact Below.heap_setCell w7 ⟨W.heap.size, 2, none⟩ _ g (by simp; omega))
    · refine (HP.out.own.keep hbw).kept (fun b hb _ => by cases hb; exact Below.heap_setCell w7 ⟨W.heap.size, 2, none⟩ _ S.ao (by have := HAO.out; simp; omega))
    · have := HAO.out; simp only; omega
end Go.Proofs.YtoilghhclpgfaaaDoor
