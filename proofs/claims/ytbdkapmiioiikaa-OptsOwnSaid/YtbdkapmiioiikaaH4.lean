/- opts.Encode. -/
import Derived.Test.YtbdkapmiioiikaaH3
namespace Go.Proofs.Ytbdkapmiioiikaa
open Go.RowKit
set_option linter.unusedSimpArgs false
set_option linter.unusedVariables false
theorem byteOf {a : Int} (h : inB a 0 255 = true) : ∃ x : UInt8, a = (x.toNat : Int) ∧ UInt8.ofNat a.toNat = x := by
  simp only [inB, Bool.and_eq_true, decide_eq_true_eq] at h
  refine ⟨UInt8.ofNat a.toNat, ?_, rfl⟩
  have : (UInt8.ofNat a.toNat).toNat = a.toNat := by simp; omega
  omega
theorem wrapU8 (x : UInt8) : IntKind.u8.wrap (x.toNat : Int) = (x.toNat : Int) := by
  have := x.toNat_lt
  simp only [IntKind.wrap, IntKind.signed, IntKind.bits]
  simp
  omega
theorem map_o (E : List Ent) (k : Nat) (hk : k < E.length) : (E.map Ent.o)[k]'(by simpa using hk) = (E[k].t, E[k].d) := by simp [Ent.o]
theorem own_ne {w : World} {base size n : Nat} {v : Value} {xs : List Value} {T : Nat} {cs : Array Value} (h : w.ownsRow base 5 size v n xs) (hT : w.heap[T]? = some (.cells cs 36 (0, 0))) : ∀ g, v.ownBlock = some g → g ≠ T := by
  intro g hg e
  subst e
  obtain ⟨cur, hc⟩ := own_type h hg
  rw [hT] at hc
  simp at hc
theorem grown_cell {w w' : World} {r : Option Nat} {b i : Nat} (h : w.grownBy w' r) (hb : b < w.heap.size) (hr : some b ≠ r) : w'.cell? ⟨b, i, none⟩ = w.cell? ⟨b, i, none⟩ := World.cell?_of_block (w := w) (a := ⟨b, i, none⟩) (h.block b hb hr)
set_option maxRecDepth 100000 in
set_option maxHeartbeats 4000000 in
theorem enc_in (A : Option Addr) (c : Nat) (E : List Ent) (w : World) (B : Nat) (hB : B ≤ w.heap.size) (hE : OptsAt w B A E) (hl : E.length ≤ 64) :
    Calls Try.prog 12 #[.slice A E.length c] w (EncP w (E.map Ent.o)) := by
  have HE := Lib.hid hE
  have HB := Lib.hid hB
  clear hE hB
  go_enter Try.func12, Try.ntmps12
  go_wp2
  go_loopw [12, 4] (fun i v wr => ∃ (k n c : Nat) (A : Option Addr), k ≤ E.length ∧ i = .int .i64 k ∧ v = .slice A n c ∧ n ≤ c ∧ n ≤ 255 * k ∧ n = (encs ((E.map Ent.o).take k)).length ∧ ((E.map Ent.o).take k).all okO = true ∧ Below w.heap.size w wr ∧ wr.ownsRow w.heap.size 5 1 (.slice A n c) n ((encs ((E.map Ent.o).take k)).map bv)) (fun i _ _ => E.length - (intOf i).toNat)
  case atStart => exact ⟨0, 0, 0, none, Nat.zero_le _, rfl, rfl, Nat.le_refl _, by omega, rfl, rfl, Below.refl _ _, own_nil _ _ _ _⟩
  case round =>
    obtain ⟨k, n, c', A', hk, rfl, rfl, hnc, hn5, hn, hall, hb, ho⟩ := hrel
    have HN := Lib.hid (And.intro hn (And.intro hall hnc))
    have HBW := Lib.hid hb
    have HO := Lib.hid ho
    have hsz := hb.size
    clear hn hall hnc hb ho
    by_cases hlt : k < E.length
    · obtain ⟨b, o, rfl, hbB, hc0, hc1⟩ := (HE.out.keep (HBW.out.mono HB.out)).get hlt
      obtain ⟨hd1, hd2⟩ := (HE.out.keep (HBW.out.mono HB.out)).2 E[k] (List.getElem_mem hlt)
      have HO1 := Lib.hid (map_o E k hlt)
      obtain ⟨⟨t, d, a, c2⟩, he⟩ : ∃ e, E[k] = e := ⟨_, rfl⟩
      rw [he] at hc0 hc1 hd1 hd2 HO1
      simp only [Ent.v] at hc1 hd1 hd2 HO1
      dsimp only at hc0
      have HD := Lib.hid (And.intro hd1 hd2)
      have hkl : k < (E.map Ent.o).length := by simpa using hlt
      have HKL := Lib.hid hkl
      have HDW := Lib.hid (show At w B a (d.map bv) by have := (HE.out.2 E[k] (List.getElem_mem hlt)).1; rw [he] at this; exact this)
      clear he hd1 hd2 hkl
      cases hw : inB t 0 255
      · go_wp2_with (go_at_call 26; refine (within_any _ _ _ _).mono ?_; rw [hw]; rintro e w1 ⟨rfl, rfl⟩)
        have HX := Lib.hid (show (E.map Ent.o).all okO = false from all_not HKL.out (by rw [HO1.out]; unfold okO; simp only [hw]; rfl))
        have HR := Lib.hid (show encR (E.map Ent.o) = ([], 80) by unfold encR; rw [if_neg (by rw [List.length_map]; omega), if_neg (by rw [HX.out]; simp)])
        go_ret2
        exact ⟨.slice none 0 0, by rw [HR.out]; rfl, by have := HBW.out; (repeat (first | exact Below.refl _ _ | exact Nat.le_refl _ | (refine below_ext ?_ (by first | (simp [size_ext, grow]; done) | (simp [size_ext, grow]; omega) | omega) _ _) | (refine Below.setCell ?_ (by first | (simp [size_ext, grow]; done) | (simp [size_ext, grow]; omega) | omega) _) | (refine Below.alloc ?_ (by first | (simp [size_ext, grow]; done) | (simp [size_ext, grow]; omega) | omega) _) | refine Below.drew ?_ | refine below_drewN ?_ _ | (refine Below.trans ?_ (Below.mono (by assumption) (by first | (simp [size_ext, grow]; done) | (simp [size_ext, grow]; omega) | omega))))), by rw [HR.out]; exact own_nil _ _ _ _⟩
      · by_cases h253 : 253 < d.length
        · have HX := Lib.hid (show (E.map Ent.o).all okO = false from all_not HKL.out (by rw [HO1.out]; unfold okO; simp; omega))
          have HR := Lib.hid (show encR (E.map Ent.o) = ([], 80) by unfold encR; rw [if_neg (by rw [List.length_map]; omega), if_neg (by rw [HX.out]; simp)])
          go_wp2_with (go_at_call 26; refine (within_any _ _ _ _).mono ?_; rw [hw]; rintro e w1 ⟨rfl, rfl⟩)
          go_ret2
          exact ⟨.slice none 0 0, by rw [HR.out]; rfl, by have := HBW.out; (repeat (first | exact Below.refl _ _ | exact Nat.le_refl _ | (refine below_ext ?_ (by first | (simp [size_ext, grow]; done) | (simp [size_ext, grow]; omega) | omega) _ _) | (refine Below.setCell ?_ (by first | (simp [size_ext, grow]; done) | (simp [size_ext, grow]; omega) | omega) _) | (refine Below.alloc ?_ (by first | (simp [size_ext, grow]; done) | (simp [size_ext, grow]; omega) | omega) _) | refine Below.drew ?_ | refine below_drewN ?_ _ | (refine Below.trans ?_ (Below.mono (by assumption) (by first | (simp [size_ext, grow]; done) | (simp [size_ext, grow]; omega) | omega))))), by rw [HR.out]; exact own_nil _ _ _ _⟩
        · obtain ⟨x, hx, hx2⟩ := byteOf hw
          have HOK := Lib.hid (show okO (t, d) = true by unfold okO; simp only [hw]; simp; omega)
          have HX2 := Lib.hid hx2
          subst hx
          obtain ⟨y, hy⟩ : ∃ y : UInt8, (d.length : Int) + 2 = (y.toNat : Int) := ⟨UInt8.ofNat (d.length + 2), by simp; omega⟩
          clear hx2
          go_wp2_with (go_at_call 26; refine (within_any _ _ _ _).mono ?_; rw [hw]; rintro e w1 ⟨rfl, rfl⟩)
          obtain ⟨wz, hwz⟩ : ∃ wz, wz = wr.alloc (.cells #[.int .i64 (x.toNat : Int), .slice a d.length c2] 36) := ⟨_, rfl⟩
          rw [← hwz]
          obtain ⟨T, hT⟩ : ∃ T, T = wr.heap.size := ⟨_, rfl⟩
          rw [← hT]
          have hTz : T < wz.heap.size := by rw [hwz, hT]; simp
          have z0 : wz.cell? ⟨T, 0, none⟩ = some (.int .i64 (x.toNat : Int)) := by rw [hwz, hT, cell_of_row _ _ 0 _ _ (0, 0) (heap_alloc_new wr _)]; rfl
          have z1 : wz.cell? ⟨T, 1, none⟩ = some (.slice a d.length c2) := by rw [hwz, hT, cell_of_row _ _ 1 _ _ (0, 0) (heap_alloc_new wr _)]; rfl
          have HTH := Lib.hid (show wz.heap[T]? = some (.cells #[.int .i64 (x.toNat : Int), .slice a d.length c2] 36 (0, 0)) by rw [hwz, hT]; exact heap_alloc_new wr _)
          have HBZ := Lib.hid (show Below w.heap.size w wz by rw [hwz]; exact HBW.out.alloc hsz _)
          have HOZ := Lib.hid (show wz.ownsRow w.heap.size 5 1 (.slice A' n c') n ((encs ((E.map Ent.o).take k)).map bv) by rw [hwz]; exact own_below HO.out ((Below.refl _ _).alloc (Nat.le_refl _) _))
          have HTB := Lib.hid (show ∀ g, (Value.slice A' n c').ownBlock = some g → g < T by intro g hg; rw [hT]; exact own_lt HO.out hg)
          have hszz := HBZ.out.size
          have HNEW := Lib.hid (At.newN wz #[.int .u8 (x.toNat : Int), .int .u8 (y.toNat : Int)] 5 [bv x, bv y] wz.heap.size rfl rfl)
          have x1 : ((x.toNat : Nat) : Int) < 256 := by have := x.toNat_lt; omega
          have y1 : ((y.toNat : Nat) : Int) < 256 := by have := y.toNat_lt; omega
          have i1 : IntKind.i64.wrap ((d.length : Int) + 2) = (d.length : Int) + 2 := IntWalk.i64_in _ (by omega)
          have u1 : IntKind.u8.wrap (x.toNat : Int) = (x.toNat : Int) := wrapU8 x
          have u2 : IntKind.u8.wrap (y.toNat : Int) = (y.toNat : Int) := wrapU8 y
          have j1 : IntKind.i64.wrap (y.toNat : Int) = (y.toNat : Int) := IntWalk.i64_in _ (by omega)
          have hd255 : d.length ≤ 253 := by omega
          have hn64 : n ≤ 255 * 64 := by omega
          have HY := Lib.hid hy
          clear hwz hT hc0 hc1
          go_region_held3 (fun w' => w'.cell? ⟨T, 0, none⟩ = some (.int .i64 (x.toNat : Int)) ∧ w'.cell? ⟨T, 1, none⟩ = some (.slice a d.length c2)) (first | (go_keep; done) | (go_simp; done) | (simp [go_sem]; done)) (first | (refine step_appv w rfl (.tmp 26) (.tmp 35) 23 rfl 5 Try.underlying23 (.int .u8 0) 1 1 infoU8 rfl (by decide) (by decide) (.slice A' n c') n ((encs ((E.map Ent.o).take k)).map bv) rfl (by exact own_below HOZ.out (by (repeat (first | exact Below.refl _ _ | exact Nat.le_refl _ | (refine below_ext ?_ (by first | (simp [size_ext, grow]; done) | (simp [size_ext, grow]; omega) | omega) _ _) | (refine Below.setCell ?_ (by first | (simp [size_ext, grow]; done) | (simp [size_ext, grow]; omega) | omega) _) | (refine Below.alloc ?_ (by first | (simp [size_ext, grow]; done) | (simp [size_ext, grow]; omega) | omega) _) | refine Below.drew ?_ | refine below_drewN ?_ _ | (refine Below.trans ?_ (Below.mono (by assumption) (by first | (simp [size_ext, grow]; done) | (simp [size_ext, grow]; omega) | omega))))))) (wz.heap.size + 1) (some ⟨wz.heap.size, 0, none⟩) 2 2 [bv x, bv y] rfl rfl (by omega) (by exact HNEW.out.keep (by (repeat (first | exact Below.refl _ _ | exact Nat.le_refl _ | (refine below_ext ?_ (by first | (simp [size_ext, grow]; done) | (simp [size_ext, grow]; omega) | omega) _ _) | (refine Below.setCell ?_ (by first | (simp [size_ext, grow]; done) | (simp [size_ext, grow]; omega) | omega) _) | (refine Below.alloc ?_ (by first | (simp [size_ext, grow]; done) | (simp [size_ext, grow]; omega) | omega) _) | refine Below.drew ?_ | refine below_drewN ?_ _ | (refine Below.trans ?_ (Below.mono (by assumption) (by first | (simp [size_ext, grow]; done) | (simp [size_ext, grow]; omega) | omega))))))) (by intro u hu; simp at hu; rcases hu with rfl | rfl <;> rfl) (by have := HBZ.out; (repeat (first | exact Below.refl _ _ | exact Nat.le_refl _ | (refine below_ext ?_ (by first | (simp [size_ext, grow]; done) | (simp [size_ext, grow]; omega) | omega) _ _) | (refine Below.setCell ?_ (by first | (simp [size_ext, grow]; done) | (simp [size_ext, grow]; omega) | omega) _) | (refine Below.alloc ?_ (by first | (simp [size_ext, grow]; done) | (simp [size_ext, grow]; omega) | omega) _) | refine Below.drew ?_ | refine below_drewN ?_ _ | (refine Below.trans ?_ (Below.mono (by assumption) (by first | (simp [size_ext, grow]; done) | (simp [size_ext, grow]; omega) | omega)))))) ?_; intro A1 c1 w1 ho1 hc1 hb1 hg1; have HT1 := Lib.hid (show w1.heap[T]? = some (.cells #[.int .i64 (x.toNat : Int), .slice a d.length c2] 36 (0, 0)) from (hg1.block T (by simp; omega) (fun e => by have := HTB.out T e.symm; omega)).trans (by exact (Below.heap_alloc wz _ T hTz).trans HTH.out)); have q0 : w1.cell? ⟨T, 0, none⟩ = some (.int .i64 (x.toNat : Int)) := (cell_of_row w1 T 0 _ _ (0, 0) HT1.out).trans rfl; have q1 : w1.cell? ⟨T, 1, none⟩ = some (.slice a d.length c2) := (cell_of_row w1 T 1 _ _ (0, 0) HT1.out).trans rfl; have HTN := Lib.hid (own_ne ho1 HT1.out); have HO1' := Lib.hid ho1; have HB1 := Lib.hid hb1; clear ho1 hc1 hb1 hg1) | (go_loud (refine step_appv w rfl (.tmp 36) (.tmp 38) 23 rfl 5 Try.underlying23 (.int .u8 0) 1 1 infoU8 rfl (by decide) (by decide) (.slice A1 (n + 2) c1) (n + 2) ((encs ((E.map Ent.o).take k)).map bv ++ [bv x, bv y]) rfl (by exact own_below HO1'.out (by (repeat (first | exact Below.refl _ _ | exact Nat.le_refl _ | (refine below_ext ?_ (by first | (simp [size_ext, grow]; done) | (simp [size_ext, grow]; omega) | omega) _ _) | (refine Below.setCell ?_ (by first | (simp [size_ext, grow]; done) | (simp [size_ext, grow]; omega) | omega) _) | (refine Below.alloc ?_ (by first | (simp [size_ext, grow]; done) | (simp [size_ext, grow]; omega) | omega) _) | refine Below.drew ?_ | refine below_drewN ?_ _ | (refine Below.trans ?_ (Below.mono (by assumption) (by first | (simp [size_ext, grow]; done) | (simp [size_ext, grow]; omega) | omega))))))) B a d.length c2 (d.map bv) rfl (by simp) (by omega) (by have hq := HB1.out; have hqs := hq.size; have hqb := HB.out; exact HDW.out.keep (by (repeat (first | exact Below.refl _ _ | exact Nat.le_refl _ | (refine below_ext ?_ (by first | (simp [size_ext, grow]; done) | (simp [size_ext, grow]; omega) | omega) _ _) | (refine Below.setCell ?_ (by first | (simp [size_ext, grow]; done) | (simp [size_ext, grow]; omega) | omega) _) | (refine Below.alloc ?_ (by first | (simp [size_ext, grow]; done) | (simp [size_ext, grow]; omega) | omega) _) | refine Below.drew ?_ | refine below_drewN ?_ _ | (refine Below.trans ?_ (Below.mono (by assumption) (by first | (simp [size_ext, grow]; done) | (simp [size_ext, grow]; omega) | omega))))))) (bv_all _) (by have := HB1.out; (repeat (first | exact Below.refl _ _ | exact Nat.le_refl _ | (refine below_ext ?_ (by first | (simp [size_ext, grow]; done) | (simp [size_ext, grow]; omega) | omega) _ _) | (refine Below.setCell ?_ (by first | (simp [size_ext, grow]; done) | (simp [size_ext, grow]; omega) | omega) _) | (refine Below.alloc ?_ (by first | (simp [size_ext, grow]; done) | (simp [size_ext, grow]; omega) | omega) _) | refine Below.drew ?_ | refine below_drewN ?_ _ | (refine Below.trans ?_ (Below.mono (by assumption) (by first | (simp [size_ext, grow]; done) | (simp [size_ext, grow]; omega) | omega)))))) ?_); intro A3 c3 w3 ho3 hc3 hb3 hg3; have HT3 := Lib.hid (show w3.heap[T]? = some (.cells #[.int .i64 (x.toNat : Int), .slice a d.length c2] 36 (0, 0)) from (hg3.block T (by exact lt_of_block HT1.out) (fun e => HTN.out T e.symm rfl)).trans (by exact HT1.out)); have q0 : w3.cell? ⟨T, 0, none⟩ = some (.int .i64 (x.toNat : Int)) := (cell_of_row w3 T 0 _ _ (0, 0) HT3.out).trans rfl; have q1 : w3.cell? ⟨T, 1, none⟩ = some (.slice a d.length c2) := (cell_of_row w3 T 1 _ _ (0, 0) HT3.out).trans rfl; have HO3 := Lib.hid ho3; have HB3 := Lib.hid hb3; have HC3 := Lib.hid hc3; clear ho3 hc3 hb3 hg3))
          go_wp2_with fail
          go_roundw
          case rel => exact ⟨k + 1, n + 2 + d.length, _, _, by omega, by go_num, rfl, HC3.out, by omega, by rw [encs_take HKL.out, HO1.out, List.length_append, ← HN.out.1]; simp [encO]; omega, all_take HKL.out HN.out.2.1 (by rw [HO1.out]; exact HOK.out), HB3.out, by
            rw [encs_take HKL.out, HO1.out, List.map_append]
            have e : (encO ((x.toNat : Int), d)).map bv = [bv x, bv y] ++ d.map bv := by
              simp only [encO, List.map_cons]
              rw [show UInt8.ofNat (x.toNat : Int).toNat = x from HX2.out, show UInt8.ofNat (d.length + 2) = y from by apply UInt8.toNat.inj; have := HY.out; simp; omega]
              rfl
            rw [e, ← List.append_assoc]
            exact HO3.out⟩
          case measure => simp [intOf]; omega
    · obtain rfl : k = E.length := by omega
      have HT := Lib.hid (show (E.map Ent.o).take E.length = E.map Ent.o from List.take_of_length_le (by simp))
      have HL := Lib.hid (show (E.map Ent.o).all okO = true ∧ n = (encs (E.map Ent.o)).length by have := HN.out; rw [HT.out] at this; exact ⟨this.2.1, this.1⟩)
      have HEN := Lib.hid (show encR (E.map Ent.o) = if 1488 < n then ([], 2) else (encs (E.map Ent.o), 0) by unfold encR; rw [if_neg (by rw [List.length_map]; omega), if_pos HL.out.1, ← HL.out.2])
      by_cases hbig : 1488 < n
      · go_wp2
        go_ret2
        exact ⟨.slice none 0 0, by rw [HEN.out, if_pos hbig]; rfl, HBW.out, by rw [HEN.out, if_pos hbig]; exact own_nil _ _ _ _⟩
      · go_wp2
        go_ret2
        refine ⟨.slice A' n c', by rw [HEN.out, if_neg hbig]; rfl, HBW.out, ?_⟩
        rw [HEN.out, if_neg hbig]
        have := HO.out
        rw [HT.out] at this
        have e := HL.out.2
        simp only
        rw [← e]
        exact this
theorem enc_any (A : Option Addr) (n c : Nat) (E : List Ent) (w : World) (B : Nat) (hB : B ≤ w.heap.size) (hE : OptsAt w B A E) (hn : n = E.length) :
    Calls Try.prog 12 #[.slice A n c] w (EncP w (E.map Ent.o)) := by
  subst hn
  by_cases hl : E.length ≤ 64
  · exact enc_in A c E w B hB hE hl
  · have HR := Lib.hid (show encR (E.map Ent.o) = ([], 3) by unfold encR; rw [if_pos (by rw [List.length_map]; omega)])
    have h : 64 < E.length := by omega
    clear hE hB hl
    go_enter Try.func12, Try.ntmps12
    go_wp2
    go_ret2
    exact ⟨.slice none 0 0, by rw [HR.out]; rfl, Below.refl _ _, by rw [HR.out]; exact own_nil _ _ _ _⟩
end Go.Proofs.Ytbdkapmiioiikaa
