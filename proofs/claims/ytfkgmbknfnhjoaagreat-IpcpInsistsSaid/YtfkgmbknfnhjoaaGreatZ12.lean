/- IpcpInsists: its walk. -/
import Derived.Test.YtfkgmbknfnhjoaaGreatZ11
namespace Go.Proofs.YtfkgmbknfnhjoaaGreat
open Go.RowKit
set_option linter.unusedSimpArgs false
set_option linter.unusedVariables false
set_option linter.ambiguousOpen false
open Ne (Rl Opt RulesAt areB wf64)
open Fs (av hasB)
def mineL (o : Nat) : List UInt8 := [3, 6] ++ putB o 4
def mineS (o : Nat) : ByteArray := ⟨(mineL o).toArray⟩
theorem mineS_eq (o : Nat) : (⟨#[3, 6]⟩ : ByteArray) ++ ⟨(putB o 4).toArray⟩ = mineS o := by
 unfold mineS mineL
 apply ByteArray.ext
 simp
theorem mineL_len (o : Nat) : (mineL o).length = 6 := by unfold mineL; simp [putB_length]
theorem optsO_stays {A C : World} {base X : Nat} {v : Value} {L : List Opt} (h : OptsO A base v L) (hg : A.grownBy C (some X)) (hX : X < base) : OptsO C base v L := by
 obtain ⟨E, hE, he⟩ := h
 exact ⟨E, hE.stays hg (fun r e => by cases e; exact .inl hX), he⟩
def InsI (w : World) (T : Nat) (o : Nat) (peer : Int) (nl : Nat) (i v : Value) (wr : World) : Prop :=
 ∃ (k : Nat) (j t : Int) (A8 An : Option Addr) (c8 nn cn : Nat), k ≤ nl ∧ k ≤ 20 ∧ i = .int .i64 k ∧ v = .slice A8 1 c8 ∧ (0 ≤ j ∧ j ≤ 255) ∧ (1 ≤ t ∧ t ≤ 100) ∧ Below w.heap.size w wr ∧ wr.heap[T]? = some (.cells (npC ⟨6, j, j, askI o, 2, t, 0⟩ (.slice An nn cn) o peer) 60 (0, 0)) ∧ (∃ b, OptsO wr b (.slice An nn cn) (askI o)) ∧ (∃ b, PksO wr b (.slice A8 1 c8) [⟨1, j, mineL o⟩])
def frI (u : Nat → Value) (s0 s1 s2 s7 s8 s10 s11 : Value) : Act := ⟨#[s0, s1, s2, u 3, u 4, u 5, u 6, s7, s8, u 9, s10, s11, u 12, u 13, u 14, u 15, u 16, u 17, u 18, u 19, u 20, u 21, u 22, u 23, u 24, u 25, u 26, u 27, u 28, u 29, u 30, u 31, u 32, u 33, u 34, u 35, u 36, u 37, u 38, u 39, u 40, u 41, u 42, u 43, u 44, u 45, u 46, u 47, u 48, u 49, u 50, u 51, u 52, u 53, u 54, u 55, u 56, u 57, u 58, u 59, u 60, u 61, u 62, u 63, u 64, u 65, u 66, u 67, u 68, u 69, u 70, u 71, u 72, u 73, u 74, u 75, u 76, u 77, u 78, u 79, u 80, u 81, u 82, u 83, u 84, u 85, u 86, u 87, u 88, u 89, u 90, u 91, u 92, u 93, u 94, u 95, u 96, u 97, u 98, u 99, u 100, u 101, u 102, u 103, u 104, u 105, u 106, u 107, u 108, u 109, u 110, u 111, u 112, u 113, u 114, u 115, u 116, u 117, u 118, u 119, u 120, u 121], []⟩
def InvI (w : World) (T o : Nat) (peer : Int) (nl : Nat) (s0 s1 s2 s10 : Value) (a : Act) (W : World) : Prop := ∃ (u : Nat → Value) (s8 s11 : Value), InsI w T o peer nl s11 s8 W ∧ a = frI u s0 s1 s2 (.pointer (some ⟨T, 0, none⟩)) s8 s10 s11
theorem invI_intro {w W : World} {T o nl : Nat} {peer : Int} {s0 s1 s2 s8 s10 s11 : Value} {a : Act} (h : InsI w T o peer nl s11 s8 W) (ha : a = frI (fun n => a.tmps.getD n undef) s0 s1 s2 (.pointer (some ⟨T, 0, none⟩)) s8 s10 s11) : InvI w T o peer nl s0 s1 s2 s10 a W := ⟨_, _, _, h, ha⟩
set_option maxRecDepth 100000 in
set_option maxHeartbeats 8000000 in
theorem ipcpInsists_walk (o q : Nat) (Al : Option Addr) (nl cl : Nat) (L : List By) (w : World) (ho : o ≤ 4294967295) (hq : q ≤ 4294967295) (hL : BysAt w w.heap.size Al L) (hn : nl = L.length) (hln : (nl : Int) ≤ 9223372036854775807) :
  Calls Tryz.prog 5 #[.int .u32 (o : Int), .int .u32 (q : Int), .slice Al nl cl] w fun x w' => x = .returned (.bool true) ∧ Below w.heap.size w w' := by
 have HL := Lib.hid hL
 have HN := Lib.hid hn
 clear hL hn
 by_cases ho0 : o = 0
 ·subst ho0
  go_enter Tryz.func5, Tryz.ntmps5
  go_wp2_with fail
  refine (awake18_any _).mono ?_
  rintro x W1 ⟨rfl, hb⟩
  go_wp2_with fail
  go_ret
  exact ⟨rfl, hb⟩
 have ho1 : ((o : Int) == 0) = false := by simpa using ho0
 by_cases hq0 : q = 0
 ·subst hq0
  go_enter Tryz.func5, Tryz.ntmps5
  go_wp2_with fail
  refine (awake18_any _).mono ?_
  rintro x W1 ⟨rfl, hb⟩
  go_wp2_with fail
  go_ret
  exact ⟨rfl, hb⟩
 have hq1 : ((q : Int) == 0) = false := by simpa using hq0
 have H1 := Lib.hid (show inB (o : Int) 1 4294967295 = true by simp [inB]; omega)
 have H2 := Lib.hid (show inB (q : Int) 1 4294967295 = true by simp [inB]; omega)
 have hw1 : IntKind.i64.wrap (o : Int) = (o : Int) := IntWalk.i64_in _ (by omega)
 have hw2 : IntKind.i64.wrap (q : Int) = (q : Int) := IntWalk.i64_in _ (by omega)
 have hw3 : IntKind.u64.wrap (o : Int) = (o : Int) := IntWalk.u64_in _ (by omega)
 have HWF := Lib.hid (show wf64 (q : Int) by unfold wf64; omega)
 go_enter Tryz.func5, Tryz.ntmps5
 go_wp2_with fail
 refine (conf_any _).mono ?_
 rintro x W1 ⟨rfl, hb1⟩
 go_wp2_with fail
 refine (up_any o q W1 H1.out H2.out).mono ?_
 unfold UpP
 rintro x W2 ⟨va, vo, rfl, hb2, ho', hp'⟩
 obtain ⟨A2, n2, c2, rfl⟩ := ho'.form'
 obtain ⟨A3, n3, c3, rfl⟩ := hp'.form'
 unfold npV upA
 dsimp only
 have hs1 := hb1.size
 have hb := hb1.trans (hb2.mono hs1)
 have hs2 := hb.size
 go_upto_region 4 with (fail)
 obtain ⟨T, hT⟩ : ∃ T, T = W2.heap.size := ⟨_, rfl⟩
 rw [← hT]
 refine wp_w (fun W => W.heap[T]? = some (.cells (npC ⟨6, 1, 1, askI o, 2, 5, 0⟩ (.slice A2 n2 c2) o q) 60 (0, 0)) ∧ Below w.heap.size w W ∧ (∃ b, OptsO W b (.slice A2 n2 c2) (askI o)) ∧ (∃ b, PksO W b (.slice A3 n3 c3) [⟨1, 1, mineL o⟩])) ⟨by rw [hT]; exact heap_alloc_new _ _, by exact Below.alloc hb hs2 _, ⟨_, ho'.blw ((Below.refl _ _).alloc (Nat.le_refl _) _)⟩, ⟨_, hp'.blw ((Below.refl _ _).alloc (Nat.le_refl _) _)⟩⟩ ?_
 clear hb1 hb2 hb ho' hp' hs1
 rintro W3 ⟨ht, hb, hoo, hpp⟩
 have hTw : w.heap.size ≤ T := by omega
 clear hT hs2
 obtain ⟨bp, hpp⟩ := hpp
 obtain ⟨rfl, -⟩ := pks_one hpp
 obtain ⟨bo, hoo⟩ := hoo
 have HT3 := Lib.hid ht
 have HB3 := Lib.hid hb
 have HO3 := Lib.hid hoo
 have HP3 := Lib.hid hpp
 have hs3 := hb.size
 have lT3 := lt_blk ht
 clear ht hb hoo hpp
 go_wp2_with fail
 refine (awake18_any _).mono ?_
 rintro x W4 ⟨rfl, hb⟩
 have HT4 := Lib.hid ((hb.block _ lT3).trans HT3.out)
 have HB4 := Lib.hid (HB3.out.trans (hb.mono hs3))
 have HO4 := Lib.hid (HO3.out.blw hb)
 have HP4 := Lib.hid (HP3.out.blw hb)
 have hs4 := HB4.out.size
 have lT4 := lt_blk HT4.out
 clear hb
 go_wp2_with fail
 refine (rput_yes o 4 _ (by omega) (by omega) (by omega)).mono ?_
 unfold PutP
 rintro x W5 ⟨v5, rfl, hb, ho5⟩
 obtain ⟨A5, c5, rfl, -, -⟩ := ownsRow_form ho5
 have q1 : (convert 30 9 (.slice A5 4 c5)).run Tryz.prog W5 = .ok (.string ⟨(putB o 4).toArray⟩) W5 := run_str Tryz.underlying30 Tryz.underlying5 Tryz.underlying9 (l := putB o 4) (putB_length o 4).symm (At.of_own ho5)
 have HT5 := Lib.hid ((hb.block _ lT4).trans HT4.out)
 have HB5 := Lib.hid (HB4.out.trans (hb.mono hs4))
 have HO5 := Lib.hid (HO4.out.blw hb)
 have HP5 := Lib.hid (HP4.out.blw hb)
 have hs5 := HB5.out.size
 clear hb ho5
 have hms := mineS_eq o
 go_upto_region 7 with (fail)
 clear q1
 clear hms
 have HNT := Lib.hid hTw
 go_wp2_with fail
 refine wp_loop (InvI w T o q nl (.int .u32 (o : Int)) (.int .u32 (q : Int)) (.slice Al nl cl) (.string (mineS o))) (fun a _ => nl - (intOf (a.tmps.getD 11 undef)).toNat) (invI_intro ⟨0, 1, 5, A3, A2, c3, n2, c2, Nat.zero_le _, by omega, rfl, rfl, by omega, by omega, HB5.out, HT5.out, ⟨_, HO5.out⟩, ⟨_, HP5.out⟩⟩ (by kernel_rfl)) ?_
 clear lT3 lT4 hs3 hs4 hs5
 rintro a0 wr ⟨u, s8, s11, hrel, rfl⟩
 unfold frI
 obtain ⟨k, j, t, A8, An, c8, nn, cn, hk, hk2, rfl, rfl, hj, ht, hb, hrow, ⟨bo, hoo⟩, bp, hpp⟩ := hrel
 obtain ⟨-, g, og, ag, kg, rfl, hg, x0, x1, x2, hx, hkg⟩ := pks_one hpp
 have HB := Lib.hid hb
 have HT := Lib.hid hrow
 have lT := lt_blk hrow
 have hsr := hb.size
 obtain ⟨E, hE, hnn, hcc, he⟩ := hoo.opened
 have HE := Lib.hid hE
 have HNN := Lib.hid hnn
 have HEE := Lib.hid he
 have HEN := Lib.hid (askI_ents he)
 have hn1 : nn ≤ 1000000 := by have := HEN.out.1; have := HNN.out; omega
 have HPP := Lib.hid hpp
 clear hb hrow hoo hpp hE hnn hcc he hx hkg x0 x2
 by_cases hlt : k < nl
 ·by_cases h20 : k < 20
  ·have HK := Lib.hid (show k < L.length by have := HN.out; omega)
   obtain ⟨b, ob, rfl, hbB, hrow⟩ := (HL.out.keep HB.out).get HK.out
   obtain ⟨⟨a, d, c⟩, hx0⟩ : ∃ x, L[k]'HK.out = x := ⟨_, rfl⟩
   rw [hx0] at hrow
   clear hx0
   obtain ⟨r0, r1, r2, r3⟩ := hrow
   dsimp only at r0 r1 r2 r3
   have ha : Option.map (fun x : Addr => x.add 0) a = a := by cases a <;> simp [Addr.add]
   obtain ⟨m, hm⟩ : ∃ m, min d.length 60 = m := ⟨_, rfl⟩
   have HAT := Lib.hid (show At wr w.heap.size a ((d.take m).map bv) by rw [List.map_take]; exact r1.take m)
   have hml : m = (d.take m).length := by rw [List.length_take]; omega
   have hm60 : m ≤ 60 := by omega
   have hmc : m ≤ c := by omega
   have HML := Lib.hid hml
   have HM := Lib.hid hm
   have kk0 : (0 : Int) ≤ (k : Int) := by omega
   have kk1 : (k : Int) < (nl : Int) := by omega
   have kk2 : (k : Int) < 20 := by omega
   have hbr : b < wr.heap.size := by omega
   clear r1 hml hm
   go_upto_if 65 with (fail)
   go_cut [12] (fun s12 wx => s12 = .slice a m c ∧ wx = wr)
   case first =>
    by_cases h60 : 60 < d.length
    ·have hi : (60 : Int) < (d.length : Int) := by omega
     obtain rfl : 60 = m := by have := HM.out; omega
     go_wp2_with fail
     go_meet
     exact ⟨rfl, rfl⟩
    ·have hi : ¬ (60 : Int) < (d.length : Int) := by omega
     have hi2 : decide ((60 : Int) < (d.length : Int)) = false := by simp; omega
     obtain rfl : d.length = m := by have := HM.out; omega
     go_wp2_with fail
     go_meet
     exact ⟨rfl, rfl⟩
   case rest =>
    obtain ⟨rfl, hwx⟩ := hcut
    subst hwx
    have HPK := Lib.hid (nak_now (b := d.take m) H1.out H2.out hj ht (show (0 : Int) ≤ (k : Int) ∧ (k : Int) ≤ 100 by omega) (by have := HML.out; omega))
    obtain ⟨t0, t1, t2, t3, t4, t5, t6, t7, t8⟩ := cells9 (show wc.heap[T]? = some (.cells #[.int .i64 6, .int .i64 j, .int .i64 j, .slice An nn cn, .int .i64 2, .int .i64 t, .int .i64 0, .int .i64 o, .int .i64 q] 60 (0, 0)) from HT.out)
    have HSR := Lib.hid (show ∀ w' : World, Below wc.heap.size wc w' → (w'.cell? ⟨T, 0, none⟩ = some (.int .i64 6) ∧ w'.cell? ⟨T, 1, none⟩ = some (.int .i64 j) ∧ w'.cell? ⟨T, 2, none⟩ = some (.int .i64 j) ∧ w'.cell? ⟨T, 3, none⟩ = some (.slice An nn cn) ∧ w'.cell? ⟨T, 4, none⟩ = some (.int .i64 2) ∧ w'.cell? ⟨T, 5, none⟩ = some (.int .i64 t) ∧ w'.cell? ⟨T, 6, none⟩ = some (.int .i64 0) ∧ w'.cell? ⟨T, 7, none⟩ = some (.int .i64 o) ∧ w'.cell? ⟨T, 8, none⟩ = some (.int .i64 q) ∧ w'.cell? ⟨g, og + 1, none⟩ = some (.int .i64 j)) from fun w' hb => ⟨(hb.cell (p := ⟨T, _, none⟩) lT).trans t0, (hb.cell (p := ⟨T, _, none⟩) lT).trans t1, (hb.cell (p := ⟨T, _, none⟩) lT).trans t2, (hb.cell (p := ⟨T, _, none⟩) lT).trans t3, (hb.cell (p := ⟨T, _, none⟩) lT).trans t4, (hb.cell (p := ⟨T, _, none⟩) lT).trans t5, (hb.cell (p := ⟨T, _, none⟩) lT).trans t6, (hb.cell (p := ⟨T, _, none⟩) lT).trans t7, (hb.cell (p := ⟨T, _, none⟩) lT).trans t8, (hb.cell (p := ⟨g, _, none⟩) hg).trans x1⟩)
    go_upto_region 13 with (fail)
    go_cut [13, 14, 15] (fun s13 s14 s15 wx => ∃ (P : Nat) (A4 A5 A6 : Option Addr) (n4 c4 n5 c5 n6 c6 : Nat) (W : World), W = wx ∧ s13 = .pointer (some ⟨P, 0, none⟩) ∧ s14 = .slice A5 n5 c5 ∧ s15 = .slice A6 n6 c6 ∧ W.heap[P]? = some (.cells (npC ⟨6, nxt j, nxt j, askI o, 2, (k : Int) + 5, 0⟩ (.slice A4 n4 c4) o q) 60 (0, 0)) ∧ (∃ base, PksO W base (.slice A5 n5 c5) [⟨1, nxt j, mineL o⟩]) ∧ (∃ base, OptsO W base (.slice A4 n4 c4) (askI o)) ∧ Below wc.heap.size wc W ∧ wc.heap.size ≤ P)
    case first =>
     go_region_held3 (fun w' => w'.cell? ⟨T, 0, none⟩ = some (.int .i64 6) ∧ w'.cell? ⟨T, 1, none⟩ = some (.int .i64 j) ∧ w'.cell? ⟨T, 2, none⟩ = some (.int .i64 j) ∧ w'.cell? ⟨T, 3, none⟩ = some (.slice An nn cn) ∧ w'.cell? ⟨T, 4, none⟩ = some (.int .i64 2) ∧ w'.cell? ⟨T, 5, none⟩ = some (.int .i64 t) ∧ w'.cell? ⟨T, 6, none⟩ = some (.int .i64 0) ∧ w'.cell? ⟨T, 7, none⟩ = some (.int .i64 o) ∧ w'.cell? ⟨T, 8, none⟩ = some (.int .i64 q) ∧ w'.cell? ⟨g, og + 1, none⟩ = some (.int .i64 j)) (exact HSR.out _ (by exact bel)) (first | ((go_at_call 28; go_must (refine (conf_any _).mono ?_); rintro e w5 ⟨rfl, hb5⟩; obtain ⟨xs5, d5, rfl⟩ := ext_of hb5; clear hb5)) | ((go_at_call 30; go_must (refine (ipack_any 1492 3 2 4 5 0 1 6 j j 2 t 0 o q An nn cn (k : Int) a m c 3 j (d.take m) E (askI o) HEE.out _ wc.heap.size (by first | exact Nat.le_refl _ | (simp [size_ext, grow]; done) | (simp [size_ext, grow]; omega)) (by exact HE.out.keep (by exact bel)) HNN.out hn1 (fun e he => by have := HEN.out.2 e he; omega) HWF.out (by exact (HAT.out.more hsr).keep (by exact bel)) HML.out hmc (by omega)).mono ?_); rw [HPK.out]; unfold IDoP npV; (try dsimp only); rintro e w6 ⟨va6, vo6, vd6, rfl, hb6, hO, hP, hA⟩; obtain ⟨A4, n4, c4, rfl⟩ := hO.form'; obtain ⟨A5, n5, c5, rfl⟩ := hP.form'; obtain ⟨A6, n6, c6, rfl⟩ := hA.form'; obtain ⟨xs6, d6, rfl⟩ := ext_of hb6; have HP6 := Lib.hid hP; have HO6 := Lib.hid hO; clear hb6 hO hA hP)))
     all_goals
      go_wp2_with fail
      go_meet
      refine ⟨_, A4, A5, A6, n4, c4, n5, c5, n6, c6, _, rfl, rfl, rfl, rfl, ?_, ?_, ?_, by exact bel, ?_⟩
      ·unfold npC
       dsimp only
       repeat (first | (with_reducible refine heap_alloc_at _ _ _ ?_; ((first | (simp [size_ext, grow]; done) | (simp [size_ext, grow]; omega)))) | (with_reducible refine (heap_ext _ _ _ _ ?_).trans ?_; (focus ((first | (simp [size_ext, grow]; done) | (simp [size_ext, grow]; omega))))) | (with_reducible refine (heap_alloc_past _ _ _ ?_).trans ?_; (focus ((first | (simp [size_ext, grow]; done) | (simp [size_ext, grow]; omega))))))
      ·have h5 := HP6.out
       first
        | exact ⟨_, h5.blw (Below.alloc (Below.refl _ _) (Nat.le_refl _) _)⟩
        | (apply Exists.intro; refine PksO.stays (X := ?_) h5 ?_ ?_; rotate_left; (repeat (first | with_reducible exact alloc_swap _ _ _ | with_reducible refine grown_exts ?_ (by simp [size_ext, grow]) | with_reducible refine grown_allocs ?_ (by simp [size_ext, grow]))); all_goals (try (first | (simp [size_ext, grow]; done) | (simp [size_ext, grow]; omega) | omega)))
      ·have h5 := HO6.out
       first
        | exact ⟨_, h5.blw (Below.alloc (Below.refl _ _) (Nat.le_refl _) _)⟩
        | (apply Exists.intro; refine optsO_stays (X := ?_) h5 ?_ ?_; rotate_left; (repeat (first | with_reducible exact alloc_swap _ _ _ | with_reducible refine grown_exts ?_ (by simp [size_ext, grow]) | with_reducible refine grown_allocs ?_ (by simp [size_ext, grow]))); all_goals (try (first | (simp [size_ext, grow]; done) | (simp [size_ext, grow]; omega) | omega)))
      ·first | exact Nat.le_refl _ | (simp [size_ext, grow]; done) | (simp [size_ext, grow]; omega)
    case rest =>
     obtain ⟨P, A4, A5, A6, n4, c4, n5, c5, n6, c6, W4, rfl, rfl, rfl, rfl, hr, ⟨bp, hp⟩, ⟨bo, hoo⟩, hb, hP⟩ := hcut
     obtain ⟨rfl, g2, o2, a2, k2, rfl, hg2, y0, y1, y2, hy, hk2⟩ := pks_one hp
     obtain ⟨-, g1, o1, a1, k1, he1, hg1, z0, z1, z2, -, -⟩ := pks_one (HPP.out.blw hb)
     cases he1
     dsimp only at y0 y1 y2 hy z1
     have q2 : ∀ n, (convert 30 9 (.slice a2 (mineL o).length k2)).run Tryz.prog (W4.drewN n) = .ok (.string (mineS o)) (W4.drewN n) := fun n => run_str (w := W4.drewN n) Tryz.underlying30 Tryz.underlying5 Tryz.underlying9 (l := mineL o) rfl hy
     rw [mineL_len] at y2 q2
     have HT4 := Lib.hid ((hb.block _ lT).trans HT.out)
     have HP4 := Lib.hid hp
     have HO4 := Lib.hid hoo
     have HB4 := Lib.hid (HB.out.trans (hb.mono hsr))
     have HR4 := Lib.hid hr
     have lT4 := lt_blk HT4.out
     have lP4 := lt_blk hr
     have nTP : T ≠ P := by omega
     obtain ⟨p0, p1, p2, p3, p4, p5, p6, p7, p8⟩ := cells9 (show W4.heap[P]? = some (.cells #[.int .i64 6, .int .i64 (nxt j), .int .i64 (nxt j), .slice A4 n4 c4, .int .i64 2, .int .i64 ((k : Int) + 5), .int .i64 0, .int .i64 o, .int .i64 q] 60 (0, 0)) from hr)
     have hwj : IntKind.i64.wrap (j + 1) = j + 1 := IntWalk.i64_in _ (by omega)
     have hnj := nxt_in j
     have hrj : (j + 1).tmod 256 = nxt j := by rw [Int.tmod_eq_emod_of_nonneg (by omega)]; rfl
     have hwn : IntKind.i64.wrap (nxt j) = nxt j := IntWalk.i64_in _ (by omega)
     clear hp hoo hb hr hy t0 t1 t2 t3 t4 t5 t6 t7 t8 x1 z0 z2 p1 p2 p3 p4 p5 p6 p7 p8
     go_wp2_with fail
     go_quiet (fail)
     generalize hW5 : World.drewN _ _ = W5
     have hb5 : Below W4.heap.size W4 W5 := by rw [← hW5]; exact below_drewN (Below.refl _ _) _
     clear hW5 q2 p0 y0 y1 y2 z1 hwj hrj hwn
     have HT5 := Lib.hid ((hb5.block _ lT4).trans HT4.out)
     have HR5 := Lib.hid ((hb5.block _ lP4).trans HR4.out)
     have HP5 := Lib.hid (HP4.out.blw hb5)
     have HO5 := Lib.hid (HO4.out.blw hb5)
     have HB5 := Lib.hid (HB4.out.trans (hb5.mono HB4.out.size))
     have hs5 := HB5.out.size
     have lT5 := lt_blk HT5.out
     have lP5 := lt_blk HR5.out
     obtain ⟨p0, p1, p2, p3, p4, p5, p6, p7, p8⟩ := cells9 (show W5.heap[P]? = some (.cells #[.int .i64 6, .int .i64 (nxt j), .int .i64 (nxt j), .slice A4 n4 c4, .int .i64 2, .int .i64 ((k : Int) + 5), .int .i64 0, .int .i64 o, .int .i64 q] 60 (0, 0)) from HR5.out)
     obtain ⟨t0, t1, t2, t3, t4, t5, t6, t7, t8⟩ := cells9 (show W5.heap[T]? = some (.cells #[.int .i64 6, .int .i64 j, .int .i64 j, .slice An nn cn, .int .i64 2, .int .i64 t, .int .i64 0, .int .i64 o, .int .i64 q] 60 (0, 0)) from HT5.out)
     have ft := frees HT5.out
     have hwk : IntKind.i64.wrap ((k : Int) + 1) = (k : Int) + 1 := IntWalk.i64_in _ (by omega)
     clear hb5
     go_wp2_with fail
     generalize hWf : World.setCell _ _ _ = Wf
     have hst : set9i W5 T ⟨6, nxt j, nxt j, askI o, 2, (k : Int) + 5, 0⟩ (.slice A4 n4 c4) o q = Wf := hWf
     have hg := set9i_grown W5 T ⟨6, nxt j, nxt j, askI o, 2, (k : Int) + 5, 0⟩ (.slice A4 n4 c4) o q
     have hrow := set9i_row HT5.out rfl ⟨6, nxt j, nxt j, askI o, 2, (k : Int) + 5, 0⟩ (.slice A4 n4 c4) o q
     rw [hst] at hg hrow
     refine ⟨invI_intro (s11 := .int .i64 ((k : Int) + 1)) (s8 := .slice (some ⟨g2, o2, none⟩) 1 c5) ?_ (by kernel_rfl), by simp [intOf]; omega⟩
     exact ⟨k + 1, nxt j, (k : Int) + 5, some ⟨g2, o2, none⟩, A4, c5, n4, c4, by omega, by omega, by go_num, rfl, nxt_in j, by omega, Below.grown HB5.out hg hs5 (fun y hy => by cases hy; exact hTw), hrow, ⟨_, HO5.out.oth hg HT5.out (by decide) (by decide)⟩, ⟨_, HP5.out.oth hg HT5.out (by decide) (by decide)⟩⟩
  ·obtain rfl : k = 20 := by omega
   have hkk : decide ((20 : Int) < (nl : Int)) = true := by simp; omega
   go_wp2_with fail
   go_ret
   exact ⟨rfl, HB.out⟩
 ·obtain rfl : nl = k := by omega
  go_wp2_with fail
  go_ret
  exact ⟨rfl, HB.out⟩
end Go.Proofs.YtfkgmbknfnhjoaaGreat
