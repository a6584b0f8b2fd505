/- slices.Clone of bytes; the iterator's maker. -/
import Derived.Test.YtbdkapmiioiikaaH0
import Derived.StillTailTactics
import Derived.OneCell
namespace Go.Proofs.Ytbdkapmiioiikaa
open Go.RowKit
set_option linter.unusedSimpArgs false
set_option linter.unusedVariables false
theorem clone_any (A : Option Addr) (n c : Nat) (l : List UInt8) (w : World) (B : Nat) (hB : B ≤ w.heap.size) (hA : At w B A (l.map bv)) (hn : n = l.length) (hl : n ≤ 400000000) (hc : n ≤ c) :
    Calls Try.prog 31 #[.slice A n c] w fun x w' => ∃ v, x = .returned v ∧ Below w.heap.size w w' ∧ w'.ownsRow w.heap.size 5 1 v n (l.map bv) := by
  have HA := Lib.hid (hA.more hB)
  have HL := Lib.hid hn
  clear hB hn
  cases A with
  | none =>
    have hl0 : l = [] := by
      rcases hA with h | ⟨b, o, h, -⟩
      · simpa using h
      · cases h
    subst hl0
    have h0 := HL.out
    simp only [List.length_nil] at h0
    subst h0
    clear hA
    have q : ∀ w : World, (binOp .eql 23 (.slice none 0 c) (.slice none 0 0)).run Try.prog w = .ok (.bool true) w := fun w => Lib.run_eql_slice_nil w 23 5 none 0 c 0 0 Try.underlying23
    go_enter Try.func31, Try.ntmps31
    go_wp2
    go_ret
    exact ⟨_, rfl, Below.refl _ _, own_nil _ _ _ _⟩
  | some a =>
    clear hA
    have q : ∀ w : World, (binOp .eql 23 (.slice (some a) n c) (.slice none 0 0)).run Try.prog w = .ok (.bool false) w := fun w => Lib.run_eql_slice_nil w 23 5 (some a) n c 0 0 Try.underlying23
    go_enter Try.func31, Try.ntmps31
    go_wp2_with (at_builtin; go_loud (refine wpList_dupb w rfl (.tmp 5) (.tmp 6) 23 rfl 5 Try.underlying23 infoU8 _ rfl rfl w.heap.size _ _ _ l rfl HL.out (by omega) HA.out (Nat.le_refl _) ?_); intro v' ys d hown; have HO := Lib.hid hown; clear hown)
    go_ret
    exact ⟨_, rfl, by (repeat (first | exact Below.refl _ _ | exact Nat.le_refl _ | (refine below_ext ?_ (by first | (simp [size_ext, grow]; done) | (simp [size_ext, grow]; omega) | omega) _ _) | (refine Below.setCell ?_ (by first | (simp [size_ext, grow]; done) | (simp [size_ext, grow]; omega) | omega) _) | (refine Below.alloc ?_ (by first | (simp [size_ext, grow]; done) | (simp [size_ext, grow]; omega) | omega) _) | refine Below.drew ?_ | refine below_drewN ?_ _ | (refine Below.trans ?_ (Below.mono (by assumption) (by first | (simp [size_ext, grow]; done) | (simp [size_ext, grow]; omega) | omega))))), HO.out⟩
theorem each_any (A : Option Addr) (n c : Nat) (w : World) : Calls Try.prog 28 #[.slice A n c] w fun x w' => x = .returned (.func (.func 34) #[] #[.pointer (some ⟨w.heap.size, 0, none⟩)]) ∧ w' = w.alloc (.cells #[.slice A n c] 23) := by
  go_enter Try.func28, Try.ntmps28
  go_wp2
  go_ret
  exact ⟨rfl, rfl⟩
/-- One option off the head of bytes. -/
def cutOne : List UInt8 → Option ((Int × List UInt8) × List UInt8)
  | t :: n :: r => if 2 ≤ n.toNat ∧ n.toNat ≤ r.length + 2 then some (((t.toNat : Int), r.take (n.toNat - 2)), r.drop (n.toNat - 2)) else none
  | _ => none
theorem cutOne_cons (t n : UInt8) (r : List UInt8) : cutOne (t :: n :: r) = if 2 ≤ n.toNat ∧ n.toNat ≤ r.length + 2 then some (((t.toNat : Int), r.take (n.toNat - 2)), r.drop (n.toNat - 2)) else none := rfl
/-- What the iterator hands over. -/
def Gives (Bn n0 : Nat) (rest : List UInt8) (args : Array Value) (rest' : List UInt8) (W : World) : Prop :=
  (∃ e : Ent, cutOne rest = some (e.o, rest') ∧ args = #[.agg #[.int .i64 e.t, e.v], .bool true] ∧ W.ownsRow (Bn + 1) 5 1 e.v e.d.length (e.d.map bv)) ∨
  (rest ≠ [] ∧ cutOne rest = none ∧ args = #[.agg #[.int .i64 0, .slice none 0 0], .bool false])
def boxLen (Bn : Nat) (W : World) : Nat := match W.heap[Bn]? with
  | some (Obj.cells cs _ _) => (match cs[0]? with | some (Value.slice _ n _) => n | _ => 0)
  | _ => 0
theorem boxLen_eq {Bn : Nat} {W : World} {A : Option Addr} {n c : Nat} (h : W.heap[Bn]? = some (.cells #[.slice A n c] 23 (0, 0))) : boxLen Bn W = n := by
  unfold boxLen; rw [h]; rfl
theorem At.tail2 {W : World} {B b o : Nat} {x y : UInt8} {r : List UInt8} (h : At W B (some ⟨b, o, none⟩) ((x :: y :: r).map bv)) : At W B (some ⟨b, o + 2, none⟩) (r.map bv) := by
  obtain ⟨b', o', e, hb, hc⟩ := h.get (by simp)
  cases e
  refine .inr ⟨b, o + 2, rfl, hb, fun j u hu => ?_⟩
  have := hc (j + 2) u (by simpa using hu)
  rwa [show o + (j + 2) = o + 2 + j by omega] at this
theorem At.dropx {W : World} {B b o k : Nat} {x y : UInt8} {r : List UInt8} (h : At W B (some ⟨b, o, none⟩) ((x :: y :: r).map bv)) (hk : 2 ≤ k) : At W B (some ⟨b, o + k, none⟩) ((r.drop (k - 2)).map bv) := by
  obtain ⟨b', o', e, hb, hc⟩ := h.get (by simp)
  cases e
  refine .inr ⟨b, o + k, rfl, hb, fun j u hu => ?_⟩
  have := hc (k + j) u (by rw [List.getElem?_map, show k + j = (k - 2 + j) + 1 + 1 by omega]; simpa [List.getElem?_map] using hu)
  rwa [← Nat.add_assoc] at this
theorem grownBy_drewN (W : World) (k : Nat) : W.grownBy (W.drewN k) none := ⟨rfl, rfl, rfl, Nat.le_refl _, fun _ _ _ => rfl⟩
set_option maxRecDepth 100000 in
set_option maxHeartbeats 2000000 in
theorem iter_ok (n Bn n0 B0 B : Nat) (A : Option Addr) (c : Nat) (l : List UInt8) (W : World) (hBn : n0 ≤ Bn) (hB0 : B0 ≤ n0) (hA : At W B0 A (l.map bv)) (hl : l.length ≤ 1500) (hc : l.length ≤ c) (hbox : W.heap[Bn]? = some (.cells #[.slice A l.length c] 23 (0, 0))) :
    IterOk Fence.wide (n + 1) Try.prog 34 #[.pointer (some ⟨Bn, 0, none⟩)] Bn n0 B (Gives Bn n0) (fun r => r = []) l W := by
  intro ll J Jx hJ hY hJ0
  have HY := Lib.hid hY
  have HJ := Lib.hid hJ
  clear hY hJ
  refine callsIn_of_wp Try.func34 rfl trivial ?_ rfl
  simp only [Try.ntmps34, List.size_toArray, List.length_cons, List.length_nil, Nat.reduceAdd, Nat.reduceSub, Array.replicate_succ, Array.replicate_zero, List.push_toArray, List.append_toArray, List.nil_append, List.cons_append]
  refine wpIn_wide.2 ?_
  go_wp2_with fail
  go_loopw [4] (fun _ wr => ∃ (rest : List UInt8) (A' : Option Addr) (c' : Nat), At wr B0 A' (rest.map bv) ∧ rest.length ≤ 1500 ∧ rest.length ≤ c' ∧ wr.heap[Bn]? = some (.cells #[.slice A' rest.length c'] 23 (0, 0)) ∧ J rest wr) (fun _ wr => boxLen Bn wr)
  case atStart => exact ⟨l, A, c, hA, hl, hc, hbox, hJ0⟩
  case round =>
    obtain ⟨rest, A', c', hA', hl', hc', hb', hj⟩ := hrel
    have HM := Lib.hid (boxLen_eq hb')
    have h1 : wr.cell? ⟨Bn, 0, none⟩ = some (.slice A' rest.length c') := cell_of_one hb'
    have HA' := Lib.hid hA'
    have HB' := Lib.hid hb'
    have HJ' := Lib.hid hj
    clear hA' hb' hj hA hbox hJ0
    match rest with
    | [] =>
      go_wp2_with fail
      go_end0
      exact ⟨⟨_, rfl⟩, .inl ⟨[], rfl, HJ'.out⟩⟩
    | [t] =>
      simp only [List.length_cons, List.length_nil, Nat.zero_add] at *
      go_wp2_with fail
      go_quiet (fail)
      go_upto_region 2 with (fail)
      obtain ⟨fn, tmps, assign, body, hy, hR⟩ := HY.out [t] #[.agg #[.int .i64 0, .slice none 0 0], .bool false] [] (wr.drewN nq) (HJ.out _ _ _ none HJ'.out (grownBy_drewN _ _) (fun r e => by cases e)) (.inr ⟨by simp, rfl, rfl⟩)
      have HR := Lib.hid hR
      clear hR
      refine (wpIn_wide (n := n + 1)).1 ?_
      gi_wp2
      refine HR.out.mono ?_
      rintro e W' (⟨rfl, hJ2, hk⟩ | ⟨rfl, hJx⟩)
      · gi_wp2
        go_wp2
        (try simp only [Exit.inBlock, Exit.then])
        refine bodyPost_ret (results_none rfl _ _ _) rfl ?_
        exact ⟨⟨_, rfl⟩, .inl ⟨[], rfl, hJ2⟩⟩
      · gi_wp2
        go_wp2
        (try simp only [Exit.inBlock, Exit.then])
        refine bodyPost_ret (results_none rfl _ _ _) rfl ?_
        exact ⟨⟨_, rfl⟩, .inr hJx⟩
    | t :: m :: r =>
      obtain ⟨b, o, rfl, hbB, hcs⟩ := HA'.out.get (by simp)
      have c0 : wr.cell? ⟨b, o, none⟩ = some (.int .u8 (t.toNat : Int)) := by have := hcs 0 (bv t) (by simp); simpa [bv] using this
      have c1 : wr.cell? ⟨b, o + 1, none⟩ = some (.int .u8 (m.toNat : Int)) := by have := hcs 1 (bv m) (by simp); simpa [bv] using this
      obtain ⟨N, hN⟩ : ∃ N, (t :: m :: r).length = N := ⟨_, rfl⟩
      obtain ⟨x, hx⟩ : ∃ x : Nat, m.toNat = x := ⟨_, rfl⟩
      rw [hN] at h1 hl' hc' HB'
      rw [hx] at c1
      have hN2 : N = r.length + 2 := by rw [← hN]; rfl
      have HN := Lib.hid hN2
      have HX := Lib.hid hx
      have x1 : x < 256 := by rw [← hx]; exact m.toNat_lt
      have x1' : (x : Int) < 256 := by omega
      have l0 : (0 : Int) < (N : Int) := by omega
      have m0 : 0 < N := by omega
      have m1 : 1 < N := by omega
      have l1 : (1 : Int) < (N : Int) := by omega
      have l2 : decide ((N : Int) < 2) = false := by simp; omega
      have i1 : IntKind.i64.wrap (x : Int) = (x : Int) := IntWalk.i64_in _ (by omega)
      clear hN hx hN2 hcs
      by_cases hx2 : x < 2
      · have HNo := Lib.hid (show cutOne (t :: m :: r) = none by rw [cutOne_cons, HX.out, if_neg (by omega)])
        have k1 : decide ((x : Int) < 2) = true := by simp; omega
        have k2 : decide (x < 2) = true := by simp; omega
        go_wp2_with fail
        go_quiet (fail)
        go_upto_region 2 with (fail)
        obtain ⟨fn, tmps, assign, body, hy, hR⟩ := HY.out (t :: m :: r) #[.agg #[.int .i64 0, .slice none 0 0], .bool false] [] (wr.drewN nq) (HJ.out _ _ _ none HJ'.out (grownBy_drewN _ _) (fun r e => by cases e)) (.inr ⟨by simp, HNo.out, rfl⟩)
        have HR := Lib.hid hR
        clear hR
        refine (wpIn_wide (n := n + 1)).1 ?_
        gi_wp2
        refine HR.out.mono ?_
        rintro e W' (⟨rfl, hJ2, hk⟩ | ⟨rfl, hJx⟩)
        · gi_wp2
          go_wp2
          (try simp only [Exit.inBlock, Exit.then])
          refine bodyPost_ret (results_none rfl _ _ _) rfl ?_
          exact ⟨⟨_, rfl⟩, .inl ⟨[], rfl, hJ2⟩⟩
        · gi_wp2
          go_wp2
          (try simp only [Exit.inBlock, Exit.then])
          refine bodyPost_ret (results_none rfl _ _ _) rfl ?_
          exact ⟨⟨_, rfl⟩, .inr hJx⟩
      · have k1 : decide ((x : Int) < 2) = false := by simp; omega
        have k2 : decide (x < 2) = false := by simp; omega
        by_cases hx3 : N < x
        · have HNo := Lib.hid (show cutOne (t :: m :: r) = none by rw [cutOne_cons, HX.out, if_neg (by have := HN.out; omega)])
          have k3 : decide ((N : Int) < (x : Int)) = true := by simp; omega
          have k4 : decide (N < x) = true := by simp; omega
          go_wp2_with fail
          go_quiet (fail)
          go_upto_region 2 with (fail)
          obtain ⟨fn, tmps, assign, body, hy, hR⟩ := HY.out (t :: m :: r) #[.agg #[.int .i64 0, .slice none 0 0], .bool false] [] (wr.drewN nq) (HJ.out _ _ _ none HJ'.out (grownBy_drewN _ _) (fun r e => by cases e)) (.inr ⟨by simp, HNo.out, rfl⟩)
          have HR := Lib.hid hR
          clear hR
          refine (wpIn_wide (n := n + 1)).1 ?_
          gi_wp2
          refine HR.out.mono ?_
          rintro e W' (⟨rfl, hJ2, hk⟩ | ⟨rfl, hJx⟩)
          · gi_wp2
            go_wp2
            (try simp only [Exit.inBlock, Exit.then])
            refine bodyPost_ret (results_none rfl _ _ _) rfl ?_
            exact ⟨⟨_, rfl⟩, .inl ⟨[], rfl, hJ2⟩⟩
          · gi_wp2
            go_wp2
            (try simp only [Exit.inBlock, Exit.then])
            refine bodyPost_ret (results_none rfl _ _ _) rfl ?_
            exact ⟨⟨_, rfl⟩, .inr hJx⟩
        · have k3 : decide ((N : Int) < (x : Int)) = false := by simp; omega
          have k4 : decide (N < x) = false := by simp; omega
          go_wp2_with fail
          go_quiet (fail)
          go_wp2_with fail
          have hBz : Bn < wr.heap.size := (Array.getElem?_eq_some_iff.1 HB'.out).1
          have hbz : b < wr.heap.size := by omega
          have HBZ := Lib.hid (show B0 ≤ wr.heap.size by omega)
          have y2 : (2 : Int) ≤ (x : Int) := by omega
          have y3 : (x : Int) ≤ (N : Int) := by omega
          have y4 : (x : Int) ≤ (c' : Int) := by omega
          have y5 : (0 : Int) ≤ (x : Int) := by omega
          have y6 : (2 : Int) ≤ (c' : Int) := by omega
          have y7 : (N : Int) ≤ (c' : Int) := by omega
          have x2 : 2 ≤ x := by omega
          have x3 : x ≤ N := by omega
          have x4 : x ≤ c' := by omega
          go_cut [3] from 3 to 38 (fun p wq => ∃ (w3 : World) (P : Nat) (A2 : Option Addr) (c2 : Nat), w3 = wq ∧ p = .pointer (some ⟨P, 0, none⟩) ∧ Below wr.heap.size wr w3 ∧ wr.heap.size ≤ P ∧ w3.heap[P]? = some (.cells #[.int .i64 (t.toNat : Int), .slice A2 (x - 2) c2] 36 (0, 0)) ∧ w3.ownsRow (Bn + 1) 5 1 (.slice A2 (x - 2) c2) (x - 2) ((r.take (x - 2)).map bv))
          case first =>
            have t256 : ((t.toNat : Nat) : Int) < 256 := by have := t.toNat_lt; omega
            have i2 : IntKind.i64.wrap (t.toNat : Int) = (t.toNat : Int) := IntWalk.i64_in _ (by omega)
            have HDL := Lib.hid (show x - 2 = (r.take (x - 2)).length by rw [List.length_take]; have := HN.out; omega)
            by_cases hc2 : c' = 2
            · obtain rfl : x = 2 := by omega
              obtain rfl : N = 2 := by omega
              subst hc2
              have hr0 : r = [] := by have := HN.out; exact List.eq_nil_of_length_eq_zero (by omega)
              subst hr0
              go_region_held3 (fun w' => w'.cell? ⟨Bn, 0, none⟩ = some (.slice (some ⟨b, o, none⟩) 2 2) ∧ w'.cell? ⟨b, o, none⟩ = some (.int .u8 (t.toNat : Int)) ∧ w'.cell? ⟨b, o + 1, none⟩ = some (.int .u8 2)) (first | (go_keep; done) | (go_simp; done) | (simp [go_sem]; done)) ((go_at_call 31; go_loud (refine (clone_any (some ⟨b, o, none⟩) 0 0 [] _ 0 (by exact Nat.zero_le _) (by exact At.nil _ _ _) rfl (by decide) (by decide)).mono ?_); rintro e w1 ⟨v, rfl, hb, ho⟩; obtain ⟨xs, d, rfl⟩ := ext_of hb; clear hb; obtain ⟨A2, c2, rfl, -, -⟩ := ownsRow_form ho; have HO := Lib.hid ho; clear ho))
              all_goals
                go_wp2_with fail
                go_meet
                refine ⟨_, _, A2, c2, rfl, rfl, by (repeat (first | exact Below.refl _ _ | exact Nat.le_refl _ | (refine below_ext ?_ (by first | (simp [size_ext, grow]; done) | (simp [size_ext, grow]; omega) | omega) _ _) | (refine Below.setCell ?_ (by first | (simp [size_ext, grow]; done) | (simp [size_ext, grow]; omega) | omega) _) | (refine Below.alloc ?_ (by first | (simp [size_ext, grow]; done) | (simp [size_ext, grow]; omega) | omega) _) | refine Below.drew ?_ | refine below_drewN ?_ _ | (refine Below.trans ?_ (Below.mono (by assumption) (by first | (simp [size_ext, grow]; done) | (simp [size_ext, grow]; omega) | omega))))), by first | (simp [size_ext, grow]; done) | (simp [size_ext, grow]; omega) | omega, by (repeat (first | ((refine heap_alloc_at _ _ _ ?_); (simp [go_sem]; done)) | ((refine (heap_ext _ _ _ _ ?_).trans ?_); (focus (simp [go_sem]; done))) | ((refine (heap_alloc_past _ _ _ ?_).trans ?_); (focus (simp [go_sem]; done))))), ?_⟩
                first | (refine own_base (own_swap HO.out ?_ ?_) ?_ <;> first | (simp; done) | (simp; omega)) | (refine own_base (own_below HO.out ?_) ?_ <;> first | ((repeat (first | exact Below.refl _ _ | exact Nat.le_refl _ | (refine below_ext ?_ (by first | (simp [size_ext, grow]; done) | (simp [size_ext, grow]; omega) | omega) _ _) | (refine Below.setCell ?_ (by first | (simp [size_ext, grow]; done) | (simp [size_ext, grow]; omega) | omega) _) | (refine Below.alloc ?_ (by first | (simp [size_ext, grow]; done) | (simp [size_ext, grow]; omega) | omega) _) | refine Below.drew ?_ | refine below_drewN ?_ _ | (refine Below.trans ?_ (Below.mono (by assumption) (by first | (simp [size_ext, grow]; done) | (simp [size_ext, grow]; omega) | omega))))); done) | (simp; done) | (simp; omega))
            · have c3 : 2 < c' := by omega
              have HD := Lib.hid (show At wr B0 (some ⟨b, o + 2, none⟩) ((r.take (x - 2)).map bv) by rw [List.map_take]; exact (At.tail2 HA'.out).take _)
              go_region_held3 (fun w' => w'.cell? ⟨Bn, 0, none⟩ = some (.slice (some ⟨b, o, none⟩) N c') ∧ w'.cell? ⟨b, o, none⟩ = some (.int .u8 (t.toNat : Int)) ∧ w'.cell? ⟨b, o + 1, none⟩ = some (.int .u8 (x : Int))) (first | (go_keep; done) | (go_simp; done) | (simp [go_sem]; done)) ((go_at_call 31; go_loud (refine (clone_any (some ⟨b, o + 2, none⟩) (x - 2) (c' - 2) (r.take (x - 2)) _ B0 (by have hz := HBZ.out; first | exact hz | (simp; omega)) (by have hz := HBZ.out; exact HD.out.keep (by (repeat (first | exact Below.refl _ _ | exact Nat.le_refl _ | (refine below_ext ?_ (by first | (simp [size_ext, grow]; done) | (simp [size_ext, grow]; omega) | omega) _ _) | (refine Below.setCell ?_ (by first | (simp [size_ext, grow]; done) | (simp [size_ext, grow]; omega) | omega) _) | (refine Below.alloc ?_ (by first | (simp [size_ext, grow]; done) | (simp [size_ext, grow]; omega) | omega) _) | refine Below.drew ?_ | refine below_drewN ?_ _ | (refine Below.trans ?_ (Below.mono (by assumption) (by first | (simp [size_ext, grow]; done) | (simp [size_ext, grow]; omega) | omega))))))) HDL.out (by omega) (by omega)).mono ?_); rintro e w1 ⟨v, rfl, hb, ho⟩; obtain ⟨xs, d, rfl⟩ := ext_of hb; clear hb; obtain ⟨A2, c2, rfl, -, -⟩ := ownsRow_form ho; have HO := Lib.hid ho; clear ho))
              all_goals
                go_wp2_with fail
                go_meet
                refine ⟨_, _, A2, c2, rfl, rfl, by (repeat (first | exact Below.refl _ _ | exact Nat.le_refl _ | (refine below_ext ?_ (by first | (simp [size_ext, grow]; done) | (simp [size_ext, grow]; omega) | omega) _ _) | (refine Below.setCell ?_ (by first | (simp [size_ext, grow]; done) | (simp [size_ext, grow]; omega) | omega) _) | (refine Below.alloc ?_ (by first | (simp [size_ext, grow]; done) | (simp [size_ext, grow]; omega) | omega) _) | refine Below.drew ?_ | refine below_drewN ?_ _ | (refine Below.trans ?_ (Below.mono (by assumption) (by first | (simp [size_ext, grow]; done) | (simp [size_ext, grow]; omega) | omega))))), by first | (simp [size_ext, grow]; done) | (simp [size_ext, grow]; omega) | omega, by (repeat (first | ((refine heap_alloc_at _ _ _ ?_); (simp [go_sem]; done)) | ((refine (heap_ext _ _ _ _ ?_).trans ?_); (focus (simp [go_sem]; done))) | ((refine (heap_alloc_past _ _ _ ?_).trans ?_); (focus (simp [go_sem]; done))))), ?_⟩
                first | (refine own_base (own_swap HO.out ?_ ?_) ?_ <;> first | (simp; done) | (simp; omega)) | (refine own_base (own_below HO.out ?_) ?_ <;> first | ((repeat (first | exact Below.refl _ _ | exact Nat.le_refl _ | (refine below_ext ?_ (by first | (simp [size_ext, grow]; done) | (simp [size_ext, grow]; omega) | omega) _ _) | (refine Below.setCell ?_ (by first | (simp [size_ext, grow]; done) | (simp [size_ext, grow]; omega) | omega) _) | (refine Below.alloc ?_ (by first | (simp [size_ext, grow]; done) | (simp [size_ext, grow]; omega) | omega) _) | refine Below.drew ?_ | refine below_drewN ?_ _ | (refine Below.trans ?_ (Below.mono (by assumption) (by first | (simp [size_ext, grow]; done) | (simp [size_ext, grow]; omega) | omega))))); done) | (simp; done) | (simp; omega))
          case rest =>
            obtain ⟨w3, P, A2, c2, rfl, rfl, hb3, hP, hp3, ho3⟩ := hcut
            have HP3 := Lib.hid hp3
            have HO3 := Lib.hid ho3
            have HB3 := Lib.hid hb3
            have HPP := Lib.hid hP
            have g1 : w3.cell? ⟨Bn, 0, none⟩ = some (.slice (some ⟨b, o, none⟩) N c') := (hb3.cell (p := ⟨Bn, 0, none⟩) hBz).trans h1
            have gf : w3.frozen? ⟨Bn, 0, none⟩ = false := free_of_one ((hb3.block Bn hBz).trans HB'.out)
            have g2 : w3.cell? ⟨b, o + 1, none⟩ = some (.int .u8 (x : Int)) := (hb3.cell (p := ⟨b, o + 1, none⟩) hbz).trans c1
            have HXX := Lib.hid (show boxLen Bn wr = N from HM.out.trans (by have := HN.out; simp; omega))
            clear h1 c0 c1 hp3 ho3 hb3 hP l2 k1 k2 k3 k4
            by_cases hcx : c' = x
            · obtain rfl : N = x := by omega
              subst hcx
              go_wp2_with fail
              go_still_tail 5, (by kernel_rfl)
              go_upto_region 5 with (fail)
              have hx0 : r.drop (c' - 2) = [] := by rw [List.drop_eq_nil_iff]; have := HN.out; omega
              have hAd : At wr B0 (some ⟨b, o, none⟩) ((r.drop (c' - 2)).map bv) := by rw [hx0]; exact At.nil _ _ _
              obtain ⟨w5, hw5⟩ : ∃ w5, w5 = (w3.setCell ⟨Bn, 0, none⟩ (.slice (some ⟨b, o, none⟩) (0) (0))).drew := ⟨_, rfl⟩
              rw [← hw5]
              have hne : P ≠ Bn := by have := HPP.out; omega
              have hp5 : w5.heap[P]? = some (.cells #[.int .i64 (t.toNat : Int), .slice A2 (c' - 2) c2] 36 (0, 0)) := by rw [hw5]; exact (Below.heap_setCell w3 ⟨Bn, 0, none⟩ _ P hne).trans HP3.out
              have p0 : w5.cell? ⟨P, 0, none⟩ = some (.int .i64 (t.toNat : Int)) := by rw [cell_of_row w5 P 0 _ _ (0, 0) hp5]; rfl
              have p1 : w5.cell? ⟨P, 1, none⟩ = some (.slice A2 (c' - 2) c2) := by rw [cell_of_row w5 P 1 _ _ (0, 0) hp5]; rfl
              have hb5 : w5.heap[Bn]? = some (.cells #[.slice (some ⟨b, o, none⟩) (0) (0)] 23 (0, 0)) := by rw [hw5]; exact one_setCell ((HB3.out.block Bn hBz).trans HB'.out)
              have hgr : wr.grownBy w5 (some Bn) := by
                have h3 := HB3.out
                rw [hw5]
                exact ⟨h3.os, h3.tape, h3.output, by have := h3.size; simpa using this, fun k hk hkn => (Below.heap_setCell w3 ⟨Bn, 0, none⟩ _ k (fun e => hkn (by rw [e]))).trans (h3.block k hk)⟩
              have hB5 : Below n0 wr w5 := by
                rw [hw5]
                exact (((HB3.out.mono (by omega)).setCell (p := ⟨Bn, 0, none⟩) hBn _)).drew
              have ho5 : w5.ownsRow (Bn + 1) 5 1 (.slice A2 (c' - 2) c2) (c' - 2) ((r.take (c' - 2)).map bv) := by
                rw [hw5]
                exact own_keep HO3.out fun k hk => Below.heap_setCell w3 ⟨Bn, 0, none⟩ _ k (by have := own_le HO3.out hk; simp; omega)
              have hdl : (r.take (c' - 2)).length = c' - 2 := by rw [List.length_take]; have := HN.out; omega
              obtain ⟨fn, tmps, assign, body, hy, hR⟩ := HY.out (t :: m :: r) #[.agg #[.int .i64 (t.toNat : Int), .slice A2 (c' - 2) c2], .bool true] (r.drop (c' - 2)) w5 (HJ.out _ _ _ _ HJ'.out hgr (fun q e => by cases e; rfl)) (.inl ⟨⟨(t.toNat : Int), r.take (c' - 2), A2, c2⟩, by rw [cutOne_cons, HX.out, if_pos (by have := HN.out; omega)]; rfl, by simp only [Ent.v]; rw [hdl], by simp only [Ent.v]; rw [hdl]; exact ho5⟩)
              have HR := Lib.hid hR
              have HW5 := Lib.hid (And.intro hb5 hB5)
              have HAD := Lib.hid hAd
              clear hR hgr ho5 hp5 hb5 hB5 hw5 hdl g1 gf g2 hAd
              refine (wpIn_wide (n := n + 1)).1 ?_
              gi_wp2
              refine HR.out.mono ?_
              rintro e W' (⟨rfl, hJ2, hk⟩ | ⟨rfl, hJx⟩)
              · have HKK := Lib.hid hk
                have HJ2 := Lib.hid hJ2
                clear hk hJ2
                gi_wp2
                go_wp2
                have hrl : (r.drop (c' - 2)).length = 0 := by rw [List.length_drop]; have := HN.out; omega
                have hbw : W'.heap[Bn]? = some (.cells #[.slice (some ⟨b, o, none⟩) (r.drop (c' - 2)).length (0)] 23 (0, 0)) := by rw [hrl]; exact HKK.out.box.trans HW5.out.1
                go_roundw
                case rel => exact ⟨r.drop (c' - 2), _, _, (HAD.out.keep (HW5.out.2.mono hB0)).keep (HKK.out.below.mono hB0), by omega, by omega, hbw, HJ2.out⟩
                case measure => rw [boxLen_eq hbw, HXX.out]; omega
              · gi_wp2
                go_wp2
                (try simp only [Exit.inBlock, Exit.then])
                refine bodyPost_ret (results_none rfl _ _ _) rfl ?_
                exact ⟨⟨_, rfl⟩, .inr hJx⟩
            · have x5 : x < c' := by omega
              go_wp2_with fail
              go_still_tail 5, (by kernel_rfl)
              go_upto_region 5 with (fail)
              have hAd : At wr B0 (some ⟨b, o + x, none⟩) ((r.drop (x - 2)).map bv) := At.dropx HA'.out x2
              obtain ⟨w5, hw5⟩ : ∃ w5, w5 = (w3.setCell ⟨Bn, 0, none⟩ (.slice (some ⟨b, o + x, none⟩) (N - x) (c' - x))).drew := ⟨_, rfl⟩
              rw [← hw5]
              have hne : P ≠ Bn := by have := HPP.out; omega
              have hp5 : w5.heap[P]? = some (.cells #[.int .i64 (t.toNat : Int), .slice A2 (x - 2) c2] 36 (0, 0)) := by rw [hw5]; exact (Below.heap_setCell w3 ⟨Bn, 0, none⟩ _ P hne).trans HP3.out
              have p0 : w5.cell? ⟨P, 0, none⟩ = some (.int .i64 (t.toNat : Int)) := by rw [cell_of_row w5 P 0 _ _ (0, 0) hp5]; rfl
              have p1 : w5.cell? ⟨P, 1, none⟩ = some (.slice A2 (x - 2) c2) := by rw [cell_of_row w5 P 1 _ _ (0, 0) hp5]; rfl
              have hb5 : w5.heap[Bn]? = some (.cells #[.slice (some ⟨b, o + x, none⟩) (N - x) (c' - x)] 23 (0, 0)) := by rw [hw5]; exact one_setCell ((HB3.out.block Bn hBz).trans HB'.out)
              have hgr : wr.grownBy w5 (some Bn) := by
                have h3 := HB3.out
                rw [hw5]
                exact ⟨h3.os, h3.tape, h3.output, by have := h3.size; simpa using this, fun k hk hkn => (Below.heap_setCell w3 ⟨Bn, 0, none⟩ _ k (fun e => hkn (by rw [e]))).trans (h3.block k hk)⟩
              have hB5 : Below n0 wr w5 := by
                rw [hw5]
                exact (((HB3.out.mono (by omega)).setCell (p := ⟨Bn, 0, none⟩) hBn _)).drew
              have ho5 : w5.ownsRow (Bn + 1) 5 1 (.slice A2 (x - 2) c2) (x - 2) ((r.take (x - 2)).map bv) := by
                rw [hw5]
                exact own_keep HO3.out fun k hk => Below.heap_setCell w3 ⟨Bn, 0, none⟩ _ k (by have := own_le HO3.out hk; simp; omega)
              have hdl : (r.take (x - 2)).length = x - 2 := by rw [List.length_take]; have := HN.out; omega
              obtain ⟨fn, tmps, assign, body, hy, hR⟩ := HY.out (t :: m :: r) #[.agg #[.int .i64 (t.toNat : Int), .slice A2 (x - 2) c2], .bool true] (r.drop (x - 2)) w5 (HJ.out _ _ _ _ HJ'.out hgr (fun q e => by cases e; rfl)) (.inl ⟨⟨(t.toNat : Int), r.take (x - 2), A2, c2⟩, by rw [cutOne_cons, HX.out, if_pos (by have := HN.out; omega)]; rfl, by simp only [Ent.v]; rw [hdl], by simp only [Ent.v]; rw [hdl]; exact ho5⟩)
              have HR := Lib.hid hR
              have HW5 := Lib.hid (And.intro hb5 hB5)
              have HAD := Lib.hid hAd
              clear hR hgr ho5 hp5 hb5 hB5 hw5 hdl g1 gf g2 hAd
              refine (wpIn_wide (n := n + 1)).1 ?_
              gi_wp2
              refine HR.out.mono ?_
              rintro e W' (⟨rfl, hJ2, hk⟩ | ⟨rfl, hJx⟩)
              · have HKK := Lib.hid hk
                have HJ2 := Lib.hid hJ2
                clear hk hJ2
                gi_wp2
                go_wp2
                have hrl : (r.drop (x - 2)).length = N - x := by rw [List.length_drop]; have := HN.out; omega
                have hbw : W'.heap[Bn]? = some (.cells #[.slice (some ⟨b, o + x, none⟩) (r.drop (x - 2)).length (c' - x)] 23 (0, 0)) := by rw [hrl]; exact HKK.out.box.trans HW5.out.1
                go_roundw
                case rel => exact ⟨r.drop (x - 2), _, _, (HAD.out.keep (HW5.out.2.mono hB0)).keep (HKK.out.below.mono hB0), by omega, by omega, hbw, HJ2.out⟩
                case measure => rw [boxLen_eq hbw, HXX.out]; omega
              · gi_wp2
                go_wp2
                (try simp only [Exit.inBlock, Exit.then])
                refine bodyPost_ret (results_none rfl _ _ _) rfl ?_
                exact ⟨⟨_, rfl⟩, .inr hJx⟩
end Go.Proofs.Ytbdkapmiioiikaa
