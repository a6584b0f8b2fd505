/- The reference's pool. -/
import Derived.Test.YtoilghhclpgfaaaDoorP14
namespace Go.Proofs.YtoilghhclpgfaaaDoor
open Go.RowKit
set_option linter.unusedSimpArgs false
set_option linter.unusedVariables false
@[go_sem] theorem lt_grow_of {a x : Nat} {l : List Obj} (h : a < x) : a < grow x l := by simp only [grow]; omega
@[go_sem] theorem lt_grow_of1 {a x : Nat} {l : List Obj} (h : a < x) : a < grow x l + 1 := by simp only [grow]; omega
@[go_sem] theorem lt_grow_of2 {a x : Nat} {l : List Obj} (h : a < x) : a < grow x l + 1 + 1 := by simp only [grow]; omega
@[go_sem] theorem lt_grow_of3 {a x : Nat} {l : List Obj} (h : a < x) : a < grow x l + 1 + 1 + 1 := by simp only [grow]; omega
@[go_sem] theorem lt_grow_of4 {a x : Nat} {l : List Obj} (h : a < x) : a < grow x l + 1 + 1 + 1 + 1 := by simp only [grow]; omega
@[go_sem] theorem lt_grow_of5 {a x : Nat} {l : List Obj} (h : a < x) : a < grow x l + 1 + 1 + 1 + 1 + 1 := by simp only [grow]; omega
@[go_sem] theorem lt_grow2_of {a x : Nat} {l l2 : List Obj} (h : a < x) : a < grow (grow x l) l2 := by simp only [grow]; omega
@[go_sem] theorem lt_grow2_of1 {a x : Nat} {l l2 : List Obj} (h : a < x) : a < grow (grow x l) l2 + 1 := by simp only [grow]; omega
@[go_sem] theorem lt_grow2_of2 {a x : Nat} {l l2 : List Obj} (h : a < x) : a < grow (grow x l) l2 + 1 + 1 := by simp only [grow]; omega
@[go_sem] theorem lt_grow2_of3 {a x : Nat} {l l2 : List Obj} (h : a < x) : a < grow (grow x l) l2 + 1 + 1 + 1 := by simp only [grow]; omega
@[go_sem] theorem lt_grow2_of4 {a x : Nat} {l l2 : List Obj} (h : a < x) : a < grow (grow x l) l2 + 1 + 1 + 1 + 1 := by simp only [grow]; omega
@[go_sem] theorem lt_grow2_of5 {a x : Nat} {l l2 : List Obj} (h : a < x) : a < grow (grow x l) l2 + 1 + 1 + 1 + 1 + 1 := by simp only [grow]; omega
@[go_sem] theorem lt_grow3_of {a x : Nat} {l l2 l3 : List Obj} (h : a < x) : a < grow (grow (grow x l) l2) l3 := by simp only [grow]; omega
@[go_sem] theorem lt_grow3_of1 {a x : Nat} {l l2 l3 : List Obj} (h : a < x) : a < grow (grow (grow x l) l2) l3 + 1 := by simp only [grow]; omega
@[go_sem] theorem lt_grow3_of2 {a x : Nat} {l l2 l3 : List Obj} (h : a < x) : a < grow (grow (grow x l) l2) l3 + 1 + 1 := by simp only [grow]; omega
@[go_sem] theorem lt_grow3_of3 {a x : Nat} {l l2 l3 : List Obj} (h : a < x) : a < grow (grow (grow x l) l2) l3 + 1 + 1 + 1 := by simp only [grow]; omega
@[go_sem] theorem lt_grow3_of4 {a x : Nat} {l l2 l3 : List Obj} (h : a < x) : a < grow (grow (grow x l) l2) l3 + 1 + 1 + 1 + 1 := by simp only [grow]; omega
@[go_sem] theorem lt_grow3_of5 {a x : Nat} {l l2 l3 : List Obj} (h : a < x) : a < grow (grow (grow x l) l2) l3 + 1 + 1 + 1 + 1 + 1 := by simp only [grow]; omega
@[go_sem] theorem lt_plus_of1 {a x : Nat} (h : a < x) : a < x + 1 := by omega
@[go_sem] theorem lt_plus_of2 {a x : Nat} (h : a < x) : a < x + 1 + 1 := by omega
@[go_sem] theorem lt_plus_of3 {a x : Nat} (h : a < x) : a < x + 1 + 1 + 1 := by omega
@[go_sem] theorem lt_plus_of4 {a x : Nat} (h : a < x) : a < x + 1 + 1 + 1 + 1 := by omega
@[go_sem] theorem lt_plus_of5 {a x : Nat} (h : a < x) : a < x + 1 + 1 + 1 + 1 + 1 := by omega
@[go_sem] theorem lt_plus_of6 {a x : Nat} (h : a < x) : a < x + 1 + 1 + 1 + 1 + 1 + 1 := by omega
@[go_sem] theorem lt_plus_of7 {a x : Nat} (h : a < x) : a < x + 1 + 1 + 1 + 1 + 1 + 1 + 1 := by omega
@[go_sem] theorem alloc_drewN (w : World) (n : Nat) (o : Obj) : (w.drewN n).alloc o = (w.alloc o).drewN n := rfl
@[go_sem] theorem setCell_drewN (w : World) (n : Nat) (p : Addr) (v : Value) : (w.drewN n).setCell p v = (w.setCell p v).drewN n := rfl
theorem At.other' {W W' : World} {B : Nat} {A : Option Addr} {l : List Value} (h : At W B A l) (hk : ∀ a, A = some a → a.block < B → W'.heap[a.block]? = W.heap[a.block]?) : At W' B A l := by
  rcases h with h | ⟨b, o, rfl, hb, hc⟩
  · exact .inl h
  · refine .inr ⟨b, o, rfl, hb, fun j u hu => ?_⟩
    rw [World.cell?_of_block (w := W) (a := ⟨b, o + j, none⟩) (hk ⟨b, o, none⟩ rfl hb)]
    exact hc j u hu
/-- What lies in the new blocks doesn't hang on what the old ones hold. -/
theorem at_high {w w' : World} {xs : List Obj} {d d' B : Nat} {A : Option Addr} {l : List Value} (h : At (ext w xs d) B A l) (hlo : ∀ a, A = some a → w.heap.size ≤ a.block) (hs : w.heap.size = w'.heap.size) : At (ext w' xs d') B A l :=
  h.other' fun a ha _ => ext_high w w' xs d d' a.block hs (hlo a ha)
def rpV (b s : Int) (A : Option Addr) (n c : Nat) (B : Option Addr) (m d : Nat) : Value := .agg #[.int .i64 b, .int .i64 s, .slice A n c, .slice B m d]
def rhasB (b s : Int) (R : List Int) (a : Int) : Bool := decide (b ≤ a) && (decide (a - b < s) && !decide ((a - b) ∈ R))
structure Args (W : World) (B0 : Nat) (b : Int) (A : Option Addr) (n : Nat) (B : Option Addr) (m : Nat) (R L : List Int) : Prop where
  atR : At W B0 A (ints R)
  hn : n = R.length
  nl : n ≤ 1000000
  atL : At W B0 B (ints L)
  hm : m = L.length
  ml : m ≤ 1000000
  b1 : 1 ≤ b
  b2 : b ≤ 4294967294
theorem Args.keep {W W' : World} {B0 : Nat} {b : Int} {A B : Option Addr} {n m : Nat} {R L : List Int} (h : Args W B0 b A n B m R L) (hb : Below B0 W W') : Args W' B0 b A n B m R L := { h with atR := h.atR.keep hb, atL := h.atL.keep hb }
set_option maxHeartbeats 1000000 in
theorem Has_ref (b s : Int) (A : Option Addr) (n c : Nat) (B : Option Addr) (m d : Nat) (R L : List Int) (a : Int) (W : World) (B0 : Nat) (hB : B0 ≤ W.heap.size) (h : Args W B0 b A n B m R L) (ha : a ≤ 9223372036854775807) :
    Calls Tryd.prog 27 #[rpV b s A n c B m d, .int .i64 a] W fun e w' => e = .returned (.bool (rhasB b s R a)) ∧ Below W.heap.size W w' := by
  have H := Lib.hid h
  have b1 := h.b1
  have HB := Lib.hid hB
  clear h hB
  unfold rpV
  by_cases h1 : a < b
  · have HR := Lib.hid (show rhasB b s R a = false by unfold rhasB; simp; omega)
    have d1 : decide (a < b) = true := by simpa using h1
    clear h1
    go_enter Tryd.func27, Tryd.ntmps27
    go_wp2_with fail
    go_ret
    exact ⟨ret_bool HR.out.symm, by (repeat (first | exact Below.refl _ _ | exact Nat.le_refl _ | (refine below_ext ?_ (by first | (simp [size_ext, grow]; done) | (simp [size_ext, grow]; omega) | omega) _ _) | (refine Below.setCell ?_ (by first | (simp [size_ext, grow]; done) | (simp [size_ext, grow]; omega) | omega) _) | (refine Below.alloc ?_ (by first | (simp [size_ext, grow]; done) | (simp [size_ext, grow]; omega) | omega) _) | refine Below.drew ?_ | refine below_drewN ?_ _ | (refine Below.trans ?_ (Below.mono (by assumption) (by first | (simp [size_ext, grow]; done) | (simp [size_ext, grow]; omega) | omega)))))⟩
  · have d1 : decide (a < b) = false := by simpa using h1
    by_cases h2 : s ≤ a - b
    · have HR := Lib.hid (show rhasB b s R a = false by unfold rhasB; simp; omega)
      have d2 : decide (s ≤ a - b) = true := by simpa using h2
      have h1' : b ≤ a := by omega
      clear h1 h2
      go_enter Tryd.func27, Tryd.ntmps27
      go_wp2_with fail
      go_ret
      exact ⟨ret_bool HR.out.symm, by (repeat (first | exact Below.refl _ _ | exact Nat.le_refl _ | (refine below_ext ?_ (by first | (simp [size_ext, grow]; done) | (simp [size_ext, grow]; omega) | omega) _ _) | (refine Below.setCell ?_ (by first | (simp [size_ext, grow]; done) | (simp [size_ext, grow]; omega) | omega) _) | (refine Below.alloc ?_ (by first | (simp [size_ext, grow]; done) | (simp [size_ext, grow]; omega) | omega) _) | refine Below.drew ?_ | refine below_drewN ?_ _ | (refine Below.trans ?_ (Below.mono (by assumption) (by first | (simp [size_ext, grow]; done) | (simp [size_ext, grow]; omega) | omega)))))⟩
    · have HR := Lib.hid (show rhasB b s R a = !decide ((a - b) ∈ R) by unfold rhasB; rw [show decide (b ≤ a) = true by simp; omega, show decide (a - b < s) = true by simp; omega]; rfl)
      have d2 : decide (s ≤ a - b) = false := by simpa using h2
      have h1' : b ≤ a := by omega
      clear h1 h2
      go_enter Tryd.func27, Tryd.ntmps27
      go_wp2_with fail
      refine (in_any A n c R (a - b) _ B0 (by have := HB.out; first | omega | (simp; omega)) (H.out.atR.keep (Below.mono (by (repeat (first | exact Below.refl _ _ | exact Nat.le_refl _ | (refine below_ext ?_ (by first | (simp [size_ext, grow]; done) | (simp [size_ext, grow]; omega) | omega) _ _) | (refine Below.setCell ?_ (by first | (simp [size_ext, grow]; done) | (simp [size_ext, grow]; omega) | omega) _) | (refine Below.alloc ?_ (by first | (simp [size_ext, grow]; done) | (simp [size_ext, grow]; omega) | omega) _) | refine Below.drew ?_ | refine below_drewN ?_ _ | (refine Below.trans ?_ (Below.mono (by assumption) (by first | (simp [size_ext, grow]; done) | (simp [size_ext, grow]; omega) | omega)))))) HB.out)) H.out.hn H.out.nl).mono ?_
      rintro e w1 ⟨rfl, rfl⟩
      go_wp2_with fail
      go_ret
      exact ⟨ret_bool HR.out.symm, by (repeat (first | exact Below.refl _ _ | exact Nat.le_refl _ | (refine below_ext ?_ (by first | (simp [size_ext, grow]; done) | (simp [size_ext, grow]; omega) | omega) _ _) | (refine Below.setCell ?_ (by first | (simp [size_ext, grow]; done) | (simp [size_ext, grow]; omega) | omega) _) | (refine Below.alloc ?_ (by first | (simp [size_ext, grow]; done) | (simp [size_ext, grow]; omega) | omega) _) | refine Below.drew ?_ | refine below_drewN ?_ _ | (refine Below.trans ?_ (Below.mono (by assumption) (by first | (simp [size_ext, grow]; done) | (simp [size_ext, grow]; omega) | omega)))))⟩
def RTurnP (b s : Int) (A : Option Addr) (n c : Nat) (Bo : Option Addr) (L L' : List Int) (er : Int) (W : World) (e : Ending) (w' : World) : Prop :=
  ∃ (B : Option Addr) (d : Nat), e = .returned (.tuple #[rpV b s A n c B L'.length d, .int .i64 er]) ∧ Below W.heap.size W w' ∧ At w' w'.heap.size B (ints L') ∧ ((B = Bo ∧ L' = L) ∨ ∀ a, B = some a → W.heap.size ≤ a.block)
def rwE (b s : Int) (R L : List Int) (a : Int) : Int := if rhasB b s R a = true then (if decide (a ∈ L) = true then 122 else 0) else 5
def rwL (b s : Int) (R L : List Int) (a : Int) : List Int := if (rhasB b s R a && !decide (a ∈ L)) = true then withL L a else L
set_option maxRecDepth 100000 in
set_option maxHeartbeats 1000000 in
theorem Want_ref (b s : Int) (A : Option Addr) (n c : Nat) (B : Option Addr) (m d : Nat) (R L : List Int) (a : Int) (W : World) (B0 : Nat) (hB : B0 ≤ W.heap.size) (h : Args W B0 b A n B m R L) (ha : a ≤ 9223372036854775807) :
    Calls Tryd.prog 24 #[rpV b s A n c B m d, .int .i64 a] W (RTurnP b s A n c B L (rwL b s R L a) (rwE b s R L a) W) := by
  have H := Lib.hid h
  have HB := Lib.hid hB
  clear h hB
  cases hh : rhasB b s R a
  · have HE := Lib.hid (show rwE b s R L a = 5 ∧ rwL b s R L a = L by unfold rwE rwL; rw [hh]; exact ⟨rfl, rfl⟩)
    rw [HE.out.1, HE.out.2]
    have HH := Lib.hid hh
    clear hh HE
    unfold rpV
    go_enter Tryd.func24, Tryd.ntmps24
    go_wp2_with fail
    refine (Has_ref b s A n c B m d R L a _ B0 (by have := HB.out; simp; omega) (H.out.keep (Below.mono (by (repeat (first | exact Below.refl _ _ | exact Nat.le_refl _ | (refine below_ext ?_ (by first | (simp [size_ext, grow]; done) | (simp [size_ext, grow]; omega) | omega) _ _) | (refine Below.setCell ?_ (by first | (simp [size_ext, grow]; done) | (simp [size_ext, grow]; omega) | omega) _) | (refine Below.alloc ?_ (by first | (simp [size_ext, grow]; done) | (simp [size_ext, grow]; omega) | omega) _) | refine Below.drew ?_ | refine below_drewN ?_ _ | (refine Below.trans ?_ (Below.mono (by assumption) (by first | (simp [size_ext, grow]; done) | (simp [size_ext, grow]; omega) | omega)))))) HB.out)) ha).mono ?_
    rw [HH.out]
    rintro e w1 ⟨rfl, hb⟩
    obtain ⟨xs, dr, rfl⟩ := ext_of hb
    clear hb
    go_wp2_with fail
    exact bodyPost_ret (v := .tuple #[.agg #[.int .i64 b, .int .i64 s, .slice A n c, .slice B m d], .int .i64 5]) (by simp [results, Tryd.results24, go_sem]) rfl ⟨B, d, by unfold rpV; rw [H.out.hm], by (repeat (first | exact Below.refl _ _ | exact Nat.le_refl _ | (refine below_ext ?_ (by first | (simp [size_ext, grow]; done) | (simp [size_ext, grow]; omega) | omega) _ _) | (refine Below.setCell ?_ (by first | (simp [size_ext, grow]; done) | (simp [size_ext, grow]; omega) | omega) _) | (refine Below.alloc ?_ (by first | (simp [size_ext, grow]; done) | (simp [size_ext, grow]; omega) | omega) _) | refine Below.drew ?_ | refine below_drewN ?_ _ | (refine Below.trans ?_ (Below.mono (by assumption) (by first | (simp [size_ext, grow]; done) | (simp [size_ext, grow]; omega) | omega))))), (H.out.atL.keep (Below.mono (by (repeat (first | exact Below.refl _ _ | exact Nat.le_refl _ | (refine below_ext ?_ (by first | (simp [size_ext, grow]; done) | (simp [size_ext, grow]; omega) | omega) _ _) | (refine Below.setCell ?_ (by first | (simp [size_ext, grow]; done) | (simp [size_ext, grow]; omega) | omega) _) | (refine Below.alloc ?_ (by first | (simp [size_ext, grow]; done) | (simp [size_ext, grow]; omega) | omega) _) | refine Below.drew ?_ | refine below_drewN ?_ _ | (refine Below.trans ?_ (Below.mono (by assumption) (by first | (simp [size_ext, grow]; done) | (simp [size_ext, grow]; omega) | omega)))))) HB.out)).more (by have := HB.out; simp [size_ext, grow]; omega), .inl ⟨rfl, rfl⟩⟩
  · have HH := Lib.hid hh
    cases hi : decide (a ∈ L)
    · have HE := Lib.hid (show rwE b s R L a = 0 ∧ rwL b s R L a = withL L a by unfold rwE rwL; rw [hh, hi]; exact ⟨rfl, rfl⟩)
      rw [HE.out.1, HE.out.2]
      have HI := Lib.hid hi
      clear hh HE hi
      unfold rpV
      go_enter Tryd.func24, Tryd.ntmps24
      go_wp2_with fail
      refine (Has_ref b s A n c B m d R L a _ B0 (by have := HB.out; simp; omega) (H.out.keep (Below.mono (by (repeat (first | exact Below.refl _ _ | exact Nat.le_refl _ | (refine below_ext ?_ (by first | (simp [size_ext, grow]; done) | (simp [size_ext, grow]; omega) | omega) _ _) | (refine Below.setCell ?_ (by first | (simp [size_ext, grow]; done) | (simp [size_ext, grow]; omega) | omega) _) | (refine Below.alloc ?_ (by first | (simp [size_ext, grow]; done) | (simp [size_ext, grow]; omega) | omega) _) | refine Below.drew ?_ | refine below_drewN ?_ _ | (refine Below.trans ?_ (Below.mono (by assumption) (by first | (simp [size_ext, grow]; done) | (simp [size_ext, grow]; omega) | omega)))))) HB.out)) ha).mono ?_
      rw [HH.out]
      rintro e w1 ⟨rfl, hb⟩
      obtain ⟨xs, dr, rfl⟩ := ext_of hb
      clear hb
      go_wp2_with fail
      refine (in_any B m d L a _ B0 (by have := HB.out; simp [size_ext, grow]; omega) (H.out.atL.keep (Below.mono (by (repeat (first | exact Below.refl _ _ | exact Nat.le_refl _ | (refine below_ext ?_ (by first | (simp [size_ext, grow]; done) | (simp [size_ext, grow]; omega) | omega) _ _) | (refine Below.setCell ?_ (by first | (simp [size_ext, grow]; done) | (simp [size_ext, grow]; omega) | omega) _) | (refine Below.alloc ?_ (by first | (simp [size_ext, grow]; done) | (simp [size_ext, grow]; omega) | omega) _) | refine Below.drew ?_ | refine below_drewN ?_ _ | (refine Below.trans ?_ (Below.mono (by assumption) (by first | (simp [size_ext, grow]; done) | (simp [size_ext, grow]; omega) | omega)))))) HB.out)) H.out.hm H.out.ml).mono ?_
      rw [HI.out]
      rintro e w1 ⟨rfl, rfl⟩
      go_wp2_with fail
      refine (with_any B m d L a _ B0 (by have := HB.out; simp [size_ext, grow]; omega) (H.out.atL.keep (Below.mono (by (repeat (first | exact Below.refl _ _ | exact Nat.le_refl _ | (refine below_ext ?_ (by first | (simp [size_ext, grow]; done) | (simp [size_ext, grow]; omega) | omega) _ _) | (refine Below.setCell ?_ (by first | (simp [size_ext, grow]; done) | (simp [size_ext, grow]; omega) | omega) _) | (refine Below.alloc ?_ (by first | (simp [size_ext, grow]; done) | (simp [size_ext, grow]; omega) | omega) _) | refine Below.drew ?_ | refine below_drewN ?_ _ | (refine Below.trans ?_ (Below.mono (by assumption) (by first | (simp [size_ext, grow]; done) | (simp [size_ext, grow]; omega) | omega)))))) HB.out)) H.out.hm H.out.ml).mono ?_
      rintro e w2 ⟨B2, d2, rfl, hb, hat, -, hlo⟩
      obtain ⟨xs2, dr2, rfl⟩ := ext_of hb
      have HAT := Lib.hid (And.intro hat hlo)
      clear hb hat hlo
      go_wp2_with fail
      exact bodyPost_ret (v := .tuple #[.agg #[.int .i64 b, .int .i64 s, .slice A n c, .slice B2 (withL L a).length d2], .int .i64 0]) (by simp [results, Tryd.results24, go_sem]) rfl ⟨B2, d2, rfl, by (repeat (first | exact Below.refl _ _ | exact Nat.le_refl _ | (refine below_ext ?_ (by first | (simp [size_ext, grow]; done) | (simp [size_ext, grow]; omega) | omega) _ _) | (refine Below.setCell ?_ (by first | (simp [size_ext, grow]; done) | (simp [size_ext, grow]; omega) | omega) _) | (refine Below.alloc ?_ (by first | (simp [size_ext, grow]; done) | (simp [size_ext, grow]; omega) | omega) _) | refine Below.drew ?_ | refine below_drewN ?_ _ | (refine Below.trans ?_ (Below.mono (by assumption) (by first | (simp [size_ext, grow]; done) | (simp [size_ext, grow]; omega) | omega))))), (at_high HAT.out.1 HAT.out.2 (by simp [size_ext, grow])).more (by simp [size_ext, grow]), .inr (fun q hq => by have := HAT.out.2 q hq; simp [size_ext, grow] at this; omega)⟩
    · have HE := Lib.hid (show rwE b s R L a = 122 ∧ rwL b s R L a = L by unfold rwE rwL; rw [hh, hi]; exact ⟨rfl, rfl⟩)
      rw [HE.out.1, HE.out.2]
      have HI := Lib.hid hi
      clear hh HE hi
      unfold rpV
      go_enter Tryd.func24, Tryd.ntmps24
      go_wp2_with fail
      refine (Has_ref b s A n c B m d R L a _ B0 (by have := HB.out; simp; omega) (H.out.keep (Below.mono (by (repeat (first | exact Below.refl _ _ | exact Nat.le_refl _ | (refine below_ext ?_ (by first | (simp [size_ext, grow]; done) | (simp [size_ext, grow]; omega) | omega) _ _) | (refine Below.setCell ?_ (by first | (simp [size_ext, grow]; done) | (simp [size_ext, grow]; omega) | omega) _) | (refine Below.alloc ?_ (by first | (simp [size_ext, grow]; done) | (simp [size_ext, grow]; omega) | omega) _) | refine Below.drew ?_ | refine below_drewN ?_ _ | (refine Below.trans ?_ (Below.mono (by assumption) (by first | (simp [size_ext, grow]; done) | (simp [size_ext, grow]; omega) | omega)))))) HB.out)) ha).mono ?_
      rw [HH.out]
      rintro e w1 ⟨rfl, hb⟩
      obtain ⟨xs, dr, rfl⟩ := ext_of hb
      clear hb
      go_wp2_with fail
      refine (in_any B m d L a _ B0 (by have := HB.out; simp [size_ext, grow]; omega) (H.out.atL.keep (Below.mono (by (repeat (first | exact Below.refl _ _ | exact Nat.le_refl _ | (refine below_ext ?_ (by first | (simp [size_ext, grow]; done) | (simp [size_ext, grow]; omega) | omega) _ _) | (refine Below.setCell ?_ (by first | (simp [size_ext, grow]; done) | (simp [size_ext, grow]; omega) | omega) _) | (refine Below.alloc ?_ (by first | (simp [size_ext, grow]; done) | (simp [size_ext, grow]; omega) | omega) _) | refine Below.drew ?_ | refine below_drewN ?_ _ | (refine Below.trans ?_ (Below.mono (by assumption) (by first | (simp [size_ext, grow]; done) | (simp [size_ext, grow]; omega) | omega)))))) HB.out)) H.out.hm H.out.ml).mono ?_
      rw [HI.out]
      rintro e w1 ⟨rfl, rfl⟩
      go_wp2_with fail
      exact bodyPost_ret (v := .tuple #[.agg #[.int .i64 b, .int .i64 s, .slice A n c, .slice B m d], .int .i64 122]) (by simp [results, Tryd.results24, go_sem]) rfl ⟨B, d, by unfold rpV; rw [H.out.hm], by (repeat (first | exact Below.refl _ _ | exact Nat.le_refl _ | (refine below_ext ?_ (by first | (simp [size_ext, grow]; done) | (simp [size_ext, grow]; omega) | omega) _ _) | (refine Below.setCell ?_ (by first | (simp [size_ext, grow]; done) | (simp [size_ext, grow]; omega) | omega) _) | (refine Below.alloc ?_ (by first | (simp [size_ext, grow]; done) | (simp [size_ext, grow]; omega) | omega) _) | refine Below.drew ?_ | refine below_drewN ?_ _ | (refine Below.trans ?_ (Below.mono (by assumption) (by first | (simp [size_ext, grow]; done) | (simp [size_ext, grow]; omega) | omega))))), (H.out.atL.keep (Below.mono (by (repeat (first | exact Below.refl _ _ | exact Nat.le_refl _ | (refine below_ext ?_ (by first | (simp [size_ext, grow]; done) | (simp [size_ext, grow]; omega) | omega) _ _) | (refine Below.setCell ?_ (by first | (simp [size_ext, grow]; done) | (simp [size_ext, grow]; omega) | omega) _) | (refine Below.alloc ?_ (by first | (simp [size_ext, grow]; done) | (simp [size_ext, grow]; omega) | omega) _) | refine Below.drew ?_ | refine below_drewN ?_ _ | (refine Below.trans ?_ (Below.mono (by assumption) (by first | (simp [size_ext, grow]; done) | (simp [size_ext, grow]; omega) | omega)))))) HB.out)).more (by have := HB.out; simp [size_ext, grow]; omega), .inl ⟨rfl, rfl⟩⟩
def rgE (b s : Int) (R L : List Int) (a : Int) : Int := if rhasB b s R a = true then (if decide (a ∈ L) = true then 0 else 112) else 5
def rgL (b s : Int) (R L : List Int) (a : Int) : List Int := if (rhasB b s R a && decide (a ∈ L)) = true then (L.filter fun y => !(y == a)) else L
set_option maxRecDepth 100000 in
set_option maxHeartbeats 1000000 in
theorem Give_ref (b s : Int) (A : Option Addr) (n c : Nat) (B : Option Addr) (m d : Nat) (R L : List Int) (a : Int) (W : World) (B0 : Nat) (hB : B0 ≤ W.heap.size) (h : Args W B0 b A n B m R L) (ha : a ≤ 9223372036854775807) :
    Calls Tryd.prog 23 #[rpV b s A n c B m d, .int .i64 a] W (RTurnP b s A n c B L (rgL b s R L a) (rgE b s R L a) W) := by
  have H := Lib.hid h
  have HB := Lib.hid hB
  clear h hB
  cases hh : rhasB b s R a
  · have HE := Lib.hid (show rgE b s R L a = 5 ∧ rgL b s R L a = L by unfold rgE rgL; rw [hh]; exact ⟨rfl, rfl⟩)
    rw [HE.out.1, HE.out.2]
    have HH := Lib.hid hh
    clear hh HE
    unfold rpV
    go_enter Tryd.func23, Tryd.ntmps23
    go_wp2_with fail
    refine (Has_ref b s A n c B m d R L a _ B0 (by have := HB.out; simp; omega) (H.out.keep (Below.mono (by (repeat (first | exact Below.refl _ _ | exact Nat.le_refl _ | (refine below_ext ?_ (by first | (simp [size_ext, grow]; done) | (simp [size_ext, grow]; omega) | omega) _ _) | (refine Below.setCell ?_ (by first | (simp [size_ext, grow]; done) | (simp [size_ext, grow]; omega) | omega) _) | (refine Below.alloc ?_ (by first | (simp [size_ext, grow]; done) | (simp [size_ext, grow]; omega) | omega) _) | refine Below.drew ?_ | refine below_drewN ?_ _ | (refine Below.trans ?_ (Below.mono (by assumption) (by first | (simp [size_ext, grow]; done) | (simp [size_ext, grow]; omega) | omega)))))) HB.out)) ha).mono ?_
    rw [HH.out]
    rintro e w1 ⟨rfl, hb⟩
    obtain ⟨xs, dr, rfl⟩ := ext_of hb
    clear hb
    go_wp2_with fail
    exact bodyPost_ret (v := .tuple #[.agg #[.int .i64 b, .int .i64 s, .slice A n c, .slice B m d], .int .i64 5]) (by simp [results, Tryd.results23, go_sem]) rfl ⟨B, d, by unfold rpV; rw [H.out.hm], by (repeat (first | exact Below.refl _ _ | exact Nat.le_refl _ | (refine below_ext ?_ (by first | (simp [size_ext, grow]; done) | (simp [size_ext, grow]; omega) | omega) _ _) | (refine Below.setCell ?_ (by first | (simp [size_ext, grow]; done) | (simp [size_ext, grow]; omega) | omega) _) | (refine Below.alloc ?_ (by first | (simp [size_ext, grow]; done) | (simp [size_ext, grow]; omega) | omega) _) | refine Below.drew ?_ | refine below_drewN ?_ _ | (refine Below.trans ?_ (Below.mono (by assumption) (by first | (simp [size_ext, grow]; done) | (simp [size_ext, grow]; omega) | omega))))), (H.out.atL.keep (Below.mono (by (repeat (first | exact Below.refl _ _ | exact Nat.le_refl _ | (refine below_ext ?_ (by first | (simp [size_ext, grow]; done) | (simp [size_ext, grow]; omega) | omega) _ _) | (refine Below.setCell ?_ (by first | (simp [size_ext, grow]; done) | (simp [size_ext, grow]; omega) | omega) _) | (refine Below.alloc ?_ (by first | (simp [size_ext, grow]; done) | (simp [size_ext, grow]; omega) | omega) _) | refine Below.drew ?_ | refine below_drewN ?_ _ | (refine Below.trans ?_ (Below.mono (by assumption) (by first | (simp [size_ext, grow]; done) | (simp [size_ext, grow]; omega) | omega)))))) HB.out)).more (by have := HB.out; simp [size_ext, grow]; omega), .inl ⟨rfl, rfl⟩⟩
  · have HH := Lib.hid hh
    cases hi' : !decide (a ∈ L)
    all_goals (have hi : decide (a ∈ L) = !(!decide (a ∈ L)) := by simp)
    all_goals (rw [hi'] at hi; clear hi'; simp only [Bool.not_false, Bool.not_true] at hi)
    · have HE := Lib.hid (show rgE b s R L a = 0 ∧ rgL b s R L a = (L.filter fun y => !(y == a)) by unfold rgE rgL; rw [hh, hi]; exact ⟨rfl, rfl⟩)
      rw [HE.out.1, HE.out.2]
      have HI := Lib.hid hi
      clear hh HE hi
      unfold rpV
      go_enter Tryd.func23, Tryd.ntmps23
      go_wp2_with fail
      refine (Has_ref b s A n c B m d R L a _ B0 (by have := HB.out; simp; omega) (H.out.keep (Below.mono (by (repeat (first | exact Below.refl _ _ | exact Nat.le_refl _ | (refine below_ext ?_ (by first | (simp [size_ext, grow]; done) | (simp [size_ext, grow]; omega) | omega) _ _) | (refine Below.setCell ?_ (by first | (simp [size_ext, grow]; done) | (simp [size_ext, grow]; omega) | omega) _) | (refine Below.alloc ?_ (by first | (simp [size_ext, grow]; done) | (simp [size_ext, grow]; omega) | omega) _) | refine Below.drew ?_ | refine below_drewN ?_ _ | (refine Below.trans ?_ (Below.mono (by assumption) (by first | (simp [size_ext, grow]; done) | (simp [size_ext, grow]; omega) | omega)))))) HB.out)) ha).mono ?_
      rw [HH.out]
      rintro e w1 ⟨rfl, hb⟩
      obtain ⟨xs, dr, rfl⟩ := ext_of hb
      clear hb
      go_wp2_with fail
      refine (in_any B m d L a _ B0 (by have := HB.out; simp [size_ext, grow]; omega) (H.out.atL.keep (Below.mono (by (repeat (first | exact Below.refl _ _ | exact Nat.le_refl _ | (refine below_ext ?_ (by first | (simp [size_ext, grow]; done) | (simp [size_ext, grow]; omega) | omega) _ _) | (refine Below.setCell ?_ (by first | (simp [size_ext, grow]; done) | (simp [size_ext, grow]; omega) | omega) _) | (refine Below.alloc ?_ (by first | (simp [size_ext, grow]; done) | (simp [size_ext, grow]; omega) | omega) _) | refine Below.drew ?_ | refine below_drewN ?_ _ | (refine Below.trans ?_ (Below.mono (by assumption) (by first | (simp [size_ext, grow]; done) | (simp [size_ext, grow]; omega) | omega)))))) HB.out)) H.out.hm H.out.ml).mono ?_
      rw [HI.out]
      rintro e w1 ⟨rfl, rfl⟩
      go_wp2_with fail
      refine (without_any B m d L a _ B0 (by have := HB.out; simp [size_ext, grow]; omega) (H.out.atL.keep (Below.mono (by (repeat (first | exact Below.refl _ _ | exact Nat.le_refl _ | (refine below_ext ?_ (by first | (simp [size_ext, grow]; done) | (simp [size_ext, grow]; omega) | omega) _ _) | (refine Below.setCell ?_ (by first | (simp [size_ext, grow]; done) | (simp [size_ext, grow]; omega) | omega) _) | (refine Below.alloc ?_ (by first | (simp [size_ext, grow]; done) | (simp [size_ext, grow]; omega) | omega) _) | refine Below.drew ?_ | refine below_drewN ?_ _ | (refine Below.trans ?_ (Below.mono (by assumption) (by first | (simp [size_ext, grow]; done) | (simp [size_ext, grow]; omega) | omega)))))) HB.out)) H.out.hm H.out.ml).mono ?_
      rintro e w2 ⟨B2, d2, rfl, hb, hat, -, hlo⟩
      obtain ⟨xs2, dr2, rfl⟩ := ext_of hb
      have HAT := Lib.hid (And.intro hat hlo)
      clear hb hat hlo
      go_wp2_with fail
      exact bodyPost_ret (v := .tuple #[.agg #[.int .i64 b, .int .i64 s, .slice A n c, .slice B2 (L.filter fun y => !(y == a)).length d2], .int .i64 0]) (by simp [results, Tryd.results23, go_sem]) rfl ⟨B2, d2, rfl, by (repeat (first | exact Below.refl _ _ | exact Nat.le_refl _ | (refine below_ext ?_ (by first | (simp [size_ext, grow]; done) | (simp [size_ext, grow]; omega) | omega) _ _) | (refine Below.setCell ?_ (by first | (simp [size_ext, grow]; done) | (simp [size_ext, grow]; omega) | omega) _) | (refine Below.alloc ?_ (by first | (simp [size_ext, grow]; done) | (simp [size_ext, grow]; omega) | omega) _) | refine Below.drew ?_ | refine below_drewN ?_ _ | (refine Below.trans ?_ (Below.mono (by assumption) (by first | (simp [size_ext, grow]; done) | (simp [size_ext, grow]; omega) | omega))))), (at_high HAT.out.1 HAT.out.2 (by simp [size_ext, grow])).more (by simp [size_ext, grow]), .inr (fun q hq => by have := HAT.out.2 q hq; simp [size_ext, grow] at this; omega)⟩
    · have HE := Lib.hid (show rgE b s R L a = 112 ∧ rgL b s R L a = L by unfold rgE rgL; rw [hh, hi]; exact ⟨rfl, rfl⟩)
      rw [HE.out.1, HE.out.2]
      have HI := Lib.hid hi
      clear hh HE hi
      unfold rpV
      go_enter Tryd.func23, Tryd.ntmps23
      go_wp2_with fail
      refine (Has_ref b s A n c B m d R L a _ B0 (by have := HB.out; simp; omega) (H.out.keep (Below.mono (by (repeat (first | exact Below.refl _ _ | exact Nat.le_refl _ | (refine below_ext ?_ (by first | (simp [size_ext, grow]; done) | (simp [size_ext, grow]; omega) | omega) _ _) | (refine Below.setCell ?_ (by first | (simp [size_ext, grow]; done) | (simp [size_ext, grow]; omega) | omega) _) | (refine Below.alloc ?_ (by first | (simp [size_ext, grow]; done) | (simp [size_ext, grow]; omega) | omega) _) | refine Below.drew ?_ | refine below_drewN ?_ _ | (refine Below.trans ?_ (Below.mono (by assumption) (by first | (simp [size_ext, grow]; done) | (simp [size_ext, grow]; omega) | omega)))))) HB.out)) ha).mono ?_
      rw [HH.out]
      rintro e w1 ⟨rfl, hb⟩
      obtain ⟨xs, dr, rfl⟩ := ext_of hb
      clear hb
      go_wp2_with fail
      refine (in_any B m d L a _ B0 (by have := HB.out; simp [size_ext, grow]; omega) (H.out.atL.keep (Below.mono (by (repeat (first | exact Below.refl _ _ | exact Nat.le_refl _ | (refine below_ext ?_ (by first | (simp [size_ext, grow]; done) | (simp [size_ext, grow]; omega) | omega) _ _) | (refine Below.setCell ?_ (by first | (simp [size_ext, grow]; done) | (simp [size_ext, grow]; omega) | omega) _) | (refine Below.alloc ?_ (by first | (simp [size_ext, grow]; done) | (simp [size_ext, grow]; omega) | omega) _) | refine Below.drew ?_ | refine below_drewN ?_ _ | (refine Below.trans ?_ (Below.mono (by assumption) (by first | (simp [size_ext, grow]; done) | (simp [size_ext, grow]; omega) | omega)))))) HB.out)) H.out.hm H.out.ml).mono ?_
      rw [HI.out]
      rintro e w1 ⟨rfl, rfl⟩
      go_wp2_with fail
      exact bodyPost_ret (v := .tuple #[.agg #[.int .i64 b, .int .i64 s, .slice A n c, .slice B m d], .int .i64 112]) (by simp [results, Tryd.results23, go_sem]) rfl ⟨B, d, by unfold rpV; rw [H.out.hm], by (repeat (first | exact Below.refl _ _ | exact Nat.le_refl _ | (refine below_ext ?_ (by first | (simp [size_ext, grow]; done) | (simp [size_ext, grow]; omega) | omega) _ _) | (refine Below.setCell ?_ (by first | (simp [size_ext, grow]; done) | (simp [size_ext, grow]; omega) | omega) _) | (refine Below.alloc ?_ (by first | (simp [size_ext, grow]; done) | (simp [size_ext, grow]; omega) | omega) _) | refine Below.drew ?_ | refine below_drewN ?_ _ | (refine Below.trans ?_ (Below.mono (by assumption) (by first | (simp [size_ext, grow]; done) | (simp [size_ext, grow]; omega) | omega))))), (H.out.atL.keep (Below.mono (by (repeat (first | exact Below.refl _ _ | exact Nat.le_refl _ | (refine below_ext ?_ (by first | (simp [size_ext, grow]; done) | (simp [size_ext, grow]; omega) | omega) _ _) | (refine Below.setCell ?_ (by first | (simp [size_ext, grow]; done) | (simp [size_ext, grow]; omega) | omega) _) | (refine Below.alloc ?_ (by first | (simp [size_ext, grow]; done) | (simp [size_ext, grow]; omega) | omega) _) | refine Below.drew ?_ | refine below_drewN ?_ _ | (refine Below.trans ?_ (Below.mono (by assumption) (by first | (simp [size_ext, grow]; done) | (simp [size_ext, grow]; omega) | omega)))))) HB.out)).more (by have := HB.out; simp [size_ext, grow]; omega), .inl ⟨rfl, rfl⟩⟩
theorem row4 {w : World} {b : Nat} {c0 c1 c2 c3 : Value} (h : w.heap[b]? = some (.cells #[c0, c1, c2, c3] 49 (0, 0))) (v0 v1 v2 v3 : Value) :
    ((((w.setCell ⟨b, 0, none⟩ v0).setCell ⟨b, 1, none⟩ v1).setCell ⟨b, 2, none⟩ v2).setCell ⟨b, 3, none⟩ v3).heap[b]? = some (.cells #[v0, v1, v2, v3] 49 (0, 0)) := by
  have h0 : (w.setCell ⟨b, 0, none⟩ v0).heap[b]? = some (.cells #[v0, c1, c2, c3] 49 (0, 0)) := heap_setCell_same w b 0 _ 49 _ h
  generalize w.setCell ⟨b, 0, none⟩ v0 = w0 at h0 ⊢
  have h1 : (w0.setCell ⟨b, 1, none⟩ v1).heap[b]? = some (.cells #[v0, v1, c2, c3] 49 (0, 0)) := heap_setCell_same w0 b 1 _ 49 _ h0
  generalize w0.setCell ⟨b, 1, none⟩ v1 = w1 at h1 ⊢
  have h2 : (w1.setCell ⟨b, 2, none⟩ v2).heap[b]? = some (.cells #[v0, v1, v2, c3] 49 (0, 0)) := heap_setCell_same w1 b 2 _ 49 _ h1
  generalize w1.setCell ⟨b, 2, none⟩ v2 = w2 at h2 ⊢
  exact heap_setCell_same w2 b 3 _ 49 _ h2
theorem two4 {b : Nat} (w : World) (v0 v1 v2 v3 : Value) : Two b b w ((((w.setCell ⟨b, 0, none⟩ v0).setCell ⟨b, 1, none⟩ v1).setCell ⟨b, 2, none⟩ v2).setCell ⟨b, 3, none⟩ v3) :=
  (((((Two.refl b b w).store v0).store v1).store v2).store v3)
def tkB (b s : Int) (R L : List Int) (j : Nat) : Bool := rhasB b s R (b + (j : Int)) && !decide ((b + (j : Int)) ∈ L)
def tkO (b : Int) (m : Nat) (R L : List Int) : Option Nat := (List.range m).find? (tkB b (m : Int) R L)
def rtL (b : Int) (L : List Int) : Option Nat → List Int
  | some i => withL L (b + (i : Int))
  | none => L
def rtA (b : Int) : Option Nat → Int
  | some i => b + (i : Int)
  | none => 0
def rtE : Option Nat → Int
  | some _ => 0
  | none => 121
def RTakeP (b s : Int) (A : Option Addr) (n c : Nat) (Bo : Option Addr) (L : List Int) (o : Option Nat) (W : World) (e : Ending) (w' : World) : Prop :=
  ∃ (B : Option Addr) (d : Nat), e = .returned (.tuple #[rpV b s A n c B (rtL b L o).length d, .int .i64 (rtA b o), .int .i64 (rtE o)]) ∧ Below W.heap.size W w' ∧ At w' w'.heap.size B (ints (rtL b L o)) ∧ ((B = Bo ∧ o = none) ∨ ∀ a, B = some a → W.heap.size ≤ a.block)
theorem tkO_some {b : Int} {m k : Nat} {R L : List Int} (hk : k < m) (h : tkB b (m : Int) R L k = true) (h0 : ∀ j, j < k → tkB b (m : Int) R L j = false) : tkO b m R L = some k := by
  unfold tkO
  rw [List.find?_range_eq_some]
  exact ⟨h, List.mem_range.2 hk, fun j hj => by rw [h0 j hj]; rfl⟩
theorem tkO_none {b : Int} {m : Nat} {R L : List Int} (h0 : ∀ j, j < m → tkB b (m : Int) R L j = false) : tkO b m R L = none := by
  unfold tkO
  rw [List.find?_eq_none]
  intro k hk
  rw [h0 k (List.mem_range.1 hk)]; simp
set_option maxRecDepth 100000 in
set_option maxHeartbeats 2000000 in
theorem Take_ref (b : Int) (s : Nat) (A : Option Addr) (n c : Nat) (B : Option Addr) (m d : Nat) (R L : List Int) (W : World) (B0 : Nat) (hB : B0 ≤ W.heap.size) (h : Args W B0 b A n B m R L) (hs : s ≤ 65536) :
    Calls Tryd.prog 22 #[rpV b (s : Int) A n c B m d] W (RTakeP b (s : Int) A n c B L (tkO b s R L) W) := by
  have H := Lib.hid h
  have HB := Lib.hid hB
  have b1 := h.b1
  have b2 := h.b2
  clear h hB
  unfold rpV
  go_enter Tryd.func22, Tryd.ntmps22
  go_wp2_with fail
  obtain ⟨W0, hW0⟩ : ∃ W0, W0 = ((W.alloc (.cells #[.int .i64 b, .int .i64 (s : Int), .slice A n c, .slice B m d] 49)).alloc (.cells #[.int .i64 0, .int .i64 0, .slice none 0 0, .slice none 0 0] 49)) := ⟨_, rfl⟩
  have HS0 := Lib.hid (show Below W.heap.size W W0 ∧ W0.heap[W.heap.size]? = some (.cells #[.int .i64 b, .int .i64 (s : Int), .slice A n c, .slice B m d] 49 (0, 0)) ∧ W0.heap[W.heap.size + 1]? = some (.cells #[.int .i64 0, .int .i64 0, .slice none 0 0, .slice none 0 0] 49 (0, 0)) by rw [hW0]; exact ⟨by (repeat (first | exact Below.refl _ _ | exact Nat.le_refl _ | (refine below_ext ?_ (by first | (simp [size_ext, grow]; done) | (simp [size_ext, grow]; omega) | omega) _ _) | (refine Below.setCell ?_ (by first | (simp [size_ext, grow]; done) | (simp [size_ext, grow]; omega) | omega) _) | (refine Below.alloc ?_ (by first | (simp [size_ext, grow]; done) | (simp [size_ext, grow]; omega) | omega) _) | refine Below.drew ?_ | refine below_drewN ?_ _ | (refine Below.trans ?_ (Below.mono (by assumption) (by first | (simp [size_ext, grow]; done) | (simp [size_ext, grow]; omega) | omega))))), by (repeat (first | ((refine heap_alloc_at _ _ _ ?_); (simp [go_sem]; done)) | ((refine (heap_ext _ _ _ _ ?_).trans ?_); (focus (simp [go_sem]; done))) | ((refine (heap_alloc_past _ _ _ ?_).trans ?_); (focus (simp [go_sem]; done))))), by (repeat (first | ((refine heap_alloc_at _ _ _ ?_); (simp [go_sem]; done)) | ((refine (heap_ext _ _ _ _ ?_).trans ?_); (focus (simp [go_sem]; done))) | ((refine (heap_alloc_past _ _ _ ?_).trans ?_); (focus (simp [go_sem]; done)))))⟩)
  rw [← hW0]
  clear hW0
  go_loopw [5] (fun i wr => ∃ k : Nat, k ≤ s ∧ i = .int .i64 k ∧ (∀ j, j < k → tkB b (s : Int) R L j = false) ∧ Below W.heap.size W wr ∧ wr.heap[W.heap.size]? = some (.cells #[.int .i64 b, .int .i64 (s : Int), .slice A n c, .slice B m d] 49 (0, 0)) ∧ wr.heap[W.heap.size + 1]? = some (.cells #[.int .i64 0, .int .i64 0, .slice none 0 0, .slice none 0 0] 49 (0, 0))) (fun i _ => s - (intOf i).toNat)
  case atStart => exact ⟨0, Nat.zero_le _, rfl, (fun j hj => absurd hj (Nat.not_lt_zero j)), HS0.out.1, HS0.out.2.1, HS0.out.2.2⟩
  case round =>
    clear HS0
    obtain ⟨k, hk, rfl, hp, hbl, h1, h2⟩ := hrel
    have HP := Lib.hid hp
    have HBL := Lib.hid hbl
    have H1 := Lib.hid h1
    have H2 := Lib.hid h2
    have hszr := hbl.size
    have c0 : wr.cell? ⟨W.heap.size, 0, none⟩ = some (.int .i64 b) := (cell_of_row wr _ 0 _ _ (0, 0) h1).trans rfl
    have c1 : wr.cell? ⟨W.heap.size, 1, none⟩ = some (.int .i64 (s : Int)) := (cell_of_row wr _ 1 _ _ (0, 0) h1).trans rfl
    have c2 : wr.cell? ⟨W.heap.size, 2, none⟩ = some (.slice A n c) := (cell_of_row wr _ 2 _ _ (0, 0) h1).trans rfl
    have c3 : wr.cell? ⟨W.heap.size, 3, none⟩ = some (.slice B m d) := (cell_of_row wr _ 3 _ _ (0, 0) h1).trans rfl
    have cz : W.heap.size < wr.heap.size := lt_of_block h1
    have cz2 : W.heap.size + 1 < wr.heap.size := lt_of_block h2
    have r0 : wr.cell? ⟨W.heap.size + 1, 0, none⟩ = some (.int .i64 0) := (cell_of_row wr _ 0 _ _ (0, 0) h2).trans rfl
    have r1 : wr.cell? ⟨W.heap.size + 1, 1, none⟩ = some (.int .i64 0) := (cell_of_row wr _ 1 _ _ (0, 0) h2).trans rfl
    have r2 : wr.cell? ⟨W.heap.size + 1, 2, none⟩ = some (.slice none 0 0) := (cell_of_row wr _ 2 _ _ (0, 0) h2).trans rfl
    have r3 : wr.cell? ⟨W.heap.size + 1, 3, none⟩ = some (.slice none 0 0) := (cell_of_row wr _ 3 _ _ (0, 0) h2).trans rfl
    have f0 : wr.frozen? ⟨W.heap.size + 1, 0, none⟩ = false := frozen_of_row wr _ 0 _ 49 h2
    have f1 : wr.frozen? ⟨W.heap.size + 1, 1, none⟩ = false := frozen_of_row wr _ 1 _ 49 h2
    have f2 : wr.frozen? ⟨W.heap.size + 1, 2, none⟩ = false := frozen_of_row wr _ 2 _ 49 h2
    have f3 : wr.frozen? ⟨W.heap.size + 1, 3, none⟩ = false := frozen_of_row wr _ 3 _ 49 h2
    have g3 : wr.frozen? ⟨W.heap.size, 3, none⟩ = false := frozen_of_row wr _ 3 _ 49 h1
    clear hp hbl h1 h2
    by_cases hlt : k < s
    · have HAR := Lib.hid (H.out.keep (HBL.out.mono HB.out))
      cases hh : rhasB b (s : Int) R (b + (k : Int))
      · have HT := Lib.hid (show tkB b (s : Int) R L k = false by unfold tkB; rw [hh]; rfl)
        have HH := Lib.hid hh
        clear hh
        go_wp2_with fail
        refine (Has_ref b (s : Int) A n c B m d R L (b + (k : Int)) _ B0 (by have := HB.out; omega) HAR.out (by omega)).mono ?_
        rw [HH.out]
        rintro e w1 ⟨rfl, hb⟩
        obtain ⟨xs, dr, rfl⟩ := ext_of hb
        clear hb
        go_wp2_with fail
        go_roundw
        case rel => exact ⟨k + 1, by omega, by go_num, upto_succ HP.out HT.out, by have := HBL.out; (repeat (first | exact Below.refl _ _ | exact Nat.le_refl _ | (refine below_ext ?_ (by first | (simp [size_ext, grow]; done) | (simp [size_ext, grow]; omega) | omega) _ _) | (refine Below.setCell ?_ (by first | (simp [size_ext, grow]; done) | (simp [size_ext, grow]; omega) | omega) _) | (refine Below.alloc ?_ (by first | (simp [size_ext, grow]; done) | (simp [size_ext, grow]; omega) | omega) _) | refine Below.drew ?_ | refine below_drewN ?_ _ | (refine Below.trans ?_ (Below.mono (by assumption) (by first | (simp [size_ext, grow]; done) | (simp [size_ext, grow]; omega) | omega))))), (ext_block _ _ _ _ cz).trans H1.out, (ext_block _ _ _ _ cz2).trans H2.out⟩
        case measure => simp [intOf]; omega
      · have HH := Lib.hid hh
        cases hi : decide ((b + (k : Int)) ∈ L)
        · have HT := Lib.hid (show tkB b (s : Int) R L k = true by unfold tkB; rw [hh, hi]; rfl)
          have HI := Lib.hid hi
          clear hh hi
          have HO := Lib.hid (tkO_some hlt HT.out HP.out)
          go_wp2_with fail
          refine (Has_ref b (s : Int) A n c B m d R L (b + (k : Int)) _ B0 (by have := HB.out; omega) HAR.out (by omega)).mono ?_
          rw [HH.out]
          rintro e w1 ⟨rfl, hb⟩
          obtain ⟨xs, dr, rfl⟩ := ext_of hb
          clear hb
          go_wp2_with fail
          refine (in_any B m d L (b + (k : Int)) _ B0 (by have := HB.out; simp [size_ext, grow]; omega) (HAR.out.atL.keep (Below.mono (by (repeat (first | exact Below.refl _ _ | exact Nat.le_refl _ | (refine below_ext ?_ (by first | (simp [size_ext, grow]; done) | (simp [size_ext, grow]; omega) | omega) _ _) | (refine Below.setCell ?_ (by first | (simp [size_ext, grow]; done) | (simp [size_ext, grow]; omega) | omega) _) | (refine Below.alloc ?_ (by first | (simp [size_ext, grow]; done) | (simp [size_ext, grow]; omega) | omega) _) | refine Below.drew ?_ | refine below_drewN ?_ _ | (refine Below.trans ?_ (Below.mono (by assumption) (by first | (simp [size_ext, grow]; done) | (simp [size_ext, grow]; omega) | omega)))))) (by have := HB.out; omega))) H.out.hm H.out.ml).mono ?_
          rw [HI.out]
          rintro e w1 ⟨rfl, rfl⟩
          go_upto_region 6 with (fail)
          go_cut [] (fun wx => ∃ (B2 : Option Addr) (d2 : Nat) (W8 : World), W8 = wx ∧ Below W.heap.size W W8 ∧ W8.heap[W.heap.size]? = some (.cells #[.int .i64 b, .int .i64 (s : Int), .slice A n c, .slice B2 (withL L (b + (k : Int))).length d2] 49 (0, 0)) ∧ W8.heap[W.heap.size + 1]? = some (.cells #[.int .i64 0, .int .i64 0, .slice none 0 0, .slice none 0 0] 49 (0, 0)) ∧ At W8 W8.heap.size B2 (ints (withL L (b + (k : Int)))) ∧ ∀ a, B2 = some a → W.heap.size + 2 ≤ a.block)
          case first =>
            go_wp2_with fail
            refine (with_any B m d L (b + (k : Int)) _ B0 (by have := HB.out; simp [size_ext, grow]; omega) (HAR.out.atL.keep (Below.mono (by (repeat (first | exact Below.refl _ _ | exact Nat.le_refl _ | (refine below_ext ?_ (by first | (simp [size_ext, grow]; done) | (simp [size_ext, grow]; omega) | omega) _ _) | (refine Below.setCell ?_ (by first | (simp [size_ext, grow]; done) | (simp [size_ext, grow]; omega) | omega) _) | (refine Below.alloc ?_ (by first | (simp [size_ext, grow]; done) | (simp [size_ext, grow]; omega) | omega) _) | refine Below.drew ?_ | refine below_drewN ?_ _ | (refine Below.trans ?_ (Below.mono (by assumption) (by first | (simp [size_ext, grow]; done) | (simp [size_ext, grow]; omega) | omega)))))) (by have := HB.out; omega))) H.out.hm H.out.ml).mono ?_
            rintro e w2 ⟨B2, d2, rfl, hb, hat, -, hlo⟩
            obtain ⟨xs2, dr2, rfl⟩ := ext_of hb
            have HAT := Lib.hid (And.intro hat hlo)
            clear hb hat hlo
            go_wp2_with fail
            go_meet
            refine ⟨B2, d2, _, rfl, ?_, ?_, ?_, ?_, ?_⟩
            · have := HBL.out; (repeat (first | exact Below.refl _ _ | exact Nat.le_refl _ | (refine below_ext ?_ (by first | (simp [size_ext, grow]; done) | (simp [size_ext, grow]; omega) | omega) _ _) | (refine Below.setCell ?_ (by first | (simp [size_ext, grow]; done) | (simp [size_ext, grow]; omega) | omega) _) | (refine Below.alloc ?_ (by first | (simp [size_ext, grow]; done) | (simp [size_ext, grow]; omega) | omega) _) | refine Below.drew ?_ | refine below_drewN ?_ _ | (refine Below.trans ?_ (Below.mono (by assumption) (by first | (simp [size_ext, grow]; done) | (simp [size_ext, grow]; omega) | omega)))))
            · refine (ext_block _ _ _ _ (by simp [size_ext, grow]; omega)).trans ((ext_block _ _ _ _ (by simp; omega)).trans ?_)
              exact heap_setCell_same wr _ 3 _ 49 _ H1.out
            · refine (ext_block _ _ _ _ (by simp [size_ext, grow]; omega)).trans ((ext_block _ _ _ _ (by simp; omega)).trans ?_)
              exact (Below.heap_setCell wr ⟨W.heap.size, 3, none⟩ _ _ (by simp)).trans H2.out
            · exact (at_high HAT.out.1 HAT.out.2 (by simp [size_ext, grow])).more (by simp [size_ext, grow])
            · intro a ha; have := HAT.out.2 a ha; simp [size_ext, grow] at this; omega
          obtain ⟨B2, d2, W8, hW8, hb8, h81, h82, hat8, hlo8⟩ := hcut
          rw [← hW8]
          clear hW8
          clear c0 c1 c2 c3 cz cz2 r0 r1 r2 r3 f0 f1 f2 f3 g3
          have x0 : W8.cell? ⟨W.heap.size, 0, none⟩ = some (.int .i64 b) := (cell_of_row W8 _ 0 _ _ (0, 0) h81).trans rfl
          have x1 : W8.cell? ⟨W.heap.size, 1, none⟩ = some (.int .i64 (s : Int)) := (cell_of_row W8 _ 1 _ _ (0, 0) h81).trans rfl
          have x2 : W8.cell? ⟨W.heap.size, 2, none⟩ = some (.slice A n c) := (cell_of_row W8 _ 2 _ _ (0, 0) h81).trans rfl
          have x3 : W8.cell? ⟨W.heap.size, 3, none⟩ = some (.slice B2 (withL L (b + (k : Int))).length d2) := (cell_of_row W8 _ 3 _ _ (0, 0) h81).trans rfl
          have y0 : W8.cell? ⟨W.heap.size + 1, 0, none⟩ = some (.int .i64 0) := (cell_of_row W8 _ 0 _ _ (0, 0) h82).trans rfl
          have y1 : W8.cell? ⟨W.heap.size + 1, 1, none⟩ = some (.int .i64 0) := (cell_of_row W8 _ 1 _ _ (0, 0) h82).trans rfl
          have y2 : W8.cell? ⟨W.heap.size + 1, 2, none⟩ = some (.slice none 0 0) := (cell_of_row W8 _ 2 _ _ (0, 0) h82).trans rfl
          have y3 : W8.cell? ⟨W.heap.size + 1, 3, none⟩ = some (.slice none 0 0) := (cell_of_row W8 _ 3 _ _ (0, 0) h82).trans rfl
          have fy0 : W8.frozen? ⟨W.heap.size + 1, 0, none⟩ = false := frozen_of_row W8 _ 0 _ 49 h82
          have fy1 : W8.frozen? ⟨W.heap.size + 1, 1, none⟩ = false := frozen_of_row W8 _ 1 _ 49 h82
          have fy2 : W8.frozen? ⟨W.heap.size + 1, 2, none⟩ = false := frozen_of_row W8 _ 2 _ 49 h82
          have fy3 : W8.frozen? ⟨W.heap.size + 1, 3, none⟩ = false := frozen_of_row W8 _ 3 _ 49 h82
          have xz : W.heap.size < W8.heap.size := lt_of_block h81
          have yz : W.heap.size + 1 < W8.heap.size := lt_of_block h82
          have HB8 := Lib.hid hb8
          have H82 := Lib.hid h82
          have HAT8 := Lib.hid (And.intro hat8 hlo8)
          clear hb8 h81 h82 hat8 hlo8
          go_wp2_with fail
          have hrow := row4 H82.out (.int .i64 b) (.int .i64 (s : Int)) (.slice A n c) (.slice B2 (withL L (b + (k : Int))).length d2)
          have htwo := two4 (b := W.heap.size + 1) W8 (.int .i64 b) (.int .i64 (s : Int)) (.slice A n c) (.slice B2 (withL L (b + (k : Int))).length d2)
          revert hrow htwo
          generalize ((((W8.setCell ⟨W.heap.size + 1, 0, none⟩ (.int .i64 b)).setCell ⟨W.heap.size + 1, 1, none⟩ (.int .i64 (s : Int))).setCell ⟨W.heap.size + 1, 2, none⟩ (.slice A n c)).setCell ⟨W.heap.size + 1, 3, none⟩ (.slice B2 (withL L (b + (k : Int))).length d2)) = w9
          intro hrow htwo
          have s0 : w9.cell? ⟨W.heap.size + 1, 0, none⟩ = some (.int .i64 b) := (cell_of_row w9 _ 0 _ _ (0, 0) hrow).trans rfl
          have s1 : w9.cell? ⟨W.heap.size + 1, 1, none⟩ = some (.int .i64 (s : Int)) := (cell_of_row w9 _ 1 _ _ (0, 0) hrow).trans rfl
          have s2 : w9.cell? ⟨W.heap.size + 1, 2, none⟩ = some (.slice A n c) := (cell_of_row w9 _ 2 _ _ (0, 0) hrow).trans rfl
          have s3 : w9.cell? ⟨W.heap.size + 1, 3, none⟩ = some (.slice B2 (withL L (b + (k : Int))).length d2) := (cell_of_row w9 _ 3 _ _ (0, 0) hrow).trans rfl
          have hat := (HAT8.out.1.other' (W' := w9) fun a ha hl => htwo.block _ hl (by have := HAT8.out.2 a ha; omega) (by have := HAT8.out.2 a ha; omega)).more htwo.size
          have hbw := HB8.out.trans (htwo.below HB8.out.size (by omega) (by omega))
          exact bodyPost_ret (v := .tuple #[.agg #[.int .i64 b, .int .i64 (s : Int), .slice A n c, .slice B2 (withL L (b + (k : Int))).length d2], .int .i64 (b + (k : Int)), .int .i64 0]) (by simp [results, Tryd.results22, go_sem, s0, s1, s2, s3]) rfl ⟨B2, d2, by rw [HO.out]; rfl, hbw, by rw [HO.out]; exact hat, .inr (fun q hq => by have := HAT8.out.2 q hq; omega)⟩
        · have HT := Lib.hid (show tkB b (s : Int) R L k = false by unfold tkB; rw [hh, hi]; rfl)
          have HI := Lib.hid hi
          clear hh hi
          go_wp2_with fail
          refine (Has_ref b (s : Int) A n c B m d R L (b + (k : Int)) _ B0 (by have := HB.out; omega) HAR.out (by omega)).mono ?_
          rw [HH.out]
          rintro e w1 ⟨rfl, hb⟩
          obtain ⟨xs, dr, rfl⟩ := ext_of hb
          clear hb
          go_wp2_with fail
          refine (in_any B m d L (b + (k : Int)) _ B0 (by have := HB.out; simp [size_ext, grow]; omega) (HAR.out.atL.keep (Below.mono (by (repeat (first | exact Below.refl _ _ | exact Nat.le_refl _ | (refine below_ext ?_ (by first | (simp [size_ext, grow]; done) | (simp [size_ext, grow]; omega) | omega) _ _) | (refine Below.setCell ?_ (by first | (simp [size_ext, grow]; done) | (simp [size_ext, grow]; omega) | omega) _) | (refine Below.alloc ?_ (by first | (simp [size_ext, grow]; done) | (simp [size_ext, grow]; omega) | omega) _) | refine Below.drew ?_ | refine below_drewN ?_ _ | (refine Below.trans ?_ (Below.mono (by assumption) (by first | (simp [size_ext, grow]; done) | (simp [size_ext, grow]; omega) | omega)))))) (by have := HB.out; omega))) H.out.hm H.out.ml).mono ?_
          rw [HI.out]
          rintro e w1 ⟨rfl, rfl⟩
          go_wp2_with fail
          go_roundw
          case rel => exact ⟨k + 1, by omega, by go_num, upto_succ HP.out HT.out, by have := HBL.out; (repeat (first | exact Below.refl _ _ | exact Nat.le_refl _ | (refine below_ext ?_ (by first | (simp [size_ext, grow]; done) | (simp [size_ext, grow]; omega) | omega) _ _) | (refine Below.setCell ?_ (by first | (simp [size_ext, grow]; done) | (simp [size_ext, grow]; omega) | omega) _) | (refine Below.alloc ?_ (by first | (simp [size_ext, grow]; done) | (simp [size_ext, grow]; omega) | omega) _) | refine Below.drew ?_ | refine below_drewN ?_ _ | (refine Below.trans ?_ (Below.mono (by assumption) (by first | (simp [size_ext, grow]; done) | (simp [size_ext, grow]; omega) | omega))))), (ext_block _ _ _ _ cz).trans H1.out, (ext_block _ _ _ _ cz2).trans H2.out⟩
          case measure => simp [intOf]; omega
    · have hks : s = k := by omega
      subst hks
      have HO := Lib.hid (tkO_none HP.out)
      go_wp2_with fail
      have hrow := row4 H2.out (.int .i64 b) (.int .i64 (s : Int)) (.slice A n c) (.slice B m d)
      have htwo := two4 (b := W.heap.size + 1) wr (.int .i64 b) (.int .i64 (s : Int)) (.slice A n c) (.slice B m d)
      revert hrow htwo
      generalize ((((wr.setCell ⟨W.heap.size + 1, 0, none⟩ (.int .i64 b)).setCell ⟨W.heap.size + 1, 1, none⟩ (.int .i64 (s : Int))).setCell ⟨W.heap.size + 1, 2, none⟩ (.slice A n c)).setCell ⟨W.heap.size + 1, 3, none⟩ (.slice B m d)) = w9
      intro hrow htwo
      have s0 : w9.cell? ⟨W.heap.size + 1, 0, none⟩ = some (.int .i64 b) := (cell_of_row w9 _ 0 _ _ (0, 0) hrow).trans rfl
      have s1 : w9.cell? ⟨W.heap.size + 1, 1, none⟩ = some (.int .i64 (s : Int)) := (cell_of_row w9 _ 1 _ _ (0, 0) hrow).trans rfl
      have s2 : w9.cell? ⟨W.heap.size + 1, 2, none⟩ = some (.slice A n c) := (cell_of_row w9 _ 2 _ _ (0, 0) hrow).trans rfl
      have s3 : w9.cell? ⟨W.heap.size + 1, 3, none⟩ = some (.slice B m d) := (cell_of_row w9 _ 3 _ _ (0, 0) hrow).trans rfl
      have hat := (H.out.atL.other' (W' := w9) fun a ha hl => (htwo.block _ (by have := HB.out; omega) (by have := HB.out; omega) (by have := HB.out; omega)).trans (HBL.out.block _ (by have := HB.out; omega))).more (B' := w9.heap.size) (by have := htwo.size; have := HB.out; omega)
      have hbw := HBL.out.trans (htwo.below HBL.out.size (by omega) (by omega))
      exact bodyPost_ret (v := .tuple #[.agg #[.int .i64 b, .int .i64 (s : Int), .slice A n c, .slice B m d], .int .i64 0, .int .i64 121]) (by simp [results, Tryd.results22, go_sem, s0, s1, s2, s3]) rfl ⟨B, d, by rw [HO.out]; unfold rpV rtL rtA rtE; rw [H.out.hm], hbw, by rw [HO.out]; exact hat, .inl ⟨rfl, HO.out⟩⟩
end Go.Proofs.YtoilghhclpgfaaaDoor
