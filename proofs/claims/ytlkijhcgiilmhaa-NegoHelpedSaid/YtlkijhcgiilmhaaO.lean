/- octet.Put, octet.Take, and the reference's Put. -/
import Derived.Test.YtlkijhcgiilmhaaS
import Derived.Laws.BitsAllLaws
import Derived.Laws.BitsLemmas
import Derived.Handy
namespace Go.Proofs.Ytlkijhcgiilmhaa
open Go.RowKit
set_option linter.unusedSimpArgs false
set_option linter.unusedVariables false

def inB (n a b : Int) : Bool := decide (a ≤ n) && decide (n ≤ b)

theorem sized_any (n : Int) (w : World) : Calls Try.prog 52 #[.int .i64 n] w fun e w' => e = .returned (.bool (inB n 1 8)) ∧ w = w' := by
  by_cases h1 : 1 ≤ n
  · by_cases h2 : n ≤ 8
    · have H := Lib.hid (show inB n 1 8 = true by simp [inB, h1, h2])
      go_enter Try.func52, Try.ntmps52
      go_wp2
      go_ret
      rw [H.out]
      exact ⟨rfl, rfl⟩
    · have H := Lib.hid (show inB n 1 8 = false by simp [inB, h2])
      go_enter Try.func52, Try.ntmps52
      go_wp2
      go_ret
      rw [H.out]
      exact ⟨rfl, rfl⟩
  · have H := Lib.hid (show inB n 1 8 = false by simp [inB, h1])
    go_enter Try.func52, Try.ntmps52
    go_wp2
    go_ret
    rw [H.out]
    exact ⟨rfl, rfl⟩

/-- The number of bytes, the highest first. -/
def be (l : List UInt8) : Nat := l.foldl (fun n x => n * 256 + x.toNat) 0

theorem be_snoc (l : List UInt8) (x : UInt8) : be (l ++ [x]) = be l * 256 + x.toNat := by simp [be, List.foldl_append]
theorem be_lt (l : List UInt8) : be l < 256 ^ l.length := by
  suffices h : ∀ r : List UInt8, be r.reverse < 256 ^ r.length by simpa using h l.reverse
  intro r
  induction r with
  | nil => simp [be]
  | cons x r ih =>
    rw [List.reverse_cons, be_snoc, List.length_cons, Nat.pow_succ]
    have := x.toNat_lt
    omega
theorem be_take_succ (l : List UInt8) (j : Nat) (h : j < l.length) : be (l.take (j + 1)) = be (l.take j) * 256 + (l.getD j 0).toNat := by
  rw [List.take_succ_eq_append_getElem h, be_snoc, List.getD_eq_getElem?_getD, List.getElem?_eq_getElem h]; rfl
theorem be_take_lt (l : List UInt8) (j : Nat) (h : j ≤ 8) : be (l.take j) < 256 ^ j := by
  have h1 := be_lt (l.take j)
  have h2 : (l.take j).length ≤ j := List.length_take_le _ _
  exact Nat.lt_of_lt_of_le h1 (Nat.pow_le_pow_right (by omega) h2)
theorem or_byte (a y : Nat) (ha : a < 72057594037927936) (hy : y < 256) : bits .or .u64 (IntKind.u64.wrap ((a : Int) * 256)) (IntKind.u64.wrap (y : Int)) = ((a * 256 + y : Nat) : Int) := by
  have e1 : IntKind.u64.wrap ((a : Int) * 256) = ((a * 256 : Nat) : Int) := by rw [IntKind.wrap_u64]; omega
  have e2 : IntKind.u64.wrap (y : Int) = (y : Int) := by rw [IntKind.wrap_u64]; omega
  rw [e1, e2, u64_or_nat _ _ (by omega) (by omega)]
  have := Nat.shiftLeft_add_eq_or_of_lt (i := 8) (b := y) (by omega) a
  rw [Nat.shiftLeft_eq] at this
  rw [← this]

theorem infoU8 : (Try.prog.info? 5).map (fun i => (i.zero, i.size, i.bytes)) = some (some (.int .u8 0), 1, 1) := by kernel_rfl

def TakeP (w : World) (l : List UInt8) (k : Nat) (e : Ending) (w' : World) : Prop :=
  ∃ v, e = .returned (.tuple #[.int .u64 (be (l.take k) : Int), v, .bool true]) ∧ Below w.heap.size w w' ∧ w'.ownsRow w.heap.size 5 1 v (l.length - k) ((l.drop k).map bv)

theorem take_no (A : Option Addr) (len c : Nat) (n : Int) (w : World) (h : inB n 1 8 = false ∨ (len : Int) < n) :
    Calls Try.prog 51 #[.slice A len c, .int .i64 n] w fun e w' => e = .returned (.tuple #[.int .u64 0, .slice none 0 0, .bool false]) ∧ w = w' := by
  cases h0 : inB n 1 8
  · go_enter Try.func51, Try.ntmps51
    go_wp2_with (go_at_call 52; refine (sized_any _ _).mono ?_; rintro e w' ⟨rfl, rfl⟩)
    go_ret3
    exact ⟨rfl, rfl⟩
  · have h2 : (len : Int) < n := by simpa [h0] using h
    go_enter Try.func51, Try.ntmps51
    go_wp2_with (go_at_call 52; refine (sized_any _ _).mono ?_; rintro e w' ⟨rfl, rfl⟩)
    go_ret3
    exact ⟨rfl, rfl⟩

set_option maxHeartbeats 1000000 in
theorem take_yes (A : Option Addr) (len c : Nat) (l : List UInt8) (n : Int) (w : World) (B0 : Nat) (hB0 : B0 ≤ w.heap.size) (hA0 : At w B0 A (l.map bv)) (hlen : len = l.length) (h1 : 1 ≤ n) (h8 : n ≤ 8) (hn : n ≤ len) (hl : len ≤ 1000000000) (hlc : len ≤ c) :
    Calls Try.prog 51 #[.slice A len c, .int .i64 n] w (TakeP w l n.toNat) := by
  have hA := hA0.more hB0
  clear hA0 hB0
  obtain ⟨k, rfl⟩ := Int.eq_ofNat_of_zero_le (show 0 ≤ n by omega)
  rw [Int.toNat_natCast]
  obtain ⟨b, o, rfl, hB, hc⟩ := hA.get (by simp; omega)
  have h0 : inB (k : Int) 1 8 = true := by simp [inB]; omega
  have hcell : ∀ i, i < len → w.cell? ⟨b, o + i, none⟩ = some (.int .u8 ((l.getD i 0).toNat : Int)) := fun i hi => by
    have := hc i _ (bv_get (show i < l.length by omega))
    rw [this, List.getD_eq_getElem?_getD, List.getElem?_eq_getElem (show i < l.length by omega)]
    rfl
  have HD : Hid (At w w.heap.size (if c = k then some ⟨b, o, none⟩ else (some ⟨b, o, none⟩ : Option Addr).map (·.add k)) ((l.drop k).map bv)) := by
    rw [List.map_drop]
    exact hA.drop k c (fun h => by rw [List.drop_eq_nil_iff]; simp; omega)
  have HC := Lib.hid hcell
  have HL := Lib.hid hlen
  have HM := Lib.hid (show len - k = (l.drop k).length by simp; omega)
  have HN := Lib.hid (show len - k ≤ 1000000000 by omega)
  have ek : (some (⟨b, o, none⟩ : Addr) : Option Addr).map (·.add k) = some ⟨b, o + k, none⟩ := by
    simp only [Option.map_some, Addr.add]
    by_cases h0 : k = 0 <;> simp [h0]
  rw [ek] at HD
  clear hA hc hcell hlen ek
  go_enter Try.func51, Try.ntmps51
  go_wp2_with (go_at_call 52; refine (sized_any _ _).mono ?_; rintro e w' ⟨rfl, rfl⟩)
  go_loop [7, 19] (fun t i => ∃ j : Nat, j ≤ k ∧ i = .int .i64 j ∧ t = .int .u64 (be (l.take j))) (fun _ i => k - (intOf i).toNat)
  case atStart => exact ⟨0, Nat.zero_le _, rfl, by simp [be]⟩
  case round =>
    obtain ⟨j, hj, rfl, rfl⟩ := hrel
    by_cases hlt : j < k
    · have hcj := HC.out j (by omega)
      go_wp2
      go_round
      case rel =>
        refine ⟨j + 1, by omega, by go_num, ?_⟩
        have hb := be_take_lt l j (by omega)
        have h9 : 256 ^ j ≤ 72057594037927936 := Nat.pow_le_pow_right (n := 256) (by omega) (show j ≤ 7 by omega)
        have e := or_byte (be (l.take j)) (l.getD j 0).toNat (by omega) (UInt8.toNat_lt _)
        rw [be_take_succ l j (by have := HL.out; omega)]
        rw [← e, List.getD_eq_getElem?_getD]
      case measure => simp [intOf]; omega
    · obtain rfl : j = k := by omega
      by_cases hck : c = j
      · subst hck
        have HZ := Lib.hid (show l.length - c = 0 ∧ l.drop c = [] by have := HL.out; exact ⟨by omega, by rw [List.drop_eq_nil_iff]; omega⟩)
        go_wp2_with (at_builtin; refine wpList_dupb w rfl (.tmp 32) (.tmp 35) 40 rfl 5 Try.underlying40 infoU8 _ (by simp) rfl w.heap.size _ 0 _ [] rfl rfl (Nat.zero_le _) (At.nil _ _ _) (Nat.le_refl _) ?_; intro v' ys d hown)
        go_ret3
        exact ⟨v', rfl, by exact bel, by rw [HZ.out.1, HZ.out.2]; exact hown⟩
      · have HE := HD.out
        rw [if_neg hck] at HE
        have HF := Lib.hid HE
        clear HE HD
        go_wp2_with (at_builtin; refine wpList_dupb w rfl (.tmp 32) (.tmp 35) 40 rfl 5 Try.underlying40 infoU8 _ (by simp) rfl w.heap.size _ (len - j) _ (l.drop j) rfl HM.out HN.out HF.out (Nat.le_refl _) ?_; intro v' ys d hown)
        go_ret3
        exact ⟨v', rfl, by exact bel, by rw [← HL.out]; exact hown⟩

/-- The k lowest bytes of a number, the highest first. -/
def putB (n : Nat) : Nat → List UInt8
  | 0 => []
  | k + 1 => putB (n / 256) k ++ [UInt8.ofNat n]

def PutP (w : World) (n k : Nat) (e : Ending) (w' : World) : Prop :=
  ∃ v, e = .returned v ∧ Below w.heap.size w w' ∧ w'.ownsRow w.heap.size 5 1 v k ((putB n k).map bv)

theorem put_no (n size : Int) (w : World) (h : inB size 1 8 = false) :
    Calls Try.prog 42 #[.int .u64 n, .int .i64 size] w fun e w' => e = .returned (.slice none 0 0) ∧ w = w' := by
  go_enter Try.func42, Try.ntmps42
  go_wp2_with (go_at_call 52; refine (sized_any _ _).mono ?_; rintro e w' ⟨rfl, rfl⟩)
  go_ret
  exact ⟨rfl, rfl⟩

theorem putB_length (n k : Nat) : (putB n k).length = k := by
  induction k generalizing n with
  | zero => rfl
  | succ k ih => simp [putB, ih]
theorem putB_drop (n k j : Nat) (h : k ≤ j) : putB n k = (putB n j).drop (j - k) := by
  induction k generalizing n j with
  | zero => rw [Nat.sub_zero, List.drop_of_length_le (by rw [putB_length]; omega)]; rfl
  | succ k ih =>
    obtain ⟨j, rfl⟩ : ∃ i, j = i + 1 := ⟨j - 1, by omega⟩
    rw [putB, putB, ih (n / 256) j (by omega), List.drop_append_of_le_length (by rw [putB_length]; omega)]
    congr 2
    omega
theorem bv_ofNat (n : Nat) : bv (UInt8.ofNat n) = .int .u8 ((n : Int) % 256) := by
  show Value.int .u8 (((UInt8.ofNat n).toNat : Nat) : Int) = _
  rw [show (UInt8.ofNat n).toNat = n % 256 from by simp]
  simp
theorem putB8 (n : Nat) : (putB n 8).map bv = [.int .u8 ((n : Int) / 72057594037927936 % 256), .int .u8 ((n : Int) / 281474976710656 % 256), .int .u8 ((n : Int) / 1099511627776 % 256), .int .u8 ((n : Int) / 4294967296 % 256),
    .int .u8 ((n : Int) / 16777216 % 256), .int .u8 ((n : Int) / 65536 % 256), .int .u8 ((n : Int) / 256 % 256), .int .u8 ((n : Int) % 256)] := by
  simp only [putB, List.map_append, List.map_cons, List.map_nil, List.nil_append, List.cons_append, bv_ofNat, Nat.div_div_eq_div_mul]
  simp
theorem put_at (n k : Nat) (w : World) (T : TypeId) (h8 : k ≤ 8) (cs : Array Value) (hcs : cs = ((putB n 8).map bv).toArray) : At (w.alloc (.cells cs T)) (w.heap.size + 1) (some ⟨w.heap.size, 8 - k, none⟩) ((putB n k).map bv) := by
  subst hcs
  refine .inr ⟨w.heap.size, 8 - k, rfl, by omega, fun j u hu => ?_⟩
  rw [World.cell?_alloc_new]
  rw [putB_drop n k 8 h8, List.map_drop, List.getElem?_drop] at hu
  simpa using hu

set_option maxHeartbeats 4000000 in
theorem put_yes (n k : Nat) (w : World) (hn : n < 18446744073709551616) (h1 : 1 ≤ k) (h8 : k ≤ 8) :
    Calls Try.prog 42 #[.int .u64 (n : Int), .int .i64 (k : Int)] w (PutP w n k) := by
  have h0 : inB (k : Int) 1 8 = true := by simp [inB]; omega
  have HN := Lib.hid hn
  have HQ := Lib.hid (put_at n k w 79 h8 _ (by rw [putB8 n]))
  have HK : k = 1 ∨ k = 2 ∨ k = 3 ∨ k = 4 ∨ k = 5 ∨ k = 6 ∨ k = 7 ∨ k = 8 := by omega
  clear hn h1 h8
  rcases HK with rfl | rfl | rfl | rfl | rfl | rfl | rfl | rfl
  · go_enter Try.func42, Try.ntmps42
    go_wp2_with (go_at_call 52; refine (sized_any _ _).mono ?_; rintro e w' ⟨rfl, rfl⟩)
    refine wp_loop_rounds 9 ?_
    iterate 8 (rw [rounds_succ]; go_wp2_with fail)
    rw [rounds_succ]
    go_wp2_with (at_builtin; refine wpList_dupb _ rfl (.tmp 23) (.tmp 26) 40 rfl 5 Try.underlying40 infoU8 _ (by simp) rfl (w.heap.size + 1) _ 1 _ (putB n 1) rfl (putB_length n 1).symm (by omega) HQ.out (by simp) ?_; intro v' ys d hown)
    go_ret
    exact ⟨v', rfl, by exact bel, own_base hown (by simp)⟩
  · go_enter Try.func42, Try.ntmps42
    go_wp2_with (go_at_call 52; refine (sized_any _ _).mono ?_; rintro e w' ⟨rfl, rfl⟩)
    refine wp_loop_rounds 9 ?_
    iterate 8 (rw [rounds_succ]; go_wp2_with fail)
    rw [rounds_succ]
    go_wp2_with (at_builtin; refine wpList_dupb _ rfl (.tmp 23) (.tmp 26) 40 rfl 5 Try.underlying40 infoU8 _ (by simp) rfl (w.heap.size + 1) _ 2 _ (putB n 2) rfl (putB_length n 2).symm (by omega) HQ.out (by simp) ?_; intro v' ys d hown)
    go_ret
    exact ⟨v', rfl, by exact bel, own_base hown (by simp)⟩
  · go_enter Try.func42, Try.ntmps42
    go_wp2_with (go_at_call 52; refine (sized_any _ _).mono ?_; rintro e w' ⟨rfl, rfl⟩)
    refine wp_loop_rounds 9 ?_
    iterate 8 (rw [rounds_succ]; go_wp2_with fail)
    rw [rounds_succ]
    go_wp2_with (at_builtin; refine wpList_dupb _ rfl (.tmp 23) (.tmp 26) 40 rfl 5 Try.underlying40 infoU8 _ (by simp) rfl (w.heap.size + 1) _ 3 _ (putB n 3) rfl (putB_length n 3).symm (by omega) HQ.out (by simp) ?_; intro v' ys d hown)
    go_ret
    exact ⟨v', rfl, by exact bel, own_base hown (by simp)⟩
  · go_enter Try.func42, Try.ntmps42
    go_wp2_with (go_at_call 52; refine (sized_any _ _).mono ?_; rintro e w' ⟨rfl, rfl⟩)
    refine wp_loop_rounds 9 ?_
    iterate 8 (rw [rounds_succ]; go_wp2_with fail)
    rw [rounds_succ]
    go_wp2_with (at_builtin; refine wpList_dupb _ rfl (.tmp 23) (.tmp 26) 40 rfl 5 Try.underlying40 infoU8 _ (by simp) rfl (w.heap.size + 1) _ 4 _ (putB n 4) rfl (putB_length n 4).symm (by omega) HQ.out (by simp) ?_; intro v' ys d hown)
    go_ret
    exact ⟨v', rfl, by exact bel, own_base hown (by simp)⟩
  · go_enter Try.func42, Try.ntmps42
    go_wp2_with (go_at_call 52; refine (sized_any _ _).mono ?_; rintro e w' ⟨rfl, rfl⟩)
    refine wp_loop_rounds 9 ?_
    iterate 8 (rw [rounds_succ]; go_wp2_with fail)
    rw [rounds_succ]
    go_wp2_with (at_builtin; refine wpList_dupb _ rfl (.tmp 23) (.tmp 26) 40 rfl 5 Try.underlying40 infoU8 _ (by simp) rfl (w.heap.size + 1) _ 5 _ (putB n 5) rfl (putB_length n 5).symm (by omega) HQ.out (by simp) ?_; intro v' ys d hown)
    go_ret
    exact ⟨v', rfl, by exact bel, own_base hown (by simp)⟩
  · go_enter Try.func42, Try.ntmps42
    go_wp2_with (go_at_call 52; refine (sized_any _ _).mono ?_; rintro e w' ⟨rfl, rfl⟩)
    refine wp_loop_rounds 9 ?_
    iterate 8 (rw [rounds_succ]; go_wp2_with fail)
    rw [rounds_succ]
    go_wp2_with (at_builtin; refine wpList_dupb _ rfl (.tmp 23) (.tmp 26) 40 rfl 5 Try.underlying40 infoU8 _ (by simp) rfl (w.heap.size + 1) _ 6 _ (putB n 6) rfl (putB_length n 6).symm (by omega) HQ.out (by simp) ?_; intro v' ys d hown)
    go_ret
    exact ⟨v', rfl, by exact bel, own_base hown (by simp)⟩
  · go_enter Try.func42, Try.ntmps42
    go_wp2_with (go_at_call 52; refine (sized_any _ _).mono ?_; rintro e w' ⟨rfl, rfl⟩)
    refine wp_loop_rounds 9 ?_
    iterate 8 (rw [rounds_succ]; go_wp2_with fail)
    rw [rounds_succ]
    go_wp2_with (at_builtin; refine wpList_dupb _ rfl (.tmp 23) (.tmp 26) 40 rfl 5 Try.underlying40 infoU8 _ (by simp) rfl (w.heap.size + 1) _ 7 _ (putB n 7) rfl (putB_length n 7).symm (by omega) HQ.out (by simp) ?_; intro v' ys d hown)
    go_ret
    exact ⟨v', rfl, by exact bel, own_base hown (by simp)⟩
  · go_enter Try.func42, Try.ntmps42
    go_wp2_with (go_at_call 52; refine (sized_any _ _).mono ?_; rintro e w' ⟨rfl, rfl⟩)
    refine wp_loop_rounds 9 ?_
    iterate 8 (rw [rounds_succ]; go_wp2_with fail)
    rw [rounds_succ]
    go_wp2_with (at_builtin; refine wpList_dupb _ rfl (.tmp 23) (.tmp 26) 40 rfl 5 Try.underlying40 infoU8 _ (by simp) rfl (w.heap.size + 1) _ 8 _ (putB n 8) rfl (putB_length n 8).symm (by omega) HQ.out (by simp) ?_; intro v' ys d hown)
    go_ret
    exact ⟨v', rfl, by exact bel, own_base hown (by simp)⟩
end Go.Proofs.Ytlkijhcgiilmhaa
