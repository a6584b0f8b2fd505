/- Walk: of the program and of the reference. -/
import Derived.Test.YtffkkeedmgaoiaaG7
import Derived.Test.YtffkkeedmgaoiaaG3d
namespace Go.Proofs.Ytffkkeedmgaoiaa
open Go.RowKit
set_option linter.unusedSimpArgs false
set_option linter.unusedVariables false
def walkS : Int → List Int → Int × List Int × Nat × Int
  | s, [] => (s, [], 0, 0)
  | s, e :: es => if stepErr s e = 0 then let r := walkS (tabNext e s) es; (r.1, tabActs e s ++ r.2.1, r.2.2.1 + 1, r.2.2.2) else (s, [], 0, stepErr s e)
def walkF (s : Int) (es : List Int) : Int × List Int × Nat × Int := if 0 ≤ s ∧ s ≤ 9 then walkS s es else (0, [], 0, 140)
def WalkP (s : Int) (es : List Int) (w : World) (x : Ending) (w' : World) : Prop :=
  ∃ v, x = .returned (.tuple #[.int .i64 (walkF s es).1, v, .int .i64 ((walkF s es).2.2.1 : Nat), .int .i64 (walkF s es).2.2.2]) ∧ Told w (walkF s es).2.1 v w'
/-- Behind k events. -/
def Mid (s : Int) (es : List Int) (k : Nat) (sk : Int) (acts : List Int) : Prop :=
  walkS s es = ((walkS sk (es.drop k)).1, acts ++ (walkS sk (es.drop k)).2.1, k + (walkS sk (es.drop k)).2.2.1, (walkS sk (es.drop k)).2.2.2) ∧ acts.length ≤ 3 * k
theorem tabActs_le (e s : Int) : (tabActs e s).length ≤ 3 := by
  by_cases h : 1 ≤ e ∧ e ≤ 16 ∧ 0 ≤ s ∧ s ≤ 9
  · obtain ⟨h1, h2, h3, h4⟩ := h
    rcases sixteen h1 h2 with rfl | rfl | rfl | rfl | rfl | rfl | rfl | rfl | rfl | rfl | rfl | rfl | rfl | rfl | rfl | rfl <;> rcases ten h3 h4 with rfl | rfl | rfl | rfl | rfl | rfl | rfl | rfl | rfl | rfl <;> decide
  · have : tabC e s = none := by unfold tabC; rw [if_neg h]
    simp [tabActs, this]
theorem Mid.start (s : Int) (es : List Int) : Mid s es 0 s [] := by simp [Mid]
theorem Mid.step {s : Int} {es : List Int} {k : Nat} {sk e : Int} {acts : List Int} (h : Mid s es k sk acts) (hk : k < es.length) (he : es.getD k 0 = e) (h0 : stepErr sk e = 0) : Mid s es (k + 1) (tabNext e sk) (acts ++ tabActs e sk) := by
  have hd : es.drop k = e :: es.drop (k + 1) := by
    rw [List.drop_eq_getElem_cons hk]
    have : es[k] = e := by rw [← he]; simp [List.getD_eq_getElem?_getD, List.getElem?_eq_getElem hk]
    rw [this]
  have hw : walkS sk (es.drop k) = ((walkS (tabNext e sk) (es.drop (k + 1))).1, tabActs e sk ++ (walkS (tabNext e sk) (es.drop (k + 1))).2.1, (walkS (tabNext e sk) (es.drop (k + 1))).2.2.1 + 1, (walkS (tabNext e sk) (es.drop (k + 1))).2.2.2) := by
    rw [hd]; simp only [walkS]; rw [if_pos h0]
  refine ⟨?_, ?_⟩
  · rw [h.1, hw]
    simp only [List.append_assoc]
    congr 3
    omega
  · have := tabActs_le e sk
    have := h.2
    simp only [List.length_append]
    omega
theorem Mid.stop {s : Int} {es : List Int} {k : Nat} {sk e : Int} {acts : List Int} (h : Mid s es k sk acts) (hk : k < es.length) (he : es.getD k 0 = e) (h0 : stepErr sk e ≠ 0) : walkS s es = (sk, acts, k, stepErr sk e) := by
  have hd : es.drop k = e :: es.drop (k + 1) := by
    rw [List.drop_eq_getElem_cons hk]
    have : es[k] = e := by rw [← he]; simp [List.getD_eq_getElem?_getD, List.getElem?_eq_getElem hk]
    rw [this]
  have hw : walkS sk (es.drop k) = (sk, [], 0, stepErr sk e) := by rw [hd]; simp only [walkS]; rw [if_neg h0]
  rw [h.1, hw]; simp
theorem Mid.ends {s : Int} {es : List Int} {k : Nat} {sk : Int} {acts : List Int} (h : Mid s es k sk acts) (hk : k = es.length) : walkS s es = (sk, acts, es.length, 0) := by
  have hw : walkS sk (es.drop k) = (sk, [], 0, 0) := by rw [List.drop_eq_nil_of_le (by omega)]; simp [walkS]
  rw [h.1, hw]; simp [hk]
theorem results_tmp4 {fn : Func} {t u v y : Tmp} (h : fn.results = #[.tmp t, .tmp u, .tmp v, .tmp y]) (tmps : Array Value) (P : Program) (w : World) :
    (results fn tmps).run P w = .ok (.tuple #[tmps.getD t undef, tmps.getD u undef, tmps.getD v undef, tmps.getD y undef]) w := by
  simp [results, h]
theorem quad {a b c d a' b' c' d' : Value} (h1 : a = a') (h2 : b = b') (h3 : c = c') (h4 : d = d') : Ending.returned (.tuple #[a, b, c, d]) = .returned (.tuple #[a', b', c', d']) := by rw [h1, h2, h3, h4]
theorem av_all (l : List Int) : ∀ u ∈ l.map av, u.oneCell' = true := by
  intro u hu
  obtain ⟨x, _, rfl⟩ := List.mem_map.1 hu
  rfl
theorem mstep_any (s e : Int) (w : World) : Calls Try.prog 32 #[.int .i64 s, .int .i64 e] w (StepP s e w) := by
  go_enter Try.func32, Try.ntmps32
  go_wp2_with (go_at_call 11; refine (step_any _ _ _).mono ?_; rintro e' w1 ⟨v, rfl, hb, ho⟩; obtain ⟨xs, d, rfl⟩ := ext_of hb; clear hb; obtain ⟨A, c, rfl, -, -⟩ := ownsRow_form ho; have HA := Lib.hid ho; clear ho)
  go_ret3
  exact ⟨_, rfl, by (repeat (first | exact Below.refl _ _ | exact Nat.le_refl _ | (refine below_ext ?_ (by first | (simp [size_ext, grow]; done) | (simp [size_ext, grow]; omega) | omega) _ _) | (refine Below.setCell ?_ (by first | (simp [size_ext, grow]; done) | (simp [size_ext, grow]; omega) | omega) _) | (refine Below.alloc ?_ (by first | (simp [size_ext, grow]; done) | (simp [size_ext, grow]; omega) | omega) _) | refine Below.drew ?_ | refine below_drewN ?_ _ | (refine Below.trans ?_ (Below.mono (by assumption) (by first | (simp [size_ext, grow]; done) | (simp [size_ext, grow]; omega) | omega))))), HA.out⟩
set_option maxHeartbeats 4000000 in
theorem walk_in (s0 : Int) (A1 : Option Addr) (n1 c1 : Nat) (es : List Int) (w : World) (B : Nat) (hB : B ≤ w.heap.size) (hA : At w B A1 (es.map av)) (hn : n1 = es.length) (hl : n1 ≤ 1000) (h0 : 0 ≤ s0) (h9 : s0 ≤ 9) :
    Calls Try.prog 15 #[.int .i64 s0, .slice A1 n1 c1] w (WalkP s0 es w) := by
  subst hn
  have HA := Lib.hid hA
  have HB := Lib.hid hB
  have HS := Lib.hid (show walkF s0 es = walkS s0 es by unfold walkF; rw [if_pos ⟨h0, h9⟩])
  clear hA hB
  go_enter Try.func15, Try.ntmps15
  go_wp2_with (go_at_call 29; refine (known_any _ _).mono ?_; rintro e w1 ⟨rfl, rfl⟩)
  clear h0 h9
  go_loopw [0, 20, 8] (fun s i v wr => ∃ (k n c : Nat) (A : Option Addr) (sk : Int) (acts : List Int), k ≤ es.length ∧ s = .int .i64 sk ∧ i = .int .i64 k ∧ v = .slice A n c ∧ n ≤ c ∧ n = acts.length ∧ n ≤ 3 * k ∧ Mid s0 es k sk acts ∧ Below w.heap.size w wr ∧ wr.ownsRow w.heap.size 37 1 (.slice A n c) n (acts.map av)) (fun _ i _ _ => es.length - (intOf i).toNat)
  case atStart => exact ⟨0, 0, 0, none, s0, [], Nat.zero_le _, rfl, rfl, rfl, Nat.le_refl _, rfl, Nat.zero_le _, Mid.start _ _, Below.refl _ _, own_nil _ _ _ _⟩
  case round =>
    obtain ⟨k, n, c, A, sk, acts, hk, rfl, rfl, rfl, hc, hn, hn3, hM, hb, ho⟩ := hrel
    have HC := Lib.hid hc
    have HN := Lib.hid hn
    have HM := Lib.hid hM
    have HBW := Lib.hid hb
    have HO := Lib.hid ho
    clear hc hn hM ho
    have hsz := hb.size
    by_cases hlt : k < es.length
    · obtain ⟨b1, o1, rfl, hbB⟩ := HA.out.cellAt hlt
      obtain ⟨e, he, hcell⟩ := (HA.out.keep (hb.mono HB.out)).readAt hlt
      have HE := Lib.hid he
      clear he hbB
      by_cases herr : stepErr sk e = 0
      · have HERR := Lib.hid herr
        have herr' : (stepErr sk e == 0) = true := by simp [herr]
        clear herr
        go_wp2_with fail
        refine (mstep_any _ _ _).mono ?_
        rintro e' w1 ⟨v, rfl, hb2, ho2⟩; obtain ⟨xs, d, rfl⟩ := ext_of hb2; clear hb2
        obtain ⟨A2, c2, rfl, -, -⟩ := ownsRow_form ho2; have HA2 := Lib.hid ho2; clear ho2
        have hle := tabActs_le e sk
        go_wp2_with (at_builtin; go_loud (refine wpList_appv w rfl (.tmp 40) (.tmp 41) 24 rfl 37 Try.underlying24 (.int .i64 0) 1 8 infoAct rfl (by decide) (by decide) (.slice A n c) n (acts.map av) rfl (own_below HO.out (by (repeat (first | exact Below.refl _ _ | exact Nat.le_refl _ | (refine below_ext ?_ (by first | (simp [size_ext, grow]; done) | (simp [size_ext, grow]; omega) | omega) _ _) | (refine Below.setCell ?_ (by first | (simp [size_ext, grow]; done) | (simp [size_ext, grow]; omega) | omega) _) | (refine Below.alloc ?_ (by first | (simp [size_ext, grow]; done) | (simp [size_ext, grow]; omega) | omega) _) | refine Below.drew ?_ | refine below_drewN ?_ _ | (refine Below.trans ?_ (Below.mono (by assumption) (by first | (simp [size_ext, grow]; done) | (simp [size_ext, grow]; omega) | omega))))))) _ A2 (tabActs e sk).length c2 ((tabActs e sk).map av) rfl (by simp) (by omega) (At.of_own HA2.out) (av_all _) (by (repeat (first | exact Below.refl _ _ | exact Nat.le_refl _ | (refine below_ext ?_ (by first | (simp [size_ext, grow]; done) | (simp [size_ext, grow]; omega) | omega) _ _) | (refine Below.setCell ?_ (by first | (simp [size_ext, grow]; done) | (simp [size_ext, grow]; omega) | omega) _) | (refine Below.alloc ?_ (by first | (simp [size_ext, grow]; done) | (simp [size_ext, grow]; omega) | omega) _) | refine Below.drew ?_ | refine below_drewN ?_ _ | (refine Below.trans ?_ (Below.mono (by assumption) (by first | (simp [size_ext, grow]; done) | (simp [size_ext, grow]; omega) | omega)))))) ?_); intro A' c' w' ho' hc' hb' hg'; clear hg'; have HO' := Lib.hid ho'; have HB' := Lib.hid hb'; have HC' := Lib.hid hc'; clear ho' hb' hc')
        clear hb hsz
        go_roundw
        case rel => exact ⟨k + 1, n + (tabActs e sk).length, c', A', tabNext e sk, acts ++ tabActs e sk, by omega, rfl, by go_num, rfl, HC'.out, by rw [List.length_append, HN.out], by omega, HM.out.step hlt HE.out HERR.out, HB'.out, by rw [List.map_append]; exact HO'.out⟩
        case measure => simp [intOf]; omega
      · have HERR := Lib.hid herr
        have herr' : (stepErr sk e == 0) = false := by simp [herr]
        clear herr
        have HF := Lib.hid (HM.out.stop hlt HE.out HERR.out)
        go_wp2_with fail
        refine (mstep_any _ _ _).mono ?_
        rintro e' w1 ⟨v, rfl, hb2, ho2⟩; obtain ⟨xs, d, rfl⟩ := ext_of hb2; clear hb2
        obtain ⟨A2, c2, rfl, -, -⟩ := ownsRow_form ho2; have HA2 := Lib.hid ho2; clear ho2
        go_wp2_with fail
        (try simp only [Exit.inBlock, Exit.then]); refine bodyPost_ret (results_tmp4 rfl _ _ _) rfl ?_
        refine ⟨_, quad (congrArg (Value.int .i64) ?_) rfl (congrArg (Value.int .i64) ?_) (congrArg (Value.int .i64) ?_), by (repeat (first | exact Below.refl _ _ | exact Nat.le_refl _ | (refine below_ext ?_ (by first | (simp [size_ext, grow]; done) | (simp [size_ext, grow]; omega) | omega) _ _) | (refine Below.setCell ?_ (by first | (simp [size_ext, grow]; done) | (simp [size_ext, grow]; omega) | omega) _) | (refine Below.alloc ?_ (by first | (simp [size_ext, grow]; done) | (simp [size_ext, grow]; omega) | omega) _) | refine Below.drew ?_ | refine below_drewN ?_ _ | (refine Below.trans ?_ (Below.mono (by assumption) (by first | (simp [size_ext, grow]; done) | (simp [size_ext, grow]; omega) | omega))))), ?_⟩
        · rw [HS.out, HF.out]
        · rw [HS.out, HF.out]
        · rw [HS.out, HF.out]
        · rw [HS.out, HF.out]; have := HN.out; subst this; exact own_below HO.out (by (repeat (first | exact Below.refl _ _ | exact Nat.le_refl _ | (refine below_ext ?_ (by first | (simp [size_ext, grow]; done) | (simp [size_ext, grow]; omega) | omega) _ _) | (refine Below.setCell ?_ (by first | (simp [size_ext, grow]; done) | (simp [size_ext, grow]; omega) | omega) _) | (refine Below.alloc ?_ (by first | (simp [size_ext, grow]; done) | (simp [size_ext, grow]; omega) | omega) _) | refine Below.drew ?_ | refine below_drewN ?_ _ | (refine Below.trans ?_ (Below.mono (by assumption) (by first | (simp [size_ext, grow]; done) | (simp [size_ext, grow]; omega) | omega))))))
    · have HF := Lib.hid (HM.out.ends (by omega))
      go_wp2_with fail
      (try simp only [Exit.inBlock, Exit.then]); refine bodyPost_ret (results_tmp4 rfl _ _ _) rfl ?_
      refine ⟨_, quad (congrArg (Value.int .i64) ?_) rfl (congrArg (Value.int .i64) ?_) (congrArg (Value.int .i64) ?_), hb, ?_⟩
      · rw [HS.out, HF.out]
      · rw [HS.out, HF.out]
      · rw [HS.out, HF.out]
      · rw [HS.out, HF.out]; have := HN.out; subst this; exact HO.out
theorem walk_any (s0 : Int) (A1 : Option Addr) (n1 c1 : Nat) (es : List Int) (w : World) (B : Nat) (hB : B ≤ w.heap.size) (hA : At w B A1 (es.map av)) (hn : n1 = es.length) (hl : n1 ≤ 1000) :
    Calls Try.prog 15 #[.int .i64 s0, .slice A1 n1 c1] w (WalkP s0 es w) := by
  by_cases h : 0 ≤ s0 ∧ s0 ≤ 9
  · exact walk_in s0 A1 n1 c1 es w B hB hA hn hl h.1 h.2
  · have HS := Lib.hid (show walkF s0 es = (0, [], 0, 140) by unfold walkF; rw [if_neg h])
    have hk : (decide (0 ≤ s0) && decide (s0 ≤ 9)) = false := by simp; omega
    clear hA hB hn hl h
    go_enter Try.func15, Try.ntmps15
    go_wp2_with (go_at_call 29; refine (known_any _ _).mono ?_; rw [hk]; rintro e w1 ⟨rfl, rfl⟩)
    (try simp only [Exit.inBlock, Exit.then]); refine bodyPost_ret (results_tmp4 rfl _ _ _) rfl ?_
    exact ⟨.slice none 0 0, quad (by rw [HS.out]; rfl) rfl (by rw [HS.out]; rfl) (by rw [HS.out]; rfl), Below.refl _ _, by rw [HS.out]; exact own_nil _ _ _ _⟩
set_option maxHeartbeats 4000000 in
theorem walkref_in (s0 : Int) (A1 : Option Addr) (n1 c1 : Nat) (es : List Int) (w : World) (B : Nat) (hB : B ≤ w.heap.size) (hA : At w B A1 (es.map av)) (hn : n1 = es.length) (hl : n1 ≤ 1000) (h0 : 0 ≤ s0) (h9 : s0 ≤ 9) :
    Calls Try.prog 16 #[.int .i64 s0, .slice A1 n1 c1] w (WalkP s0 es w) := by
  subst hn
  have HA := Lib.hid hA
  have HB := Lib.hid hB
  have HS := Lib.hid (show walkF s0 es = walkS s0 es by unfold walkF; rw [if_pos ⟨h0, h9⟩])
  clear hA hB
  go_enter Try.func16, Try.ntmps16
  go_wp2_with fail
  clear h0 h9
  go_loopw [0, 9, 8] (fun s i v wr => ∃ (k n c : Nat) (A : Option Addr) (sk : Int) (acts : List Int), k ≤ es.length ∧ s = .int .i64 sk ∧ i = .int .i64 k ∧ v = .slice A n c ∧ n ≤ c ∧ n = acts.length ∧ n ≤ 3 * k ∧ Mid s0 es k sk acts ∧ Below w.heap.size w wr ∧ wr.ownsRow w.heap.size 37 1 (.slice A n c) n (acts.map av)) (fun _ i _ _ => es.length - (intOf i).toNat)
  case atStart => exact ⟨0, 0, 0, none, s0, [], Nat.zero_le _, rfl, rfl, rfl, Nat.le_refl _, rfl, Nat.zero_le _, Mid.start _ _, Below.refl _ _, own_nil _ _ _ _⟩
  case round =>
    obtain ⟨k, n, c, A, sk, acts, hk, rfl, rfl, rfl, hc, hn, hn3, hM, hb, ho⟩ := hrel
    have HC := Lib.hid hc
    have HN := Lib.hid hn
    have HM := Lib.hid hM
    have HBW := Lib.hid hb
    have HO := Lib.hid ho
    clear hc hn hM ho
    have hsz := hb.size
    by_cases hlt : k < es.length
    · obtain ⟨b1, o1, rfl, hbB⟩ := HA.out.cellAt hlt
      obtain ⟨e, he, hcell⟩ := (HA.out.keep (hb.mono HB.out)).readAt hlt
      have HE := Lib.hid he
      clear he hbB
      by_cases herr : stepErr sk e = 0
      · have HERR := Lib.hid herr
        have herr' : (stepErr sk e == 0) = true := by simp [herr]
        clear herr
        go_wp2_with fail
        refine (stepref_any _ _ _).mono ?_
        rintro e' w1 ⟨v, rfl, hb2, ho2⟩; obtain ⟨xs, d, rfl⟩ := ext_of hb2; clear hb2
        obtain ⟨A2, c2, rfl, -, -⟩ := ownsRow_form ho2; have HA2 := Lib.hid ho2; clear ho2
        have hle := tabActs_le e sk
        go_wp2_with (at_builtin; go_loud (refine wpList_appv w rfl (.tmp 42) (.tmp 43) 24 rfl 37 Try.underlying24 (.int .i64 0) 1 8 infoAct rfl (by decide) (by decide) (.slice A n c) n (acts.map av) rfl (own_below HO.out (by (repeat (first | exact Below.refl _ _ | exact Nat.le_refl _ | (refine below_ext ?_ (by first | (simp [size_ext, grow]; done) | (simp [size_ext, grow]; omega) | omega) _ _) | (refine Below.setCell ?_ (by first | (simp [size_ext, grow]; done) | (simp [size_ext, grow]; omega) | omega) _) | (refine Below.alloc ?_ (by first | (simp [size_ext, grow]; done) | (simp [size_ext, grow]; omega) | omega) _) | refine Below.drew ?_ | refine below_drewN ?_ _ | (refine Below.trans ?_ (Below.mono (by assumption) (by first | (simp [size_ext, grow]; done) | (simp [size_ext, grow]; omega) | omega))))))) _ A2 (tabActs e sk).length c2 ((tabActs e sk).map av) rfl (by simp) (by omega) (At.of_own HA2.out) (av_all _) (by (repeat (first | exact Below.refl _ _ | exact Nat.le_refl _ | (refine below_ext ?_ (by first | (simp [size_ext, grow]; done) | (simp [size_ext, grow]; omega) | omega) _ _) | (refine Below.setCell ?_ (by first | (simp [size_ext, grow]; done) | (simp [size_ext, grow]; omega) | omega) _) | (refine Below.alloc ?_ (by first | (simp [size_ext, grow]; done) | (simp [size_ext, grow]; omega) | omega) _) | refine Below.drew ?_ | refine below_drewN ?_ _ | (refine Below.trans ?_ (Below.mono (by assumption) (by first | (simp [size_ext, grow]; done) | (simp [size_ext, grow]; omega) | omega)))))) ?_); intro A' c' w' ho' hc' hb' hg'; clear hg'; have HO' := Lib.hid ho'; have HB' := Lib.hid hb'; have HC' := Lib.hid hc'; clear ho' hb' hc')
        clear hb hsz
        go_roundw
        case rel => exact ⟨k + 1, n + (tabActs e sk).length, c', A', tabNext e sk, acts ++ tabActs e sk, by omega, rfl, by go_num, rfl, HC'.out, by rw [List.length_append, HN.out], by omega, HM.out.step hlt HE.out HERR.out, HB'.out, by rw [List.map_append]; exact HO'.out⟩
        case measure => simp [intOf]; omega
      · have HERR := Lib.hid herr
        have herr' : (stepErr sk e == 0) = false := by simp [herr]
        clear herr
        have HF := Lib.hid (HM.out.stop hlt HE.out HERR.out)
        go_wp2_with fail
        refine (stepref_any _ _ _).mono ?_
        rintro e' w1 ⟨v, rfl, hb2, ho2⟩; obtain ⟨xs, d, rfl⟩ := ext_of hb2; clear hb2
        obtain ⟨A2, c2, rfl, -, -⟩ := ownsRow_form ho2; have HA2 := Lib.hid ho2; clear ho2
        go_wp2_with fail
        (try simp only [Exit.inBlock, Exit.then]); refine bodyPost_ret (results_tmp4 rfl _ _ _) rfl ?_
        refine ⟨_, quad (congrArg (Value.int .i64) ?_) rfl (congrArg (Value.int .i64) ?_) (congrArg (Value.int .i64) ?_), by (repeat (first | exact Below.refl _ _ | exact Nat.le_refl _ | (refine below_ext ?_ (by first | (simp [size_ext, grow]; done) | (simp [size_ext, grow]; omega) | omega) _ _) | (refine Below.setCell ?_ (by first | (simp [size_ext, grow]; done) | (simp [size_ext, grow]; omega) | omega) _) | (refine Below.alloc ?_ (by first | (simp [size_ext, grow]; done) | (simp [size_ext, grow]; omega) | omega) _) | refine Below.drew ?_ | refine below_drewN ?_ _ | (refine Below.trans ?_ (Below.mono (by assumption) (by first | (simp [size_ext, grow]; done) | (simp [size_ext, grow]; omega) | omega))))), ?_⟩
        · rw [HS.out, HF.out]
        · rw [HS.out, HF.out]
        · rw [HS.out, HF.out]
        · rw [HS.out, HF.out]; have := HN.out; subst this; exact own_below HO.out (by (repeat (first | exact Below.refl _ _ | exact Nat.le_refl _ | (refine below_ext ?_ (by first | (simp [size_ext, grow]; done) | (simp [size_ext, grow]; omega) | omega) _ _) | (refine Below.setCell ?_ (by first | (simp [size_ext, grow]; done) | (simp [size_ext, grow]; omega) | omega) _) | (refine Below.alloc ?_ (by first | (simp [size_ext, grow]; done) | (simp [size_ext, grow]; omega) | omega) _) | refine Below.drew ?_ | refine below_drewN ?_ _ | (refine Below.trans ?_ (Below.mono (by assumption) (by first | (simp [size_ext, grow]; done) | (simp [size_ext, grow]; omega) | omega))))))
    · have HF := Lib.hid (HM.out.ends (by omega))
      go_wp2_with fail
      (try simp only [Exit.inBlock, Exit.then]); refine bodyPost_ret (results_tmp4 rfl _ _ _) rfl ?_
      refine ⟨_, quad (congrArg (Value.int .i64) ?_) rfl (congrArg (Value.int .i64) ?_) (congrArg (Value.int .i64) ?_), hb, ?_⟩
      · rw [HS.out, HF.out]
      · rw [HS.out, HF.out]
      · rw [HS.out, HF.out]
      · rw [HS.out, HF.out]; have := HN.out; subst this; exact HO.out
theorem walkref_any (s0 : Int) (A1 : Option Addr) (n1 c1 : Nat) (es : List Int) (w : World) (B : Nat) (hB : B ≤ w.heap.size) (hA : At w B A1 (es.map av)) (hn : n1 = es.length) (hl : n1 ≤ 1000) :
    Calls Try.prog 16 #[.int .i64 s0, .slice A1 n1 c1] w (WalkP s0 es w) := by
  by_cases h : 0 ≤ s0 ∧ s0 ≤ 9
  · exact walkref_in s0 A1 n1 c1 es w B hB hA hn hl h.1 h.2
  · have HS := Lib.hid (show walkF s0 es = (0, [], 0, 140) by unfold walkF; rw [if_neg h])
    have hk : s0 < 0 ∨ 9 < s0 := by omega
    clear hA hB hn hl h
    rcases hk with hk | hk
    all_goals
      go_enter Try.func16, Try.ntmps16
      go_wp2
      (try simp only [Exit.inBlock, Exit.then]); refine bodyPost_ret (results_tmp4 rfl _ _ _) rfl ?_
      exact ⟨.slice none 0 0, quad (by rw [HS.out]; rfl) rfl (by rw [HS.out]; rfl) (by rw [HS.out]; rfl), Below.refl _ _, by rw [HS.out]; exact own_nil _ _ _ _⟩
end Go.Proofs.Ytffkkeedmgaoiaa
