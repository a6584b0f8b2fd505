/- clean. -/
import Derived.Test.YtlholmndckhhgaaM1
import Derived.Outline
import Derived.StillTailTactics
namespace Go.Proofs.Ytlholmndckhhgaa
open Go.RowKit Go.Maps
set_option linter.unusedSimpArgs false
set_option linter.unusedVariables false
def LimC (W : World) (l : Nat) (e1 m1 e2 m2 bt bk : Int) (bm : Option Nat) (tick : Int) : Prop :=
  W.heap[l]? = some (.cells #[.int .i64 e1, .int .i64 m1, .int .i64 e2, .int .i64 m2, .int .i64 bt, .int .i64 bk, .map bm, .int .i64 tick] 63 (0, 0))
def MapAt (W : World) (bm : Nat) (L : Ents) : Prop := ∃ D, Rep D L ∧ W.ownsMap Try.prog 45 Rb bm L.length D
theorem MapAt.of {W : World} {bm n : Nat} {D : DataW Unit} {L : Ents} (h : W.ownsMap Try.prog 45 Rb bm n D) (hr : Rep D L) : MapAt W bm L := by
  refine ⟨D, hr, ?_⟩
  have hs := hr.size
  obtain ⟨es, clock, h1, h2, h3, rfl⟩ := h
  refine ⟨es, clock, h1, h2, ?_, rfl⟩
  rw [← hs]
  simp [Maps.size, length_sorted]
theorem LimC.ne {W : World} {l : Nat} {e1 m1 e2 m2 bt bk : Int} {bm : Option Nat} {tick : Int} {b n : Nat} {D : DataW Unit} (h : LimC W l e1 m1 e2 m2 bt bk bm tick) (hm : W.ownsMap Try.prog 45 Rb b n D) : l ≠ b := by
  obtain ⟨es, clock, h1, -⟩ := hm
  intro e
  subst e
  unfold LimC at h
  rw [h] at h1
  cases h1
/-- A bucket that is kept: it is not full as of a tick. -/
def keepB (e m tick : Int) (p : Lit × (Int × Int)) : Bool := !(atOk e m p.2.1 p.2.2 tick && (atTok e m p.2.1 p.2.2 tick == m))
theorem Rep.has_mem {D : DataW Unit} {L : Ents} (h : Rep D L) {p : Lit × (Int × Int)} (hp : p ∈ L) : Maps.has D p.1 = true := by
  rw [h.has]
  unfold hasL
  rw [List.any_eq_true]
  exact ⟨p, hp, (sameKey_iff (h.2.2 p hp)).2 rfl⟩
theorem below_grown {W W' : World} (h : Below W.heap.size W W') : W.grownBy W' none := ⟨h.os, h.tape, h.output, h.size, fun k hk _ => h.block k hk⟩
theorem Rep.mem_at {D : DataW Unit} {L : Ents} (h : Rep D L) {p : Lit × (Int × Int)} (hp : p ∈ L) (z : DataW Unit) : D.atKey p.1 z = bkt p.2 := by
  have hk := h.2.2 p hp
  rw [h.at hk]
  unfold getL
  cases hf : L.find? (fun q => q.1.sameKey p.1) with
  | none =>
    have := List.find?_eq_none.1 hf p hp
    rw [(sameKey_iff hk).2 rfl] at this
    simp at this
  | some q =>
    have hq : q.1.sameKey p.1 = true := by have := List.find?_some hf; simpa using this
    rw [apart_eq h.2.1 (List.mem_of_find?_eq_some hf) hp ((sameKey_iff hk).1 hq)]
    rfl
theorem clean_at {L : Ents} {D1 : DataW Unit} {left : Lit → Bool} {keep : Lit × (Int × Int) → Bool} {kl : Lit} {c : Int × Int} (hrep : Rep D1 (L.filter fun p => left p.1 || keep p)) (hk : WideAt.IsKeyLit kl) (hl : left kl = true) (hat : ∀ zd, D1.atKey kl zd = bkt c) :
    ∀ p ∈ L, p.1.sameKey kl = true → p = (kl, c) := by
  intro p hp he
  have e := (sameKey_iff hk).1 he
  have h := hrep.mem_at (p := p) (List.mem_filter.2 ⟨hp, by rw [e, hl]; rfl⟩) .nil
  rw [e, hat] at h
  exact Prod.ext e (bkt_inj h).symm
theorem clean_stay {L : Ents} {D1 : DataW Unit} {left : Lit → Bool} {keep : Lit × (Int × Int) → Bool} {kl : Lit} {c : Int × Int} (hrep : Rep D1 (L.filter fun p => left p.1 || keep p)) (hk : WideAt.IsKeyLit kl) (hl : left kl = true) (hat : ∀ zd, D1.atKey kl zd = bkt c) (hkeep : keep (kl, c) = true) :
    Rep D1 (L.filter fun p => (left p.1 && !p.1.sameKey kl) || keep p) := by
  have e : (L.filter fun p => (left p.1 && !p.1.sameKey kl) || keep p) = L.filter fun p => left p.1 || keep p := by
    apply List.filter_congr
    intro p hp
    cases hs : p.1.sameKey kl
    · simp
    · rw [clean_at hrep hk hl hat p hp hs, hkeep]; simp
  rw [e]
  exact hrep
theorem clean_drop {L : Ents} {D1 : DataW Unit} {left : Lit → Bool} {keep : Lit × (Int × Int) → Bool} {kl : Lit} {c : Int × Int} (hrep : Rep D1 (L.filter fun p => left p.1 || keep p)) (hk : WideAt.IsKeyLit kl) (hl : left kl = true) (hat : ∀ zd, D1.atKey kl zd = bkt c) (hkeep : keep (kl, c) = false) :
    Rep (D1.del kl) (L.filter fun p => (left p.1 && !p.1.sameKey kl) || keep p) := by
  have h := hrep.drop kl
  have e : (L.filter fun p => (left p.1 && !p.1.sameKey kl) || keep p) = dropL (L.filter fun p => left p.1 || keep p) kl := by
    unfold dropL
    rw [List.filter_filter]
    apply List.filter_congr
    intro p hp
    cases hs : p.1.sameKey kl
    · simp
    · rw [clean_at hrep hk hl hat p hp hs, hkeep]; simp
  rw [e]
  exact h
theorem clean_round {W wr w1 W' : World} {bm n : Nat} {L : Ents} {D1 D2 : DataW Unit} {left : Lit → Bool} {cnt cnt1 : Nat} {kl : Lit} {keep : Lit × (Int × Int) → Bool} (hg : W.grownBy wr (some bm)) (hrg : wr.ranges Try.prog 45 Rb bm W.heap.size n D1 left cnt)
    (hrg1 : w1.ranges Try.prog 45 Rb bm W.heap.size n D2 (fun z => left z && !z.sameKey kl) cnt1) (hlt : cnt1 < cnt) (hg1 : wr.grownBy w1 (some W.heap.size)) (hrep : Rep D2 (L.filter fun p => (left p.1 && !p.1.sameKey kl) || keep p)) (hb : Below w1.heap.size w1 W') :
    (∃ (left : Lit → Bool) (cnt : Nat) (D : DataW Unit), W'.ranges Try.prog 45 Rb bm W.heap.size n D left cnt ∧ Rep D (L.filter fun p => left p.1 || keep p) ∧ W.grownBy W' (some bm)) ∧ W'.rangeLeft bm W.heap.size < wr.rangeLeft bm W.heap.size := by
  have h := hrg1.kept (below_grown hb) (by simp) (by simp)
  refine ⟨⟨_, cnt1, D2, h, hrep, (hg.andThen hg1 (fun j e => by cases e; exact .inl (Nat.le_refl _))).andThen (below_grown hb) (fun j e => by cases e)⟩, ?_⟩
  rw [h.left_eq, hrg.left_eq]
  exact hlt
theorem wp_world {P : Program} {c : Code} {Q : Exit → Act → World → Prop} {a : Act} {w : World} (S : World → Prop) (hS : S w) (h : ∀ W, S W → c.wp P Q a W) : c.wp P Q a w := h w hS
theorem clean_turn {W wr w1 W5 W6 : World} {bm n : Nat} {L : Ents} {D1 D2 : DataW Unit} {left left2 : Lit → Bool} {cnt cnt1 : Nat} {keep : Lit × (Int × Int) → Bool} (hg : W.grownBy wr (some bm)) (hrg : wr.ranges Try.prog 45 Rb bm W.heap.size n D1 left cnt)
    (hrg1 : W6.ranges Try.prog 45 Rb bm W.heap.size n D2 left2 cnt1) (hlt : cnt1 < cnt) (hg1 : wr.grownBy w1 (some W.heap.size)) (hrep : Rep D2 (L.filter fun p => left2 p.1 || keep p)) (hb : Below w1.heap.size w1 W5) (hg6 : W5.grownBy W6 (some bm)) :
    (∃ (left : Lit → Bool) (cnt : Nat) (D : DataW Unit), W6.ranges Try.prog 45 Rb bm W.heap.size n D left cnt ∧ Rep D (L.filter fun p => left p.1 || keep p) ∧ W.grownBy W6 (some bm)) ∧ W6.rangeLeft bm W.heap.size < wr.rangeLeft bm W.heap.size := by
  refine ⟨⟨_, cnt1, D2, hrg1, hrep, ((hg.andThen hg1 (fun j e => by cases e; exact .inl (Nat.le_refl _))).andThen (below_grown hb) (fun j e => by cases e)).andThen hg6 (fun j e => .inr e)⟩, ?_⟩
  rw [hrg1.left_eq, hrg.left_eq]
  exact hlt
set_option maxRecDepth 100000 in
set_option maxHeartbeats 1000000 in
theorem clean_any (l bm : Nat) (e1 m1 e2 m2 bt bk tick : Int) (L : Ents) (W : World) (hc : LimC W l e1 m1 e2 m2 bt bk (some bm) tick) (hm : MapAt W bm L) :
    Calls Try.prog 31 #[.pointer (some ⟨l, 0, none⟩)] W fun x W' => x = .returned (.tuple #[]) ∧ MapAt W' bm (L.filter (keepB e2 m2 tick)) ∧ W.grownBy W' (some bm) := by
  obtain ⟨D, hrep, hown⟩ := hm
  have hne := hc.ne hown
  have HC := Lib.hid hc
  have HREP := Lib.hid hrep
  have h6 : W.cell? ⟨l, 6, none⟩ = some (.map (some bm)) := (cell_of_row W l 6 _ _ (0, 0) hc).trans rfl
  have hz : l < W.heap.size := lt_of_block hc
  have HOWN := Lib.hid hown
  clear hc hrep hown
  go_enter Try.func31, Try.ntmps31
  go_wp2_with (at_range; go_loud (refine wpList_range_own _ rfl (.tmp 10) 61 rfl 45 25 law45 (by kernel_rfl) Rb bm _ D rfl HOWN.out ?_); intro w0 hrg0 hg0 hs0; have HR0 := Lib.hid (And.intro hrg0 (And.intro hg0 hs0)); clear hrg0 hg0 hs0)
  go_frame
  go_loopw [12] (fun _ wr => ∃ (left : Lit → Bool) (cnt : Nat) (D : DataW Unit), wr.ranges Try.prog 45 Rb bm W.heap.size L.length D left cnt ∧ Rep D (L.filter fun p => left p.1 || keepB e2 m2 tick p) ∧ W.grownBy wr (some bm)) (fun _ wr => wr.rangeLeft bm W.heap.size)
  case atStart => exact ⟨_, _, _, HR0.out.1, by rw [List.filter_eq_self.2 (fun p hp => by rw [HREP.out.has_mem hp]; rfl)]; exact HREP.out, HR0.out.2.1.but _⟩
  case round =>
    obtain ⟨left, cnt, D1, hrg, hrep, hgr⟩ := hrel
    have HRG := Lib.hid hrg
    have HRE := Lib.hid hrep
    have HGR := Lib.hid hgr
    have hzr := hgr.size
    have HCL := Lib.hid (show LimC wr l e1 m1 e2 m2 bt bk (some bm) tick from (hgr.block l hz (by simpa using hne)).trans HC.out)
    clear hrg hrep hgr
    go_wp2_with (at_next; refine wpList_next_ranges _ rfl (.tmp 11) rfl 45 law45 Rb (fun x : M6 => Value.agg #[.int .u8 x.a, .int .u8 x.b, .int .u8 x.c, .int .u8 x.d, .int .u8 x.e, .int .u8 x.f]) (fun c : Int × Int => .agg #[.int .i64 c.1, .int .i64 c.2]) (fun _ _ h => inv45 h) (fun _ _ h => by obtain ⟨c, h1, _⟩ := Rb_inv h; exact ⟨c, h1⟩) bm W.heap.size L.length D1 left cnt rfl HRG.out ?_ ?_)
    · intro h0 hl0
      have HL0 := Lib.hid hl0
      clear h0 hl0
      go_wp2_with fail
      go_end0
      refine ⟨rfl, ?_, HGR.out⟩
      have h := HRE.out
      rw [show (L.filter fun p => left p.1 || keepB e2 m2 tick p) = L.filter (keepB e2 m2 tick) by
        apply List.filter_congr; intro p _; rw [HL0.out p.1]; rfl] at h
      exact MapAt.of HRG.out.owns h
    · intro x tok tk kl yd yp w1 cnt1 hk hl hR hat hrg1 hlt hg1 hs1 hen
      have HK := Lib.hid (And.intro hk (And.intro hl (And.intro hR hat)))
      have HRG1 := Lib.hid (And.intro hrg1 (And.intro hlt (And.intro hg1 hs1)))
      clear hk hl hR hat hrg1 hlt hg1 hs1
      have HYD := Lib.hid (show yd = bkt (tok, tk) by have h := HK.out.2.2.1; rw [Rb_mk] at h; simp only [Option.some.injEq, Prod.mk.injEq] at h; exact h.1.symm)
      have hzl : l < w1.heap.size := by have := HRG1.out.2.2.2; omega
      have hzl1 : l < w1.heap.size + 1 := by omega
      have hzl2 : l < w1.heap.size + 1 + 1 := by omega
      have HC1 := Lib.hid (show LimC w1 l e1 m1 e2 m2 bt bk (some bm) tick from (HRG1.out.2.2.1.block l (by omega) (by simp; omega)).trans HCL.out)
      have c2 : w1.cell? ⟨l, 2, none⟩ = some (.int .i64 e2) := (cell_of_row w1 l 2 _ _ (0, 0) HC1.out).trans rfl
      have c3 : w1.cell? ⟨l, 3, none⟩ = some (.int .i64 m2) := (cell_of_row w1 l 3 _ _ (0, 0) HC1.out).trans rfl
      have c6 : w1.cell? ⟨l, 6, none⟩ = some (.map (some bm)) := (cell_of_row w1 l 6 _ _ (0, 0) HC1.out).trans rfl
      have c7 : w1.cell? ⟨l, 7, none⟩ = some (.int .i64 tick) := (cell_of_row w1 l 7 _ _ (0, 0) HC1.out).trans rfl
      cases hok : atOk e2 m2 tok tk tick
      · have HA := Lib.hid (show atErr e2 m2 tok tk tick = 100 by simp [atErr, hok])
        have HOK := Lib.hid hok
        clear hok
        go_wp2_with fail
        go_region_held3 (fun w' => w'.cell? ⟨l, 2, none⟩ = some (.int .i64 e2) ∧ w'.cell? ⟨l, 3, none⟩ = some (.int .i64 m2) ∧ w'.cell? ⟨l, 7, none⟩ = some (.int .i64 tick) ∧ w'.cell? ⟨w1.heap.size + 1, 0, none⟩ = some (.int .i64 tok) ∧ w'.cell? ⟨w1.heap.size + 1, 1, none⟩ = some (.int .i64 tk)) (first | (go_keep; done) | (go_simp; done) | (simp [go_sem]; done)) ((go_at_call 11; refine (at_any _ _ _ _ _ _).mono ?_; rw [HA.out]; rintro e w2 ⟨rfl, hb⟩; obtain ⟨xs2, dr2, rfl⟩ := ext_of hb; clear hb))
        go_wp2_with (go_at_call 15; refine (full_any _ _ _).mono ?_; rintro e w2 ⟨rfl, hb⟩; obtain ⟨xs3, dr3, rfl⟩ := ext_of hb; clear hb)
        all_goals
          refine clean_round (kl := kl) (keep := keepB e2 m2 tick) HGR.out HRG.out HRG1.out.1 HRG1.out.2.1 HRG1.out.2.2.1 (clean_stay HRE.out (law45.key HK.out.1) HK.out.2.1 (fun zd => (HK.out.2.2.2 zd).trans HYD.out) (by unfold keepB; simp only; rw [HOK.out]; rfl)) ?_
          (repeat (first | exact Below.refl _ _ | exact Nat.le_refl _ | (refine below_ext ?_ (by first | (simp [size_ext, grow]; done) | (simp [size_ext, grow]; omega) | omega) _ _) | (refine Below.setCell ?_ (by first | (simp [size_ext, grow]; done) | (simp [size_ext, grow]; omega) | omega) _) | (refine Below.alloc ?_ (by first | (simp [size_ext, grow]; done) | (simp [size_ext, grow]; omega) | omega) _) | refine Below.drew ?_ | refine below_drewN ?_ _ | (refine Below.trans ?_ (Below.mono (by assumption) (by first | (simp [size_ext, grow]; done) | (simp [size_ext, grow]; omega) | omega)))))
      · have HA := Lib.hid (show atErr e2 m2 tok tk tick = 0 by simp [atErr, hok])
        have HR := Lib.hid (show full e2 m2 = m2 by simp only [atOk, Bool.and_eq_true] at hok; simp [full, hok.1.1.1])
        have HOK := Lib.hid hok
        have HTK := Lib.hid (show atTick e2 m2 tok tk tick = tick by simp [atTick, hok])
        clear hok
        cases hm : atTok e2 m2 tok tk tick == m2
        · have hm2 : (m2 == atTok e2 m2 tok tk tick) = false := by rw [← hm]; exact Bool.beq_comm
          have HM := Lib.hid hm
          obtain ⟨T, hT⟩ : ∃ T, atTok e2 m2 tok tk tick = T := ⟨_, rfl⟩
          rw [hT] at hm hm2
          have HT := Lib.hid hT
          clear hT
          go_wp2_with fail
          go_region_held3 (fun w' => w'.cell? ⟨l, 2, none⟩ = some (.int .i64 e2) ∧ w'.cell? ⟨l, 3, none⟩ = some (.int .i64 m2) ∧ w'.cell? ⟨l, 7, none⟩ = some (.int .i64 tick) ∧ w'.cell? ⟨w1.heap.size + 1, 0, none⟩ = some (.int .i64 tok) ∧ w'.cell? ⟨w1.heap.size + 1, 1, none⟩ = some (.int .i64 tk)) (first | (go_keep; done) | (go_simp; done) | (simp [go_sem]; done)) ((go_at_call 11; refine (at_any _ _ _ _ _ _).mono ?_; rw [HA.out, HT.out, HTK.out]; rintro e w2 ⟨rfl, hb⟩; obtain ⟨xs2, dr2, rfl⟩ := ext_of hb; clear hb))
          go_wp2_with (go_at_call 15; refine (full_any _ _ _).mono ?_; rw [HR.out]; rintro e w2 ⟨rfl, hb⟩; obtain ⟨xs3, dr3, rfl⟩ := ext_of hb; clear hb)
          all_goals
            refine clean_round (kl := kl) (keep := keepB e2 m2 tick) HGR.out HRG.out HRG1.out.1 HRG1.out.2.1 HRG1.out.2.2.1 (clean_stay HRE.out (law45.key HK.out.1) HK.out.2.1 (fun zd => (HK.out.2.2.2 zd).trans HYD.out) (by unfold keepB; simp only; rw [HOK.out, HM.out]; rfl)) ?_
            (repeat (first | exact Below.refl _ _ | exact Nat.le_refl _ | (refine below_ext ?_ (by first | (simp [size_ext, grow]; done) | (simp [size_ext, grow]; omega) | omega) _ _) | (refine Below.setCell ?_ (by first | (simp [size_ext, grow]; done) | (simp [size_ext, grow]; omega) | omega) _) | (refine Below.alloc ?_ (by first | (simp [size_ext, grow]; done) | (simp [size_ext, grow]; omega) | omega) _) | refine Below.drew ?_ | refine below_drewN ?_ _ | (refine Below.trans ?_ (Below.mono (by assumption) (by first | (simp [size_ext, grow]; done) | (simp [size_ext, grow]; omega) | omega)))))
        · have HM := Lib.hid hm
          have HT := Lib.hid (show atTok e2 m2 tok tk tick = m2 by simpa using hm)
          clear hm
          go_wp2_with fail
          go_region_held3 (fun w' => w'.cell? ⟨l, 2, none⟩ = some (.int .i64 e2) ∧ w'.cell? ⟨l, 3, none⟩ = some (.int .i64 m2) ∧ w'.cell? ⟨l, 7, none⟩ = some (.int .i64 tick) ∧ w'.cell? ⟨w1.heap.size + 1, 0, none⟩ = some (.int .i64 tok) ∧ w'.cell? ⟨w1.heap.size + 1, 1, none⟩ = some (.int .i64 tk)) (first | (go_keep; done) | (go_simp; done) | (simp [go_sem]; done)) ((go_at_call 11; refine (at_any _ _ _ _ _ _).mono ?_; rw [HA.out, HT.out, HTK.out]; rintro e w2 ⟨rfl, hb⟩; obtain ⟨xs2, dr2, rfl⟩ := ext_of hb; clear hb))
          go_wp2_with (go_at_call 15; refine (full_any _ _ _).mono ?_; rw [HR.out]; rintro e w2 ⟨rfl, hb⟩; obtain ⟨xs3, dr3, rfl⟩ := ext_of hb; clear hb)
          all_goals
            refine wp_world (fun W5 => Below w1.heap.size w1 W5 ∧ W5.heap[w1.heap.size]? = some (.cells #[.int .u8 x.a, .int .u8 x.b, .int .u8 x.c, .int .u8 x.d, .int .u8 x.e, .int .u8 x.f] 45 (0, 0))) ⟨?_, ?_⟩ ?_
            · (repeat (first | exact Below.refl _ _ | exact Nat.le_refl _ | (refine below_ext ?_ (by first | (simp [size_ext, grow]; done) | (simp [size_ext, grow]; omega) | omega) _ _) | (refine Below.setCell ?_ (by first | (simp [size_ext, grow]; done) | (simp [size_ext, grow]; omega) | omega) _) | (refine Below.alloc ?_ (by first | (simp [size_ext, grow]; done) | (simp [size_ext, grow]; omega) | omega) _) | refine Below.drew ?_ | refine below_drewN ?_ _ | (refine Below.trans ?_ (Below.mono (by assumption) (by first | (simp [size_ext, grow]; done) | (simp [size_ext, grow]; omega) | omega)))))
            · (repeat (first | ((refine heap_alloc_at _ _ _ ?_); (simp [go_sem]; done)) | ((refine (heap_ext _ _ _ _ ?_).trans ?_); (focus (simp [go_sem]; done))) | ((refine (heap_alloc_past _ _ _ ?_).trans ?_); (focus (simp [go_sem]; done)))))
            rintro W5 ⟨hb5, hk5⟩
            have k0 : W5.cell? ⟨w1.heap.size, 0, none⟩ = some (.int .u8 x.a) := (cell_of_row W5 _ 0 _ _ (0, 0) hk5).trans rfl
            have k1 : W5.cell? ⟨w1.heap.size, 1, none⟩ = some (.int .u8 x.b) := (cell_of_row W5 _ 1 _ _ (0, 0) hk5).trans rfl
            have k2 : W5.cell? ⟨w1.heap.size, 2, none⟩ = some (.int .u8 x.c) := (cell_of_row W5 _ 2 _ _ (0, 0) hk5).trans rfl
            have k3 : W5.cell? ⟨w1.heap.size, 3, none⟩ = some (.int .u8 x.d) := (cell_of_row W5 _ 3 _ _ (0, 0) hk5).trans rfl
            have k4 : W5.cell? ⟨w1.heap.size, 4, none⟩ = some (.int .u8 x.e) := (cell_of_row W5 _ 4 _ _ (0, 0) hk5).trans rfl
            have k5 : W5.cell? ⟨w1.heap.size, 5, none⟩ = some (.int .u8 x.f) := (cell_of_row W5 _ 5 _ _ (0, 0) hk5).trans rfl
            have k6 : W5.cell? ⟨l, 6, none⟩ = some (.map (some bm)) := (hb5.cell (p := ⟨l, 6, none⟩) hzl).trans c6
            have z5 : l < W5.heap.size := by have := hb5.size; omega
            have HB5 := Lib.hid hb5
            clear hb5 hk5 c2 c3 c6 c7
            go_still_tail 5, (by kernel_rfl)
            refine wpList_delete_ranges _ rfl (.tmp 50) (.tmp 51) 61 45 rfl 25 law45 (by kernel_rfl) Rb bm W.heap.size L.length D1 (fun z => left z && !z.sameKey kl) cnt1 rfl (HRG1.out.1.kept (below_grown HB5.out.drew) (by simp) (by simp)) _ kl rfl HK.out.1 ?_
            intro w6 cnt6 hrg6 hle hturn
            rw [strike_twice] at hrg6
            have HE := Lib.hid (clean_turn HGR.out HRG.out hrg6 (Nat.lt_of_le_of_lt hle HRG1.out.2.1) HRG1.out.2.2.1 (clean_drop (keep := keepB e2 m2 tick) HRE.out (law45.key HK.out.1) HK.out.2.1 (fun zd => (HK.out.2.2.2 zd).trans HYD.out) (by unfold keepB; simp only; rw [HOK.out, HM.out]; rfl)) HB5.out.drew hturn.grown)
            clear hrg6 hle hturn
            go_frame
            go_wp2_with fail
            exact HE.out
end Go.Proofs.Ytlholmndckhhgaa
