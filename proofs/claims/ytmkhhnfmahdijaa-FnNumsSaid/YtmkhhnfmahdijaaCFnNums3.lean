/- The law FnNums, as a plain statement: a drawn number, or the nearest that is kept, comes back of its bytes; a text does, too. Conditions: those of the row's reading alone. -/
/- Part 4 of 6 of this claim's texts. -/
import Derived.Test.YtmkhhnfmahdijaaWWords
import Derived.Deep.Slices
import Derived.ChangeArms
import Derived.WideShapes
import Derived.DataReads
import Derived.Test.YtmkhhnfmahdijaaCFnNums0
import Derived.Test.YtmkhhnfmahdijaaCFnNums1
import Derived.Test.YtmkhhnfmahdijaaCFnNums2
namespace Go.Proofs.Ytmkhhnfmahdijaa.X
open Go.RowKit Go.Proofs.YtmkhhnfmahdijaaW.PrintWords Go.Proofs.YtmkhhnfmahdijaaW.PrintLast Go.Proofs.YtmkhhnfmahdijaaW.PrintMore
attribute [local go_sem] max2_int min2_int max_two min_two max_three min_three max_four min_four   -- for this text's walks alone
set_option linter.unusedVariables false
set_option linter.unusedSimpArgs false

/-! ### spec_PutTexts: function 55 -/
def spec_PutTexts.l0 : Nat → List ByteArray → List Int → Int → Option (List Int)
  | 0, _, _, _ => none
  | k + 1, x1, x5, x6 => if x6 < (x1.length : Int) then (if 0 ≤ x6 then ((spec_PutText.f k x5 (rdOf ByteArray.empty x1 x6)).bind fun t494 => (spec_PutTexts.l0 k x1 t494 (wrap64 (x6 + 1)))) else (none)) else (some x5)
def spec_PutTexts.f (k : Nat) (l0 : List Int) (l1 : List ByteArray) : Option (List Int) := (spec_PutNum.f k l0 (l1.length : Int)).bind fun t490 => (spec_PutTexts.l0 k l1 t490 0)
theorem spec_PutTexts.mono_l : ∀ k, (∀ y0 y1 y2, LeO (spec_PutTexts.l0 k y0 y1 y2) (spec_PutTexts.l0 (k + 1) y0 y1 y2))
  | 0 => fun _ _ _ r h => by simp [spec_PutTexts.l0] at h
  | k + 1 => by
    have ih0 := spec_PutTexts.mono_l k
    · intro y0 y1 y2
      unfold spec_PutTexts.l0
      repeat' first
      | (with_reducible exact ih0 _ _ _)
      | (with_reducible exact spec_PutNum.mono _ _ _)
      | (with_reducible exact spec_PutText.mono _ _ _)
      | (with_reducible exact LeO.refl _)
      | (with_reducible exact LeO.none _)
      | (with_reducible refine LeO.ite ?_ ?_)
      | (with_reducible refine LeO.bind ?_ (fun _ => ?_))
      | exact ih0 _ _ _
      | exact spec_PutNum.mono _ _ _
      | exact spec_PutText.mono _ _ _
      | exact LeO.none _
      | refine LeO.ite ?_ ?_
      | refine LeO.bind ?_ (fun _ => ?_)
theorem spec_PutTexts.mono : ∀ a0 a1 k, LeO (spec_PutTexts.f k a0 a1) (spec_PutTexts.f (k + 1) a0 a1) := by
  intro a0 a1 k
  have ih0 := spec_PutTexts.mono_l k
  unfold spec_PutTexts.f
  repeat' first
      | (with_reducible exact ih0 _ _ _)
      | (with_reducible exact spec_PutNum.mono _ _ _)
      | (with_reducible exact spec_PutText.mono _ _ _)
      | (with_reducible exact LeO.refl _)
      | (with_reducible exact LeO.none _)
      | (with_reducible refine LeO.ite ?_ ?_)
      | (with_reducible refine LeO.bind ?_ (fun _ => ?_))
      | exact ih0 _ _ _
      | exact spec_PutNum.mono _ _ _
      | exact spec_PutText.mono _ _ _
      | exact LeO.none _
      | refine LeO.ite ?_ ?_
      | refine LeO.bind ?_ (fun _ => ?_)
set_option maxHeartbeats 8000000 in
set_option maxRecDepth 100000 in
theorem spec_PutTexts.calls (k : Nat) (A0 : Option Addr) (c0 : Nat) (l0 : List Int) (A1 : Option Addr) (c1 : Nat) (l1 : List ByteArray) (r : List Int) (w : World) (hr0 : Kd.C (Kd.int .u8) w A0 l0.length l0) (hc0 : l0.length ≤ c0) (hr1 : Kd.C Kd.string w A1 l1.length l1) (hc1 : l1.length ≤ c1) (h : spec_PutTexts.f k l0 l1 = some r) :
    Calls Try.prog 55 #[.slice A0 l0.length c0, .slice A1 l1.length c1] w fun e w' => ∃ v0_ : Value, e = .returned (v0_) ∧ Kd.R (Kd.int .u8) 5 w' w.heap.size (fun _ => True) v0_ r ∧ Below w.heap.size w w' := by
  have HR0 := Aside0.mk hr0
  have HC0 := Aside0.mk hc0
  clear hr0 hc0
  have HR1 := Aside0.mk hr1
  have HC1 := Aside0.mk hc1
  clear hr1 hc1
  have HB := Aside0.mk (Below.refl w.heap.size w)
  have H : ((spec_PutNum.f k l0 (l1.length : Int)).bind fun t490 => (spec_PutTexts.l0 k l1 t490 0)) = some r := h
  clear h
  replace H := Option.bind_eq_some_iff.mp H
  obtain ⟨t490, A30, H⟩ := H
  replace H : (spec_PutTexts.l0 k l1 t490 0) = some r := H
  have A3 := Aside0.mk A30
  clear A30
  have H' := Aside0.mk H
  clear H
  go_enter Try.func55, Try.ntmps55
  go_wp2_with (first | ((with_reducible refine gate_callee (f := 42) rfl ?_); refine goesL_ (some 10) rfl rfl Try.func42 (by kernel_rfl) rfl #[.slice A0 l0.length c0, .int .i64 (l1.length : Int)] rfl (by (try simp only [List.map_toArray, List.map_cons, List.map_nil]); first | done | rfl | (simp only [List.length_drop, List.length_take]; rfl)) ?_; (with_reducible refine (spec_PutNum.calls k _ _ l0 (l1.length : Int) t490 _ ?side1 ?side2 A3.out).mono ?_); (case side1 => repeat (first | exact HR0.out | (with_reducible refine Kd.C_alloc ?_ _) | (with_reducible refine Kd.C_drewN ?_ _) | (with_reducible refine Kd.C_drew ?_))); (case side2 => exact HC0.out); rintro e w4 ⟨v491, rfl, ho0, hb⟩; refine ⟨_, rfl, ?_⟩; have n0_ := Aside0.mk (Kd.R_lower ho0 (below_size (by repeat (first | (with_reducible first | exact HB.out | apply below_alloc | apply pw_below_drewN | apply below_drew1) | exact HB.out)))); have n1_ := Aside0.mk (below_step (by repeat (first | (with_reducible first | exact HB.out | apply below_alloc | apply pw_below_drewN | apply below_drew1) | exact HB.out)) hb); clear HB; have HO492 := n0_; have HB := n1_; clear n0_ n1_; (try clear hb); (try clear hb2); (try clear hk); (try clear hi); (try clear ho0)))
  go_loopg [5, 6] k (fun kq v5 v6 w' => ∃ (x5_1 : List Int) (x6_1 : Int), v6 = .int .i64 x6_1 ∧ Aside0 (spec_PutTexts.l0 kq l1 x5_1 x6_1 = some r) ∧ Aside0 (kq ≤ k) ∧ Aside0 (Kd.R (Kd.int .u8) 5 w' w.heap.size (fun _ => True) v5 x5_1) ∧ Aside0 (Below w.heap.size w w'))
  case atStart => exact ⟨(t490), (0), (by first | rfl | (simp; done) | (simp [*]; done)), H', ⟨Nat.le_refl _⟩, ⟨by (with_reducible repeat (first | apply Kd.R_alloc | apply Kd.R_drewN | apply Kd.R_drew)); exact HO492.out⟩, ⟨by repeat (first | (with_reducible first | exact HB.out | apply below_alloc | apply pw_below_drewN | apply below_drew1) | exact HB.out)⟩⟩
  case round =>
    clear H'
    try clear c1
    try clear p2
    try clear c4
    obtain ⟨x5_1, x6_1, rfl, HA, HK1, HO_5, HB⟩ := hrel
    cases gk with
    | zero => exact absurd HA.out (by simp [spec_PutTexts.l0])
    | succ k1 =>
      have H := HA.out
      clear HA
      simp only [spec_PutTexts.l0] at H
      by_cases c5 : x6_1 < (l1.length : Int)
      · rw [if_pos c5] at H
        have c5b0 : decide (x6_1 < (l1.length : Int)) = true := decide_eq_true c5
        clear c5
        by_cases c6 : 0 ≤ x6_1
        · rw [if_pos c6] at H
          have c6b0 : decide (0 ≤ x6_1) = true := decide_eq_true c6
          clear c6
          replace H := Option.bind_eq_some_iff.mp H
          obtain ⟨t494, A70, H⟩ := H
          replace H : (spec_PutTexts.l0 k1 l1 t494 (wrap64 (x6_1 + 1))) = some r := H
          have A7 := Aside0.mk A70
          clear A70
          have H' := Aside0.mk H
          clear H
          have p493 : 0 ≤ (x6_1 : Int) := of_decide_eq_true (by first | (with_reducible assumption) | assumption)
          have q493 : x6_1 < (l1.length : Int) := of_decide_eq_true (by first | (with_reducible assumption) | assumption)
          obtain ⟨ad493, e493, hx493_0⟩ := Kd.at_string HR1.out x6_1 p493 q493
          cases e493
          replace hx493_0 := (HB.out.cell (World.block_lt_of_cell? w _ hx493_0)).trans hx493_0
          replace p493 := eq_true p493
          replace q493 := eq_true q493
          obtain ⟨Ao8, co8, eo8⟩ := Kd.R_slice HO_5.out
          subst eo8
          go_wp2_with (first | ((with_reducible refine gate_callee (f := 44) rfl ?_); refine goesL_ (some 22) rfl rfl Try.func44 (by kernel_rfl) rfl #[.slice Ao8 x5_1.length co8, .string (rdOf ByteArray.empty l1 x6_1)] rfl (by (try simp only [List.map_toArray, List.map_cons, List.map_nil]); first | done | rfl | (simp only [List.length_drop, List.length_take]; rfl)) ?_; (with_reducible refine (spec_PutText.calls k1 _ _ x5_1 (rdOf ByteArray.empty l1 x6_1) t494 _ ?side1 ?side2 A7.out).mono ?_); (case side1 => repeat (first | exact (Kd.R_reads' HO_5.out).2.2 | (with_reducible refine Kd.C_alloc ?_ _) | (with_reducible refine Kd.C_drewN ?_ _) | (with_reducible refine Kd.C_drew ?_))); (case side2 => exact (Kd.R_reads' HO_5.out).2.1); rintro e w9 ⟨v495, rfl, ho0, hb⟩; refine ⟨_, rfl, ?_⟩; have n0_ := Aside0.mk (Kd.R_elder' (by (with_reducible repeat (first | apply Kd.R_alloc | apply Kd.R_drewN | apply Kd.R_drew)); exact HO_5.out) (Kd.R_base ho0) hb); have n1_ := Aside0.mk (Kd.R_lower (Kd.R_new' ho0 (Kd.R_lt (by (with_reducible repeat (first | apply Kd.R_alloc | apply Kd.R_drewN | apply Kd.R_drew)); exact HO_5.out))) (below_size (by repeat (first | (with_reducible first | exact HB.out | apply below_alloc | apply pw_below_drewN | apply below_drew1) | exact HB.out)))); have n2_ := Aside0.mk (below_step (by repeat (first | (with_reducible first | exact HB.out | apply below_alloc | apply pw_below_drewN | apply below_drew1) | exact HB.out)) hb); clear HO_5; clear HB; have HO_5 := n0_; have HO496 := n1_; have HB := n2_; clear n0_ n1_ n2_; (try clear hb); (try clear hb2); (try clear hk); (try clear hi); (try clear ho0)))
          go_roundg k1
          case measure => have := HK1.out; omega
          case rel => exact ⟨(t494), (wrap64 (x6_1 + 1)), (by first | rfl | (simp; done) | (simp [*]; done)), H', ⟨by have := HK1.out; omega⟩, ⟨by (with_reducible repeat (first | apply Kd.R_alloc | apply Kd.R_drewN | apply Kd.R_drew)); exact Kd.R_mono HO496.out (fun _ hk => trivial)⟩, ⟨by repeat (first | (with_reducible first | exact HB.out | apply below_alloc | apply pw_below_drewN | apply below_drew1) | exact HB.out)⟩⟩
        · rw [if_neg c6] at H
          exact absurd H (by simp)
      · rw [if_neg c5] at H
        have c5b0 : decide (x6_1 < (l1.length : Int)) = false := decide_eq_false c5
        clear c5
        obtain rfl := Option.some.inj H
        go_wp2
        go_ret
        exact ⟨_, by first | rfl | (simp [errW_none, errW_some] <;> rfl) | (simp [*, errW_none, errW_some] <;> rfl), by (with_reducible repeat (first | apply Kd.R_alloc | apply Kd.R_drewN | apply Kd.R_drew)); exact HO_5.out, by repeat (first | (with_reducible first | exact HB.out | apply below_alloc | apply pw_below_drewN | apply below_drew1) | exact HB.out)⟩

end Go.Proofs.Ytmkhhnfmahdijaa.X

namespace Go.Proofs.Ytmkhhnfmahdijaa.X
open Go.RowKit Go.Proofs.YtmkhhnfmahdijaaW.PrintWords Go.Proofs.YtmkhhnfmahdijaaW.PrintLast Go.Proofs.YtmkhhnfmahdijaaW.PrintMore
attribute [local go_sem] max2_int min2_int max_two min_two max_three min_three max_four min_four   -- for this text's walks alone
set_option linter.unusedVariables false
set_option linter.unusedSimpArgs false

/-! ### impl_putTexts: function 98 -/
def impl_putTexts.l0 : Nat → List Int → List ByteArray → Int → Int → Option (List Int)
  | 0, _, _, _, _ => none
  | k + 1, x0, x11, x12, x13 => if x13 < x12 then (if 0 ≤ x13 then (if x13 < (x11.length : Int) then ((impl_putText.f k x0 (rdOf ByteArray.empty x11 x13)).bind fun t501 => (impl_putTexts.l0 k t501 x11 x12 (wrap64 (x13 + 1)))) else (none)) else (none)) else (some x0)
def impl_putTexts.f (k : Nat) (l0 : List Int) (l1 : List ByteArray) : Option (List Int) := (impl_putNum.f k l0 (l1.length : Int)).bind fun t497 => (impl_putTexts.l0 k t497 l1 (l1.length : Int) 0)
theorem impl_putTexts.mono_l : ∀ k, (∀ y0 y1 y2 y3, LeO (impl_putTexts.l0 k y0 y1 y2 y3) (impl_putTexts.l0 (k + 1) y0 y1 y2 y3))
  | 0 => fun _ _ _ _ r h => by simp [impl_putTexts.l0] at h
  | k + 1 => by
    have ih0 := impl_putTexts.mono_l k
    · intro y0 y1 y2 y3
      unfold impl_putTexts.l0
      repeat' first
      | (with_reducible exact ih0 _ _ _ _)
      | (with_reducible exact impl_putNum.mono _ _ _)
      | (with_reducible exact impl_putText.mono _ _ _)
      | (with_reducible exact LeO.refl _)
      | (with_reducible exact LeO.none _)
      | (with_reducible refine LeO.ite ?_ ?_)
      | (with_reducible refine LeO.bind ?_ (fun _ => ?_))
      | exact ih0 _ _ _ _
      | exact impl_putNum.mono _ _ _
      | exact impl_putText.mono _ _ _
      | exact LeO.none _
      | refine LeO.ite ?_ ?_
      | refine LeO.bind ?_ (fun _ => ?_)
theorem impl_putTexts.mono : ∀ a0 a1 k, LeO (impl_putTexts.f k a0 a1) (impl_putTexts.f (k + 1) a0 a1) := by
  intro a0 a1 k
  have ih0 := impl_putTexts.mono_l k
  unfold impl_putTexts.f
  repeat' first
      | (with_reducible exact ih0 _ _ _ _)
      | (with_reducible exact impl_putNum.mono _ _ _)
      | (with_reducible exact impl_putText.mono _ _ _)
      | (with_reducible exact LeO.refl _)
      | (with_reducible exact LeO.none _)
      | (with_reducible refine LeO.ite ?_ ?_)
      | (with_reducible refine LeO.bind ?_ (fun _ => ?_))
      | exact ih0 _ _ _ _
      | exact impl_putNum.mono _ _ _
      | exact impl_putText.mono _ _ _
      | exact LeO.none _
      | refine LeO.ite ?_ ?_
      | refine LeO.bind ?_ (fun _ => ?_)
set_option maxHeartbeats 8000000 in
set_option maxRecDepth 100000 in
theorem impl_putTexts.calls (k : Nat) (P0_ : Nat → Prop) (u9000_ : Value) (l0 : List Int) (A1 : Option Addr) (c1 : Nat) (l1 : List ByteArray) (r : List Int) (w0 w : World) (hB : Below w0.heap.size w0 w) (ho0 : Kd.R (Kd.int .u8) 5 w w0.heap.size P0_ u9000_ l0) (hr1 : ∀ W_, Kept w W_ (fun k_ => P0_ k_) → Kd.C Kd.string W_ A1 l1.length l1) (hc1 : l1.length ≤ c1) (h : impl_putTexts.f k l0 l1 = some r) :
    Calls Try.prog 98 #[u9000_, .slice A1 l1.length c1] w fun e w' => ∃ v0_ : Value, e = .returned (v0_) ∧ Kd.R (Kd.int .u8) 5 w' w0.heap.size (fun k_ => (P0_ k_ ∨ w.heap.size ≤ k_)) v0_ r ∧ Below w0.heap.size w0 w' ∧ Kept w w' (fun k_ => P0_ k_) := by
  have HO0 := Aside0.mk (show Kd.R (Kd.int .u8) 5 w w0.heap.size (fun k_ => (P0_ k_ ∨ w.heap.size ≤ k_)) u9000_ l0 from Kd.R_mono ho0 (fun k_ hk => (.inl hk)))
  have HR1 := Aside0.mk hr1
  have HC1 := Aside0.mk hc1
  clear hr1 hc1
  have HK := Aside0.mk (Kept.refl w (fun k_ => P0_ k_))
  have HW0 := Aside0.mk hB.size
  have HB := Aside0.mk hB
  clear hB
  have H : ((impl_putNum.f k l0 (l1.length : Int)).bind fun t497 => (impl_putTexts.l0 k t497 l1 (l1.length : Int) 0)) = some r := h
  clear h
  replace H := Option.bind_eq_some_iff.mp H
  obtain ⟨t497, A30, H⟩ := H
  replace H : (impl_putTexts.l0 k t497 l1 (l1.length : Int) 0) = some r := H
  have A3 := Aside0.mk A30
  clear A30
  have H' := Aside0.mk H
  clear H
  obtain ⟨Ao4, co4, eo4⟩ := Kd.R_slice HO0.out
  subst eo4
  go_enter Try.func98, Try.ntmps98
  go_wp2_with (first | ((with_reducible refine gate_callee (f := 89) rfl ?_); refine goesL_ (some 10) rfl rfl Try.func89 (by kernel_rfl) rfl #[.slice Ao4 l0.length co4, .int .i64 (l1.length : Int)] rfl (by (try simp only [List.map_toArray, List.map_cons, List.map_nil]); first | done | rfl | (simp only [List.length_drop, List.length_take]; rfl)) ?_; (with_reducible refine (impl_putNum.calls k (fun k_ => some k_ = (.slice Ao4 l0.length co4 : Value).ownBlock) (.slice Ao4 l0.length co4) l0 (l1.length : Int) t497 w0 _ ?side1 ?side2 A3.out).mono ?_); (case side1 => repeat (first | (with_reducible first | exact HB.out | apply below_alloc | apply pw_below_drewN | apply below_drew1) | exact HB.out)); (case side2 => exact Kd.R_tight rfl HO0.out); rintro e w5 ⟨v498, rfl, ho0, hb, hkp⟩; refine ⟨_, rfl, ?_⟩; have n0_ := Aside0.mk (Kd.R_mono (ok' := fun k_ => (P0_ k_ ∨ w.heap.size ≤ k_)) ho0 (fun k_ hk_ => Or.elim hk_ (fun hs_ => (HO0.out.1 k_ (hs_).symm)) (fun hn_ => (.inr (Nat.le_trans (by first | exact HK.out.1 | exact (show Kept w _ (fun k_ => P0_ k_) from by repeat (first | (with_reducible first | exact HK.out | apply Kept.alloc | apply Kept.drewN | apply Kept.drew) | exact HK.out)).1) hn_))))); have n1_ := Aside0.mk (Kept.then_ (S := (fun k_ => P0_ k_)) (by repeat (first | (with_reducible first | exact HK.out | apply Kept.alloc | apply Kept.drewN | apply Kept.drew) | exact HK.out)) hkp (fun k_ hs_ => (fun e_ => (HO0.out.1 k_ e_.symm)) hs_)); have n2_ := Aside0.mk (hb); clear HK; clear HB; clear HO0; have HO499 := n0_; have HK := n1_; have HB := n2_; clear n0_ n1_ n2_; (try clear hb); (try clear hkp); (try clear ho0)))
  go_loopg [0, 13] k (fun kq v0 v13 w' => ∃ (x0_1 : List Int) (x13_1 : Int), v13 = .int .i64 x13_1 ∧ Aside0 (impl_putTexts.l0 kq x0_1 l1 (l1.length : Int) x13_1 = some r) ∧ Aside0 (kq ≤ k) ∧ Aside0 (Kd.R (Kd.int .u8) 5 w' w0.heap.size (fun k_ => (P0_ k_ ∨ w.heap.size ≤ k_)) v0 x0_1) ∧ Aside0 (Kept w w' (fun k_ => P0_ k_)) ∧ Aside0 (Below w0.heap.size w0 w'))
  case atStart => exact ⟨(t497), (0), (by first | rfl | (simp; done) | (simp [*]; done)), H', ⟨Nat.le_refl _⟩, ⟨by (with_reducible repeat (first | apply Kd.R_alloc | apply Kd.R_drewN | apply Kd.R_drew)); exact HO499.out⟩, ⟨by repeat (first | (with_reducible first | exact HK.out | apply Kept.alloc | apply Kept.drewN | apply Kept.drew) | exact HK.out)⟩, ⟨by repeat (first | (with_reducible first | exact HB.out | apply below_alloc | apply pw_below_drewN | apply below_drew1) | exact HB.out)⟩⟩
  case round =>
    clear H'
    try clear c1
    try clear p2
    obtain ⟨x0_1, x13_1, rfl, HA, HK1, HO_0, HK, HB⟩ := hrel
    cases gk with
    | zero => exact absurd HA.out (by simp [impl_putTexts.l0])
    | succ k1 =>
      have H := HA.out
      clear HA
      simp only [impl_putTexts.l0] at H
      by_cases c6 : x13_1 < (l1.length : Int)
      · rw [if_pos c6] at H
        have c6b0 : decide (x13_1 < (l1.length : Int)) = true := decide_eq_true c6
        clear c6
        by_cases c7 : 0 ≤ x13_1
        · rw [if_pos c7] at H
          have c7b0 : decide (0 ≤ x13_1) = true := decide_eq_true c7
          clear c7
          by_cases c8 : x13_1 < (l1.length : Int)
          · rw [if_pos c8] at H
            have c8b0 : decide (x13_1 < (l1.length : Int)) = true := decide_eq_true c8
            clear c8
            replace H := Option.bind_eq_some_iff.mp H
            obtain ⟨t501, A90, H⟩ := H
            replace H : (impl_putTexts.l0 k1 t501 l1 (l1.length : Int) (wrap64 (x13_1 + 1))) = some r := H
            have A9 := Aside0.mk A90
            clear A90
            have H' := Aside0.mk H
            clear H
            have p500 : 0 ≤ (x13_1 : Int) := of_decide_eq_true (by first | (with_reducible assumption) | assumption)
            have q500 : x13_1 < (l1.length : Int) := of_decide_eq_true (by first | (with_reducible assumption) | assumption)
            obtain ⟨ad500, e500, hx500_0⟩ := Kd.at_string (Kd.C_kept_now HR1.out HK.out) x13_1 p500 q500
            cases e500
            replace p500 := eq_true p500
            replace q500 := eq_true q500
            obtain ⟨Ao10, co10, eo10⟩ := Kd.R_slice HO_0.out
            subst eo10
            go_wp2_with (first | ((with_reducible refine gate_callee (f := 90) rfl ?_); refine goesL_ (some 19) rfl rfl Try.func90 (by kernel_rfl) rfl #[.slice Ao10 x0_1.length co10, .string (rdOf ByteArray.empty l1 x13_1)] rfl (by (try simp only [List.map_toArray, List.map_cons, List.map_nil]); first | done | rfl | (simp only [List.length_drop, List.length_take]; rfl)) ?_; (with_reducible refine (impl_putText.calls k1 (fun k_ => some k_ = (.slice Ao10 x0_1.length co10 : Value).ownBlock) (.slice Ao10 x0_1.length co10) x0_1 (rdOf ByteArray.empty l1 x13_1) t501 w0 _ ?side1 ?side2 A9.out).mono ?_); (case side1 => repeat (first | (with_reducible first | exact HB.out | apply below_alloc | apply pw_below_drewN | apply below_drew1) | exact HB.out)); (case side2 => exact Kd.R_tight rfl HO_0.out); rintro e w11 ⟨v502, rfl, ho0, hb, hkp⟩; refine ⟨_, rfl, ?_⟩; have n0_ := Aside0.mk (Kd.R_mono (ok' := fun k_ => (P0_ k_ ∨ w.heap.size ≤ k_)) ho0 (fun k_ hk_ => Or.elim hk_ (fun hs_ => (HO_0.out.1 k_ (hs_).symm)) (fun hn_ => (.inr (Nat.le_trans (by first | exact HK.out.1 | exact (show Kept w _ (fun k_ => P0_ k_) from by repeat (first | (with_reducible first | exact HK.out | apply Kept.alloc | apply Kept.drewN | apply Kept.drew) | exact HK.out)).1) hn_))))); have n1_ := Aside0.mk (Kept.then_ (S := (fun k_ => P0_ k_)) (by repeat (first | (with_reducible first | exact HK.out | apply Kept.alloc | apply Kept.drewN | apply Kept.drew) | exact HK.out)) hkp (fun k_ hs_ => (fun e_ => (HO_0.out.1 k_ e_.symm)) hs_)); have n2_ := Aside0.mk (hb); clear HK; clear HB; clear HO_0; have HO503 := n0_; have HK := n1_; have HB := n2_; clear n0_ n1_ n2_; (try clear hb); (try clear hkp); (try clear ho0)))
            go_roundg k1
            case measure => have := HK1.out; omega
            case rel => exact ⟨(t501), (wrap64 (x13_1 + 1)), (by first | rfl | (simp; done) | (simp [*]; done)), H', ⟨by have := HK1.out; omega⟩, ⟨by (with_reducible repeat (first | apply Kd.R_alloc | apply Kd.R_drewN | apply Kd.R_drew)); exact HO503.out⟩, ⟨by repeat (first | (with_reducible first | exact HK.out | apply Kept.alloc | apply Kept.drewN | apply Kept.drew) | exact HK.out)⟩, ⟨by repeat (first | (with_reducible first | exact HB.out | apply below_alloc | apply pw_below_drewN | apply below_drew1) | exact HB.out)⟩⟩
          · rw [if_neg c8] at H
            exact absurd H (by simp)
        · rw [if_neg c7] at H
          exact absurd H (by simp)
      · rw [if_neg c6] at H
        have c6b0 : decide (x13_1 < (l1.length : Int)) = false := decide_eq_false c6
        clear c6
        obtain rfl := Option.some.inj H
        go_wp2
        go_ret
        exact ⟨_, by first | rfl | (simp [errW_none, errW_some] <;> rfl) | (simp [*, errW_none, errW_some] <;> rfl), by (with_reducible repeat (first | apply Kd.R_alloc | apply Kd.R_drewN | apply Kd.R_drew)); exact HO_0.out, by repeat (first | (with_reducible first | exact HB.out | apply below_alloc | apply pw_below_drewN | apply below_drew1) | exact HB.out), by repeat (first | (with_reducible first | exact HK.out | apply Kept.alloc | apply Kept.drewN | apply Kept.drew) | exact HK.out)⟩

end Go.Proofs.Ytmkhhnfmahdijaa.X

namespace Go.Proofs.Ytmkhhnfmahdijaa.X
open Go.RowKit Go.Proofs.YtmkhhnfmahdijaaW.PrintWords Go.Proofs.YtmkhhnfmahdijaaW.PrintLast Go.Proofs.YtmkhhnfmahdijaaW.PrintMore
attribute [local go_sem] max2_int min2_int max_two min_two max_three min_three max_four min_four   -- for this text's walks alone
set_option linter.unusedVariables false
set_option linter.unusedSimpArgs false

/-! ### impl_PutTexts: function 57 -/
def impl_PutTexts.f (k : Nat) (l0 : List Int) (l1 : List ByteArray) : Option (List Int) := (slices_Clone_byte_byte.f l0).bind fun t504 => ((impl_putTexts.f k t504 l1).bind fun t507 => (some t507))
theorem impl_PutTexts.mono : ∀ a0 a1 k, LeO (impl_PutTexts.f k a0 a1) (impl_PutTexts.f (k + 1) a0 a1) := by
  intro a0 a1 k
  unfold impl_PutTexts.f
  repeat' first
      | (with_reducible exact impl_putTexts.mono _ _ _)
      | (with_reducible exact LeO.refl _)
      | (with_reducible exact LeO.none _)
      | (with_reducible refine LeO.ite ?_ ?_)
      | (with_reducible refine LeO.bind ?_ (fun _ => ?_))
      | exact impl_putTexts.mono _ _ _
      | exact LeO.none _
      | refine LeO.ite ?_ ?_
      | refine LeO.bind ?_ (fun _ => ?_)
set_option maxHeartbeats 8000000 in
set_option maxRecDepth 100000 in
theorem impl_PutTexts.calls (k : Nat) (A0 : Option Addr) (c0 : Nat) (l0 : List Int) (A1 : Option Addr) (c1 : Nat) (l1 : List ByteArray) (r : List Int) (w : World) (hr0 : Kd.C (Kd.int .u8) w A0 l0.length l0) (hc0 : l0.length ≤ c0) (hr1 : Kd.C Kd.string w A1 l1.length l1) (hc1 : l1.length ≤ c1) (h : impl_PutTexts.f k l0 l1 = some r) :
    Calls Try.prog 57 #[.slice A0 l0.length c0, .slice A1 l1.length c1] w fun e w' => ∃ v0_ : Value, e = .returned (v0_) ∧ Kd.R (Kd.int .u8) 5 w' w.heap.size (fun _ => True) v0_ r ∧ Below w.heap.size w w' := by
  have HR0 := Aside0.mk hr0
  have HC0 := Aside0.mk hc0
  clear hr0 hc0
  have HR1 := Aside0.mk hr1
  have HC1 := Aside0.mk hc1
  clear hr1 hc1
  have HB := Aside0.mk (Below.refl w.heap.size w)
  have H : ((slices_Clone_byte_byte.f l0).bind fun t504 => ((impl_putTexts.f k t504 l1).bind fun t507 => (some t507))) = some r := h
  clear h
  replace H := Option.bind_eq_some_iff.mp H
  obtain ⟨t504, A30, H⟩ := H
  replace H : ((impl_putTexts.f k t504 l1).bind fun t507 => (some t507)) = some r := H
  have A3 := Aside0.mk A30
  clear A30
  replace H := Option.bind_eq_some_iff.mp H
  obtain ⟨t507, A40, H⟩ := H
  replace H : (some t507) = some r := H
  have A4 := Aside0.mk A40
  clear A40
  obtain rfl := Option.some.inj H
  go_enter Try.func57, Try.ntmps57
  go_wp2_with (first | ((with_reducible refine gate_callee (f := 88) rfl ?_); refine goesL_ (some 6) rfl rfl Try.func88 (by kernel_rfl) rfl #[.slice A0 l0.length c0] rfl (by (try simp only [List.map_toArray, List.map_cons, List.map_nil]); first | done | rfl | (simp only [List.length_drop, List.length_take]; rfl)) ?_; (with_reducible refine (slices_Clone_byte_byte.calls _ _ l0 t504 _ ?side1 ?side2 A3.out).mono ?_); (case side1 => repeat (first | exact HR0.out | (with_reducible refine Kd.C_alloc ?_ _) | (with_reducible refine Kd.C_drewN ?_ _) | (with_reducible refine Kd.C_drew ?_))); (case side2 => exact HC0.out); rintro e w5 ⟨v505, rfl, ho0, hb⟩; refine ⟨_, rfl, ?_⟩; have n0_ := Aside0.mk (Kd.R_lower ho0 (below_size (by repeat (first | (with_reducible first | exact HB.out | apply below_alloc | apply pw_below_drewN | apply below_drew1) | exact HB.out)))); have n1_ := Aside0.mk (below_step (by repeat (first | (with_reducible first | exact HB.out | apply below_alloc | apply pw_below_drewN | apply below_drew1) | exact HB.out)) hb); clear HB; have HO506 := n0_; have HB := n1_; clear n0_ n1_; (try clear hb); (try clear hb2); (try clear hk); (try clear hi); (try clear ho0); obtain ⟨Ao6, co6, eo6⟩ := Kd.R_slice HO506.out; subst eo6) | ((with_reducible refine gate_callee (f := 98) rfl ?_); refine goesL_ (some 8) rfl rfl Try.func98 (by kernel_rfl) rfl #[.slice Ao6 t504.length co6, .slice A1 l1.length c1] rfl (by (try simp only [List.map_toArray, List.map_cons, List.map_nil]); first | done | rfl | (simp only [List.length_drop, List.length_take]; rfl)) ?_; (with_reducible refine (impl_putTexts.calls k (fun k_ => some k_ = (.slice Ao6 t504.length co6 : Value).ownBlock) (.slice Ao6 t504.length co6) t504 _ _ l1 t507 w _ ?side1 ?side2 ?side3 ?side4 A4.out).mono ?_); (case side1 => repeat (first | (with_reducible first | exact HB.out | apply below_alloc | apply pw_below_drewN | apply below_drew1) | exact HB.out)); (case side2 => exact Kd.R_tight rfl HO506.out); (case side3 => exact Kd.C_kept_came Kd.heap_string HR1.out (by repeat (first | (with_reducible first | exact HB.out | apply below_alloc | apply pw_below_drewN | apply below_drew1) | exact HB.out)) (fun k_ hs_ => (fun e_ => Kd.R_base HO506.out k_ e_.symm) hs_)); (case side4 => exact HC1.out); rintro e w7 ⟨v508, rfl, ho0, hb, hkp⟩; refine ⟨_, rfl, ?_⟩; have n0_ := Aside0.mk (Kd.R_mono (ok' := fun k_ => True) ho0 (fun k_ hk_ => trivial)); have n1_ := Aside0.mk (hb); clear HB; clear HO506; have HO509 := n0_; have HB := n1_; clear n0_ n1_; (try clear hb); (try clear hkp); (try clear ho0)))
  go_ret
  exact ⟨_, by first | rfl | (simp [errW_none, errW_some] <;> rfl) | (simp [*, errW_none, errW_some] <;> rfl), by (with_reducible repeat (first | apply Kd.R_alloc | apply Kd.R_drewN | apply Kd.R_drew)); exact HO509.out, by repeat (first | (with_reducible first | exact HB.out | apply below_alloc | apply pw_below_drewN | apply below_drew1) | exact HB.out)⟩

end Go.Proofs.Ytmkhhnfmahdijaa.X

/- What PutNum, PutText and PutTexts compute, the program's and the reference's: the same bytes behind b. No Go, no memory. -/
set_option linter.unusedVariables false
namespace Go.Proofs.Ytmkhhnfmahdijaa.Z
open Go.RowKit Go.Proofs.YtmkhhnfmahdijaaW.PrintWords Go.Proofs.YtmkhhnfmahdijaaW.PrintMore Go.Proofs.Ytmkhhnfmahdijaa.X

/-- A number's bytes: groups of seven bits, the lowest first. -/
def encN : Nat → Nat → List Int
  | 0, n => [(n : Int) % 256]
  | d + 1, n => if n > 127 then ((n % 128 + 128 : Nat) : Int) :: encN d (n / 128) else [(n : Int) % 256]
theorem encN_length (d : Nat) : ∀ n, (encN d n).length ≤ d + 1 := by
  induction d with
  | zero => intro n; simp [encN]
  | succ d ih =>
    intro n
    unfold encN
    split
    · have := ih (n / 128)
      simp
      omega
    · simp
theorem encN_pos (d n : Nat) : 0 < (encN d n).length := by
  cases d with
  | zero => simp [encN]
  | succ d =>
    unfold encN
    split <;> simp
/-- The number that is kept: the nearest. -/
def near (n : Int) : Nat := (mx 0 (mn n 1000000000)).toNat
theorem near_eq (n : Int) : mx 0 (mn n 1000000000) = (near n : Int) := by
  unfold near mx mn
  split <;> split <;> omega
theorem near_le (n : Int) : near n ≤ 1000000000 := by
  unfold near mx mn
  split <;> split <;> omega
theorem near_of {n : Nat} (h : n ≤ 1000000000) : near (n : Int) = n := by
  unfold near mx mn
  split <;> split <;> omega
theorem orbyte {n : Nat} (hn : n ≤ 1000000000) : Go.bits .or .i64 (Go.bits .and .i64 (n : Int) 127) 128 % 256 = ((n % 128 + 128 : Nat) : Int) ∧ Go.bits .or .i64 128 (Go.bits .and .i64 (n : Int) 127) % 256 = ((n % 128 + 128 : Nat) : Int) := by
  have h1 : Go.bits .and .i64 (n : Int) 127 = (n : Int) % 128 := bits_mask .i64 63 (by decide) wraps_i64 7 (by decide) n (by omega) (by omega)
  rw [h1]
  have h2 : Go.bits .or .i64 128 ((n : Int) % 128) = 128 + (n : Int) % 128 :=
    bits_join .i64 63 (by decide) wraps_i64 7 _ _ (by omega) (by decide) (by decide) (by omega) (by omega) (by omega)
  rw [or_comm64, h2]
  omega

theorem specPut_l0 (d : Nat) : ∀ (n : Nat) (b : List Int), n < 128 ^ (d + 1) → n ≤ 1000000000 → b.length + d < 140737488355328 → Ev (fun k => spec_PutNum.l0 k (n : Int) b) (b ++ encN d n) := by
  induction d with
  | zero =>
    intro n b h0 h1 h2
    refine evS (fun k => by rw [spec_PutNum.l0]) ?_
    exact evF (by simp at h0; omega) (evT (by omega) (evR rfl))
  | succ d ih =>
    intro n b h0 h1 h2
    refine evS (fun k => by rw [spec_PutNum.l0]) ?_
    refine evI (fun h => ?_) (fun h => ?_)
    · refine evT (by omega) ?_
      rw [(orbyte h1).1, show (n : Int) / 128 = ((n / 128 : Nat) : Int) by omega]
      refine evE ?_ (ih (n / 128) _ (by rw [Nat.div_lt_iff_lt_mul (by decide)]; rw [Nat.pow_succ] at h0; exact h0) (by omega) (by simp; omega))
      rw [encN, if_pos (by omega)]
      simp
    · refine evT (by omega) (evR ?_)
      rw [encN, if_neg (by omega)]
theorem specPut_ev (b : List Int) (n : Int) (hb : b.length < 140737488355000) : Ev (fun k => spec_PutNum.f k b n) (b ++ encN 4 (near n)) := by
  unfold spec_PutNum.f
  have hm := near_le n
  have hfin : ∀ m : Int, m = (near n : Int) → Ev (fun k => spec_PutNum.j1 k m b) (b ++ encN 4 (near n)) := by
    intro m h
    rw [h]
    exact evS (fun k => by rw [spec_PutNum.j1]) (specPut_l0 4 (near n) b (by omega) hm (by omega))
  have hj : ∀ m : Int, mx 0 m = (near n : Int) → Ev (fun k => spec_PutNum.j0 k m b) (b ++ encN 4 (near n)) := by
    intro m h
    refine evS (fun k => by rw [spec_PutNum.j0]) (evI (fun h0 => hfin _ ?_) (fun h0 => hfin _ ?_))
    · rw [← h]
      unfold mx
      split <;> omega
    · rw [← h]
      unfold mx
      split <;> omega
  refine evC rfl ?_
  refine evT (by simp; omega) ?_
  refine evC rfl ?_
  simp only [List.nil_append]
  refine evI (fun h0 => hj _ ?_) (fun h0 => hj _ ?_)
  · rw [← near_eq]
    unfold mn
    rw [if_pos h0]
  · rw [← near_eq]
    unfold mn
    rw [if_neg h0]
theorem implPut_l0 (d : Nat) : ∀ (n : Nat) (b : List Int), n < 128 ^ (d + 1) → n ≤ 1000000000 → b.length + d < 140737488355328 → Ev (fun k => impl_putNum.l0 k b (n : Int)) (b ++ encN d n) := by
  induction d with
  | zero =>
    intro n b h0 h1 h2
    refine evS (fun k => by rw [impl_putNum.l0]) ?_
    exact evF (by simp at h0; omega) (evT (by omega) (evR rfl))
  | succ d ih =>
    intro n b h0 h1 h2
    refine evS (fun k => by rw [impl_putNum.l0]) ?_
    refine evI (fun h => ?_) (fun h => ?_)
    · refine evT (by omega) ?_
      rw [(orbyte h1).2, show (n : Int) / 128 = ((n / 128 : Nat) : Int) by omega]
      refine evE ?_ (ih (n / 128) _ (by rw [Nat.div_lt_iff_lt_mul (by decide)]; rw [Nat.pow_succ] at h0; exact h0) (by omega) (by simp; omega))
      rw [encN, if_pos (by omega)]
      simp
    · refine evT (by omega) (evR ?_)
      rw [encN, if_neg (by omega)]
theorem implputNum_ev (b : List Int) (n : Int) (hb : b.length < 140737488355000) : Ev (fun k => impl_putNum.f k b n) (b ++ encN 4 (near n)) := by
  unfold impl_putNum.f
  rw [near_eq]
  exact implPut_l0 4 (near n) b (by have := near_le n; omega) (near_le n) (by omega)
theorem clone_ev (b : List Int) (hb : b.length < 140737488355000) : slices_Clone_byte_byte.f b = some b := by
  unfold slices_Clone_byte_byte.f
  rw [if_pos (by omega)]
theorem implPut_ev (b : List Int) (n : Int) (hb : b.length < 140737488355000) : Ev (fun k => impl_PutNum.f k b n) (b ++ encN 4 (near n)) := by
  unfold impl_PutNum.f
  exact evC (clone_ev b hb) (evB (implputNum_ev b n hb) (evR rfl))

/-- A text's bytes. -/
def encT (s : ByteArray) : List Int := encN 4 (near (s.size : Int)) ++ bytesOf s
theorem encT_length (s : ByteArray) : (encT s).length ≤ s.size + 5 := by
  unfold encT
  rw [List.length_append, bytesOf_length]
  have := encN_length 4 (near (s.size : Int))
  omega
theorem specText_ev (b : List Int) (s : ByteArray) (hb : b.length + s.size < 140737488350000) : Ev (fun k => spec_PutText.f k b s) (b ++ encT s) := by
  unfold spec_PutText.f
  refine evB (specPut_ev b _ (by omega)) ?_
  have := encN_length 4 (near (s.size : Int))
  refine evT (by rw [List.length_append]; omega) (evR ?_)
  rw [encT, List.append_assoc]
theorem implputText_ev (b : List Int) (s : ByteArray) (hb : b.length + s.size < 140737488350000) : Ev (fun k => impl_putText.f k b s) (b ++ encT s) := by
  unfold impl_putText.f
  refine evB (implputNum_ev b _ (by omega)) ?_
  have := encN_length 4 (near (s.size : Int))
  refine evT (by rw [List.length_append]; omega) (evR ?_)
  rw [encT, List.append_assoc]
theorem implText_ev (b : List Int) (s : ByteArray) (hb : b.length + s.size < 140737488350000) : Ev (fun k => impl_PutText.f k b s) (b ++ encT s) := by
  unfold impl_PutText.f
  exact evC (clone_ev b (by omega)) (evB (implputText_ev b s hb) (evR rfl))

/-- Texts' bytes, one behind the other. -/
def encL (l : List ByteArray) : List Int := (l.map encT).flatten
theorem encL_cons (s : ByteArray) (l : List ByteArray) : encL (s :: l) = encT s ++ encL l := by simp [encL]
theorem encL_length (l : List ByteArray) : (encL l).length ≤ total l + 5 * l.length := by
  induction l with
  | nil => simp [encL, total_nil]
  | cons s l ih =>
    rw [encL_cons, total_cons, List.length_append, List.length_cons]
    have := encT_length s
    omega
theorem drop_rd (l : List ByteArray) (i : Nat) (h : i < l.length) : l.drop i = rdOf ByteArray.empty l (i : Int) :: l.drop (i + 1) := by
  rw [List.drop_eq_getElem_cons h]
  have := rdOf_get (d := ByteArray.empty) h
  rw [List.getElem?_eq_getElem h] at this
  rw [Option.some.inj this]
theorem specTexts_l0 (l : List ByteArray) (hn : l.length ≤ 4611686018427387904) (d : Nat) : ∀ (i : Nat) (b : List Int), i + d = l.length → b.length + total (l.drop i) + 5 * d < 140737488350000 → Ev (fun k => spec_PutTexts.l0 k l b (i : Int)) (b ++ encL (l.drop i)) := by
  induction d with
  | zero =>
    intro i b hi hb
    refine evS (fun k => by rw [spec_PutTexts.l0]) (evF (by omega) (evR ?_))
    rw [List.drop_eq_nil_of_le (by omega)]
    simp [encL]
  | succ d ih =>
    intro i b hi hb
    have hd := drop_rd l i (by omega)
    rw [hd, total_cons] at hb
    refine evS (fun k => by rw [spec_PutTexts.l0]) (evT (by omega) (evT (by omega) ?_))
    refine evB (specText_ev b _ (by omega)) ?_
    rw [w64s (show i < l.length by omega) (by omega)]
    have he := encT_length (rdOf ByteArray.empty l (i : Int))
    refine evE ?_ (ih (i + 1) _ (by omega) (by rw [List.length_append]; omega))
    rw [hd, encL_cons, List.append_assoc]
theorem specTexts_ev (b : List Int) (l : List ByteArray) (hb : b.length + total l + 5 * l.length < 140737488340000) : Ev (fun k => spec_PutTexts.f k b l) (b ++ (encN 4 (near (l.length : Int)) ++ encL l)) := by
  unfold spec_PutTexts.f
  have := encN_length 4 (near (l.length : Int))
  refine evB (specPut_ev b _ (by omega)) ?_
  refine evE ?_ (specTexts_l0 l (by omega) l.length 0 _ (by omega) (by rw [List.length_append, List.drop_zero]; omega))
  rw [List.drop_zero, List.append_assoc]
theorem implTexts_l0 (l : List ByteArray) (hn : l.length ≤ 4611686018427387904) (d : Nat) : ∀ (i : Nat) (b : List Int), i + d = l.length → b.length + total (l.drop i) + 5 * d < 140737488350000 → Ev (fun k => impl_putTexts.l0 k b l (l.length : Int) (i : Int)) (b ++ encL (l.drop i)) := by
  induction d with
  | zero =>
    intro i b hi hb
    refine evS (fun k => by rw [impl_putTexts.l0]) (evF (by omega) (evR ?_))
    rw [List.drop_eq_nil_of_le (by omega)]
    simp [encL]
  | succ d ih =>
    intro i b hi hb
    have hd := drop_rd l i (by omega)
    rw [hd, total_cons] at hb
    refine evS (fun k => by rw [impl_putTexts.l0]) (evT (by omega) (evT (by omega) (evT (by omega) ?_)))
    refine evB (implputText_ev b _ (by omega)) ?_
    rw [w64s (show i < l.length by omega) (by omega)]
    have he := encT_length (rdOf ByteArray.empty l (i : Int))
    refine evE ?_ (ih (i + 1) _ (by omega) (by rw [List.length_append]; omega))
    rw [hd, encL_cons, List.append_assoc]
theorem implputTexts_ev (b : List Int) (l : List ByteArray) (hb : b.length + total l + 5 * l.length < 140737488340000) : Ev (fun k => impl_putTexts.f k b l) (b ++ (encN 4 (near (l.length : Int)) ++ encL l)) := by
  unfold impl_putTexts.f
  have := encN_length 4 (near (l.length : Int))
  refine evB (implputNum_ev b _ (by omega)) ?_
  refine evE ?_ (implTexts_l0 l (by omega) l.length 0 _ (by omega) (by rw [List.length_append, List.drop_zero]; omega))
  rw [List.drop_zero, List.append_assoc]
theorem implTexts_ev (b : List Int) (l : List ByteArray) (hb : b.length + total l + 5 * l.length < 140737488340000) : Ev (fun k => impl_PutTexts.f k b l) (b ++ (encN 4 (near (l.length : Int)) ++ encL l)) := by
  unfold impl_PutTexts.f
  exact evC (clone_ev b (by omega)) (evB (implputTexts_ev b l hb) (evR rfl))
end Go.Proofs.Ytmkhhnfmahdijaa.Z

namespace Go.Proofs.Ytmkhhnfmahdijaa.X
open Go.RowKit Go.Proofs.YtmkhhnfmahdijaaW.PrintWords Go.Proofs.YtmkhhnfmahdijaaW.PrintLast Go.Proofs.YtmkhhnfmahdijaaW.PrintMore
attribute [local go_sem] max2_int min2_int max_two min_two max_three min_three max_four min_four   -- for this text's walks alone
set_option linter.unusedVariables false
set_option linter.unusedSimpArgs false

/-! ### spec_GetText: function 40 -/
def spec_GetText.f (k : Nat) (l0 : List Int) (a1 : Int) : Option (ByteArray × Int × Bool) := (spec_GetNum.f k l0 a1).bind fun bt216 => (if bt216.2.2 = true then (if bt216.1 > (wrap64 ((l0.length : Int) - bt216.2.1)) then (some ((⟨#[]⟩ : ByteArray), 0, false)) else (if 0 ≤ bt216.2.1 then (if bt216.2.1 ≤ (wrap64 (bt216.2.1 + bt216.1)) then (if (wrap64 (bt216.2.1 + bt216.1)) ≤ (l0.length : Int) then (some (strOfNums ((l0.take ((wrap64 (bt216.2.1 + bt216.1)) : Int).toNat).drop (bt216.2.1 : Int).toNat), wrap64 (bt216.2.1 + bt216.1), true)) else (none)) else (none)) else (none))) else (some ((⟨#[]⟩ : ByteArray), 0, false)))
theorem spec_GetText.mono : ∀ a0 a1 k, LeO (spec_GetText.f k a0 a1) (spec_GetText.f (k + 1) a0 a1) := by
  intro a0 a1 k
  unfold spec_GetText.f
  repeat' first
      | (with_reducible exact spec_GetNum.mono _ _ _)
      | (with_reducible exact LeO.refl _)
      | (with_reducible exact LeO.none _)
      | (with_reducible refine LeO.ite ?_ ?_)
      | (with_reducible refine LeO.bind ?_ (fun _ => ?_))
      | exact spec_GetNum.mono _ _ _
      | exact LeO.none _
      | refine LeO.ite ?_ ?_
      | refine LeO.bind ?_ (fun _ => ?_)
set_option maxHeartbeats 8000000 in
set_option maxRecDepth 100000 in
theorem spec_GetText.calls (k : Nat) (A0 : Option Addr) (c0 : Nat) (l0 : List Int) (a1 : Int) (r1 : ByteArray) (r2 : Int) (r3 : Bool) (w : World) (hr0 : Kd.C (Kd.int .u8) w A0 l0.length l0) (hc0 : l0.length ≤ c0) (h : spec_GetText.f k l0 a1 = some (r1, r2, r3)) :
    Calls Try.prog 40 #[.slice A0 l0.length c0, .int .i64 a1] w fun e w' => e = .returned (.tuple #[.string r1, .int .i64 r2, .bool r3]) ∧ Drawn0 w w' := by
  have HR0 := Aside0.mk hr0
  have HC0 := Aside0.mk hc0
  clear hr0 hc0
  have H : ((spec_GetNum.f k l0 a1).bind fun bt216 => (if bt216.2.2 = true then (if bt216.1 > (wrap64 ((l0.length : Int) - bt216.2.1)) then (some ((⟨#[]⟩ : ByteArray), 0, false)) else (if 0 ≤ bt216.2.1 then (if bt216.2.1 ≤ (wrap64 (bt216.2.1 + bt216.1)) then (if (wrap64 (bt216.2.1 + bt216.1)) ≤ (l0.length : Int) then (some (strOfNums ((l0.take ((wrap64 (bt216.2.1 + bt216.1)) : Int).toNat).drop (bt216.2.1 : Int).toNat), wrap64 (bt216.2.1 + bt216.1), true)) else (none)) else (none)) else (none))) else (some ((⟨#[]⟩ : ByteArray), 0, false)))) = some (r1, r2, r3) := h
  clear h
  replace H := Option.bind_eq_some_iff.mp H
  obtain ⟨⟨t216, t217, t218⟩, A30, H⟩ := H
  replace H : (if t218 = true then (if t216 > (wrap64 ((l0.length : Int) - t217)) then (some ((⟨#[]⟩ : ByteArray), 0, false)) else (if 0 ≤ t217 then (if t217 ≤ (wrap64 (t217 + t216)) then (if (wrap64 (t217 + t216)) ≤ (l0.length : Int) then (some (strOfNums ((l0.take ((wrap64 (t217 + t216)) : Int).toNat).drop (t217 : Int).toNat), wrap64 (t217 + t216), true)) else (none)) else (none)) else (none))) else (some ((⟨#[]⟩ : ByteArray), 0, false))) = some (r1, r2, r3) := H
  have A3 := Aside0.mk A30
  clear A30
  by_cases c4 : t218 = true
  · subst c4
    have H1 : (if t216 > (wrap64 ((l0.length : Int) - t217)) then (some ((⟨#[]⟩ : ByteArray), 0, false)) else (if 0 ≤ t217 then (if t217 ≤ (wrap64 (t217 + t216)) then (if (wrap64 (t217 + t216)) ≤ (l0.length : Int) then (some (strOfNums ((l0.take ((wrap64 (t217 + t216)) : Int).toNat).drop (t217 : Int).toNat), wrap64 (t217 + t216), true)) else (none)) else (none)) else (none))) = some (r1, r2, r3) := by rw [if_pos rfl] at H; exact H
    clear H
    have H := H1
    clear H1
    by_cases c5 : t216 > (wrap64 ((l0.length : Int) - t217))
    · rw [if_pos c5] at H
      have c5b0 : decide ((wrap64 ((l0.length : Int) - t217)) < t216) = true := decide_eq_true c5
      clear c5
      simp only [Option.some.injEq, Prod.mk.injEq] at H
      obtain ⟨rfl, rfl, rfl⟩ := H
      go_enter Try.func40, Try.ntmps40
      go_wp2_with (first | ((with_reducible refine gate_callee (f := 32) rfl ?_); refine goesL_ (some 13) rfl rfl Try.func32 (by kernel_rfl) rfl #[.slice A0 l0.length c0, .int .i64 a1] rfl (by (try simp only [List.map_toArray, List.map_cons, List.map_nil]); first | done | rfl | (simp only [List.length_drop, List.length_take]; rfl)) ?_; (with_reducible refine (spec_GetNum.calls k _ _ l0 a1 t216 t217 true _ ?side1 ?side2 A3.out).mono ?_); (case side1 => repeat (first | exact HR0.out | (with_reducible refine Kd.C_alloc ?_ _) | (with_reducible refine Kd.C_drewN ?_ _) | (with_reducible refine Kd.C_drew ?_))); (case side2 => exact HC0.out); rintro e w' ⟨rfl, ⟨nd, rfl⟩⟩; refine ⟨_, rfl, ?_⟩))
      go_ret3
      exact ⟨by first | rfl | (simp; done) | (simp [*]; done), by repeat (first | exact Drawn0.refl _ | apply Drawn0.step)⟩
    · rw [if_neg c5] at H
      have c5b0 : decide ((wrap64 ((l0.length : Int) - t217)) < t216) = false := decide_eq_false c5
      clear c5
      by_cases c6 : 0 ≤ t217
      · rw [if_pos c6] at H
        have c6b0 := eq_true c6
        have c6b1 : decide (0 ≤ t217) = true := decide_eq_true c6
        clear c6
        by_cases c7 : t217 ≤ (wrap64 (t217 + t216))
        · rw [if_pos c7] at H
          have c7b0 := eq_true c7
          have c7b1 : decide (t217 ≤ (wrap64 (t217 + t216))) = true := decide_eq_true c7
          by_cases c8 : (wrap64 (t217 + t216)) ≤ (l0.length : Int)
          · rw [if_pos c8] at H
            have c8b0 := eq_true c8
            have c8b1 : decide ((wrap64 (t217 + t216)) ≤ (l0.length : Int)) = true := decide_eq_true c8
            simp only [Option.some.injEq, Prod.mk.injEq] at H
            obtain ⟨rfl, rfl, rfl⟩ := H
            go_enter Try.func40, Try.ntmps40
            go_wp2_with (first | ((with_reducible refine gate_callee (f := 32) rfl ?_); refine goesL_ (some 13) rfl rfl Try.func32 (by kernel_rfl) rfl #[.slice A0 l0.length c0, .int .i64 a1] rfl (by (try simp only [List.map_toArray, List.map_cons, List.map_nil]); first | done | rfl | (simp only [List.length_drop, List.length_take]; rfl)) ?_; (with_reducible refine (spec_GetNum.calls k _ _ l0 a1 t216 t217 true _ ?side1 ?side2 A3.out).mono ?_); (case side1 => repeat (first | exact HR0.out | (with_reducible refine Kd.C_alloc ?_ _) | (with_reducible refine Kd.C_drewN ?_ _) | (with_reducible refine Kd.C_drew ?_))); (case side2 => exact HC0.out); rintro e w' ⟨rfl, ⟨nd, rfl⟩⟩; refine ⟨_, rfl, ?_⟩; obtain ⟨i09, hi09, _, hsz9, _⟩ := info_parts info5; obtain ⟨A9, hcut9, hA9, hC9⟩ := print_mid_of (P := Try.prog) (Value.int .u8) 0 27 5 .i64 .i64 Try.underlying27 hi09 hsz9 A0 c0 l0 t217 (wrap64 (t217 + t216)) (of_decide_eq_true (by first | (with_reducible assumption) | assumption)) (by first | omega | exact of_decide_eq_true (by first | (with_reducible assumption) | assumption)) (of_decide_eq_true (by first | (with_reducible assumption) | assumption)) HC0.out; have HR219 := Aside0.mk (Kd.C_of_reads (h1 := fun _ => rfl) (hA9 _ (Kd.reads_of_C HR0.out))); have HC219 := Aside0.mk hC9; clear hA9 hC9 hi09 hsz9; have hcv10 := Kd.C_string (P := Try.prog) (A := A9) (c := (c0 - t217.toNat)) Try.underlying27 Try.underlying5 Try.underlying9 HR219.out; have hcv11 : ∀ (n_ : Nat), n_ = ((l0.take ((wrap64 (t217 + t216)) : Int).toNat).drop (t217 : Int).toNat).length → ∀ m_, (convert 27 9 (.slice A9 n_ (c0 - t217.toNat))).run Try.prog (w.drewN m_) = .ok (.string (strOfNums ((l0.take ((wrap64 (t217 + t216)) : Int).toNat).drop (t217 : Int).toNat))) (w.drewN m_) := fun n_ hn_ m_ => hn_ ▸ Kd.C_string (P := Try.prog) (A := A9) (c := (c0 - t217.toNat)) Try.underlying27 Try.underlying5 Try.underlying9 (Kd.C_drewN HR219.out m_)))
            go_ret3
            exact ⟨by first | rfl | (simp; done) | (simp [*]; done), by repeat (first | exact Drawn0.refl _ | apply Drawn0.step)⟩
          · rw [if_neg c8] at H
            exact absurd H (by simp)
        · rw [if_neg c7] at H
          exact absurd H (by simp)
      · rw [if_neg c6] at H
        exact absurd H (by simp)
  · replace c4 := Bool.eq_false_iff.mpr c4
    subst c4
    have H1 : (some ((⟨#[]⟩ : ByteArray), 0, false)) = some (r1, r2, r3) := by rw [if_neg (show ¬ (false = true) by decide)] at H; exact H
    clear H
    have H := H1
    clear H1
    simp only [Option.some.injEq, Prod.mk.injEq] at H
    obtain ⟨rfl, rfl, rfl⟩ := H
    go_enter Try.func40, Try.ntmps40
    go_wp2_with (first | ((with_reducible refine gate_callee (f := 32) rfl ?_); refine goesL_ (some 13) rfl rfl Try.func32 (by kernel_rfl) rfl #[.slice A0 l0.length c0, .int .i64 a1] rfl (by (try simp only [List.map_toArray, List.map_cons, List.map_nil]); first | done | rfl | (simp only [List.length_drop, List.length_take]; rfl)) ?_; (with_reducible refine (spec_GetNum.calls k _ _ l0 a1 t216 t217 false _ ?side1 ?side2 A3.out).mono ?_); (case side1 => repeat (first | exact HR0.out | (with_reducible refine Kd.C_alloc ?_ _) | (with_reducible refine Kd.C_drewN ?_ _) | (with_reducible refine Kd.C_drew ?_))); (case side2 => exact HC0.out); rintro e w' ⟨rfl, ⟨nd, rfl⟩⟩; refine ⟨_, rfl, ?_⟩))
    go_ret3
    exact ⟨by first | rfl | (simp; done) | (simp [*]; done), by repeat (first | exact Drawn0.refl _ | apply Drawn0.step)⟩

end Go.Proofs.Ytmkhhnfmahdijaa.X

/- What GetText and GetTexts compute, the program's and the reference's: the same. No Go, no memory. -/
set_option linter.unusedVariables false
namespace Go.Proofs.Ytmkhhnfmahdijaa.Z
open Go.RowKit Go.Proofs.YtmkhhnfmahdijaaW.PrintWords Go.Proofs.YtmkhhnfmahdijaaW.PrintMore Go.Proofs.Ytmkhhnfmahdijaa.X

/-- What an answer of GetText is. -/
def TextOk (len : Nat) (a : Int) (r : ByteArray × Int × Bool) : Prop := r.2.2 = false ∨ r.2.2 = true ∧ a < r.2.1 ∧ r.2.1 ≤ len
/-- GetText out of GetNum's answer. -/
def textOf (b : List Int) (r : Int × Int × Bool) : ByteArray × Int × Bool :=
  if r.2.2 = true then (if r.1 > (b.length : Int) - r.2.1 then ((⟨#[]⟩ : ByteArray), 0, false) else (strOfNums ((b.take (r.2.1 + r.1).toNat).drop r.2.1.toNat), r.2.1 + r.1, true)) else ((⟨#[]⟩ : ByteArray), 0, false)
theorem textOf_ok {b : List Int} {a : Int} {r : Int × Int × Bool} (g : GetOk b.length a r) : TextOk b.length a (textOf b r) := by
  unfold textOf
  split
  · rename_i h
    rcases g with rfl | ⟨_, g1, g2, g3, g4, g5⟩
    · cases h
    · split
      · exact .inl rfl
      · exact .inr ⟨rfl, by show a < r.2.1 + r.1; omega, by show r.2.1 + r.1 ≤ _; omega⟩
  · exact .inl rfl
theorem specText_of {b : List Int} (hl : b.length ≤ 140737488355328) {a : Int} {r : Int × Int × Bool} (h : Ev (fun k => spec_GetNum.f k b a) r) (g : GetOk b.length a r) : Ev (fun k => spec_GetText.f k b a) (textOf b r) := by
  unfold spec_GetText.f
  refine evB h ?_
  unfold textOf
  rcases g with rfl | ⟨g0, g1, g2, g3, g4, g5⟩
  · exact evF (by simp) (evR rfl)
  · have h1 : wrap64 ((b.length : Int) - r.2.1) = (b.length : Int) - r.2.1 := w64 (by omega)
    rw [h1]
    refine evT g0 (evI (fun h2 => ?_) (fun h2 => ?_))
    · exact evR (by rw [if_pos g0, if_pos h2])
    · by_cases h3 : 0 ≤ r.2.1
      · have h4 : wrap64 (r.2.1 + r.1) = r.2.1 + r.1 := w64 (by omega)
        rw [h4]
        exact evT h3 (evT (by omega) (evT (by omega) (evR (by rw [if_pos g0, if_neg h2]))))
      · exfalso
        omega
theorem implText_of {b : List Int} (hl : b.length ≤ 140737488355328) {a : Int} {r : Int × Int × Bool} (h : Ev (fun k => impl_GetNum.f k b a) r) (g : GetOk b.length a r) : Ev (fun k => impl_GetText.f k b a) (textOf b r) := by
  unfold impl_GetText.f
  refine evB h ?_
  unfold textOf
  rcases g with rfl | ⟨g0, g1, g2, g3, g4, g5⟩
  · exact evF (by simp) (evR rfl)
  · have h1 : wrap64 ((b.length : Int) - r.2.1) = (b.length : Int) - r.2.1 := w64 (by omega)
    rw [h1]
    refine evT g0 (evI (fun h2 => ?_) (fun h2 => ?_))
    · exact evR (by rw [if_pos g0, if_pos h2])
    · by_cases h3 : 0 ≤ r.2.1
      · have h4 : wrap64 (r.2.1 + r.1) = r.2.1 + r.1 := w64 (by omega)
        rw [h4]
        exact evT h3 (evT (by omega) (evT (by omega) (evR (by rw [if_pos g0, if_neg h2]))))
      · exfalso
        omega
theorem getText_both (b : List Int) (hb : ∀ x ∈ b, (Lit.int .u8 x).wf = true) (hl : b.length ≤ 140737488355328) (a : Int) :
    ∃ r, Ev (fun k => spec_GetText.f k b a) r ∧ Ev (fun k => impl_GetText.f k b a) r ∧ TextOk b.length a r := by
  obtain ⟨r, e1, e2, g⟩ := getNum_both b hb hl a
  exact ⟨_, specText_of hl e1 g, implText_of hl e2 g, textOf_ok g⟩
end Go.Proofs.Ytmkhhnfmahdijaa.Z

namespace Go.Proofs.Ytmkhhnfmahdijaa.X
open Go.RowKit Go.Proofs.YtmkhhnfmahdijaaW.PrintWords Go.Proofs.YtmkhhnfmahdijaaW.PrintLast Go.Proofs.YtmkhhnfmahdijaaW.PrintMore
attribute [local go_sem] max2_int min2_int max_two min_two max_three min_three max_four min_four   -- for this text's walks alone
set_option linter.unusedVariables false
set_option linter.unusedSimpArgs false

/-! ### spec_GetTexts: function 63 -/
mutual
def spec_GetTexts.j0 : Nat → List Int → Int → Int → Bool → Option (List ByteArray × Int × Bool)
  | 0, _, _, _, _ => none
  | k + 1, x0, x7, x8, x27 => if x27 = true then (some ((([] : List ByteArray)), 0, false)) else (spec_GetTexts.l0 k x0 x7 x8 (([] : List ByteArray)) 0)
def spec_GetTexts.l0 : Nat → List Int → Int → Int → List ByteArray → Int → Option (List ByteArray × Int × Bool)
  | 0, _, _, _, _, _ => none
  | k + 1, x0, x7, x8, x10, x11 => if x11 < x7 then ((spec_GetText.f k x0 x8).bind fun bt643 => (if bt643.2.2 = true then (if x10.length < 8796093022208 then (spec_GetTexts.l0 k x0 x7 bt643.2.1 (x10 ++ [bt643.1]) (wrap64 (x11 + 1))) else (none)) else (some ((([] : List ByteArray)), 0, false)))) else (some (x10, x8, true))
end
def spec_GetTexts.f (k : Nat) (l0 : List Int) (a1 : Int) : Option (List ByteArray × Int × Bool) := (spec_GetNum.f k l0 a1).bind fun bt634 => (if bt634.2.2 = true then (spec_GetTexts.j0 k l0 bt634.1 bt634.2.1 (decide (bt634.1 > 200))) else (spec_GetTexts.j0 k l0 bt634.1 bt634.2.1 true))
theorem spec_GetTexts.mono_l : ∀ k, (∀ y0 y1 y2 y3, LeO (spec_GetTexts.j0 k y0 y1 y2 y3) (spec_GetTexts.j0 (k + 1) y0 y1 y2 y3)) ∧ (∀ y0 y1 y2 y3 y4, LeO (spec_GetTexts.l0 k y0 y1 y2 y3 y4) (spec_GetTexts.l0 (k + 1) y0 y1 y2 y3 y4))
  | 0 => ⟨fun _ _ _ _ r h => by simp [spec_GetTexts.j0] at h, fun _ _ _ _ _ r h => by simp [spec_GetTexts.l0] at h⟩
  | k + 1 => by
    obtain ⟨ih0, ih1⟩ := spec_GetTexts.mono_l k
    refine ⟨?_, ?_⟩
    · intro y0 y1 y2 y3
      unfold spec_GetTexts.j0
      repeat' first
      | (with_reducible exact ih0 _ _ _ _)
      | (with_reducible exact ih1 _ _ _ _ _)
      | (with_reducible exact spec_GetNum.mono _ _ _)
      | (with_reducible exact spec_GetText.mono _ _ _)
      | (with_reducible exact LeO.refl _)
      | (with_reducible exact LeO.none _)
      | (with_reducible refine LeO.ite ?_ ?_)
      | (with_reducible refine LeO.bind ?_ (fun _ => ?_))
      | exact ih0 _ _ _ _
      | exact ih1 _ _ _ _ _
      | exact spec_GetNum.mono _ _ _
      | exact spec_GetText.mono _ _ _
      | exact LeO.none _
      | refine LeO.ite ?_ ?_
      | refine LeO.bind ?_ (fun _ => ?_)
    · intro y0 y1 y2 y3 y4
      unfold spec_GetTexts.l0
      repeat' first
      | (with_reducible exact ih0 _ _ _ _)
      | (with_reducible exact ih1 _ _ _ _ _)
      | (with_reducible exact spec_GetNum.mono _ _ _)
      | (with_reducible exact spec_GetText.mono _ _ _)
      | (with_reducible exact LeO.refl _)
      | (with_reducible exact LeO.none _)
      | (with_reducible refine LeO.ite ?_ ?_)
      | (with_reducible refine LeO.bind ?_ (fun _ => ?_))
      | exact ih0 _ _ _ _
      | exact ih1 _ _ _ _ _
      | exact spec_GetNum.mono _ _ _
      | exact spec_GetText.mono _ _ _
      | exact LeO.none _
      | refine LeO.ite ?_ ?_
      | refine LeO.bind ?_ (fun _ => ?_)
theorem spec_GetTexts.mono : ∀ a0 a1 k, LeO (spec_GetTexts.f k a0 a1) (spec_GetTexts.f (k + 1) a0 a1) := by
  intro a0 a1 k
  obtain ⟨ih0, ih1⟩ := spec_GetTexts.mono_l k
  unfold spec_GetTexts.f
  repeat' first
      | (with_reducible exact ih0 _ _ _ _)
      | (with_reducible exact ih1 _ _ _ _ _)
      | (with_reducible exact spec_GetNum.mono _ _ _)
      | (with_reducible exact spec_GetText.mono _ _ _)
      | (with_reducible exact LeO.refl _)
      | (with_reducible exact LeO.none _)
      | (with_reducible refine LeO.ite ?_ ?_)
      | (with_reducible refine LeO.bind ?_ (fun _ => ?_))
      | exact ih0 _ _ _ _
      | exact ih1 _ _ _ _ _
      | exact spec_GetNum.mono _ _ _
      | exact spec_GetText.mono _ _ _
      | exact LeO.none _
      | refine LeO.ite ?_ ?_
      | refine LeO.bind ?_ (fun _ => ?_)
set_option maxHeartbeats 8000000 in
set_option maxRecDepth 100000 in
theorem spec_GetTexts.calls (k : Nat) (A0 : Option Addr) (c0 : Nat) (l0 : List Int) (a1 : Int) (r1 : List ByteArray) (r2 : Int) (r3 : Bool) (w : World) (hr0 : Kd.C (Kd.int .u8) w A0 l0.length l0) (hc0 : l0.length ≤ c0) (h : spec_GetTexts.f k l0 a1 = some (r1, r2, r3)) :
    Calls Try.prog 63 #[.slice A0 l0.length c0, .int .i64 a1] w fun e w' => ∃ v0_ : Value, e = .returned (.tuple #[v0_, .int .i64 r2, .bool r3]) ∧ Kd.R Kd.string 9 w' w.heap.size (fun _ => True) v0_ r1 ∧ Below w.heap.size w w' := by
  have HR0 := Aside0.mk hr0
  have HC0 := Aside0.mk hc0
  clear hr0 hc0
  have HB := Aside0.mk (Below.refl w.heap.size w)
  have H : ((spec_GetNum.f k l0 a1).bind fun bt634 => (if bt634.2.2 = true then (spec_GetTexts.j0 k l0 bt634.1 bt634.2.1 (decide (bt634.1 > 200))) else (spec_GetTexts.j0 k l0 bt634.1 bt634.2.1 true))) = some (r1, r2, r3) := h
  clear h
  replace H := Option.bind_eq_some_iff.mp H
  obtain ⟨⟨t634, t635, t636⟩, A30, H⟩ := H
  replace H : (if t636 = true then (spec_GetTexts.j0 k l0 t634 t635 (decide (t634 > 200))) else (spec_GetTexts.j0 k l0 t634 t635 true)) = some (r1, r2, r3) := H
  have A3 := Aside0.mk A30
  clear A30
  have HC4 := Aside0.mk H
  clear H
  go_enter Try.func63, Try.ntmps63
  go_upto_region 2 with (first | ((with_reducible refine gate_callee (f := 32) rfl ?_); refine goesL_ (some 18) rfl rfl Try.func32 (by kernel_rfl) rfl #[.slice A0 l0.length c0, .int .i64 a1] rfl (by (try simp only [List.map_toArray, List.map_cons, List.map_nil]); first | done | rfl | (simp only [List.length_drop, List.length_take]; rfl)) ?_; (with_reducible refine (spec_GetNum.calls k _ _ l0 a1 t634 t635 t636 _ ?side1 ?side2 A3.out).mono ?_); (case side1 => repeat (first | exact HR0.out | (with_reducible refine Kd.C_alloc ?_ _) | (with_reducible refine Kd.C_drewN ?_ _) | (with_reducible refine Kd.C_drew ?_))); (case side2 => exact HC0.out); rintro e w' ⟨rfl, ⟨nd, rfl⟩⟩; refine ⟨_, rfl, ?_⟩))
  (try simp only [Act.put, List.setIfInBounds_toArray, List.set_cons_zero, List.set_cons_succ])
  go_cut [27] (fun v27 wc => ∃ (kq : Nat) (x27_3 : Bool), v27 = .bool x27_3 ∧ Aside0 (spec_GetTexts.j0 kq l0 t634 t635 x27_3 = some (r1, r2, r3)) ∧ Aside0 (kq ≤ k) ∧ Aside0 (Below w.heap.size w wc))
  case first =>
    have H := HC4.out
    clear HC4
    by_cases c5 : t636 = true
    · subst c5
      have H1 : (spec_GetTexts.j0 k l0 t634 t635 (decide (t634 > 200))) = some (r1, r2, r3) := by rw [if_pos rfl] at H; exact H
      clear H
      have H := H1
      clear H1
      have H' := Aside0.mk H
      clear H
      go_wp2
      go_meet
      case rel => exact ⟨_, (decide (t634 > 200)), (by first | rfl | (simp; done) | (simp [*]; done)), H', ⟨by first | omega | exact Nat.le_refl _⟩, ⟨by repeat (first | (with_reducible first | exact HB.out | apply below_alloc | apply pw_below_drewN | apply below_drew1) | exact HB.out)⟩⟩
    · replace c5 := Bool.eq_false_iff.mpr c5
      subst c5
      have H1 : (spec_GetTexts.j0 k l0 t634 t635 true) = some (r1, r2, r3) := by rw [if_neg (show ¬ (false = true) by decide)] at H; exact H
      clear H
      have H := H1
      clear H1
      have H' := Aside0.mk H
      clear H
      go_wp2
      go_meet
      case rel => exact ⟨_, (true), (by first | rfl | (simp; done) | (simp [*]; done)), H', ⟨by first | omega | exact Nat.le_refl _⟩, ⟨by repeat (first | (with_reducible first | exact HB.out | apply below_alloc | apply pw_below_drewN | apply below_drew1) | exact HB.out)⟩⟩
  case rest =>
    clear HC4
    try clear p2
    try clear c3
    try clear c5
    obtain ⟨kq, x27_3, rfl, HA, HJ3, HB⟩ := hcut
    cases kq with
    | zero => exact absurd HA.out (by simp [spec_GetTexts.j0])
    | succ kj3 =>
      have H := HA.out
      clear HA
      simp only [spec_GetTexts.j0] at H
      by_cases c6 : x27_3 = true
      · subst c6
        have H1 : (some ((([] : List ByteArray)), 0, false)) = some (r1, r2, r3) := by rw [if_pos rfl] at H; exact H
        clear H
        have H := H1
        clear H1
        obtain ⟨y637, hy637⟩ : ∃ y_ : List ByteArray, y_ = (([] : List ByteArray)) := ⟨_, rfl⟩
        replace H : (some (y637, 0, false)) = some (r1, r2, r3) := by first | (rw [hy637]; with_reducible exact H) | (have H2_ := (Option.bind_some _ _).symm.trans H; rw [hy637]; with_reducible exact H2_) | (have H2_ := (Option.bind_some _ _).symm.trans H; with_reducible exact H2_) | with_reducible exact H | (rw [hy637]; exact H) | exact H
        have Ny637 := Aside0.mk hy637
        clear hy637
        simp only [Option.some.injEq, Prod.mk.injEq] at H
        obtain ⟨rfl, rfl, rfl⟩ := H
        go_wp2_with (first | ((with_reducible refine gate_dst (N := 28) rfl ?_); refine Kd.R_lit Kd.string _ 9 ?hg (N := 28) ?hd (xs := ([] : List ByteArray)) (inner := []) (ok := fun _ => True) (okp := fun _ => True) ?hr ?hp (fun _ hk => hk) trivial (Below.refl _ _) (Nat.le_refl _) (by simp) ?_; (case hd => rfl); (case hg => rfl); (case hr => first | (go_simp; done) | (go_simp; rfl)); (case hp => exact (Reps.none _ _)); intro v638 w7 ho8 hb hg_ hnew_; clear hg_ hnew_; (first | rw [← Ny637.out] at ho8 | (simp only [Int.reduceToNat] at ho8; rw [← Ny637.out] at ho8)); have n0_ := Aside0.mk (Kd.R_lower ho8 (below_size (by repeat (first | (with_reducible first | exact HB.out | apply below_alloc | apply pw_below_drewN | apply below_drew1) | exact HB.out)))); have n1_ := Aside0.mk (below_step (by repeat (first | (with_reducible first | exact HB.out | apply below_alloc | apply pw_below_drewN | apply below_drew1) | exact HB.out)) hb); clear HB; have HO639 := n0_; have HB := n1_; clear n0_ n1_; clear hb ho8))
        go_ret3
        exact ⟨_, by first | rfl | (simp [errW_none, errW_some] <;> rfl) | (simp [*, errW_none, errW_some] <;> rfl), by (with_reducible repeat (first | apply Kd.R_alloc | apply Kd.R_drewN | apply Kd.R_drew)); exact HO639.out, by repeat (first | (with_reducible first | exact HB.out | apply below_alloc | apply pw_below_drewN | apply below_drew1) | exact HB.out)⟩
      · replace c6 := Bool.eq_false_iff.mpr c6
        subst c6
        have H1 : (spec_GetTexts.l0 kj3 l0 t634 t635 (([] : List ByteArray)) 0) = some (r1, r2, r3) := by rw [if_neg (show ¬ (false = true) by decide)] at H; exact H
        clear H
        have H := H1
        clear H1
        obtain ⟨y640, hy640⟩ : ∃ y_ : List ByteArray, y_ = (([] : List ByteArray)) := ⟨_, rfl⟩
        replace H : (spec_GetTexts.l0 kj3 l0 t634 t635 y640 0) = some (r1, r2, r3) := by first | (rw [hy640]; with_reducible exact H) | (have H2_ := (Option.bind_some _ _).symm.trans H; rw [hy640]; with_reducible exact H2_) | (have H2_ := (Option.bind_some _ _).symm.trans H; with_reducible exact H2_) | with_reducible exact H | (rw [hy640]; exact H) | exact H
        have Ny640 := Aside0.mk hy640
        clear hy640
        have H' := Aside0.mk H
        clear H
        go_wp2_with (first | ((with_reducible refine gate_dst (N := 29) rfl ?_); refine Kd.R_lit Kd.string _ 9 ?hg (N := 29) ?hd (xs := ([] : List ByteArray)) (inner := []) (ok := fun _ => True) (okp := fun _ => True) ?hr ?hp (fun _ hk => hk) trivial (Below.refl _ _) (Nat.le_refl _) (by simp) ?_; (case hd => rfl); (case hg => rfl); (case hr => first | (go_simp; done) | (go_simp; rfl)); (case hp => exact (Reps.none _ _)); intro v641 w9 ho10 hb hg_ hnew_; clear hg_ hnew_; (first | rw [← Ny640.out] at ho10 | (simp only [Int.reduceToNat] at ho10; rw [← Ny640.out] at ho10)); have n0_ := Aside0.mk (Kd.R_lower ho10 (below_size (by repeat (first | (with_reducible first | exact HB.out | apply below_alloc | apply pw_below_drewN | apply below_drew1) | exact HB.out)))); have n1_ := Aside0.mk (below_step (by repeat (first | (with_reducible first | exact HB.out | apply below_alloc | apply pw_below_drewN | apply below_drew1) | exact HB.out)) hb); clear HB; have HO642 := n0_; have HB := n1_; clear n0_ n1_; clear hb ho10))
        go_loopg [8, 10, 11] kj3 (fun kq v8 v10 v11 w' => ∃ (x8_2 : Int) (x10_2 : List ByteArray) (x11_2 : Int), v8 = .int .i64 x8_2 ∧ v11 = .int .i64 x11_2 ∧ Aside0 (spec_GetTexts.l0 kq l0 t634 x8_2 x10_2 x11_2 = some (r1, r2, r3)) ∧ Aside0 (kq ≤ kj3) ∧ Aside0 (Kd.R Kd.string 9 w' w.heap.size (fun _ => True) v10 x10_2) ∧ Aside0 (Below w.heap.size w w'))
        case atStart => exact ⟨(t635), (y640), (0), (by first | rfl | (simp; done) | (simp [*]; done)), (by first | rfl | (simp; done) | (simp [*]; done)), H', ⟨Nat.le_refl _⟩, ⟨by (with_reducible repeat (first | apply Kd.R_alloc | apply Kd.R_drewN | apply Kd.R_drew)); exact HO642.out⟩, ⟨by repeat (first | (with_reducible first | exact HB.out | apply below_alloc | apply pw_below_drewN | apply below_drew1) | exact HB.out)⟩⟩
        case round =>
          clear H'
          try clear p2
          try clear c3
          try clear c5
          try clear c6
          try clear p2
          obtain ⟨x8_2, x10_2, x11_2, rfl, rfl, HA, HK2, HO_10, HB⟩ := hrel
          cases gk with
          | zero => exact absurd HA.out (by simp [spec_GetTexts.l0])
          | succ k2 =>
            have H := HA.out
            clear HA
            simp only [spec_GetTexts.l0] at H
            by_cases c11 : x11_2 < t634
            · rw [if_pos c11] at H
              have c11b0 : decide (x11_2 < t634) = true := decide_eq_true c11
              clear c11
              replace H := Option.bind_eq_some_iff.mp H
              obtain ⟨⟨t643, t644, t645⟩, A120, H⟩ := H
              replace H : (if t645 = true then (if x10_2.length < 8796093022208 then (spec_GetTexts.l0 k2 l0 t634 t644 (x10_2 ++ [t643]) (wrap64 (x11_2 + 1))) else (none)) else (some ((([] : List ByteArray)), 0, false))) = some (r1, r2, r3) := H
              have A12 := Aside0.mk A120
              clear A120
              by_cases c13 : t645 = true
              · subst c13
                have H1 : (if x10_2.length < 8796093022208 then (spec_GetTexts.l0 k2 l0 t634 t644 (x10_2 ++ [t643]) (wrap64 (x11_2 + 1))) else (none)) = some (r1, r2, r3) := by rw [if_pos rfl] at H; exact H
                clear H
                have H := H1
                clear H1
                by_cases c14 : x10_2.length < 8796093022208
                · rw [if_pos c14] at H
                  have LMc14 := Aside0.mk c14
                  clear c14
                  obtain ⟨y646, hy646⟩ : ∃ y_ : List ByteArray, y_ = (x10_2 ++ [t643]) := ⟨_, rfl⟩
                  replace H : (spec_GetTexts.l0 k2 l0 t634 t644 y646 (wrap64 (x11_2 + 1))) = some (r1, r2, r3) := by first | (rw [hy646]; with_reducible exact H) | (have H2_ := (Option.bind_some _ _).symm.trans H; rw [hy646]; with_reducible exact H2_) | (have H2_ := (Option.bind_some _ _).symm.trans H; with_reducible exact H2_) | with_reducible exact H | (rw [hy646]; exact H) | exact H
                  have Ny646 := Aside0.mk hy646
                  clear hy646
                  have H' := Aside0.mk H
                  clear H
                  go_wp2_with (first | ((with_reducible refine gate_callee (f := 40) rfl ?_); refine goesL_ (some 38) rfl rfl Try.func40 (by kernel_rfl) rfl #[.slice A0 l0.length c0, .int .i64 x8_2] rfl (by (try simp only [List.map_toArray, List.map_cons, List.map_nil]); first | done | rfl | (simp only [List.length_drop, List.length_take]; rfl)) ?_; (with_reducible refine (spec_GetText.calls k2 _ _ l0 x8_2 t643 t644 true _ ?side1 ?side2 A12.out).mono ?_); (case side1 => repeat (first | exact (Kd.C_below HR0.out HB.out) | (with_reducible refine Kd.C_alloc ?_ _) | (with_reducible refine Kd.C_drewN ?_ _) | (with_reducible refine Kd.C_drew ?_))); (case side2 => exact HC0.out); rintro e w' ⟨rfl, ⟨nd, rfl⟩⟩; refine ⟨_, rfl, ?_⟩) | ((with_reducible refine gate_builtin (b := .append) (xs := #[.tmp 45, .tmp 47]) rfl ?_); at_builtin; refine Kd.R_append Kd.string (w0 := w) w.heap.size rfl (.tmp 45) (.tmp 47) 44 9 (.string ⟨#[]⟩) 16 rfl Try.underlying44 info9 rfl (by decide) (by omega) u10 x10_2 t643 [.string t643] (fun _ => True) (fun _ => False) rfl rfl ?aP (fun _ hk => hk.elim) ?aF ?aO ?aB ?aS ?aL ?_; (case aP => exact rfl); (case aB => exact (by repeat (first | (with_reducible first | exact HB.out | apply below_alloc | apply pw_below_drewN | apply below_drew1) | exact HB.out))); (case aF => exact (fun _ _ => trivial)); (case aO => exact (by (with_reducible repeat (first | apply Kd.R_alloc | apply Kd.R_drewN | apply Kd.R_drew)); exact HO_10.out)); (case aS => exact (below_size (by repeat (first | (with_reducible first | exact HB.out | apply below_alloc | apply pw_below_drewN | apply below_drew1) | exact HB.out)))); (case aL => have := LMc14.out; omega); intro v647 w15 ho hb hg hat; rw [← Ny646.out] at ho; have n0_ := Aside0.mk (hb); have n1_ := Aside0.mk (ho); clear HB; clear HO_10; have HB := n0_; have HO648 := n1_; clear n0_ n1_; clear ho hb hg hat))
                  go_roundg k2
                  case measure => have := HJ3.out; have := HK2.out; omega
                  case rel => exact ⟨(t644), (y646), (wrap64 (x11_2 + 1)), (by first | rfl | (simp; done) | (simp [*]; done)), (by first | rfl | (simp; done) | (simp [*]; done)), H', ⟨by have := HJ3.out; have := HK2.out; omega⟩, ⟨by (with_reducible repeat (first | apply Kd.R_alloc | apply Kd.R_drewN | apply Kd.R_drew)); exact HO648.out⟩, ⟨by repeat (first | (with_reducible first | exact HB.out | apply below_alloc | apply pw_below_drewN | apply below_drew1) | exact HB.out)⟩⟩
                · rw [if_neg c14] at H
                  exact absurd H (by simp)
              · replace c13 := Bool.eq_false_iff.mpr c13
                subst c13
                have H1 : (some ((([] : List ByteArray)), 0, false)) = some (r1, r2, r3) := by rw [if_neg (show ¬ (false = true) by decide)] at H; exact H
                clear H
                have H := H1
                clear H1
                obtain ⟨y649, hy649⟩ : ∃ y_ : List ByteArray, y_ = (([] : List ByteArray)) := ⟨_, rfl⟩
                replace H : (some (y649, 0, false)) = some (r1, r2, r3) := by first | (rw [hy649]; with_reducible exact H) | (have H2_ := (Option.bind_some _ _).symm.trans H; rw [hy649]; with_reducible exact H2_) | (have H2_ := (Option.bind_some _ _).symm.trans H; with_reducible exact H2_) | with_reducible exact H | (rw [hy649]; exact H) | exact H
                have Ny649 := Aside0.mk hy649
                clear hy649
                simp only [Option.some.injEq, Prod.mk.injEq] at H
                obtain ⟨rfl, rfl, rfl⟩ := H
                go_wp2_with (first | ((with_reducible refine gate_callee (f := 40) rfl ?_); refine goesL_ (some 38) rfl rfl Try.func40 (by kernel_rfl) rfl #[.slice A0 l0.length c0, .int .i64 x8_2] rfl (by (try simp only [List.map_toArray, List.map_cons, List.map_nil]); first | done | rfl | (simp only [List.length_drop, List.length_take]; rfl)) ?_; (with_reducible refine (spec_GetText.calls k2 _ _ l0 x8_2 t643 t644 false _ ?side1 ?side2 A12.out).mono ?_); (case side1 => repeat (first | exact (Kd.C_below HR0.out HB.out) | (with_reducible refine Kd.C_alloc ?_ _) | (with_reducible refine Kd.C_drewN ?_ _) | (with_reducible refine Kd.C_drew ?_))); (case side2 => exact HC0.out); rintro e w' ⟨rfl, ⟨nd, rfl⟩⟩; refine ⟨_, rfl, ?_⟩) | ((with_reducible refine gate_dst (N := 44) rfl ?_); refine Kd.R_lit Kd.string _ 9 ?hg (N := 44) ?hd (xs := ([] : List ByteArray)) (inner := []) (ok := fun _ => True) (okp := fun _ => True) ?hr ?hp (fun _ hk => hk) trivial (Below.refl _ _) (Nat.le_refl _) (by simp) ?_; (case hd => rfl); (case hg => rfl); (case hr => first | (go_simp; done) | (go_simp; rfl)); (case hp => exact (Reps.none _ _)); intro v650 w16 ho17 hb hg_ hnew_; clear hg_ hnew_; (first | rw [← Ny649.out] at ho17 | (simp only [Int.reduceToNat] at ho17; rw [← Ny649.out] at ho17)); have n0_ := Aside0.mk (Kd.R_elder' (by (with_reducible repeat (first | apply Kd.R_alloc | apply Kd.R_drewN | apply Kd.R_drew)); exact HO_10.out) (Kd.R_base ho17) hb); have n1_ := Aside0.mk (Kd.R_lower (Kd.R_new' ho17 (Kd.R_lt (by (with_reducible repeat (first | apply Kd.R_alloc | apply Kd.R_drewN | apply Kd.R_drew)); exact HO_10.out))) (below_size (by repeat (first | (with_reducible first | exact HB.out | apply below_alloc | apply pw_below_drewN | apply below_drew1) | exact HB.out)))); have n2_ := Aside0.mk (below_step (by repeat (first | (with_reducible first | exact HB.out | apply below_alloc | apply pw_below_drewN | apply below_drew1) | exact HB.out)) hb); clear HO_10; clear HB; have HO_10 := n0_; have HO651 := n1_; have HB := n2_; clear n0_ n1_ n2_; clear hb ho17))
                go_ret3
                exact ⟨_, by first | rfl | (simp [errW_none, errW_some] <;> rfl) | (simp [*, errW_none, errW_some] <;> rfl), by (with_reducible repeat (first | apply Kd.R_alloc | apply Kd.R_drewN | apply Kd.R_drew)); exact Kd.R_mono HO651.out (fun _ hk => trivial), by repeat (first | (with_reducible first | exact HB.out | apply below_alloc | apply pw_below_drewN | apply below_drew1) | exact HB.out)⟩
            · rw [if_neg c11] at H
              have c11b0 : decide (x11_2 < t634) = false := decide_eq_false c11
              clear c11
              simp only [Option.some.injEq, Prod.mk.injEq] at H
              obtain ⟨rfl, rfl, rfl⟩ := H
              go_wp2
              go_ret3
              exact ⟨_, by first | rfl | (simp [errW_none, errW_some] <;> rfl) | (simp [*, errW_none, errW_some] <;> rfl), by (with_reducible repeat (first | apply Kd.R_alloc | apply Kd.R_drewN | apply Kd.R_drew)); exact HO_10.out, by repeat (first | (with_reducible first | exact HB.out | apply below_alloc | apply pw_below_drewN | apply below_drew1) | exact HB.out)⟩

end Go.Proofs.Ytmkhhnfmahdijaa.X

namespace Go.Proofs.Ytmkhhnfmahdijaa.X
open Go.RowKit Go.Proofs.YtmkhhnfmahdijaaW.PrintWords Go.Proofs.YtmkhhnfmahdijaaW.PrintLast Go.Proofs.YtmkhhnfmahdijaaW.PrintMore
attribute [local go_sem] max2_int min2_int max_two min_two max_three min_three max_four min_four   -- for this text's walks alone
set_option linter.unusedVariables false
set_option linter.unusedSimpArgs false

/-! ### impl_GetTexts: function 61 -/
mutual
def impl_GetTexts.j0 : Nat → List Int → Int → Int → Bool → Option (List ByteArray × Int × Bool)
  | 0, _, _, _, _ => none
  | k + 1, x0, x7, x8, x26 => if x26 = true then (some (([] : List ByteArray), 0, false)) else (impl_GetTexts.l0 k x0 x8 ([] : List ByteArray) x7 0)
def impl_GetTexts.l0 : Nat → List Int → Int → List ByteArray → Int → Int → Option (List ByteArray × Int × Bool)
  | 0, _, _, _, _, _ => none
  | k + 1, x0, x8, x10, x27, x28 => if x28 < x27 then ((impl_GetText.f k x0 x8).bind fun bt598 => (if bt598.2.2 = true then (if x10.length < 8796093022208 then (impl_GetTexts.l0 k x0 bt598.2.1 (x10 ++ [bt598.1]) x27 (wrap64 (x28 + 1))) else (none)) else (some (([] : List ByteArray), 0, false)))) else (some (x10, x8, true))
end
def impl_GetTexts.f (k : Nat) (l0 : List Int) (a1 : Int) : Option (List ByteArray × Int × Bool) := (impl_GetNum.f k l0 a1).bind fun bt595 => (if bt595.2.2 = true then (impl_GetTexts.j0 k l0 bt595.1 bt595.2.1 (decide (bt595.1 > 200))) else (impl_GetTexts.j0 k l0 bt595.1 bt595.2.1 true))
theorem impl_GetTexts.mono_l : ∀ k, (∀ y0 y1 y2 y3, LeO (impl_GetTexts.j0 k y0 y1 y2 y3) (impl_GetTexts.j0 (k + 1) y0 y1 y2 y3)) ∧ (∀ y0 y1 y2 y3 y4, LeO (impl_GetTexts.l0 k y0 y1 y2 y3 y4) (impl_GetTexts.l0 (k + 1) y0 y1 y2 y3 y4))
  | 0 => ⟨fun _ _ _ _ r h => by simp [impl_GetTexts.j0] at h, fun _ _ _ _ _ r h => by simp [impl_GetTexts.l0] at h⟩
  | k + 1 => by
    obtain ⟨ih0, ih1⟩ := impl_GetTexts.mono_l k
    refine ⟨?_, ?_⟩
    · intro y0 y1 y2 y3
      unfold impl_GetTexts.j0
      repeat' first
      | (with_reducible exact ih0 _ _ _ _)
      | (with_reducible exact ih1 _ _ _ _ _)
      | (with_reducible exact impl_GetNum.mono _ _ _)
      | (with_reducible exact impl_GetText.mono _ _ _)
      | (with_reducible exact LeO.refl _)
      | (with_reducible exact LeO.none _)
      | (with_reducible refine LeO.ite ?_ ?_)
      | (with_reducible refine LeO.bind ?_ (fun _ => ?_))
      | exact ih0 _ _ _ _
      | exact ih1 _ _ _ _ _
      | exact impl_GetNum.mono _ _ _
      | exact impl_GetText.mono _ _ _
      | exact LeO.none _
      | refine LeO.ite ?_ ?_
      | refine LeO.bind ?_ (fun _ => ?_)
    · intro y0 y1 y2 y3 y4
      unfold impl_GetTexts.l0
      repeat' first
      | (with_reducible exact ih0 _ _ _ _)
      | (with_reducible exact ih1 _ _ _ _ _)
      | (with_reducible exact impl_GetNum.mono _ _ _)
      | (with_reducible exact impl_GetText.mono _ _ _)
      | (with_reducible exact LeO.refl _)
      | (with_reducible exact LeO.none _)
      | (with_reducible refine LeO.ite ?_ ?_)
      | (with_reducible refine LeO.bind ?_ (fun _ => ?_))
      | exact ih0 _ _ _ _
      | exact ih1 _ _ _ _ _
      | exact impl_GetNum.mono _ _ _
      | exact impl_GetText.mono _ _ _
      | exact LeO.none _
      | refine LeO.ite ?_ ?_
      | refine LeO.bind ?_ (fun _ => ?_)
theorem impl_GetTexts.mono : ∀ a0 a1 k, LeO (impl_GetTexts.f k a0 a1) (impl_GetTexts.f (k + 1) a0 a1) := by
  intro a0 a1 k
  obtain ⟨ih0, ih1⟩ := impl_GetTexts.mono_l k
  unfold impl_GetTexts.f
  repeat' first
      | (with_reducible exact ih0 _ _ _ _)
      | (with_reducible exact ih1 _ _ _ _ _)
      | (with_reducible exact impl_GetNum.mono _ _ _)
      | (with_reducible exact impl_GetText.mono _ _ _)
      | (with_reducible exact LeO.refl _)
      | (with_reducible exact LeO.none _)
      | (with_reducible refine LeO.ite ?_ ?_)
      | (with_reducible refine LeO.bind ?_ (fun _ => ?_))
      | exact ih0 _ _ _ _
      | exact ih1 _ _ _ _ _
      | exact impl_GetNum.mono _ _ _
      | exact impl_GetText.mono _ _ _
      | exact LeO.none _
      | refine LeO.ite ?_ ?_
      | refine LeO.bind ?_ (fun _ => ?_)
set_option maxHeartbeats 8000000 in
set_option maxRecDepth 100000 in
theorem impl_GetTexts.calls (k : Nat) (A0 : Option Addr) (c0 : Nat) (l0 : List Int) (a1 : Int) (r1 : List ByteArray) (r2 : Int) (r3 : Bool) (w : World) (hr0 : Kd.C (Kd.int .u8) w A0 l0.length l0) (hc0 : l0.length ≤ c0) (h : impl_GetTexts.f k l0 a1 = some (r1, r2, r3)) :
    Calls Try.prog 61 #[.slice A0 l0.length c0, .int .i64 a1] w fun e w' => ∃ v0_ : Value, e = .returned (.tuple #[v0_, .int .i64 r2, .bool r3]) ∧ Kd.R Kd.string 9 w' w.heap.size (fun _ => True) v0_ r1 ∧ Below w.heap.size w w' := by
  have HR0 := Aside0.mk hr0
  have HC0 := Aside0.mk hc0
  clear hr0 hc0
  have HB := Aside0.mk (Below.refl w.heap.size w)
  have H : ((impl_GetNum.f k l0 a1).bind fun bt595 => (if bt595.2.2 = true then (impl_GetTexts.j0 k l0 bt595.1 bt595.2.1 (decide (bt595.1 > 200))) else (impl_GetTexts.j0 k l0 bt595.1 bt595.2.1 true))) = some (r1, r2, r3) := h
  clear h
  replace H := Option.bind_eq_some_iff.mp H
  obtain ⟨⟨t595, t596, t597⟩, A30, H⟩ := H
  replace H : (if t597 = true then (impl_GetTexts.j0 k l0 t595 t596 (decide (t595 > 200))) else (impl_GetTexts.j0 k l0 t595 t596 true)) = some (r1, r2, r3) := H
  have A3 := Aside0.mk A30
  clear A30
  have HC4 := Aside0.mk H
  clear H
  go_enter Try.func61, Try.ntmps61
  go_upto_region 2 with (first | ((with_reducible refine gate_callee (f := 34) rfl ?_); refine goesL_ (some 17) rfl rfl Try.func34 (by kernel_rfl) rfl #[.slice A0 l0.length c0, .int .i64 a1] rfl (by (try simp only [List.map_toArray, List.map_cons, List.map_nil]); first | done | rfl | (simp only [List.length_drop, List.length_take]; rfl)) ?_; (with_reducible refine (impl_GetNum.calls k _ _ l0 a1 t595 t596 t597 _ ?side1 ?side2 A3.out).mono ?_); (case side1 => repeat (first | exact HR0.out | (with_reducible refine Kd.C_alloc ?_ _) | (with_reducible refine Kd.C_drewN ?_ _) | (with_reducible refine Kd.C_drew ?_))); (case side2 => exact HC0.out); rintro e w' ⟨rfl, ⟨nd, rfl⟩⟩; refine ⟨_, rfl, ?_⟩))
  (try simp only [Act.put, List.setIfInBounds_toArray, List.set_cons_zero, List.set_cons_succ])
  go_cut [26] (fun v26 wc => ∃ (kq : Nat) (x26_3 : Bool), v26 = .bool x26_3 ∧ Aside0 (impl_GetTexts.j0 kq l0 t595 t596 x26_3 = some (r1, r2, r3)) ∧ Aside0 (kq ≤ k) ∧ Aside0 (Below w.heap.size w wc))
  case first =>
    have H := HC4.out
    clear HC4
    by_cases c5 : t597 = true
    · subst c5
      have H1 : (impl_GetTexts.j0 k l0 t595 t596 (decide (t595 > 200))) = some (r1, r2, r3) := by rw [if_pos rfl] at H; exact H
      clear H
      have H := H1
      clear H1
      have H' := Aside0.mk H
      clear H
      go_wp2
      go_meet
      case rel => exact ⟨_, (decide (t595 > 200)), (by first | rfl | (simp; done) | (simp [*]; done)), H', ⟨by first | omega | exact Nat.le_refl _⟩, ⟨by repeat (first | (with_reducible first | exact HB.out | apply below_alloc | apply pw_below_drewN | apply below_drew1) | exact HB.out)⟩⟩
    · replace c5 := Bool.eq_false_iff.mpr c5
      subst c5
      have H1 : (impl_GetTexts.j0 k l0 t595 t596 true) = some (r1, r2, r3) := by rw [if_neg (show ¬ (false = true) by decide)] at H; exact H
      clear H
      have H := H1
      clear H1
      have H' := Aside0.mk H
      clear H
      go_wp2
      go_meet
      case rel => exact ⟨_, (true), (by first | rfl | (simp; done) | (simp [*]; done)), H', ⟨by first | omega | exact Nat.le_refl _⟩, ⟨by repeat (first | (with_reducible first | exact HB.out | apply below_alloc | apply pw_below_drewN | apply below_drew1) | exact HB.out)⟩⟩
  case rest =>
    clear HC4
    try clear p2
    try clear c3
    try clear c5
    obtain ⟨kq, x26_3, rfl, HA, HJ3, HB⟩ := hcut
    cases kq with
    | zero => exact absurd HA.out (by simp [impl_GetTexts.j0])
    | succ kj3 =>
      have H := HA.out
      clear HA
      simp only [impl_GetTexts.j0] at H
      by_cases c6 : x26_3 = true
      · subst c6
        have H1 : (some (([] : List ByteArray), 0, false)) = some (r1, r2, r3) := by rw [if_pos rfl] at H; exact H
        clear H
        have H := H1
        clear H1
        simp only [Option.some.injEq, Prod.mk.injEq] at H
        obtain ⟨rfl, rfl, rfl⟩ := H
        go_wp2
        go_ret3
        exact ⟨_, by first | rfl | (simp [errW_none, errW_some] <;> rfl) | (simp [*, errW_none, errW_some] <;> rfl), by first | exact Kd.R_nil _ _ _ _ _ | exact Kd.N_nil _ _ _ _ _ | exact Kd.V_nil _ _ _ _ _ | exact Kd.Q_nil _ _ _ _ _ | exact Kd.S_nil _ _ _ _ _, by repeat (first | (with_reducible first | exact HB.out | apply below_alloc | apply pw_below_drewN | apply below_drew1) | exact HB.out)⟩
      · replace c6 := Bool.eq_false_iff.mpr c6
        subst c6
        have H1 : (impl_GetTexts.l0 kj3 l0 t596 ([] : List ByteArray) t595 0) = some (r1, r2, r3) := by rw [if_neg (show ¬ (false = true) by decide)] at H; exact H
        clear H
        have H := H1
        clear H1
        have H' := Aside0.mk H
        clear H
        go_wp2
        go_loopg [8, 10, 28] kj3 (fun kq v8 v10 v28 w' => ∃ (x8_2 : Int) (x10_2 : List ByteArray) (x28_2 : Int), v8 = .int .i64 x8_2 ∧ v28 = .int .i64 x28_2 ∧ Aside0 (impl_GetTexts.l0 kq l0 x8_2 x10_2 t595 x28_2 = some (r1, r2, r3)) ∧ Aside0 (kq ≤ kj3) ∧ Aside0 (Kd.R Kd.string 9 w' w.heap.size (fun _ => True) v10 x10_2) ∧ Aside0 (Below w.heap.size w w'))
        case atStart => exact ⟨(t596), (([] : List ByteArray)), (0), (by first | rfl | (simp; done) | (simp [*]; done)), (by first | rfl | (simp; done) | (simp [*]; done)), H', ⟨Nat.le_refl _⟩, ⟨by first | exact Kd.R_nil _ _ _ _ _ | exact Kd.N_nil _ _ _ _ _ | exact Kd.V_nil _ _ _ _ _ | exact Kd.Q_nil _ _ _ _ _ | exact Kd.S_nil _ _ _ _ _⟩, ⟨by repeat (first | (with_reducible first | exact HB.out | apply below_alloc | apply pw_below_drewN | apply below_drew1) | exact HB.out)⟩⟩
        case round =>
          clear H'
          try clear p2
          try clear c3
          try clear c5
          try clear c6
          try clear p2
          obtain ⟨x8_2, x10_2, x28_2, rfl, rfl, HA, HK2, HO_10, HB⟩ := hrel
          cases gk with
          | zero => exact absurd HA.out (by simp [impl_GetTexts.l0])
          | succ k2 =>
            have H := HA.out
            clear HA
            simp only [impl_GetTexts.l0] at H
            by_cases c7 : x28_2 < t595
            · rw [if_pos c7] at H
              have c7b0 : decide (x28_2 < t595) = true := decide_eq_true c7
              clear c7
              replace H := Option.bind_eq_some_iff.mp H
              obtain ⟨⟨t598, t599, t600⟩, A80, H⟩ := H
              replace H : (if t600 = true then (if x10_2.length < 8796093022208 then (impl_GetTexts.l0 k2 l0 t599 (x10_2 ++ [t598]) t595 (wrap64 (x28_2 + 1))) else (none)) else (some (([] : List ByteArray), 0, false))) = some (r1, r2, r3) := H
              have A8 := Aside0.mk A80
              clear A80
              by_cases c9 : t600 = true
              · subst c9
                have H1 : (if x10_2.length < 8796093022208 then (impl_GetTexts.l0 k2 l0 t599 (x10_2 ++ [t598]) t595 (wrap64 (x28_2 + 1))) else (none)) = some (r1, r2, r3) := by rw [if_pos rfl] at H; exact H
                clear H
                have H := H1
                clear H1
                by_cases c10 : x10_2.length < 8796093022208
                · rw [if_pos c10] at H
                  have LMc10 := Aside0.mk c10
                  clear c10
                  obtain ⟨y601, hy601⟩ : ∃ y_ : List ByteArray, y_ = (x10_2 ++ [t598]) := ⟨_, rfl⟩
                  replace H : (impl_GetTexts.l0 k2 l0 t599 y601 t595 (wrap64 (x28_2 + 1))) = some (r1, r2, r3) := by first | (rw [hy601]; with_reducible exact H) | (have H2_ := (Option.bind_some _ _).symm.trans H; rw [hy601]; with_reducible exact H2_) | (have H2_ := (Option.bind_some _ _).symm.trans H; with_reducible exact H2_) | with_reducible exact H | (rw [hy601]; exact H) | exact H
                  have Ny601 := Aside0.mk hy601
                  clear hy601
                  have H' := Aside0.mk H
                  clear H
                  go_wp2_with (first | ((with_reducible refine gate_callee (f := 41) rfl ?_); refine goesL_ (some 33) rfl rfl Try.func41 (by kernel_rfl) rfl #[.slice A0 l0.length c0, .int .i64 x8_2] rfl (by (try simp only [List.map_toArray, List.map_cons, List.map_nil]); first | done | rfl | (simp only [List.length_drop, List.length_take]; rfl)) ?_; (with_reducible refine (impl_GetText.calls k2 _ _ l0 x8_2 t598 t599 true _ ?side1 ?side2 A8.out).mono ?_); (case side1 => repeat (first | exact (Kd.C_below HR0.out HB.out) | (with_reducible refine Kd.C_alloc ?_ _) | (with_reducible refine Kd.C_drewN ?_ _) | (with_reducible refine Kd.C_drew ?_))); (case side2 => exact HC0.out); rintro e w' ⟨rfl, ⟨nd, rfl⟩⟩; refine ⟨_, rfl, ?_⟩) | ((with_reducible refine gate_builtin (b := .append) (xs := #[.tmp 39, .tmp 41]) rfl ?_); at_builtin; refine Kd.R_append Kd.string (w0 := w) w.heap.size rfl (.tmp 39) (.tmp 41) 44 9 (.string ⟨#[]⟩) 16 rfl Try.underlying44 info9 rfl (by decide) (by omega) u10 x10_2 t598 [.string t598] (fun _ => True) (fun _ => False) rfl rfl ?aP (fun _ hk => hk.elim) ?aF ?aO ?aB ?aS ?aL ?_; (case aP => exact rfl); (case aB => exact (by repeat (first | (with_reducible first | exact HB.out | apply below_alloc | apply pw_below_drewN | apply below_drew1) | exact HB.out))); (case aF => exact (fun _ _ => trivial)); (case aO => exact (by (with_reducible repeat (first | apply Kd.R_alloc | apply Kd.R_drewN | apply Kd.R_drew)); exact HO_10.out)); (case aS => exact (below_size (by repeat (first | (with_reducible first | exact HB.out | apply below_alloc | apply pw_below_drewN | apply below_drew1) | exact HB.out)))); (case aL => have := LMc10.out; omega); intro v602 w11 ho hb hg hat; rw [← Ny601.out] at ho; have n0_ := Aside0.mk (hb); have n1_ := Aside0.mk (ho); clear HB; clear HO_10; have HB := n0_; have HO603 := n1_; clear n0_ n1_; clear ho hb hg hat))
                  go_roundg k2
                  case measure => have := HJ3.out; have := HK2.out; omega
                  case rel => exact ⟨(t599), (y601), (wrap64 (x28_2 + 1)), (by first | rfl | (simp; done) | (simp [*]; done)), (by first | rfl | (simp; done) | (simp [*]; done)), H', ⟨by have := HJ3.out; have := HK2.out; omega⟩, ⟨by (with_reducible repeat (first | apply Kd.R_alloc | apply Kd.R_drewN | apply Kd.R_drew)); exact HO603.out⟩, ⟨by repeat (first | (with_reducible first | exact HB.out | apply below_alloc | apply pw_below_drewN | apply below_drew1) | exact HB.out)⟩⟩
                · rw [if_neg c10] at H
                  exact absurd H (by simp)
              · replace c9 := Bool.eq_false_iff.mpr c9
                subst c9
                have H1 : (some (([] : List ByteArray), 0, false)) = some (r1, r2, r3) := by rw [if_neg (show ¬ (false = true) by decide)] at H; exact H
                clear H
                have H := H1
                clear H1
                simp only [Option.some.injEq, Prod.mk.injEq] at H
                obtain ⟨rfl, rfl, rfl⟩ := H
                go_wp2_with (first | ((with_reducible refine gate_callee (f := 41) rfl ?_); refine goesL_ (some 33) rfl rfl Try.func41 (by kernel_rfl) rfl #[.slice A0 l0.length c0, .int .i64 x8_2] rfl (by (try simp only [List.map_toArray, List.map_cons, List.map_nil]); first | done | rfl | (simp only [List.length_drop, List.length_take]; rfl)) ?_; (with_reducible refine (impl_GetText.calls k2 _ _ l0 x8_2 t598 t599 false _ ?side1 ?side2 A8.out).mono ?_); (case side1 => repeat (first | exact (Kd.C_below HR0.out HB.out) | (with_reducible refine Kd.C_alloc ?_ _) | (with_reducible refine Kd.C_drewN ?_ _) | (with_reducible refine Kd.C_drew ?_))); (case side2 => exact HC0.out); rintro e w' ⟨rfl, ⟨nd, rfl⟩⟩; refine ⟨_, rfl, ?_⟩))
                go_ret3
                exact ⟨_, by first | rfl | (simp [errW_none, errW_some] <;> rfl) | (simp [*, errW_none, errW_some] <;> rfl), by first | exact Kd.R_nil _ _ _ _ _ | exact Kd.N_nil _ _ _ _ _ | exact Kd.V_nil _ _ _ _ _ | exact Kd.Q_nil _ _ _ _ _ | exact Kd.S_nil _ _ _ _ _, by repeat (first | (with_reducible first | exact HB.out | apply below_alloc | apply pw_below_drewN | apply below_drew1) | exact HB.out)⟩
            · rw [if_neg c7] at H
              have c7b0 : decide (x28_2 < t595) = false := decide_eq_false c7
              clear c7
              simp only [Option.some.injEq, Prod.mk.injEq] at H
              obtain ⟨rfl, rfl, rfl⟩ := H
              go_wp2
              go_ret3
              exact ⟨_, by first | rfl | (simp [errW_none, errW_some] <;> rfl) | (simp [*, errW_none, errW_some] <;> rfl), by (with_reducible repeat (first | apply Kd.R_alloc | apply Kd.R_drewN | apply Kd.R_drew)); exact HO_10.out, by repeat (first | (with_reducible first | exact HB.out | apply below_alloc | apply pw_below_drewN | apply below_drew1) | exact HB.out)⟩

end Go.Proofs.Ytmkhhnfmahdijaa.X

/- What GetTexts computes, the program's and the reference's: the same. No Go, no memory. -/
set_option linter.unusedVariables false
namespace Go.Proofs.Ytmkhhnfmahdijaa.Z
open Go.RowKit Go.Proofs.YtmkhhnfmahdijaaW.PrintWords Go.Proofs.YtmkhhnfmahdijaaW.PrintMore Go.Proofs.Ytmkhhnfmahdijaa.X

theorem gts_both (b : List Int) (hb : ∀ x ∈ b, (Lit.int .u8 x).wf = true) (hl : b.length ≤ 140737488355328) (n : Nat) (hn : n ≤ 200) (d : Nat) : ∀ (i : Nat) (p : Int) (acc : List ByteArray), i + d = n → acc.length = i → -9223372036854775808 ≤ p →
    ∃ r, Ev (fun k => spec_GetTexts.l0 k b (n : Int) p acc (i : Int)) r ∧ Ev (fun k => impl_GetTexts.l0 k b p acc (n : Int) (i : Int)) r ∧ r.1.length ≤ 200 := by
  induction d with
  | zero =>
    intro i p acc hi ha hp
    exact ⟨(acc, p, true), evS (fun k => by rw [spec_GetTexts.l0]) (evF (by omega) (evR rfl)), evS (fun k => by rw [impl_GetTexts.l0]) (evF (by omega) (evR rfl)), by show acc.length ≤ 200; omega⟩
  | succ d ih =>
    intro i p acc hi ha hp
    obtain ⟨t, e1, e2, g⟩ := getText_both b hb hl p
    by_cases ht : t.2.2 = true
    · have hp2 : -9223372036854775808 ≤ t.2.1 := by
        rcases g with g | ⟨_, g, _⟩
        · rw [g] at ht
          cases ht
        · omega
      obtain ⟨r, e3, e4, h⟩ := ih (i + 1) t.2.1 (acc ++ [t.1]) (by omega) (by simp; omega) hp2
      refine ⟨r, ?_, ?_, h⟩
      · refine evS (fun k => by rw [spec_GetTexts.l0]) (evT (by omega) (evB e1 ?_))
        refine evT ht (evT (by omega) ?_)
        rw [w64s (show i < n by omega) (by omega)]
        exact e3
      · refine evS (fun k => by rw [impl_GetTexts.l0]) (evT (by omega) (evB e2 ?_))
        refine evT ht (evT (by omega) ?_)
        rw [w64s (show i < n by omega) (by omega)]
        exact e4
    · exact ⟨(([] : List ByteArray), 0, false), evS (fun k => by rw [spec_GetTexts.l0]) (evT (by omega) (evB e1 (evF ht (evR rfl)))), evS (fun k => by rw [impl_GetTexts.l0]) (evT (by omega) (evB e2 (evF ht (evR rfl)))), by show 0 ≤ 200; omega⟩
theorem getTexts_both (b : List Int) (hb : ∀ x ∈ b, (Lit.int .u8 x).wf = true) (hl : b.length ≤ 140737488355328) (a : Int) :
    ∃ r, Ev (fun k => spec_GetTexts.f k b a) r ∧ Ev (fun k => impl_GetTexts.f k b a) r ∧ r.1.length ≤ 200 := by
  obtain ⟨t, e1, e2, g⟩ := getNum_both b hb hl a
  have hS : ∀ n p, Ev (fun k => spec_GetTexts.j0 k b n p true) (([] : List ByteArray), (0 : Int), false) := fun n p => evS (fun k => by rw [spec_GetTexts.j0]) (evT rfl (evR rfl))
  have hI : ∀ n p, Ev (fun k => impl_GetTexts.j0 k b n p true) (([] : List ByteArray), (0 : Int), false) := fun n p => evS (fun k => by rw [impl_GetTexts.j0]) (evT rfl (evR rfl))
  by_cases ht : t.2.2 = true
  · have g' : 0 ≤ t.1 ∧ a < t.2.1 ∧ 0 ≤ a := by
      rcases g with rfl | ⟨_, g1, _, g2, _, g3⟩
      · cases ht
      · exact ⟨g1, g2, g3⟩
    by_cases hn : t.1 > 200
    · refine ⟨(([] : List ByteArray), 0, false), ?_, ?_, by show 0 ≤ 200; omega⟩
      · unfold spec_GetTexts.f
        refine evB e1 (evT ht ?_)
        rw [decide_eq_true hn]
        exact hS _ _
      · unfold impl_GetTexts.f
        refine evB e2 (evT ht ?_)
        rw [decide_eq_true hn]
        exact hI _ _
    · obtain ⟨n, hn'⟩ := Int.eq_ofNat_of_zero_le g'.1
      obtain ⟨r, e3, e4, h⟩ := gts_both b hb hl n (by omega) n 0 t.2.1 [] (by omega) rfl (by omega)
      have e3' : Ev (fun k => spec_GetTexts.l0 k b (n : Int) t.2.1 [] 0) r := e3
      have e4' : Ev (fun k => impl_GetTexts.l0 k b t.2.1 [] (n : Int) 0) r := e4
      refine ⟨r, ?_, ?_, h⟩
      · unfold spec_GetTexts.f
        refine evB e1 (evT ht ?_)
        rw [decide_eq_false hn, hn']
        exact evS (fun k => by rw [spec_GetTexts.j0]) (evF Bool.false_ne_true e3')
      · unfold impl_GetTexts.f
        refine evB e2 (evT ht ?_)
        rw [decide_eq_false hn, hn']
        exact evS (fun k => by rw [impl_GetTexts.j0]) (evF Bool.false_ne_true e4')
  · refine ⟨(([] : List ByteArray), 0, false), ?_, ?_, by show 0 ≤ 200; omega⟩
    · unfold spec_GetTexts.f
      exact evB e1 (evF ht (hS _ _))
    · unfold impl_GetTexts.f
      exact evB e2 (evF ht (hI _ _))
end Go.Proofs.Ytmkhhnfmahdijaa.Z

/- Numbers and texts come back of their bytes: the program's GetNum, GetText and GetTexts behind its PutNum, PutText and PutTexts. No Go, no memory. -/
set_option linter.unusedVariables false
namespace Go.Proofs.Ytmkhhnfmahdijaa.Z
open Go.RowKit Go.Proofs.YtmkhhnfmahdijaaW.PrintWords Go.Proofs.YtmkhhnfmahdijaaW.PrintMore Go.Proofs.Ytmkhhnfmahdijaa.X

theorem rd_app (p q : List Int) (c : Int) : rd (p ++ c :: q) (p.length : Int) = c := by simp [rd]
theorem implGet_on {B : List Int} {p i : Nat} {m c : Int} {r : Int × Int × Bool} (hB : B.length ≤ 140737488355328) (hp : p < B.length) (hc : rd B (p : Int) = c) (h127 : 127 < c) (hc2 : c ≤ 255) (hi : i < 5) (hm : 0 ≤ m ∧ m < 2 ^ (7 * i))
    (h : Ev (fun k => impl_GetNum.l0 k B ((p + 1 : Nat) : Int) (m + c % 128 * 2 ^ (7 * i)) ((i + 1 : Nat) : Int)) r) : Ev (fun k => impl_GetNum.l0 k B (p : Int) m (i : Int)) r := by
  have hv := gn_step (c := c) (i := i) hi (by omega) hm
  have hu := u64_ok (i := i) hi
  have hwc : wrap64 c = c := w64 (by omega)
  refine evS (fun k => by rw [impl_GetNum.l0]) (evT (by omega) ?_)
  rw [decide_eq_true (by omega)]
  refine evS (fun k => by rw [impl_GetNum.j1]) (evT rfl (evT (by omega) (evT (by omega) (evT hu ?_))))
  rw [hc, hv, hwc, w64s (show i < 6 by omega) (by omega), w64s (show p < B.length by omega) (by omega)]
  exact evF (by omega) h
theorem implGet_end {B : List Int} {p i : Nat} {m c : Int} (hB : B.length ≤ 140737488355328) (hp : p < B.length) (hc : rd B (p : Int) = c) (h127 : c ≤ 127) (hc2 : 0 ≤ c) (hi : i < 5) (hm : 0 ≤ m ∧ m < 2 ^ (7 * i))
    (h0 : c = 0 → i = 0) (hN : m + c * 2 ^ (7 * i) ≤ 1000000000) : Ev (fun k => impl_GetNum.l0 k B (p : Int) m (i : Int)) (m + c * 2 ^ (7 * i), ((p + 1 : Nat) : Int), true) := by
  have hv := gn_step (c := c) (i := i) hi (by omega) hm
  rw [show c % 128 = c by omega] at hv
  have hu := u64_ok (i := i) hi
  have hwc : wrap64 c = c := w64 (by omega)
  refine evS (fun k => by rw [impl_GetNum.l0]) (evT (by omega) ?_)
  rw [decide_eq_true (by omega)]
  refine evS (fun k => by rw [impl_GetNum.j1]) (evT rfl (evT (by omega) (evT (by omega) (evT hu ?_))))
  rw [hc, hv, hwc, w64s (show p < B.length by omega) (by omega)]
  generalize m + c * 2 ^ (7 * i) = N at hN ⊢
  refine evT (by omega) (evI (fun h3 => ?_) (fun h3 => ?_))
  · have := h0 h3
    exact evF (by omega) (evF (by omega) (evR rfl))
  · exact evF (by omega) (evR rfl)
theorem implGet_enc (d : Nat) : ∀ (i n : Nat) (m : Int) (pre post : List Int), d + i ≤ 4 → n < 128 ^ (d + 1) → (n = 0 → i = 0) → 0 ≤ m ∧ m < 2 ^ (7 * i) → m + (n : Int) * 2 ^ (7 * i) ≤ 1000000000 →
    (pre ++ encN d n ++ post).length ≤ 140737488355328 →
    Ev (fun k => impl_GetNum.l0 k (pre ++ encN d n ++ post) (pre.length : Int) m (i : Int)) (m + (n : Int) * 2 ^ (7 * i), ((pre.length + (encN d n).length : Nat) : Int), true) := by
  induction d with
  | zero =>
    intro i n m pre post hd hn h0 hm hN hl
    have he : encN 0 n = [(n : Int)] := by simp [encN]; simp at hn; omega
    rw [he] at hl ⊢
    simp only [List.append_assoc, List.singleton_append] at hl ⊢
    have := implGet_end (B := pre ++ (n : Int) :: post) (p := pre.length) (i := i) (m := m) (c := (n : Int)) hl (by simp) (rd_app _ _ _) (by simp at hn; omega) (by omega) (by omega) hm (by omega) hN
    simpa using this
  | succ d ih =>
    intro i n m pre post hd hn h0 hm hN hl
    by_cases h : n > 127
    · have he : encN (d + 1) n = ((n % 128 + 128 : Nat) : Int) :: encN d (n / 128) := by rw [encN, if_pos h]
      rw [he] at hl ⊢
      have hp : (2 : Int) ^ (7 * (i + 1)) = 128 * 2 ^ (7 * i) := by
        rw [show 7 * (i + 1) = 7 * i + 7 by omega, Int.pow_add]
        omega
      have hdm : (n : Int) = 128 * ((n / 128 : Nat) : Int) + ((n % 128 : Nat) : Int) := by omega
      have hval : m + ((n % 128 + 128 : Nat) : Int) % 128 * 2 ^ (7 * i) + ((n / 128 : Nat) : Int) * 2 ^ (7 * (i + 1)) = m + (n : Int) * 2 ^ (7 * i) := by
        have h9 : ((n / 128 : Nat) : Int) * (128 * 2 ^ (7 * i)) = 128 * (((n / 128 : Nat) : Int) * 2 ^ (7 * i)) := Int.mul_left_comm _ _ _
        rw [hp, show ((n % 128 + 128 : Nat) : Int) % 128 = ((n % 128 : Nat) : Int) by omega, hdm, Int.add_mul, Int.mul_assoc, h9]
        omega
      have h2 := ih (i + 1) (n / 128) (m + ((n % 128 + 128 : Nat) : Int) % 128 * 2 ^ (7 * i)) (pre ++ [((n % 128 + 128 : Nat) : Int)]) post (by omega) (by rw [Nat.div_lt_iff_lt_mul (by decide)]; rw [Nat.pow_succ] at hn; exact hn) (by omega) (pow_next (by omega) hm (by omega)) (by rw [hval]; exact hN) (by simpa using hl)
      rw [hval] at h2
      have h3 := implGet_on (B := pre ++ ((n % 128 + 128 : Nat) : Int) :: encN d (n / 128) ++ post) (p := pre.length) (i := i) (m := m) (c := ((n % 128 + 128 : Nat) : Int)) (r := (m + (n : Int) * 2 ^ (7 * i), ((pre.length + (((n % 128 + 128 : Nat) : Int) :: encN d (n / 128)).length : Nat) : Int), true)) hl (by simp) (by rw [List.append_assoc]; exact rd_app _ _ _) (by omega) (by omega) (by omega) hm (by
          refine evE ?_ (by simpa using h2)
          simp
          omega)
      exact h3
    · have he : encN (d + 1) n = [(n : Int)] := by rw [encN, if_neg h]; simp; omega
      rw [he] at hl ⊢
      simp only [List.append_assoc, List.singleton_append] at hl ⊢
      have := implGet_end (B := pre ++ (n : Int) :: post) (p := pre.length) (i := i) (m := m) (c := (n : Int)) hl (by simp) (rd_app _ _ _) (by omega) (by omega) (by omega) hm (by omega) hN
      simpa using this
theorem implGet_put (b : List Int) (n : Nat) (post : List Int) (hn : n ≤ 1000000000) (hl : (b ++ encN 4 n ++ post).length ≤ 140737488355328) :
    Ev (fun k => impl_GetNum.f k (b ++ encN 4 n ++ post) (b.length : Int)) ((n : Int), ((b.length + (encN 4 n).length : Nat) : Int), true) := by
  have hp := encN_pos 4 n
  have hlen : (b ++ encN 4 n ++ post).length = b.length + (encN 4 n).length + post.length := by simp; omega
  unfold impl_GetNum.f impl_inRange.f
  rw [w64 (x := ((b ++ encN 4 n ++ post).length : Int) - 1) (by omega)]
  refine evC (a := true) ?_ (evT rfl ?_)
  · rw [if_pos (by omega), decide_eq_true (by omega)]
  · have := implGet_enc 4 0 n 0 b post (by omega) (by omega) (by omega) (by decide) (by simp; omega) hl
    simpa using this

/-- All groups but the last one go on. -/
theorem encN_init (d : Nat) : ∀ n, ∀ x ∈ (encN d n).dropLast, 127 < x ∧ x ≤ 255 := by
  induction d with
  | zero => intro n x hx; simp [encN] at hx
  | succ d ih =>
    intro n x hx
    unfold encN at hx
    split at hx
    · have hne : encN d (n / 128) ≠ [] := by
        intro e
        have := encN_pos d (n / 128)
        rw [e] at this
        cases this
      rw [List.dropLast_cons_of_ne_nil hne] at hx
      rcases List.mem_cons.1 hx with rfl | hx
      · omega
      · exact ih _ x hx
    · simp at hx
theorem implGet_cut (d : Nat) : ∀ (i : Nat) (m : Int) (pre q : List Int), d + i = 5 → (∀ x ∈ q, 127 < x ∧ x ≤ 255) → 0 ≤ m ∧ m < 2 ^ (7 * i) → (pre ++ q).length ≤ 140737488355328 →
    Ev (fun k => impl_GetNum.l0 k (pre ++ q) (pre.length : Int) m (i : Int)) ((0 : Int), (0 : Int), false) := by
  induction d with
  | zero =>
    intro i m pre q hi hq hm hl
    exact evS (fun k => by rw [impl_GetNum.l0]) (evF (by omega) (evS (fun k => by rw [impl_GetNum.j1]) (evF (by simp) (evR rfl))))
  | succ d ih =>
    intro i m pre q hi hq hm hl
    cases q with
    | nil =>
      refine evS (fun k => by rw [impl_GetNum.l0]) (evT (by omega) ?_)
      rw [decide_eq_false (by simp)]
      exact evS (fun k => by rw [impl_GetNum.j1]) (evF (by simp) (evR rfl))
    | cons c q =>
      have hc := hq c (by simp)
      have h2 := ih (i + 1) (m + c % 128 * 2 ^ (7 * i)) (pre ++ [c]) q (by omega) (fun x hx => hq x (by simp [hx])) (pow_next (by omega) hm (by omega)) (by simpa using hl)
      exact implGet_on hl (by simp) (rd_app _ _ _) hc.1 hc.2 (by omega) hm (by simpa using h2)
theorem implGet_short (b : List Int) (n : Nat) (hn : n ≤ 1000000000) (hl : (b ++ encN 4 n).length ≤ 140737488355328) :
    ∃ r, Ev (fun k => impl_GetNum.f k (b ++ (encN 4 n).dropLast) (b.length : Int)) r ∧ r.2.2 = false := by
  refine ⟨((0 : Int), (0 : Int), false), ?_, rfl⟩
  have hl2 : (b ++ (encN 4 n).dropLast).length ≤ 140737488355328 := by
    rw [List.length_append, List.length_dropLast]
    rw [List.length_append] at hl
    omega
  unfold impl_GetNum.f impl_inRange.f
  rw [w64 (x := ((b ++ (encN 4 n).dropLast).length : Int) - 1) (by omega)]
  by_cases h : (b.length : Int) ≤ ((b ++ (encN 4 n).dropLast).length : Int) - 1
  · refine evC (a := true) ?_ (evT rfl ?_)
    · rw [if_pos (by omega), decide_eq_true h]
    · exact implGet_cut 5 0 0 b _ (by omega) (encN_init 4 n) (by decide) hl2
  · refine evC (a := false) ?_ (evF (by simp) (evR rfl))
    rw [if_pos (by omega), decide_eq_false h]

theorem str_bytes (s : ByteArray) : strOfNums (bytesOf s) = s := by
  cases s with
  | mk d =>
    have h : ((fun n : Int => UInt8.ofNat n.toNat) ∘ fun b : UInt8 => (b.toNat : Int)) = id := by
      funext b
      simp
    simp [strOfNums, bytesOf, h]
theorem implText_put (b : List Int) (s : ByteArray) (post : List Int) (hs : s.size ≤ 1000000000) (hl : (b ++ encT s ++ post).length ≤ 140737488355328) :
    Ev (fun k => impl_GetText.f k (b ++ encT s ++ post) (b.length : Int)) (s, ((b.length + (encT s).length : Nat) : Int), true) := by
  have hne : near (s.size : Int) = s.size := near_of hs
  have he : b ++ encT s ++ post = b ++ encN 4 s.size ++ (bytesOf s ++ post) := by rw [encT, hne]; simp
  have hlen : (encT s).length = (encN 4 s.size).length + s.size := by rw [encT, hne, List.length_append, bytesOf_length]
  rw [he] at hl ⊢
  have h1 := implGet_put b s.size (bytesOf s ++ post) hs hl
  have hlen2 : (b ++ encN 4 s.size ++ (bytesOf s ++ post)).length = b.length + (encN 4 s.size).length + s.size + post.length := by simp [bytesOf_length]; omega
  have hp := encN_pos 4 s.size
  have g : GetOk (b ++ encN 4 s.size ++ (bytesOf s ++ post)).length (b.length : Int) ((s.size : Int), ((b.length + (encN 4 s.size).length : Nat) : Int), true) :=
    .inr ⟨rfl, by show (0 : Int) ≤ (s.size : Int); omega, by show (s.size : Int) ≤ _; omega, by show (b.length : Int) < ((b.length + (encN 4 s.size).length : Nat) : Int); omega, by show ((b.length + (encN 4 s.size).length : Nat) : Int) ≤ _; omega, by omega⟩
  refine evE ?_ (implText_of hl h1 g)
  unfold textOf
  rw [if_pos rfl, if_neg (by show ¬ ((s.size : Int) > _ - ((b.length + (encN 4 s.size).length : Nat) : Int)); omega)]
  have hA : (b ++ encN 4 s.size).length = b.length + (encN 4 s.size).length := by simp
  have hcut : ((b ++ encN 4 s.size ++ (bytesOf s ++ post)).take ((((b.length + (encN 4 s.size).length : Nat) : Int) + (s.size : Int)).toNat)).drop ((b.length + (encN 4 s.size).length : Nat) : Int).toNat = bytesOf s := by
    rw [show (((b.length + (encN 4 s.size).length : Nat) : Int) + (s.size : Int)).toNat = (b ++ encN 4 s.size).length + s.size by omega, show ((b.length + (encN 4 s.size).length : Nat) : Int).toNat = (b ++ encN 4 s.size).length by omega]
    rw [List.take_length_add_append, List.drop_left, ← bytesOf_length s, List.take_left]
  show (strOfNums _, _, true) = _
  rw [hcut, str_bytes, hlen]
  congr 2
  show ((b.length + (encN 4 s.size).length : Nat) : Int) + (s.size : Int) = _
  omega

theorem implTexts_back (l : List ByteArray) (hn : l.length ≤ 200) (hs : ∀ s ∈ l, s.size ≤ 1000000000) (post : List Int) (d : Nat) : ∀ (i : Nat) (pre : List Int) (acc : List ByteArray), i + d = l.length → acc = l.take i →
    (pre ++ encL (l.drop i) ++ post).length ≤ 140737488355328 →
    Ev (fun k => impl_GetTexts.l0 k (pre ++ encL (l.drop i) ++ post) (pre.length : Int) acc (l.length : Int) (i : Int)) (l, ((pre.length + (encL (l.drop i)).length : Nat) : Int), true) := by
  induction d with
  | zero =>
    intro i pre acc hi ha hl
    refine evS (fun k => by rw [impl_GetTexts.l0]) (evF (by omega) (evR ?_))
    rw [ha, List.take_of_length_le (by omega), List.drop_eq_nil_of_le (by omega)]
    simp [encL]
  | succ d ih =>
    intro i pre acc hi ha hl
    have hd := drop_rd l i (by omega)
    have hg := rdOf_get (d := ByteArray.empty) (l := l) (i := i) (by omega)
    have hm := hs _ (List.mem_of_getElem? hg)
    rw [hd, encL_cons] at hl ⊢
    generalize hx : rdOf ByteArray.empty l (i : Int) = x at hl hm hg ⊢
    have e1 : pre ++ (encT x ++ encL (l.drop (i + 1))) ++ post = pre ++ encT x ++ (encL (l.drop (i + 1)) ++ post) := by simp
    have e2 : pre ++ (encT x ++ encL (l.drop (i + 1))) ++ post = (pre ++ encT x) ++ encL (l.drop (i + 1)) ++ post := by simp
    have hT := implText_put pre x (encL (l.drop (i + 1)) ++ post) hm (by rw [← e1]; exact hl)
    rw [← e1] at hT
    have h2 := ih (i + 1) (pre ++ encT x) (acc ++ [x]) (by omega) (by
      rw [ha, List.take_succ_eq_append_getElem (by omega)]
      rw [List.getElem?_eq_getElem (by omega)] at hg
      rw [Option.some.inj hg]) (by rw [← e2]; exact hl)
    rw [← e2] at h2
    refine evS (fun k => by rw [impl_GetTexts.l0]) (evT (by omega) (evB hT ?_))
    refine evT rfl ?_
    refine evT (by rw [ha, List.length_take]; omega) ?_
    rw [w64s (show i < l.length by omega) (by omega)]
    rw [show ((pre.length + (encT x).length : Nat) : Int) = ((pre ++ encT x).length : Int) by simp]
    refine evE ?_ h2
    congr 2
    simp
    omega
theorem implTexts_put (b : List Int) (l : List ByteArray) (hn : l.length ≤ 200) (hs : ∀ s ∈ l, s.size ≤ 1000000000) (post : List Int) (hl : (b ++ (encN 4 l.length ++ encL l) ++ post).length ≤ 140737488355328) :
    Ev (fun k => impl_GetTexts.f k (b ++ (encN 4 l.length ++ encL l) ++ post) (b.length : Int)) (l, ((b.length + (encN 4 l.length ++ encL l).length : Nat) : Int), true) := by
  have e1 : b ++ (encN 4 l.length ++ encL l) ++ post = b ++ encN 4 l.length ++ (encL l ++ post) := by simp
  have e2 : b ++ (encN 4 l.length ++ encL l) ++ post = (b ++ encN 4 l.length) ++ encL (l.drop 0) ++ post := by simp
  have h1 := implGet_put b l.length (encL l ++ post) (by omega) (by rw [← e1]; exact hl)
  rw [← e1] at h1
  have h2 := implTexts_back l hn hs post l.length 0 (b ++ encN 4 l.length) [] (by omega) (by simp) (by rw [← e2]; exact hl)
  rw [← e2] at h2
  unfold impl_GetTexts.f
  refine evB h1 (evT rfl ?_)
  rw [decide_eq_false (by show ¬ ((l.length : Int) > 200); omega)]
  refine evS (fun k => by rw [impl_GetTexts.j0]) (evF Bool.false_ne_true ?_)
  rw [show ((b.length + (encN 4 l.length).length : Nat) : Int) = ((b ++ encN 4 l.length).length : Int) by simp]
  refine evE ?_ h2
  congr 2
  simp
  omega
end Go.Proofs.Ytmkhhnfmahdijaa.Z

/- What the reference's draws give: always something, of small size. No Go, no memory. -/
set_option linter.unusedVariables false
namespace Go.Proofs.Ytmkhhnfmahdijaa.Z
open Go.RowKit Go.Proofs.YtmkhhnfmahdijaaW.PrintWords Go.Proofs.YtmkhhnfmahdijaaW.PrintMore Go.Proofs.Ytmkhhnfmahdijaa.X

theorem and255 (a : Int) : 0 ≤ Go.bits .and .i64 a 255 ∧ Go.bits .and .i64 a 255 ≤ 255 := by
  have h : ((BitVec.ofInt 64 a &&& BitVec.ofInt 64 255).toNat) ≤ 255 := by
    rw [BitVec.toNat_and]
    exact Nat.and_le_right
  have h2 : Go.bits .and .i64 a 255 = IntKind.i64.wrap (((BitVec.ofInt 64 a &&& BitVec.ofInt 64 255).toNat : Nat) : Int) := rfl
  rw [h2, wi64, w64 (by omega)]
  omega
/-- A place of the cursor over l. -/
def At (l : List Int) (i : Int) : Prop := 0 ≤ i ∧ i ≤ l.length
theorem byte_some (l : List Int) (hl : l.length ≤ 140737488355328) (i h : Int) (hi : At l i) : ∃ x i' h', spec_l1Byte.f l i h = some (x, i', h') ∧ 0 ≤ x ∧ x ≤ 255 ∧ At l i' := by
  unfold At at *
  unfold spec_l1Byte.f
  by_cases h1 : i < (l.length : Int)
  · rw [if_pos h1, if_pos hi.1, w64 (x := i + 1) (by omega)]
    exact ⟨_, _, _, rfl, (and255 _).1, (and255 _).2, by omega, by omega⟩
  · rw [if_neg h1]
    exact ⟨_, _, _, rfl, (and255 _).1, (and255 _).2, hi⟩
theorem below_some (l : List Int) (hl : l.length ≤ 140737488355328) (i h n : Int) (hi : At l i) (hn : n ≤ 1000000) : ∃ x i' h', spec_l1Below.f l i h n = some (x, i', h') ∧ 0 ≤ x ∧ (x < n ∨ x = 0) ∧ At l i' := by
  unfold spec_l1Below.f
  by_cases h0 : n ≤ 0
  · rw [if_pos h0]
    exact ⟨_, _, _, rfl, by omega, .inr rfl, hi⟩
  rw [if_neg h0]
  by_cases h1 : n ≤ 256
  · rw [if_pos h1]
    obtain ⟨x, i', h', e, hx0, hx1, hi'⟩ := byte_some l hl i h hi
    rw [e]
    simp only [Option.bind_some]
    rw [if_neg (by omega), Int.tmod_eq_emod_of_nonneg hx0]
    exact ⟨_, _, _, rfl, Int.emod_nonneg _ (by omega), .inl (Int.emod_lt_of_pos _ (by omega)), hi'⟩
  · rw [if_neg h1]
    obtain ⟨x, i1, h1', e1, hx0, hx1, hi1⟩ := byte_some l hl i h hi
    obtain ⟨y, i2, h2', e2, hy0, hy1, hi2⟩ := byte_some l hl i1 h1' hi1
    obtain ⟨z, i3, h3', e3, hz0, hz1, hi3⟩ := byte_some l hl i2 h2' hi2
    rw [e1]
    simp only [Option.bind_some]
    rw [e2]
    simp only [Option.bind_some]
    rw [e3]
    simp only [Option.bind_some]
    rw [if_neg (by omega), w64 (x := x * 65536) (by omega), w64 (x := y * 256) (by omega), w64 (x := x * 65536 + y * 256) (by omega), w64 (x := x * 65536 + y * 256 + z) (by omega), Int.tmod_eq_emod_of_nonneg (by omega)]
    exact ⟨_, _, _, rfl, Int.emod_nonneg _ (by omega), .inl (Int.emod_lt_of_pos _ (by omega)), hi3⟩
theorem int_some (l : List Int) (hl : l.length ≤ 140737488355328) (i h : Int) (m : List Int) (hi : At l i) (hm : 0 < m.length) (hm2 : m.length ≤ 1000) : ∃ x i' h', spec_l1Int.f l i h m = some (x, i', h') ∧ x ∈ m ∧ At l i' := by
  unfold spec_l1Int.f
  obtain ⟨x, i', h', e, hx0, hx1, hi'⟩ := below_some l hl i h (m.length : Int) hi (by omega)
  rw [e]
  simp only [Option.bind_some]
  rw [if_pos hx0, if_pos (by omega)]
  refine ⟨_, _, _, rfl, ?_, hi'⟩
  have := rd_get (l := m) (i := x.toNat) (by omega)
  rw [show ((x.toNat : Nat) : Int) = x by omega] at this
  exact List.mem_of_getElem? this
theorem bytes_l0 (l : List Int) (hl : l.length ≤ 140737488355328) (n : Nat) (hn : n ≤ 1000000) (d : Nat) : ∀ (j : Nat) (acc : List Int) (i h : Int), j + d = n → acc.length = j → (∀ x ∈ acc, 0 ≤ x ∧ x ≤ 255) → At l i →
    ∃ r i' h', Ev (fun k => spec_l1Bytes.l0 k (n : Int) acc (j : Int) l i h) (r, i', h') ∧ r.length = n ∧ (∀ x ∈ r, 0 ≤ x ∧ x ≤ 255) ∧ At l i' := by
  induction d with
  | zero =>
    intro j acc i h hj ha hb hi
    exact ⟨acc, i, h, evS (fun k => by rw [spec_l1Bytes.l0]) (evF (by omega) (evR rfl)), by omega, hb, hi⟩
  | succ d ih =>
    intro j acc i h hj ha hb hi
    obtain ⟨x, i1, h1, e, hx0, hx1, hi1⟩ := byte_some l hl i h hi
    obtain ⟨r, i', h', e2, h3, h4, h5⟩ := ih (j + 1) (acc ++ [x % 256]) i1 h1 (by omega) (by simp; omega) (by
      intro y hy
      rcases List.mem_append.1 hy with hy | hy
      · exact hb y hy
      · rw [List.mem_singleton.1 hy]
        omega) hi1
    refine ⟨r, i', h', ?_, h3, h4, h5⟩
    refine evS (fun k => by rw [spec_l1Bytes.l0]) (evT (by omega) (evC e ?_))
    refine evT (by omega) ?_
    rw [w64s (show j < n by omega) (by omega)]
    exact e2
theorem bytes_some (l : List Int) (hl : l.length ≤ 140737488355328) (n : Int) (h0 : 0 ≤ n) (hn : n ≤ 1000000) (i h : Int) (hi : At l i) :
    ∃ r i' h', Ev (fun k => spec_l1Bytes.f k l i h n) (r, i', h') ∧ (r.length : Int) = n ∧ (∀ x ∈ r, 0 ≤ x ∧ x ≤ 255) ∧ At l i' := by
  obtain ⟨m, rfl⟩ := Int.eq_ofNat_of_zero_le h0
  obtain ⟨r, i', h', e, h1, h2, h3⟩ := bytes_l0 l hl m (by omega) m 0 [] i h (by omega) rfl (by intro x hx; cases hx) hi
  exact ⟨r, i', h', e, by omega, h2, h3⟩
theorem some_some (l : List Int) (hl : l.length ≤ 140737488355328) (i h : Int) (hi : At l i) :
    ∃ r i' h', Ev (fun k => spec_l1Some.f k l i h) (r, i', h') ∧ r.length ≤ 9 ∧ (∀ x ∈ r, 0 ≤ x ∧ x ≤ 255) ∧ At l i' := by
  obtain ⟨n, i1, h1, e1, hn, hi1⟩ := int_some l hl i h [0, 1, 2, 5, 9] hi (by decide) (by decide)
  have hn' : 0 ≤ n ∧ n ≤ 9 := by simp at hn; omega
  obtain ⟨r, i', h', e2, h2, h3, h4⟩ := bytes_some l hl n hn'.1 (by omega) i1 h1 hi1
  refine ⟨r, i', h', ?_, by omega, h3, h4⟩
  unfold spec_l1Some.f
  exact evC e1 (evB e2 (evR rfl))
theorem new_l0 (l : List Int) (hl : l.length ≤ 140737488355328) (d : Nat) : ∀ (j : Nat) (h : Int), j + d = l.length → ∃ h', Ev (fun k => spec_l1New.l0 k l h (j : Int)) (l, 0, h') := by
  induction d with
  | zero =>
    intro j h hj
    exact ⟨h, evS (fun k => by rw [spec_l1New.l0]) (evF (by omega) (evR rfl))⟩
  | succ d ih =>
    intro j h hj
    by_cases h4 : (j : Int) < 4000
    · obtain ⟨h', e⟩ := ih (j + 1) (Go.bits .and .i64 (wrap64 ((wrap64 ((wrap64 (h * 137)) + (wrap64 (rd l (j : Int))))) + 11)) 1073741823) (by omega)
      refine ⟨h', evS (fun k => by rw [spec_l1New.l0]) (evT (by omega) (evT h4 (evT (by omega) ?_)))⟩
      rw [w64s (show j < l.length by omega) (by omega)]
      exact e
    · exact ⟨h, evS (fun k => by rw [spec_l1New.l0]) (evT (by omega) (evF h4 (evR rfl)))⟩
theorem new_some (l : List Int) (hl : l.length ≤ 140737488355328) : ∃ h', Ev (fun k => spec_l1New.f k l) (l, 0, h') := by
  obtain ⟨h', e⟩ := new_l0 l hl l.length 0 (wrap64 (372372 + (l.length : Int))) (by omega)
  exact ⟨h', e⟩
theorem strOf_size' (l : List Int) : (strOfNums l).size = l.length := by simp [strOfNums, ByteArray.size]
theorem at_zero (l : List Int) : At l 0 := ⟨by omega, by omega⟩
theorem u8_wf {x : Int} (h : 0 ≤ x ∧ x ≤ 255) : (Lit.int .u8 x).wf = true := by
  simp [Lit.wf, IntKind.min, IntKind.max, IntKind.signed, IntKind.bits]
  omega
end Go.Proofs.Ytmkhhnfmahdijaa.Z

/- The law FnNums, as a plain statement: a drawn number, or the nearest that is kept, comes back of its bytes; a text does, too. Conditions: those of the row's reading alone. -/
namespace Go.Proofs.Ytmkhhnfmahdijaa.Pure
open Go.RowKit Go.Proofs.Ytmkhhnfmahdijaa.X Go.Proofs.Ytmkhhnfmahdijaa.Z Go.Proofs.YtmkhhnfmahdijaaW.PrintWords Go.Proofs.YtmkhhnfmahdijaaW.PrintLast
theorem FnNums : laws_FnNums.Pure := by
  intro l0 h1 h2 h3
  refine Ev.rounds ?_
  unfold laws_FnNums.f
  refine evC (by unfold laws_big.f; rfl) (evI (fun _ => evR rfl) (fun hl => ?_))
  have hl' : l0.length ≤ 140737488355328 := by omega
  obtain ⟨h', e1⟩ := new_some l0 hl'
  obtain ⟨b, i2, h2', e2, b1, b2, a2⟩ := some_some l0 hl' 0 h' (at_zero _)
  obtain ⟨x, i3, h3', e3, x0, x1, a3⟩ := below_some l0 hl' i2 h2' 100000 a2 (by omega)
  obtain ⟨n, i4, h4', e4, n1, a4⟩ := int_some l0 hl' i3 h3' [0, 1, 127, 128, 16383, 16384, 1000000000, 1000000001, (-1), 9223372036854775807, x] a3 (by simp) (by simp)
  have hD : Ev (fun k => spec_DrawPutNum.f k l0) (b, n) := by
    unfold spec_DrawPutNum.f
    exact evB e1 (evB e2 (evC e3 (evC e4 (evR rfl))))
  obtain ⟨c, i5, h5', e5, c1, c2, a5⟩ := some_some l0 hl' 0 h' (at_zero _)
  obtain ⟨t, i6, h6', e6, t1, t2, a6⟩ := some_some l0 hl' i5 h5' a5
  have hD2 : Ev (fun k => spec_DrawPutText.f k l0) (c, strOfNums t) := by
    unfold spec_DrawPutText.f
    exact evB e1 (evB e5 (evB e6 (evR rfl)))
  have hts : (strOfNums t).size ≤ 9 := by rw [strOf_size']; exact t1
  have hne := near_le n
  have hlen := encN_length 4 (near n)
  have hpos := encN_pos 4 (near n)
  have hP := implPut_ev b n (by omega)
  have hG := implGet_put b (near n) [] hne (by simp; omega)
  rw [List.append_nil] at hG
  obtain ⟨r, hC, hr⟩ := implGet_short b (near n) hne (by simp; omega)
  have hT := implText_ev c (strOfNums t) (by omega)
  have hTl := encT_length (strOfNums t)
  have hGT := implText_put c (strOfNums t) [] (by omega) (by simp; omega)
  rw [List.append_nil] at hGT
  refine evB hD (evB hP (evB hG ?_))
  have hj1 : Ev (fun k => laws_FnNums.j1 k l0 b (near n : Int) (b ++ encN 4 (near n)) (near n : Int) ((b.length + (encN 4 (near n)).length : Nat) : Int) true) true := by
    refine evS (fun k => by rw [laws_FnNums.j1]) ?_
    have hw : wrap64 (((b ++ encN 4 (near n)).length : Int) - 1) = ((b.length + (encN 4 (near n)).length - 1 : Nat) : Int) := by
      rw [w64 (by simp; omega), List.length_append]
      omega
    rw [hw]
    refine evT (by omega) (evT (by rw [List.length_append]; omega) ?_)
    rw [show ((b.length + (encN 4 (near n)).length - 1 : Nat) : Int).toNat = b.length + ((encN 4 (near n)).length - 1) by omega, List.take_length_add_append, ← List.dropLast_eq_take]
    refine evB hC (evB hD2 (evB hT (evB hGT (evT rfl (evT rfl (evT ?_ (evF ?_ (evT rfl (evT rfl (evR ?_))))))))))
    · rw [List.length_append]
    · rw [hr]
      simp
    · simp
  have hj0 : ∀ m : Int, mx 0 m = (near n : Int) → Ev (fun k => laws_FnNums.j0 k l0 b m (b ++ encN 4 (near n)) (near n : Int) ((b.length + (encN 4 (near n)).length : Nat) : Int) true) true := by
    intro m hm
    refine evS (fun k => by rw [laws_FnNums.j0]) (evI (fun h0 => ?_) (fun h0 => ?_))
    · have : (0 : Int) = (near n : Int) := by
        rw [← hm]
        unfold mx
        split <;> omega
      rw [← this] at hj1 ⊢
      exact hj1
    · have : m = (near n : Int) := by
        rw [← hm]
        unfold mx
        split <;> omega
      rw [this]
      exact hj1
  refine evI (fun h0 => hj0 _ ?_) (fun h0 => hj0 _ ?_)
  · rw [← near_eq]
    unfold mn
    rw [if_pos h0]
  · rw [← near_eq]
    unfold mn
    rw [if_neg h0]
end Go.Proofs.Ytmkhhnfmahdijaa.Pure

/- Values that come in as data (strings' slices, structs, slices of structs, nested) are of the printer's kinds: one lemma a make of type. Plain lemmas for the rows of laws over such parameters. No conditions beyond what each lemma names. -/
set_option linter.unusedVariables false
namespace Go.Proofs.Ytmkhhnfmahdijaa.Y
open Go.RowKit Go.Proofs.YtmkhhnfmahdijaaW.PrintWords Go.ChangeShapes Go.WideShapes Go.Deep

/-- What is read as data of type T is of kind d, and G holds of what it says. -/
def Opn {α : Type} (P : Program) (d : Kd α) (T : TypeId) (G : α → Prop) : Prop :=
  ∀ {H : Type} (enc : TypeId × Value → H) (w : World) (spare : Nat → Bool) (held : Bool) (fuel : Nat) (cs : List Value) (x : DataW H × List MemPlace), DataW.trod enc P w 0 spare held fuel T cs = some x → ∃ y, d.K w y cs ∧ G y

theorem Opn.int {P : Program} {T : TypeId} {k : IntKind} (h : P.underlying T = some (.int k)) : Opn P (Kd.int k) T (fun n => (Lit.int k n).wf = true) := by
  intro H enc w spare held fuel cs x hx
  obtain ⟨n, rfl, _, hn⟩ := DataW.trod_int h hx
  exact ⟨n, rfl, hn⟩
theorem Opn.bool {P : Program} {T : TypeId} (h : P.underlying T = some .bool) : Opn P Kd.bool T (fun _ => True) := by
  intro H enc w spare held fuel cs x hx
  obtain ⟨n, rfl, _⟩ := DataW.trod_bool h hx
  exact ⟨n, rfl, trivial⟩
theorem Opn.string {P : Program} {T : TypeId} (h : P.underlying T = some .string) : Opn P Kd.string T (fun s => s.size ≤ maxLen) := by
  intro H enc w spare held fuel cs x hx
  obtain ⟨s, rfl, _, hs⟩ := DataW.trod_string h hx
  exact ⟨s, rfl, hs⟩
theorem Opn.slice {α : Type} {P : Program} {d : Kd α} {T e : TypeId} {G : α → Prop} [Inhabited α] (h : P.underlying T = some (.slice e)) (he : P.cellsOf e = d.sz) (ho : Opn P d e G) :
    Opn P (Kd.slice e d) T (fun l => l.length ≤ maxLen ∧ ∀ y, y ∈ l → G y) := by
  intro H enc w spare held fuel cs x hx
  rcases open_slice h hx with ⟨rfl, _⟩ | ⟨a, len, cap, m, n, D, Pl, rfl, _, hl, hm, hmm, _, hel⟩
  · exact ⟨[], ⟨none, 0, rfl, Nat.le_refl _, rfl, by simp, fun hn => absurd hn (Nat.lt_irrefl 0)⟩, by simp, fun y hy => by cases hy⟩
  · have hlm : len ≤ m := by rw [hmm]; split <;> omega
    have each : ∀ i, i < len → ∃ y, (∃ c, c.length = d.sz ∧ d.K w y c ∧ ∀ j u, c[j]? = some u → w.cell? (a.add (i * d.sz + j)) = some u) ∧ G y := by
      intro i hi
      obtain ⟨c, hc, ht⟩ := hel i (by omega)
      obtain ⟨y, hk, hg⟩ := ho enc w spare held n c _ ht
      obtain ⟨_, hlen, hcell⟩ := World.cells?_some hc
      refine ⟨y, ⟨c, hlen.trans he, hk, fun j u hu => ?_⟩, hg⟩
      have hj : j < P.cellsOf e := by rw [← hlen]; exact (List.getElem?_eq_some_iff.1 hu).1
      have := hcell j hj
      rw [Go.Deep.add_add, hu, he] at this
      exact this
    obtain ⟨f, hf⟩ := choose_lt each
    have hlen : ((List.range len).map f).length = len := by simp
    have hm' : len ≤ maxLen := Nat.le_trans hl hm
    refine ⟨(List.range len).map f, ⟨some a, cap, by rw [hlen], by rw [hlen]; exact hl, by rw [hlen], by rw [hlen]; unfold maxLen at hm'; exact hm', fun _ => ⟨a, rfl, fun j p hp => ?_⟩⟩, by rw [hlen]; exact hm', fun y hy => ?_⟩
    · obtain ⟨hj, rfl⟩ := List.getElem?_eq_some_iff.1 hp
      rw [hlen] at hj
      simp only [List.getElem_map, List.getElem_range]
      exact (hf j hj).1
    · obtain ⟨i, hi, rfl⟩ := List.mem_map.1 hy
      exact (hf i (List.mem_range.1 hi)).2

/-- The fields from cell 'off' on. -/
def FOpn {α : Type} (P : Program) (d : Kd α) (off : Nat) (fs : List Field) (G : α → Prop) : Prop :=
  ∀ {H : Type} (enc : TypeId × Value → H) (w : World) (spare : Nat → Bool) (held : Bool) (fuel : Nat) (cs : List Value),
    (∀ f, f ∈ fs → ∃ x, DataW.trod enc P w 0 spare held fuel f.type ((cs.drop f.offset).take (P.cellsOf f.type)) = some x) → cs.length = off + d.sz → ∃ y, d.K w y (cs.drop off) ∧ G y
theorem FOpn.one {α : Type} {P : Program} {d : Kd α} {off : Nat} {f : Field} {G : α → Prop} (hf : f.offset = off) (hc : P.cellsOf f.type = d.sz) (ho : Opn P d f.type G) : FOpn P d off [f] G := by
  intro H enc w spare held fuel cs hx hl
  obtain ⟨x, hx⟩ := hx f (by simp)
  rw [hf, hc, List.take_of_length_le (by simp; omega)] at hx
  exact ho enc w spare held fuel _ x hx
theorem FOpn.cons {α β : Type} {P : Program} {d : Kd α} {d' : Kd β} {off : Nat} {f : Field} {fs : List Field} {G : α → Prop} {G' : β → Prop} (hf : f.offset = off) (hc : P.cellsOf f.type = d.sz) (ho : Opn P d f.type G)
    (hs : FOpn P d' (off + d.sz) fs G') : FOpn P (Kd.pair d d') off (f :: fs) (fun y => G y.1 ∧ G' y.2) := by
  intro H enc w spare held fuel cs hx hl
  have hl' : cs.length = off + (d.sz + d'.sz) := hl
  obtain ⟨x, h1⟩ := hx f (by simp)
  rw [hf, hc] at h1
  obtain ⟨y, hy, gy⟩ := ho enc w spare held fuel _ x h1
  obtain ⟨z, hz, gz⟩ := hs enc w spare held fuel cs (fun g hg => hx g (List.mem_cons_of_mem _ hg)) (by omega)
  refine ⟨(y, z), ⟨_, _, ?_, hy, hz⟩, gy, gz⟩
  rw [← List.drop_drop, List.take_append_drop]
theorem Opn.struct {α β : Type} {P : Program} {d : Kd α} {T : TypeId} {fs : Array Field} {fl : List Field} {G : α → Prop} {G' : β → Prop} {proj : β → α} (mk : α → β) (h : P.underlying T = some (.struct fs)) (hfl : fs.toList = fl) (hc : P.cellsOf T = d.sz)
    (hmk : ∀ y, proj (mk y) = y) (hG : ∀ y, G y → G' (mk y)) (hs : FOpn P d 0 fl G) : Opn P (Kd.iso d proj) T G' := by
  intro H enc w spare held fuel cs x hx
  obtain ⟨xs, n, rfl, _, hlen, hxs, hall⟩ := DataW.trod_struct h hx
  obtain ⟨y, hy, gy⟩ := hs enc w spare held n cs (fun f hf => by
    rw [← hfl] at hf
    obtain ⟨i, hi, he⟩ := List.getElem_of_mem hf
    have hi' : i < fs.size := by simpa using hi
    have h1 : fs[i]? = some f := by rw [Array.getElem?_eq_getElem hi']; simpa using he
    exact ⟨_, (hall i f h1).trans (List.getElem?_eq_getElem (by omega))⟩) (by rw [hlen, hc, Nat.zero_add])
  refine ⟨mk y, ?_, hG y gy⟩
  show d.K w (proj (mk y)) cs
  rw [hmk]
  exact hy

/-- A parameter that is a slice. -/
theorem Opn.arg_slice {α : Type} {P : Program} {d : Kd α} {T e : TypeId} {G : α → Prop} [Inhabited α] (h : P.underlying T = some (.slice e)) (he : P.cellsOf e = d.sz) (ho : Opn P d e G)
    {H : Type} {enc : TypeId × Value → H} {w : World} {spare : Nat → Bool} {held : Bool} {v : Value} {D : DataW H} {ps : List MemPlace} {r : Reach} {b : Nat} (hv : Value.okWide P w r b T v) (hx : DataW.Trod enc P w 0 spare held T v D ps) :
    ∃ (A : Option Addr) (c : Nat) (l : List α), v = .slice A l.length c ∧ l.length ≤ c ∧ d.C w A l.length l ∧ l.length ≤ maxLen ∧ ∀ y, y ∈ l → G y := by
  obtain ⟨a, len, cap, rfl⟩ := okWide_slice h hv
  obtain ⟨fuel, hf⟩ := hx
  obtain ⟨l, ⟨A, c, hcs, hlc, hC⟩, hg1, hg2⟩ := Opn.slice h he ho enc w spare held fuel _ _ hf
  have hcs' : [Value.slice a len cap] = [Value.slice A l.length c] := hcs
  injection hcs' with h1 _
  exact ⟨A, c, l, h1, hlc, hC, hg1, hg2⟩
/-- A parameter that is a struct. -/
theorem Opn.arg_struct {α : Type} {P : Program} {d : Kd α} {T : TypeId} {G : α → Prop} {fs : Array Field} (hu : P.underlying T = some (.struct fs)) (ho : Opn P d T G)
    {H : Type} {enc : TypeId × Value → H} {w : World} {spare : Nat → Bool} {held : Bool} {v : Value} {D : DataW H} {ps : List MemPlace} {r : Reach} {b : Nat} (hv : Value.okWide P w r b T v) (hx : DataW.Trod enc P w 0 spare held T v D ps) :
    ∃ (cs : List Value) (y : α), v = .agg cs.toArray ∧ d.K w y cs ∧ G y := by
  obtain ⟨cs, rfl, _⟩ := okWide_struct hu hv
  obtain ⟨fuel, hf⟩ := hx
  obtain ⟨y, hk, hg⟩ := ho enc w spare held fuel _ _ hf
  exact ⟨cs.toList, y, by simp, hk, hg⟩
end Go.Proofs.Ytmkhhnfmahdijaa.Y
