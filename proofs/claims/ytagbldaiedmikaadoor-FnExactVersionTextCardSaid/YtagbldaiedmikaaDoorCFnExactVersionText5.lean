/- The law FnExactVersionText, as a plain statement: the program's VersionText answers as the reference's. Conditions: those of the row's reading alone. -/
/- Part 6 of 7 of this claim's texts. -/
import Derived.Lib.Atoi
import Derived.Lib.ItoaNum
import Derived.Test.YtagbldaiedmikaaDoorWWords
import Derived.Deep.Slices
import Derived.ChangeArms
import Derived.WideShapes
import Derived.DataReads
import Derived.Test.YtagbldaiedmikaaDoorRows
import Derived.WalkKit
import Derived.ProofKit
import Derived.Test.YtagbldaiedmikaaDoorCFnExactVersionText0
import Derived.Test.YtagbldaiedmikaaDoorCFnExactVersionText1
import Derived.Test.YtagbldaiedmikaaDoorCFnExactVersionText3
import Derived.Test.YtagbldaiedmikaaDoorCFnExactVersionText4
namespace Go.Proofs.YtagbldaiedmikaaDoor.X
open Go.RowKit Go.Proofs.YtagbldaiedmikaaDoorW.PrintWords Go.Proofs.YtagbldaiedmikaaDoorW.PrintLast Go.Proofs.YtagbldaiedmikaaDoorW.PrintMore
attribute [local go_sem] max2_int min2_int max_two min_two max_three min_three max_four min_four   -- for this text's walks alone
set_option linter.unusedVariables false
set_option linter.unusedSimpArgs false

/-! ### spec_l3LessPre: function 51 -/
mutual
def spec_l3LessPre.l0 : Nat → List ByteArray → List ByteArray → Int → Option (Bool)
  | 0, _, _, _ => none
  | k + 1, x5, x6, x7 => if x7 < (x5.length : Int) then (spec_l3LessPre.j1 k x5 x6 x7 (decide (x7 < (x6.length : Int)))) else (spec_l3LessPre.j1 k x5 x6 x7 false)
def spec_l3LessPre.j1 : Nat → List ByteArray → List ByteArray → Int → Bool → Option (Bool)
  | 0, _, _, _, _ => none
  | k + 1, x5, x6, x7, x21 => if x21 = true then (if 0 ≤ x7 then (if x7 < (x5.length : Int) then (if x7 < (x6.length : Int) then (if (rdOf ByteArray.empty x5 x7).toList = (rdOf ByteArray.empty x6 x7).toList then (spec_l3LessPre.l0 k x5 x6 (wrap64 (x7 + 1))) else ((spec_l3LessPart.f k (rdOf ByteArray.empty x5 x7) (rdOf ByteArray.empty x6 x7)).bind fun t211 => (some t211))) else (none)) else (none)) else (none)) else (some (decide ((x5.length : Int) < (x6.length : Int))))
end
def spec_l3LessPre.f (k : Nat) (a0 : ByteArray) (a1 : ByteArray) : Option (Bool) := (spec_l3Split.f k a0 46).bind fun t201 => ((spec_l3Split.f k a1 46).bind fun t204 => (spec_l3LessPre.l0 k t201 t204 0))
theorem spec_l3LessPre.mono_l : ∀ k, (∀ y0 y1 y2, LeO (spec_l3LessPre.l0 k y0 y1 y2) (spec_l3LessPre.l0 (k + 1) y0 y1 y2)) ∧ (∀ y0 y1 y2 y3, LeO (spec_l3LessPre.j1 k y0 y1 y2 y3) (spec_l3LessPre.j1 (k + 1) y0 y1 y2 y3))
  | 0 => ⟨fun _ _ _ r h => by simp [spec_l3LessPre.l0] at h, fun _ _ _ _ r h => by simp [spec_l3LessPre.j1] at h⟩
  | k + 1 => by
    obtain ⟨ih0, ih1⟩ := spec_l3LessPre.mono_l k
    refine ⟨?_, ?_⟩
    · intro y0 y1 y2
      unfold spec_l3LessPre.l0
      repeat' first
      | (with_reducible exact ih0 _ _ _)
      | (with_reducible exact ih1 _ _ _ _)
      | (with_reducible exact spec_l3LessPart.mono _ _ _)
      | (with_reducible exact spec_l3Split.mono _ _ _)
      | (with_reducible exact LeO.refl _)
      | (with_reducible exact LeO.none _)
      | (with_reducible refine LeO.ite ?_ ?_)
      | (with_reducible refine LeO.bind ?_ (fun _ => ?_))
      | exact ih0 _ _ _
      | exact ih1 _ _ _ _
      | exact spec_l3LessPart.mono _ _ _
      | exact spec_l3Split.mono _ _ _
      | exact LeO.none _
      | refine LeO.ite ?_ ?_
      | refine LeO.bind ?_ (fun _ => ?_)
    · intro y0 y1 y2 y3
      unfold spec_l3LessPre.j1
      repeat' first
      | (with_reducible exact ih0 _ _ _)
      | (with_reducible exact ih1 _ _ _ _)
      | (with_reducible exact spec_l3LessPart.mono _ _ _)
      | (with_reducible exact spec_l3Split.mono _ _ _)
      | (with_reducible exact LeO.refl _)
      | (with_reducible exact LeO.none _)
      | (with_reducible refine LeO.ite ?_ ?_)
      | (with_reducible refine LeO.bind ?_ (fun _ => ?_))
      | exact ih0 _ _ _
      | exact ih1 _ _ _ _
      | exact spec_l3LessPart.mono _ _ _
      | exact spec_l3Split.mono _ _ _
      | exact LeO.none _
      | refine LeO.ite ?_ ?_
      | refine LeO.bind ?_ (fun _ => ?_)
theorem spec_l3LessPre.mono : ∀ a0 a1 k, LeO (spec_l3LessPre.f k a0 a1) (spec_l3LessPre.f (k + 1) a0 a1) := by
  intro a0 a1 k
  obtain ⟨ih0, ih1⟩ := spec_l3LessPre.mono_l k
  unfold spec_l3LessPre.f
  repeat' first
      | (with_reducible exact ih0 _ _ _)
      | (with_reducible exact ih1 _ _ _ _)
      | (with_reducible exact spec_l3LessPart.mono _ _ _)
      | (with_reducible exact spec_l3Split.mono _ _ _)
      | (with_reducible exact LeO.refl _)
      | (with_reducible exact LeO.none _)
      | (with_reducible refine LeO.ite ?_ ?_)
      | (with_reducible refine LeO.bind ?_ (fun _ => ?_))
      | exact ih0 _ _ _
      | exact ih1 _ _ _ _
      | exact spec_l3LessPart.mono _ _ _
      | exact spec_l3Split.mono _ _ _
      | exact LeO.none _
      | refine LeO.ite ?_ ?_
      | refine LeO.bind ?_ (fun _ => ?_)
set_option maxHeartbeats 8000000 in
set_option maxRecDepth 100000 in
theorem spec_l3LessPre.calls (k : Nat) (a0 : ByteArray) (a1 : ByteArray) (r : Bool) (w : World) (h : spec_l3LessPre.f k a0 a1 = some r) :
    Calls Tryd.prog 51 #[.string a0, .string a1] w fun e w' => e = .returned (.bool r) ∧ Below w.heap.size w w' := by
  have HB := Aside0.mk (Below.refl w.heap.size w)
  have H : ((spec_l3Split.f k a0 46).bind fun t201 => ((spec_l3Split.f k a1 46).bind fun t204 => (spec_l3LessPre.l0 k t201 t204 0))) = some r := h
  clear h
  replace H := Option.bind_eq_some_iff.mp H
  obtain ⟨t201, A30, H⟩ := H
  replace H : ((spec_l3Split.f k a1 46).bind fun t204 => (spec_l3LessPre.l0 k t201 t204 0)) = some r := H
  have A3 := Aside0.mk A30
  clear A30
  replace H := Option.bind_eq_some_iff.mp H
  obtain ⟨t204, A40, H⟩ := H
  replace H : (spec_l3LessPre.l0 k t201 t204 0) = some r := H
  have A4 := Aside0.mk A40
  clear A40
  have H' := Aside0.mk H
  clear H
  go_enter Tryd.func51, Tryd.ntmps51
  go_wp2_with (first | (go_at_call 43; (with_reducible refine (spec_l3Split.calls k a0 46 t201 _ A3.out).mono ?_); rintro e w5 ⟨v202, rfl, ho0, hb⟩; have n0_ := Aside0.mk (Kd.R_lower ho0 (below_size (by repeat (first | (with_reducible first | exact HB.out | apply below_alloc | apply pw_below_drewN | apply below_drew1) | exact HB.out)))); have n1_ := Aside0.mk (below_step (by repeat (first | (with_reducible first | exact HB.out | apply below_alloc | apply pw_below_drewN | apply below_drew1) | exact HB.out)) hb); clear HB; have HO203 := n0_; have HB := n1_; clear n0_ n1_; (try clear hb); (try clear hb2); (try clear hk); (try clear hi); (try clear ho0)) | (go_at_call 43; (with_reducible refine (spec_l3Split.calls k a1 46 t204 _ A4.out).mono ?_); rintro e w6 ⟨v205, rfl, ho0, hb⟩; have n0_ := Aside0.mk (Kd.R_elder' (by (with_reducible repeat (first | apply Kd.R_alloc | apply Kd.R_drewN | apply Kd.R_drew)); exact HO203.out) (Kd.R_base ho0) hb); have n1_ := Aside0.mk (Kd.R_lower (Kd.R_new' ho0 (Kd.R_lt (by (with_reducible repeat (first | apply Kd.R_alloc | apply Kd.R_drewN | apply Kd.R_drew)); exact HO203.out))) (below_size (by repeat (first | (with_reducible first | exact HB.out | apply below_alloc | apply pw_below_drewN | apply below_drew1) | exact HB.out)))); have n2_ := Aside0.mk (below_step (by repeat (first | (with_reducible first | exact HB.out | apply below_alloc | apply pw_below_drewN | apply below_drew1) | exact HB.out)) hb); clear HO203; clear HB; have HO203 := n0_; have HO206 := n1_; have HB := n2_; clear n0_ n1_ n2_; (try clear hb); (try clear hb2); (try clear hk); (try clear hi); (try clear ho0)))
  repeat (go_quiet (first | (go_at_call 43; (with_reducible refine (spec_l3Split.calls k a0 46 t201 _ A3.out).mono ?_); rintro e w5 ⟨v202, rfl, ho0, hb⟩; have n0_ := Aside0.mk (Kd.R_lower ho0 (below_size (by repeat (first | (with_reducible first | exact HB.out | apply below_alloc | apply pw_below_drewN | apply below_drew1) | exact HB.out)))); have n1_ := Aside0.mk (below_step (by repeat (first | (with_reducible first | exact HB.out | apply below_alloc | apply pw_below_drewN | apply below_drew1) | exact HB.out)) hb); clear HB; have HO203 := n0_; have HB := n1_; clear n0_ n1_; (try clear hb); (try clear hb2); (try clear hk); (try clear hi); (try clear ho0)) | (go_at_call 43; (with_reducible refine (spec_l3Split.calls k a1 46 t204 _ A4.out).mono ?_); rintro e w6 ⟨v205, rfl, ho0, hb⟩; have n0_ := Aside0.mk (Kd.R_elder' (by (with_reducible repeat (first | apply Kd.R_alloc | apply Kd.R_drewN | apply Kd.R_drew)); exact HO203.out) (Kd.R_base ho0) hb); have n1_ := Aside0.mk (Kd.R_lower (Kd.R_new' ho0 (Kd.R_lt (by (with_reducible repeat (first | apply Kd.R_alloc | apply Kd.R_drewN | apply Kd.R_drew)); exact HO203.out))) (below_size (by repeat (first | (with_reducible first | exact HB.out | apply below_alloc | apply pw_below_drewN | apply below_drew1) | exact HB.out)))); have n2_ := Aside0.mk (below_step (by repeat (first | (with_reducible first | exact HB.out | apply below_alloc | apply pw_below_drewN | apply below_drew1) | exact HB.out)) hb); clear HO203; clear HB; have HO203 := n0_; have HO206 := n1_; have HB := n2_; clear n0_ n1_ n2_; (try clear hb); (try clear hb2); (try clear hk); (try clear hi); (try clear ho0))); try go_wp2_with (first | (go_at_call 43; (with_reducible refine (spec_l3Split.calls k a0 46 t201 _ A3.out).mono ?_); rintro e w5 ⟨v202, rfl, ho0, hb⟩; have n0_ := Aside0.mk (Kd.R_lower ho0 (below_size (by repeat (first | (with_reducible first | exact HB.out | apply below_alloc | apply pw_below_drewN | apply below_drew1) | exact HB.out)))); have n1_ := Aside0.mk (below_step (by repeat (first | (with_reducible first | exact HB.out | apply below_alloc | apply pw_below_drewN | apply below_drew1) | exact HB.out)) hb); clear HB; have HO203 := n0_; have HB := n1_; clear n0_ n1_; (try clear hb); (try clear hb2); (try clear hk); (try clear hi); (try clear ho0)) | (go_at_call 43; (with_reducible refine (spec_l3Split.calls k a1 46 t204 _ A4.out).mono ?_); rintro e w6 ⟨v205, rfl, ho0, hb⟩; have n0_ := Aside0.mk (Kd.R_elder' (by (with_reducible repeat (first | apply Kd.R_alloc | apply Kd.R_drewN | apply Kd.R_drew)); exact HO203.out) (Kd.R_base ho0) hb); have n1_ := Aside0.mk (Kd.R_lower (Kd.R_new' ho0 (Kd.R_lt (by (with_reducible repeat (first | apply Kd.R_alloc | apply Kd.R_drewN | apply Kd.R_drew)); exact HO203.out))) (below_size (by repeat (first | (with_reducible first | exact HB.out | apply below_alloc | apply pw_below_drewN | apply below_drew1) | exact HB.out)))); have n2_ := Aside0.mk (below_step (by repeat (first | (with_reducible first | exact HB.out | apply below_alloc | apply pw_below_drewN | apply below_drew1) | exact HB.out)) hb); clear HO203; clear HB; have HO203 := n0_; have HO206 := n1_; have HB := n2_; clear n0_ n1_ n2_; (try clear hb); (try clear hb2); (try clear hk); (try clear hi); (try clear ho0))))
  go_loopg [7] k (fun kq v7 w' => ∃ (x7_1 : Int), v7 = .int .i64 x7_1 ∧ Aside0 (spec_l3LessPre.l0 kq t201 t204 x7_1 = some r) ∧ Aside0 (kq ≤ k) ∧ Aside0 (Kd.R Kd.string 9 w' w.heap.size (fun k_ => some k_ ≠ (v205 : Value).ownBlock) v202 t201) ∧ Aside0 (Kd.R Kd.string 9 w' w.heap.size (fun k_ => some k_ ≠ (v202 : Value).ownBlock) v205 t204) ∧ Aside0 (Below w.heap.size w w'))
  case atStart => exact ⟨(0), (by first | rfl | (simp; done) | (simp [*]; done)), H', ⟨Nat.le_refl _⟩, ⟨by (with_reducible repeat (first | apply Kd.R_alloc | apply Kd.R_drewN | apply Kd.R_drew)); exact Kd.R_mono HO203.out (fun _ hk => hk.2)⟩, ⟨by (with_reducible repeat (first | apply Kd.R_alloc | apply Kd.R_drewN | apply Kd.R_drew)); exact Kd.R_mono HO206.out (fun _ hk => hk.2)⟩, ⟨by repeat (first | (with_reducible first | exact HB.out | apply below_alloc | apply pw_below_drewN | apply below_drew1) | exact HB.out)⟩⟩
  case round =>
    clear H'
    try clear p2
    try clear c5
    obtain ⟨x7_1, rfl, HA, HK1, HO_5, HO_6, HB⟩ := hrel
    cases gk with
    | zero => exact absurd HA.out (by simp [spec_l3LessPre.l0])
    | succ k1 =>
      have H := HA.out
      clear HA
      simp only [spec_l3LessPre.l0] at H
      have HC7 := Aside0.mk H
      clear H
      go_upto_region 4 with (fail)
      repeat (go_quiet (fail); go_upto_region 4 with (fail))
      go_cut [21] (fun v21 wc => ∃ (kq : Nat) (x21_6 : Bool), v21 = .bool x21_6 ∧ Aside0 (spec_l3LessPre.j1 kq t201 t204 x7_1 x21_6 = some r) ∧ Aside0 (kq ≤ k1) ∧ Aside0 (Kd.R Kd.string 9 wc w.heap.size (fun k_ => some k_ ≠ (v205 : Value).ownBlock) v202 t201) ∧ Aside0 (Kd.R Kd.string 9 wc w.heap.size (fun k_ => some k_ ≠ (v202 : Value).ownBlock) v205 t204) ∧ Aside0 (Below w.heap.size w wc))
      case first =>
        have H := HC7.out
        clear HC7
        by_cases c8 : x7_1 < (t201.length : Int)
        · rw [if_pos c8] at H
          have c8b0 : decide (x7_1 < (t201.length : Int)) = true := decide_eq_true c8
          clear c8
          (first | rw [c8b0] | (simp only [i64_w, i32_w]; rw [c8b0]) | skip)
          have H' := Aside0.mk H
          clear H
          obtain ⟨Ao9, co9, eo9⟩ := Kd.R_slice HO_5.out
          subst eo9
          obtain ⟨Ao10, co10, eo10⟩ := Kd.R_slice HO_6.out
          subst eo10
          go_wp2
          repeat (go_quiet (fail); try go_wp2)
          go_meet
          case rel => exact ⟨_, (decide (x7_1 < (t204.length : Int))), (by first | rfl | (simp; done) | (simp [*]; done)), H', ⟨by have := HK1.out; first | omega | exact Nat.le_refl _⟩, ⟨by (with_reducible repeat (first | apply Kd.R_alloc | apply Kd.R_drewN | apply Kd.R_drew)); exact HO_5.out⟩, ⟨by (with_reducible repeat (first | apply Kd.R_alloc | apply Kd.R_drewN | apply Kd.R_drew)); exact HO_6.out⟩, ⟨by repeat (first | (with_reducible first | exact HB.out | apply below_alloc | apply pw_below_drewN | apply below_drew1) | exact HB.out)⟩⟩
        · rw [if_neg c8] at H
          have c8b0 : decide (x7_1 < (t201.length : Int)) = false := decide_eq_false c8
          clear c8
          (first | rw [c8b0] | (simp only [i64_w, i32_w]; rw [c8b0]) | skip)
          have H' := Aside0.mk H
          clear H
          obtain ⟨Ao11, co11, eo11⟩ := Kd.R_slice HO_5.out
          subst eo11
          go_wp2
          repeat (go_quiet (fail); try go_wp2)
          go_meet
          case rel => exact ⟨_, (false), (by first | rfl | (simp; done) | (simp [*]; done)), H', ⟨by have := HK1.out; first | omega | exact Nat.le_refl _⟩, ⟨by (with_reducible repeat (first | apply Kd.R_alloc | apply Kd.R_drewN | apply Kd.R_drew)); exact HO_5.out⟩, ⟨by (with_reducible repeat (first | apply Kd.R_alloc | apply Kd.R_drewN | apply Kd.R_drew)); exact HO_6.out⟩, ⟨by repeat (first | (with_reducible first | exact HB.out | apply below_alloc | apply pw_below_drewN | apply below_drew1) | exact HB.out)⟩⟩
      case rest =>
        clear HC7
        try clear p2
        try clear c5
        try clear c8
        try clear c8b0
        try clear p2
        obtain ⟨kq, x21_6, rfl, HA, HJ6, HO_5, HO_6, HB⟩ := hcut
        cases kq with
        | zero => exact absurd HA.out (by simp [spec_l3LessPre.j1])
        | succ kj6 =>
          have H := HA.out
          clear HA
          simp only [spec_l3LessPre.j1] at H
          by_cases c12 : x21_6 = true
          · subst c12
            have H1 : (if 0 ≤ x7_1 then (if x7_1 < (t201.length : Int) then (if x7_1 < (t204.length : Int) then (if (rdOf ByteArray.empty t201 x7_1).toList = (rdOf ByteArray.empty t204 x7_1).toList then (spec_l3LessPre.l0 kj6 t201 t204 (wrap64 (x7_1 + 1))) else ((spec_l3LessPart.f kj6 (rdOf ByteArray.empty t201 x7_1) (rdOf ByteArray.empty t204 x7_1)).bind fun t211 => (some t211))) else (none)) else (none)) else (none)) = some r := by rw [if_pos rfl] at H; exact H
            clear H
            have H := H1
            clear H1
            by_cases c13 : 0 ≤ x7_1
            · rw [if_pos c13] at H
              have c13b0 : decide (0 ≤ x7_1) = true := decide_eq_true c13
              clear c13
              by_cases c14 : x7_1 < (t201.length : Int)
              · rw [if_pos c14] at H
                have c14b0 : decide (x7_1 < (t201.length : Int)) = true := decide_eq_true c14
                clear c14
                by_cases c15 : x7_1 < (t204.length : Int)
                · rw [if_pos c15] at H
                  have c15b0 : decide (x7_1 < (t204.length : Int)) = true := decide_eq_true c15
                  clear c15
                  by_cases c16 : (rdOf ByteArray.empty t201 x7_1).toList = (rdOf ByteArray.empty t204 x7_1).toList
                  · rw [if_pos c16] at H
                    have c16b0 : ((rdOf ByteArray.empty t201 x7_1).toList == (rdOf ByteArray.empty t204 x7_1).toList) = true := beq_iff_eq.mpr c16
                    have c16b1 : ((rdOf ByteArray.empty t201 x7_1).toList != (rdOf ByteArray.empty t204 x7_1).toList) = false := bne_eq_false_iff_eq.mpr c16
                    clear c16
                    have H' := Aside0.mk H
                    clear H
                    obtain ⟨Ao17, co17, eo17⟩ := Kd.R_slice HO_5.out
                    subst eo17
                    have p207 : 0 ≤ (x7_1 : Int) := of_decide_eq_true (by first | (with_reducible assumption) | assumption)
                    have q207 : x7_1 < (t201.length : Int) := of_decide_eq_true (by first | (with_reducible assumption) | assumption)
                    obtain ⟨ad207, e207, hx207_0⟩ := Kd.at_string (Kd.R_reads' HO_5.out).2.2 x7_1 p207 q207
                    cases e207
                    replace p207 := eq_true p207
                    replace q207 := eq_true q207
                    obtain ⟨Ao18, co18, eo18⟩ := Kd.R_slice HO_6.out
                    subst eo18
                    have p208 : 0 ≤ (x7_1 : Int) := of_decide_eq_true (by first | (with_reducible assumption) | assumption)
                    have q208 : x7_1 < (t204.length : Int) := of_decide_eq_true (by first | (with_reducible assumption) | assumption)
                    obtain ⟨ad208, e208, hx208_0⟩ := Kd.at_string (Kd.R_reads' HO_6.out).2.2 x7_1 p208 q208
                    cases e208
                    replace p208 := eq_true p208
                    replace q208 := eq_true q208
                    go_wp2
                    repeat (go_quiet (fail); try go_wp2)
                    go_roundg kj6
                    case measure => have := HK1.out; have := HJ6.out; omega
                    case rel => exact ⟨(wrap64 (x7_1 + 1)), (by first | rfl | (simp; done) | (simp [*]; done)), H', ⟨by have := HK1.out; have := HJ6.out; omega⟩, ⟨by (with_reducible repeat (first | apply Kd.R_alloc | apply Kd.R_drewN | apply Kd.R_drew)); exact HO_5.out⟩, ⟨by (with_reducible repeat (first | apply Kd.R_alloc | apply Kd.R_drewN | apply Kd.R_drew)); exact HO_6.out⟩, ⟨by repeat (first | (with_reducible first | exact HB.out | apply below_alloc | apply pw_below_drewN | apply below_drew1) | exact HB.out)⟩⟩
                  · rw [if_neg c16] at H
                    have c16b0 : ((rdOf ByteArray.empty t201 x7_1).toList == (rdOf ByteArray.empty t204 x7_1).toList) = false := beq_eq_false_iff_ne.mpr c16
                    have c16b1 : ((rdOf ByteArray.empty t201 x7_1).toList != (rdOf ByteArray.empty t204 x7_1).toList) = true := bne_iff_ne.mpr c16
                    replace H := Option.bind_eq_some_iff.mp H
                    obtain ⟨t211, A190, H⟩ := H
                    replace H : (some t211) = some r := H
                    have A19 := Aside0.mk A190
                    clear A190
                    obtain rfl := Option.some.inj H
                    obtain ⟨Ao20, co20, eo20⟩ := Kd.R_slice HO_5.out
                    subst eo20
                    have p207 : 0 ≤ (x7_1 : Int) := of_decide_eq_true (by first | (with_reducible assumption) | assumption)
                    have q207 : x7_1 < (t201.length : Int) := of_decide_eq_true (by first | (with_reducible assumption) | assumption)
                    obtain ⟨ad207, e207, hx207_0⟩ := Kd.at_string (Kd.R_reads' HO_5.out).2.2 x7_1 p207 q207
                    cases e207
                    replace p207 := eq_true p207
                    replace q207 := eq_true q207
                    obtain ⟨Ao21, co21, eo21⟩ := Kd.R_slice HO_6.out
                    subst eo21
                    have p208 : 0 ≤ (x7_1 : Int) := of_decide_eq_true (by first | (with_reducible assumption) | assumption)
                    have q208 : x7_1 < (t204.length : Int) := of_decide_eq_true (by first | (with_reducible assumption) | assumption)
                    obtain ⟨ad208, e208, hx208_0⟩ := Kd.at_string (Kd.R_reads' HO_6.out).2.2 x7_1 p208 q208
                    cases e208
                    replace p208 := eq_true p208
                    replace q208 := eq_true q208
                    have p209 : 0 ≤ (x7_1 : Int) := of_decide_eq_true (by first | (with_reducible assumption) | assumption)
                    have q209 : x7_1 < (t201.length : Int) := of_decide_eq_true (by first | (with_reducible assumption) | assumption)
                    obtain ⟨ad209, e209, hx209_0⟩ := Kd.at_string (Kd.R_reads' HO_5.out).2.2 x7_1 p209 q209
                    obtain rfl : ad207 = ad209 := (by injection e209)
                    replace p209 := eq_true p209
                    replace q209 := eq_true q209
                    have p210 : 0 ≤ (x7_1 : Int) := of_decide_eq_true (by first | (with_reducible assumption) | assumption)
                    have q210 : x7_1 < (t204.length : Int) := of_decide_eq_true (by first | (with_reducible assumption) | assumption)
                    obtain ⟨ad210, e210, hx210_0⟩ := Kd.at_string (Kd.R_reads' HO_6.out).2.2 x7_1 p210 q210
                    obtain rfl : ad208 = ad210 := (by injection e210)
                    replace p210 := eq_true p210
                    replace q210 := eq_true q210
                    go_wp2_with (first | (go_at_call 72; (with_reducible refine (spec_l3LessPart.calls kj6 (rdOf ByteArray.empty t201 x7_1) (rdOf ByteArray.empty t204 x7_1) t211 _ A19.out).mono ?_); rintro e w' ⟨rfl, ⟨nd, rfl⟩⟩; (try first | exact ⟨rfl, _, World.drewN_drewN _ _ _⟩ | exact ⟨rfl, _, Eq.trans (World.drewN_drewN _ _ _) (congrArg (World.drewN _) (Nat.add_assoc _ _ _))⟩)))
                    repeat (go_quiet (first | (go_at_call 72; (with_reducible refine (spec_l3LessPart.calls kj6 (rdOf ByteArray.empty t201 x7_1) (rdOf ByteArray.empty t204 x7_1) t211 _ A19.out).mono ?_); rintro e w' ⟨rfl, ⟨nd, rfl⟩⟩; (try first | exact ⟨rfl, _, World.drewN_drewN _ _ _⟩ | exact ⟨rfl, _, Eq.trans (World.drewN_drewN _ _ _) (congrArg (World.drewN _) (Nat.add_assoc _ _ _))⟩))); try go_wp2_with (first | (go_at_call 72; (with_reducible refine (spec_l3LessPart.calls kj6 (rdOf ByteArray.empty t201 x7_1) (rdOf ByteArray.empty t204 x7_1) t211 _ A19.out).mono ?_); rintro e w' ⟨rfl, ⟨nd, rfl⟩⟩; (try first | exact ⟨rfl, _, World.drewN_drewN _ _ _⟩ | exact ⟨rfl, _, Eq.trans (World.drewN_drewN _ _ _) (congrArg (World.drewN _) (Nat.add_assoc _ _ _))⟩))))
                    go_ret
                    exact ⟨by first | rfl | (simp [errW_none, errW_some] <;> rfl) | (simp [*, errW_none, errW_some] <;> rfl), by repeat (first | (with_reducible first | exact HB.out | apply below_alloc | apply pw_below_drewN | apply below_drew1) | exact HB.out)⟩
                · rw [if_neg c15] at H
                  exact absurd H (by simp)
              · rw [if_neg c14] at H
                exact absurd H (by simp)
            · rw [if_neg c13] at H
              exact absurd H (by simp)
          · replace c12 := Bool.eq_false_iff.mpr c12
            subst c12
            have H1 : (some (decide ((t201.length : Int) < (t204.length : Int)))) = some r := by rw [if_neg (show ¬ (false = true) by decide)] at H; exact H
            clear H
            have H := H1
            clear H1
            obtain rfl := Option.some.inj H
            obtain ⟨Ao22, co22, eo22⟩ := Kd.R_slice HO_5.out
            subst eo22
            obtain ⟨Ao23, co23, eo23⟩ := Kd.R_slice HO_6.out
            subst eo23
            go_wp2
            repeat (go_quiet (fail); try go_wp2)
            go_ret
            exact ⟨by first | rfl | (simp [errW_none, errW_some] <;> rfl) | (simp [*, errW_none, errW_some] <;> rfl), by repeat (first | (with_reducible first | exact HB.out | apply below_alloc | apply pw_below_drewN | apply below_drew1) | exact HB.out)⟩

end Go.Proofs.YtagbldaiedmikaaDoor.X

namespace Go.Proofs.YtagbldaiedmikaaDoor.X
open Go.RowKit Go.Proofs.YtagbldaiedmikaaDoorW.PrintWords Go.Proofs.YtagbldaiedmikaaDoorW.PrintLast Go.Proofs.YtagbldaiedmikaaDoorW.PrintMore
attribute [local go_sem] max2_int min2_int max_two min_two max_three min_three max_four min_four   -- for this text's walks alone
set_option linter.unusedVariables false
set_option linter.unusedSimpArgs false

/-! ### spec_LessVersion: function 24 -/
def spec_LessVersion.j0 : Nat → Bool → Int → Int → Int → ByteArray → Int → Int → Int → ByteArray → Option (Bool)
  | 0, _, _, _, _, _, _, _, _, _ => none
  | k + 1, x38, x213000, x213001, x213002, x213003, x214000, x214001, x214002, x214003 => if x38 = true then (some false) else (if x214003.toList = ([] : List UInt8) then (some true) else ((spec_l3LessPre.f k x213003 x214003).bind fun t214 => (some t214)))
def spec_LessVersion.f (k : Nat) (a0_0 : Int) (a0_1 : Int) (a0_2 : Int) (a0_3 : ByteArray) (a1_0 : Int) (a1_1 : Int) (a1_2 : Int) (a1_3 : ByteArray) : Option (Bool) := if a0_0 = a1_0 then (if a0_1 = a1_1 then (if a0_2 = a1_2 then (if a0_3.toList = a1_3.toList then (spec_LessVersion.j0 k true a0_0 a0_1 a0_2 a0_3 a1_0 a1_1 a1_2 a1_3) else (spec_LessVersion.j0 k (a0_3.toList == ([] : List UInt8)) a0_0 a0_1 a0_2 a0_3 a1_0 a1_1 a1_2 a1_3)) else (some (decide (a0_2 < a1_2)))) else (some (decide (a0_1 < a1_1)))) else (some (decide (a0_0 < a1_0)))
theorem spec_LessVersion.mono_l : ∀ k, (∀ y0 y1 y2 y3 y4 y5 y6 y7 y8, LeO (spec_LessVersion.j0 k y0 y1 y2 y3 y4 y5 y6 y7 y8) (spec_LessVersion.j0 (k + 1) y0 y1 y2 y3 y4 y5 y6 y7 y8))
  | 0 => fun _ _ _ _ _ _ _ _ _ r h => by simp [spec_LessVersion.j0] at h
  | k + 1 => by
    have ih0 := spec_LessVersion.mono_l k
    · intro y0 y1 y2 y3 y4 y5 y6 y7 y8
      unfold spec_LessVersion.j0
      repeat' first
      | (with_reducible exact ih0 _ _ _ _ _ _ _ _ _)
      | (with_reducible exact spec_l3LessPre.mono _ _ _)
      | (with_reducible exact LeO.refl _)
      | (with_reducible exact LeO.none _)
      | (with_reducible refine LeO.ite ?_ ?_)
      | (with_reducible refine LeO.bind ?_ (fun _ => ?_))
      | exact ih0 _ _ _ _ _ _ _ _ _
      | exact spec_l3LessPre.mono _ _ _
      | exact LeO.none _
      | refine LeO.ite ?_ ?_
      | refine LeO.bind ?_ (fun _ => ?_)
theorem spec_LessVersion.mono : ∀ a0 a1 a2 a3 a4 a5 a6 a7 k, LeO (spec_LessVersion.f k a0 a1 a2 a3 a4 a5 a6 a7) (spec_LessVersion.f (k + 1) a0 a1 a2 a3 a4 a5 a6 a7) := by
  intro a0 a1 a2 a3 a4 a5 a6 a7 k
  have ih0 := spec_LessVersion.mono_l k
  unfold spec_LessVersion.f
  repeat' first
      | (with_reducible exact ih0 _ _ _ _ _ _ _ _ _)
      | (with_reducible exact spec_l3LessPre.mono _ _ _)
      | (with_reducible exact LeO.refl _)
      | (with_reducible exact LeO.none _)
      | (with_reducible refine LeO.ite ?_ ?_)
      | (with_reducible refine LeO.bind ?_ (fun _ => ?_))
      | exact ih0 _ _ _ _ _ _ _ _ _
      | exact spec_l3LessPre.mono _ _ _
      | exact LeO.none _
      | refine LeO.ite ?_ ?_
      | refine LeO.bind ?_ (fun _ => ?_)
set_option maxHeartbeats 8000000 in
set_option maxRecDepth 100000 in
theorem spec_LessVersion.calls (k : Nat) (a0_0 : Int) (a0_1 : Int) (a0_2 : Int) (a0_3 : ByteArray) (a1_0 : Int) (a1_1 : Int) (a1_2 : Int) (a1_3 : ByteArray) (r : Bool) (w : World) (h : spec_LessVersion.f k a0_0 a0_1 a0_2 a0_3 a1_0 a1_1 a1_2 a1_3 = some r) :
    Calls Tryd.prog 24 #[.agg #[.int .i64 a0_0, .int .i64 a0_1, .int .i64 a0_2, .string a0_3], .agg #[.int .i64 a1_0, .int .i64 a1_1, .int .i64 a1_2, .string a1_3]] w fun e w' => e = .returned (.bool r) ∧ Below w.heap.size w w' := by
  have hu27 := Tryd.underlying27
  have HB := Aside0.mk (Below.refl w.heap.size w)
  have H : (if a0_0 = a1_0 then (if a0_1 = a1_1 then (if a0_2 = a1_2 then (if a0_3.toList = a1_3.toList then (spec_LessVersion.j0 k true a0_0 a0_1 a0_2 a0_3 a1_0 a1_1 a1_2 a1_3) else (spec_LessVersion.j0 k (a0_3.toList == ([] : List UInt8)) a0_0 a0_1 a0_2 a0_3 a1_0 a1_1 a1_2 a1_3)) else (some (decide (a0_2 < a1_2)))) else (some (decide (a0_1 < a1_1)))) else (some (decide (a0_0 < a1_0)))) = some r := h
  clear h
  by_cases c3 : a0_0 = a1_0
  · rw [if_pos c3] at H
    have c3b0 : (a0_0 == a1_0) = true := beq_iff_eq.mpr c3
    have c3b1 : (a0_0 != a1_0) = false := bne_eq_false_iff_eq.mpr c3
    clear c3
    by_cases c4 : a0_1 = a1_1
    · rw [if_pos c4] at H
      have c4b0 : (a0_1 == a1_1) = true := beq_iff_eq.mpr c4
      have c4b1 : (a0_1 != a1_1) = false := bne_eq_false_iff_eq.mpr c4
      clear c4
      by_cases c5 : a0_2 = a1_2
      · rw [if_pos c5] at H
        have c5b0 : (a0_2 == a1_2) = true := beq_iff_eq.mpr c5
        have c5b1 : (a0_2 != a1_2) = false := bne_eq_false_iff_eq.mpr c5
        clear c5
        have HC6 := Aside0.mk H
        clear H
        go_enter Tryd.func24, Tryd.ntmps24
        go_upto_region 7 with (first | ((with_reducible refine gate_dst (N := 2) rfl ?_); refine box_event ?hg (N := 2) ?hd (cs := #[.int .i64 a0_0, .int .i64 a0_1, .int .i64 a0_2, .string a0_3]) (t := 27) ?hr ?_; (case hd => rfl); (case hg => rfl); (case hr => first | (go_simp; done) | (go_simp; rfl)); intro gb212 hg w7 hbox hb; have n0_ := Aside0.mk (below_step (by repeat (first | (with_reducible first | exact HB.out | apply below_alloc | apply pw_below_drewN | apply below_drew1) | exact HB.out)) hb); have n1_ := Aside0.mk (hbox); have n2_ := Aside0.mk ((by rw [hg]; exact (below_size (by repeat (first | (with_reducible first | exact HB.out | apply below_alloc | apply pw_below_drewN | apply below_drew1) | exact HB.out))) : w.heap.size ≤ gb212)); have n3_ := Aside0.mk ((by rw [hg]; exact (below_size (by repeat (first | (with_reducible first | exact HB.out | apply below_alloc | apply pw_below_drewN | apply below_drew1) | exact HB.out))) : w.heap.size ≤ gb212)); clear HB; have HB := n0_; have BK212 := n1_; have GW212 := n2_; have GE212 := n3_; clear n0_ n1_ n2_ n3_; clear hb hbox hg) | ((with_reducible refine gate_dst (N := 3) rfl ?_); refine box_event ?hg (N := 3) ?hd (cs := #[.int .i64 a1_0, .int .i64 a1_1, .int .i64 a1_2, .string a1_3]) (t := 27) ?hr ?_; (case hd => rfl); (case hg => rfl); (case hr => first | (go_simp; done) | (go_simp; rfl)); intro gb213 hg w8 hbox hb; have n0_ := Aside0.mk (blk_below (g := gb212) (o := .cells #[.int .i64 a0_0, .int .i64 a0_1, .int .i64 a0_2, .string a0_3] 27 (0, 0)) (by (with_reducible repeat (first | refine blk_drewN ?_ _ | refine blk_drew ?_ | refine blk_alloc ?_ _)); exact BK212.out) hb); have n1_ := Aside0.mk (below_step (by repeat (first | (with_reducible first | exact HB.out | apply below_alloc | apply pw_below_drewN | apply below_drew1 | refine below_set ?_ GE212.out) | exact HB.out)) hb); have n2_ := Aside0.mk (hbox); have n3_ := Aside0.mk ((by rw [hg]; exact (below_size (by repeat (first | (with_reducible first | exact HB.out | apply below_alloc | apply pw_below_drewN | apply below_drew1 | refine below_set ?_ GE212.out) | exact HB.out))) : w.heap.size ≤ gb213)); have n4_ := Aside0.mk ((by rw [hg]; exact (below_size (by repeat (first | (with_reducible first | exact HB.out | apply below_alloc | apply pw_below_drewN | apply below_drew1 | refine below_set ?_ GE212.out) | exact HB.out))) : w.heap.size ≤ gb213)); have n5_ := Aside0.mk ((by rw [hg]; exact Nat.ne_of_lt (blk_lt (g := gb212) (o := .cells #[.int .i64 a0_0, .int .i64 a0_1, .int .i64 a0_2, .string a0_3] 27 (0, 0)) (by (with_reducible repeat (first | refine blk_drewN ?_ _ | refine blk_drew ?_ | refine blk_alloc ?_ _)); exact BK212.out)) : gb212 ≠ gb213)); have n6_ := Aside0.mk ((by rw [hg]; exact Nat.ne_of_gt (blk_lt (g := gb212) (o := .cells #[.int .i64 a0_0, .int .i64 a0_1, .int .i64 a0_2, .string a0_3] 27 (0, 0)) (by (with_reducible repeat (first | refine blk_drewN ?_ _ | refine blk_drew ?_ | refine blk_alloc ?_ _)); exact BK212.out)) : gb213 ≠ gb212)); clear BK212; clear HB; have BK212 := n0_; have HB := n1_; have BK213 := n2_; have GW213 := n3_; have GE213 := n4_; have NB212_213 := n5_; have NB213_212 := n6_; clear n0_ n1_ n2_ n3_ n4_ n5_ n6_; clear hb hbox hg; have hnb9 := NB212_213.out; have hnc9 := NB213_212.out; have hcz10_0 : w8.cell? ⟨gb212, 0, none⟩ = some (.int .i64 a0_0) := (blk_cell BK212.out 0).trans rfl; have hcz10_1 : w8.cell? ⟨gb212, 1, none⟩ = some (.int .i64 a0_1) := (blk_cell BK212.out 1).trans rfl; have hcz10_2 : w8.cell? ⟨gb212, 2, none⟩ = some (.int .i64 a0_2) := (blk_cell BK212.out 2).trans rfl; have hcz10_3 : w8.cell? ⟨gb212, 3, none⟩ = some (.string a0_3) := (blk_cell BK212.out 3).trans rfl; have hfz10_0 := blk_frozen BK212.out 0; have hfz10_1 := blk_frozen BK212.out 1; have hfz10_2 := blk_frozen BK212.out 2; have hfz10_3 := blk_frozen BK212.out 3; have hcz11_0 : w8.cell? ⟨gb213, 0, none⟩ = some (.int .i64 a1_0) := (blk_cell BK213.out 0).trans rfl; have hcz11_1 : w8.cell? ⟨gb213, 1, none⟩ = some (.int .i64 a1_1) := (blk_cell BK213.out 1).trans rfl; have hcz11_2 : w8.cell? ⟨gb213, 2, none⟩ = some (.int .i64 a1_2) := (blk_cell BK213.out 2).trans rfl; have hcz11_3 : w8.cell? ⟨gb213, 3, none⟩ = some (.string a1_3) := (blk_cell BK213.out 3).trans rfl; have hfz11_0 := blk_frozen BK213.out 0; have hfz11_1 := blk_frozen BK213.out 1; have hfz11_2 := blk_frozen BK213.out 2; have hfz11_3 := blk_frozen BK213.out 3))
        (try simp only [Act.put, List.setIfInBounds_toArray, List.set_cons_zero, List.set_cons_succ])
        go_cut [38] (fun v38 wc => ∃ (kq : Nat) (x38_5 : Bool), v38 = .bool x38_5 ∧ Aside0 (spec_LessVersion.j0 kq x38_5 a0_0 a0_1 a0_2 a0_3 a1_0 a1_1 a1_2 a1_3 = some r) ∧ Aside0 (kq ≤ k) ∧ Aside0 (wc.heap[gb212]? = some (.cells #[.int .i64 a0_0, .int .i64 a0_1, .int .i64 a0_2, .string a0_3] 27 (0, 0))) ∧ Aside0 (wc.heap[gb213]? = some (.cells #[.int .i64 a1_0, .int .i64 a1_1, .int .i64 a1_2, .string a1_3] 27 (0, 0))) ∧ Aside0 (Below w.heap.size w wc))
        case first =>
          have H := HC6.out
          clear HC6
          by_cases c12 : a0_3.toList = a1_3.toList
          · rw [if_pos c12] at H
            have c12b0 : (a0_3.toList == a1_3.toList) = true := beq_iff_eq.mpr c12
            have c12b1 : (a0_3.toList != a1_3.toList) = false := bne_eq_false_iff_eq.mpr c12
            clear c12
            (first | rw [c12b0] | (simp only [i64_w, i32_w]; rw [c12b0]) | skip)
            have H' := Aside0.mk H
            clear H
            have hnb13 := NB212_213.out
            have hnc13 := NB213_212.out
            have hcz14_0 : w8.cell? ⟨gb212, 0, none⟩ = some (.int .i64 a0_0) := (blk_cell BK212.out 0).trans rfl
            have hcz14_1 : w8.cell? ⟨gb212, 1, none⟩ = some (.int .i64 a0_1) := (blk_cell BK212.out 1).trans rfl
            have hcz14_2 : w8.cell? ⟨gb212, 2, none⟩ = some (.int .i64 a0_2) := (blk_cell BK212.out 2).trans rfl
            have hcz14_3 : w8.cell? ⟨gb212, 3, none⟩ = some (.string a0_3) := (blk_cell BK212.out 3).trans rfl
            have hfz14_0 := blk_frozen BK212.out 0
            have hfz14_1 := blk_frozen BK212.out 1
            have hfz14_2 := blk_frozen BK212.out 2
            have hfz14_3 := blk_frozen BK212.out 3
            have hcz15_0 : w8.cell? ⟨gb213, 0, none⟩ = some (.int .i64 a1_0) := (blk_cell BK213.out 0).trans rfl
            have hcz15_1 : w8.cell? ⟨gb213, 1, none⟩ = some (.int .i64 a1_1) := (blk_cell BK213.out 1).trans rfl
            have hcz15_2 : w8.cell? ⟨gb213, 2, none⟩ = some (.int .i64 a1_2) := (blk_cell BK213.out 2).trans rfl
            have hcz15_3 : w8.cell? ⟨gb213, 3, none⟩ = some (.string a1_3) := (blk_cell BK213.out 3).trans rfl
            have hfz15_0 := blk_frozen BK213.out 0
            have hfz15_1 := blk_frozen BK213.out 1
            have hfz15_2 := blk_frozen BK213.out 2
            have hfz15_3 := blk_frozen BK213.out 3
            go_wp2
            go_meet
            case rel => exact ⟨_, (true), (by first | rfl | (simp; done) | (simp [*]; done)), H', ⟨by first | omega | exact Nat.le_refl _⟩, ⟨by (with_reducible repeat (first | refine blk_drewN ?_ _ | refine blk_drew ?_ | refine blk_alloc ?_ _)); exact BK212.out⟩, ⟨by (with_reducible repeat (first | refine blk_drewN ?_ _ | refine blk_drew ?_ | refine blk_alloc ?_ _)); exact BK213.out⟩, ⟨by repeat (first | (with_reducible first | exact HB.out | apply below_alloc | apply pw_below_drewN | apply below_drew1 | refine below_set ?_ GE212.out | refine below_set ?_ GE213.out) | exact HB.out)⟩⟩
          · rw [if_neg c12] at H
            have c12b0 : (a0_3.toList == a1_3.toList) = false := beq_eq_false_iff_ne.mpr c12
            have c12b1 : (a0_3.toList != a1_3.toList) = true := bne_iff_ne.mpr c12
            (first | rw [c12b0] | (simp only [i64_w, i32_w]; rw [c12b0]) | skip)
            have H' := Aside0.mk H
            clear H
            have hnb16 := NB212_213.out
            have hnc16 := NB213_212.out
            have hcz17_0 : w8.cell? ⟨gb212, 0, none⟩ = some (.int .i64 a0_0) := (blk_cell BK212.out 0).trans rfl
            have hcz17_1 : w8.cell? ⟨gb212, 1, none⟩ = some (.int .i64 a0_1) := (blk_cell BK212.out 1).trans rfl
            have hcz17_2 : w8.cell? ⟨gb212, 2, none⟩ = some (.int .i64 a0_2) := (blk_cell BK212.out 2).trans rfl
            have hcz17_3 : w8.cell? ⟨gb212, 3, none⟩ = some (.string a0_3) := (blk_cell BK212.out 3).trans rfl
            have hfz17_0 := blk_frozen BK212.out 0
            have hfz17_1 := blk_frozen BK212.out 1
            have hfz17_2 := blk_frozen BK212.out 2
            have hfz17_3 := blk_frozen BK212.out 3
            have hcz18_0 : w8.cell? ⟨gb213, 0, none⟩ = some (.int .i64 a1_0) := (blk_cell BK213.out 0).trans rfl
            have hcz18_1 : w8.cell? ⟨gb213, 1, none⟩ = some (.int .i64 a1_1) := (blk_cell BK213.out 1).trans rfl
            have hcz18_2 : w8.cell? ⟨gb213, 2, none⟩ = some (.int .i64 a1_2) := (blk_cell BK213.out 2).trans rfl
            have hcz18_3 : w8.cell? ⟨gb213, 3, none⟩ = some (.string a1_3) := (blk_cell BK213.out 3).trans rfl
            have hfz18_0 := blk_frozen BK213.out 0
            have hfz18_1 := blk_frozen BK213.out 1
            have hfz18_2 := blk_frozen BK213.out 2
            have hfz18_3 := blk_frozen BK213.out 3
            go_wp2
            go_meet
            case rel => exact ⟨_, ((a0_3.toList == ([] : List UInt8))), (by first | rfl | (simp; done) | (simp [*]; done)), H', ⟨by first | omega | exact Nat.le_refl _⟩, ⟨by (with_reducible repeat (first | refine blk_drewN ?_ _ | refine blk_drew ?_ | refine blk_alloc ?_ _)); exact BK212.out⟩, ⟨by (with_reducible repeat (first | refine blk_drewN ?_ _ | refine blk_drew ?_ | refine blk_alloc ?_ _)); exact BK213.out⟩, ⟨by repeat (first | (with_reducible first | exact HB.out | apply below_alloc | apply pw_below_drewN | apply below_drew1 | refine below_set ?_ GE212.out | refine below_set ?_ GE213.out) | exact HB.out)⟩⟩
        case rest =>
          clear HC6
          try clear c1
          try clear c2
          try clear p2
          try clear c3
          try clear c3b0
          try clear c3b1
          try clear c4
          try clear c4b0
          try clear c4b1
          try clear c5
          try clear c5b0
          try clear c5b1
          try clear c9
          try clear c12
          try clear c12b0
          try clear c12b1
          try clear c13
          try clear c16
          try clear hcz10_0
          try clear hcz10_1
          try clear hcz10_2
          try clear hcz10_3
          try clear hcz11_0
          try clear hcz11_1
          try clear hcz11_2
          try clear hcz11_3
          try clear hcz14_0
          try clear hcz14_1
          try clear hcz14_2
          try clear hcz14_3
          try clear hcz15_0
          try clear hcz15_1
          try clear hcz15_2
          try clear hcz15_3
          try clear hcz17_0
          try clear hcz17_1
          try clear hcz17_2
          try clear hcz17_3
          try clear hcz18_0
          try clear hcz18_1
          try clear hcz18_2
          try clear hcz18_3
          try clear hfz10_0
          try clear hfz10_1
          try clear hfz10_2
          try clear hfz10_3
          try clear hfz11_0
          try clear hfz11_1
          try clear hfz11_2
          try clear hfz11_3
          try clear hfz14_0
          try clear hfz14_1
          try clear hfz14_2
          try clear hfz14_3
          try clear hfz15_0
          try clear hfz15_1
          try clear hfz15_2
          try clear hfz15_3
          try clear hfz17_0
          try clear hfz17_1
          try clear hfz17_2
          try clear hfz17_3
          try clear hfz18_0
          try clear hfz18_1
          try clear hfz18_2
          try clear hfz18_3
          obtain ⟨kq, x38_5, rfl, HA, HJ5, BK212, BK213, HB⟩ := hcut
          cases kq with
          | zero => exact absurd HA.out (by simp [spec_LessVersion.j0])
          | succ kj5 =>
            have H := HA.out
            clear HA
            simp only [spec_LessVersion.j0] at H
            by_cases c19 : x38_5 = true
            · subst c19
              have H1 : (some false) = some r := by rw [if_pos rfl] at H; exact H
              clear H
              have H := H1
              clear H1
              obtain rfl := Option.some.inj H
              go_wp2
              go_ret
              exact ⟨by first | rfl | (simp [errW_none, errW_some] <;> rfl) | (simp [*, errW_none, errW_some] <;> rfl), by repeat (first | (with_reducible first | exact HB.out | apply below_alloc | apply pw_below_drewN | apply below_drew1 | refine below_set ?_ GE212.out | refine below_set ?_ GE213.out) | exact HB.out)⟩
            · replace c19 := Bool.eq_false_iff.mpr c19
              subst c19
              have H1 : (if a1_3.toList = ([] : List UInt8) then (some true) else ((spec_l3LessPre.f kj5 a0_3 a1_3).bind fun t214 => (some t214))) = some r := by rw [if_neg (show ¬ (false = true) by decide)] at H; exact H
              clear H
              have H := H1
              clear H1
              by_cases c20 : a1_3.toList = ([] : List UInt8)
              · rw [if_pos c20] at H
                have c20b0 : (a1_3.toList == ([] : List UInt8)) = true := beq_iff_eq.mpr c20
                have c20b1 : (a1_3.toList != ([] : List UInt8)) = false := bne_eq_false_iff_eq.mpr c20
                clear c20
                obtain rfl := Option.some.inj H
                have hnb21 := NB213_212.out
                have hnc21 := NB212_213.out
                have hcz22_0 : wc.cell? ⟨gb213, 0, none⟩ = some (.int .i64 a1_0) := (blk_cell BK213.out 0).trans rfl
                have hcz22_1 : wc.cell? ⟨gb213, 1, none⟩ = some (.int .i64 a1_1) := (blk_cell BK213.out 1).trans rfl
                have hcz22_2 : wc.cell? ⟨gb213, 2, none⟩ = some (.int .i64 a1_2) := (blk_cell BK213.out 2).trans rfl
                have hcz22_3 : wc.cell? ⟨gb213, 3, none⟩ = some (.string a1_3) := (blk_cell BK213.out 3).trans rfl
                have hfz22_0 := blk_frozen BK213.out 0
                have hfz22_1 := blk_frozen BK213.out 1
                have hfz22_2 := blk_frozen BK213.out 2
                have hfz22_3 := blk_frozen BK213.out 3
                go_wp2
                go_ret
                exact ⟨by first | rfl | (simp [errW_none, errW_some] <;> rfl) | (simp [*, errW_none, errW_some] <;> rfl), by repeat (first | (with_reducible first | exact HB.out | apply below_alloc | apply pw_below_drewN | apply below_drew1 | refine below_set ?_ GE212.out | refine below_set ?_ GE213.out) | exact HB.out)⟩
              · rw [if_neg c20] at H
                have c20b0 : (a1_3.toList == ([] : List UInt8)) = false := beq_eq_false_iff_ne.mpr c20
                have c20b1 : (a1_3.toList != ([] : List UInt8)) = true := bne_iff_ne.mpr c20
                replace H := Option.bind_eq_some_iff.mp H
                obtain ⟨t214, A230, H⟩ := H
                replace H : (some t214) = some r := H
                have A23 := Aside0.mk A230
                clear A230
                obtain rfl := Option.some.inj H
                have hnb24 := NB213_212.out
                have hnc24 := NB212_213.out
                have hcz25_0 : wc.cell? ⟨gb213, 0, none⟩ = some (.int .i64 a1_0) := (blk_cell BK213.out 0).trans rfl
                have hcz25_1 : wc.cell? ⟨gb213, 1, none⟩ = some (.int .i64 a1_1) := (blk_cell BK213.out 1).trans rfl
                have hcz25_2 : wc.cell? ⟨gb213, 2, none⟩ = some (.int .i64 a1_2) := (blk_cell BK213.out 2).trans rfl
                have hcz25_3 : wc.cell? ⟨gb213, 3, none⟩ = some (.string a1_3) := (blk_cell BK213.out 3).trans rfl
                have hfz25_0 := blk_frozen BK213.out 0
                have hfz25_1 := blk_frozen BK213.out 1
                have hfz25_2 := blk_frozen BK213.out 2
                have hfz25_3 := blk_frozen BK213.out 3
                have hcz26_0 : wc.cell? ⟨gb212, 0, none⟩ = some (.int .i64 a0_0) := (blk_cell BK212.out 0).trans rfl
                have hcz26_1 : wc.cell? ⟨gb212, 1, none⟩ = some (.int .i64 a0_1) := (blk_cell BK212.out 1).trans rfl
                have hcz26_2 : wc.cell? ⟨gb212, 2, none⟩ = some (.int .i64 a0_2) := (blk_cell BK212.out 2).trans rfl
                have hcz26_3 : wc.cell? ⟨gb212, 3, none⟩ = some (.string a0_3) := (blk_cell BK212.out 3).trans rfl
                have hfz26_0 := blk_frozen BK212.out 0
                have hfz26_1 := blk_frozen BK212.out 1
                have hfz26_2 := blk_frozen BK212.out 2
                have hfz26_3 := blk_frozen BK212.out 3
                go_wp2_with (first | ((with_reducible refine gate_callee (f := 51) rfl ?_); refine goesL_ (some 57) rfl rfl Tryd.func51 (by kernel_rfl) rfl #[.string a0_3, .string a1_3] rfl (by (try simp only [List.map_toArray, List.map_cons, List.map_nil]); first | done | rfl | (simp only [List.length_drop, List.length_take]; rfl)) ?_; (with_reducible refine (spec_l3LessPre.calls kj5 a0_3 a1_3 t214 _ A23.out).mono ?_); rintro e w27 ⟨rfl, hb⟩; refine ⟨_, rfl, ?_⟩; have n0_ := Aside0.mk (blk_below (g := gb212) (o := .cells #[.int .i64 a0_0, .int .i64 a0_1, .int .i64 a0_2, .string a0_3] 27 (0, 0)) (by (with_reducible repeat (first | refine blk_drewN ?_ _ | refine blk_drew ?_ | refine blk_alloc ?_ _)); exact BK212.out) hb); have n1_ := Aside0.mk (blk_below (g := gb213) (o := .cells #[.int .i64 a1_0, .int .i64 a1_1, .int .i64 a1_2, .string a1_3] 27 (0, 0)) (by (with_reducible repeat (first | refine blk_drewN ?_ _ | refine blk_drew ?_ | refine blk_alloc ?_ _)); exact BK213.out) hb); have n2_ := Aside0.mk (below_step (by repeat (first | (with_reducible first | exact HB.out | apply below_alloc | apply pw_below_drewN | apply below_drew1 | refine below_set ?_ GE212.out | refine below_set ?_ GE213.out) | exact HB.out)) hb); clear BK212; clear BK213; clear HB; have BK212 := n0_; have BK213 := n1_; have HB := n2_; clear n0_ n1_ n2_; (try clear hb); (try clear hb2); (try clear hk); (try clear hi)))
                go_ret
                exact ⟨by first | rfl | (simp [errW_none, errW_some] <;> rfl) | (simp [*, errW_none, errW_some] <;> rfl), by repeat (first | (with_reducible first | exact HB.out | apply below_alloc | apply pw_below_drewN | apply below_drew1 | refine below_set ?_ GE212.out | refine below_set ?_ GE213.out) | exact HB.out)⟩
      · rw [if_neg c5] at H
        have c5b0 : (a0_2 == a1_2) = false := beq_eq_false_iff_ne.mpr c5
        have c5b1 : (a0_2 != a1_2) = true := bne_iff_ne.mpr c5
        obtain rfl := Option.some.inj H
        go_enter Tryd.func24, Tryd.ntmps24
        go_wp2_with (first | ((with_reducible refine gate_dst (N := 2) rfl ?_); refine box_event ?hg (N := 2) ?hd (cs := #[.int .i64 a0_0, .int .i64 a0_1, .int .i64 a0_2, .string a0_3]) (t := 27) ?hr ?_; (case hd => rfl); (case hg => rfl); (case hr => first | (go_simp; done) | (go_simp; rfl)); intro gb212 hg w28 hbox hb; have n0_ := Aside0.mk (below_step (by repeat (first | (with_reducible first | exact HB.out | apply below_alloc | apply pw_below_drewN | apply below_drew1) | exact HB.out)) hb); have n1_ := Aside0.mk (hbox); have n2_ := Aside0.mk ((by rw [hg]; exact (below_size (by repeat (first | (with_reducible first | exact HB.out | apply below_alloc | apply pw_below_drewN | apply below_drew1) | exact HB.out))) : w.heap.size ≤ gb212)); have n3_ := Aside0.mk ((by rw [hg]; exact (below_size (by repeat (first | (with_reducible first | exact HB.out | apply below_alloc | apply pw_below_drewN | apply below_drew1) | exact HB.out))) : w.heap.size ≤ gb212)); clear HB; have HB := n0_; have BK212 := n1_; have GW212 := n2_; have GE212 := n3_; clear n0_ n1_ n2_ n3_; clear hb hbox hg) | ((with_reducible refine gate_dst (N := 3) rfl ?_); refine box_event ?hg (N := 3) ?hd (cs := #[.int .i64 a1_0, .int .i64 a1_1, .int .i64 a1_2, .string a1_3]) (t := 27) ?hr ?_; (case hd => rfl); (case hg => rfl); (case hr => first | (go_simp; done) | (go_simp; rfl)); intro gb213 hg w29 hbox hb; have n0_ := Aside0.mk (blk_below (g := gb212) (o := .cells #[.int .i64 a0_0, .int .i64 a0_1, .int .i64 a0_2, .string a0_3] 27 (0, 0)) (by (with_reducible repeat (first | refine blk_drewN ?_ _ | refine blk_drew ?_ | refine blk_alloc ?_ _)); exact BK212.out) hb); have n1_ := Aside0.mk (below_step (by repeat (first | (with_reducible first | exact HB.out | apply below_alloc | apply pw_below_drewN | apply below_drew1 | refine below_set ?_ GE212.out) | exact HB.out)) hb); have n2_ := Aside0.mk (hbox); have n3_ := Aside0.mk ((by rw [hg]; exact (below_size (by repeat (first | (with_reducible first | exact HB.out | apply below_alloc | apply pw_below_drewN | apply below_drew1 | refine below_set ?_ GE212.out) | exact HB.out))) : w.heap.size ≤ gb213)); have n4_ := Aside0.mk ((by rw [hg]; exact (below_size (by repeat (first | (with_reducible first | exact HB.out | apply below_alloc | apply pw_below_drewN | apply below_drew1 | refine below_set ?_ GE212.out) | exact HB.out))) : w.heap.size ≤ gb213)); have n5_ := Aside0.mk ((by rw [hg]; exact Nat.ne_of_lt (blk_lt (g := gb212) (o := .cells #[.int .i64 a0_0, .int .i64 a0_1, .int .i64 a0_2, .string a0_3] 27 (0, 0)) (by (with_reducible repeat (first | refine blk_drewN ?_ _ | refine blk_drew ?_ | refine blk_alloc ?_ _)); exact BK212.out)) : gb212 ≠ gb213)); have n6_ := Aside0.mk ((by rw [hg]; exact Nat.ne_of_gt (blk_lt (g := gb212) (o := .cells #[.int .i64 a0_0, .int .i64 a0_1, .int .i64 a0_2, .string a0_3] 27 (0, 0)) (by (with_reducible repeat (first | refine blk_drewN ?_ _ | refine blk_drew ?_ | refine blk_alloc ?_ _)); exact BK212.out)) : gb213 ≠ gb212)); clear BK212; clear HB; have BK212 := n0_; have HB := n1_; have BK213 := n2_; have GW213 := n3_; have GE213 := n4_; have NB212_213 := n5_; have NB213_212 := n6_; clear n0_ n1_ n2_ n3_ n4_ n5_ n6_; clear hb hbox hg; have hnb30 := NB212_213.out; have hnc30 := NB213_212.out; have hcz31_0 : w29.cell? ⟨gb212, 0, none⟩ = some (.int .i64 a0_0) := (blk_cell BK212.out 0).trans rfl; have hcz31_1 : w29.cell? ⟨gb212, 1, none⟩ = some (.int .i64 a0_1) := (blk_cell BK212.out 1).trans rfl; have hcz31_2 : w29.cell? ⟨gb212, 2, none⟩ = some (.int .i64 a0_2) := (blk_cell BK212.out 2).trans rfl; have hcz31_3 : w29.cell? ⟨gb212, 3, none⟩ = some (.string a0_3) := (blk_cell BK212.out 3).trans rfl; have hfz31_0 := blk_frozen BK212.out 0; have hfz31_1 := blk_frozen BK212.out 1; have hfz31_2 := blk_frozen BK212.out 2; have hfz31_3 := blk_frozen BK212.out 3; have hcz32_0 : w29.cell? ⟨gb213, 0, none⟩ = some (.int .i64 a1_0) := (blk_cell BK213.out 0).trans rfl; have hcz32_1 : w29.cell? ⟨gb213, 1, none⟩ = some (.int .i64 a1_1) := (blk_cell BK213.out 1).trans rfl; have hcz32_2 : w29.cell? ⟨gb213, 2, none⟩ = some (.int .i64 a1_2) := (blk_cell BK213.out 2).trans rfl; have hcz32_3 : w29.cell? ⟨gb213, 3, none⟩ = some (.string a1_3) := (blk_cell BK213.out 3).trans rfl; have hfz32_0 := blk_frozen BK213.out 0; have hfz32_1 := blk_frozen BK213.out 1; have hfz32_2 := blk_frozen BK213.out 2; have hfz32_3 := blk_frozen BK213.out 3))
        go_ret
        exact ⟨by first | rfl | (simp [errW_none, errW_some] <;> rfl) | (simp [*, errW_none, errW_some] <;> rfl), by repeat (first | (with_reducible first | exact HB.out | apply below_alloc | apply pw_below_drewN | apply below_drew1 | refine below_set ?_ GE212.out | refine below_set ?_ GE213.out) | exact HB.out)⟩
    · rw [if_neg c4] at H
      have c4b0 : (a0_1 == a1_1) = false := beq_eq_false_iff_ne.mpr c4
      have c4b1 : (a0_1 != a1_1) = true := bne_iff_ne.mpr c4
      obtain rfl := Option.some.inj H
      go_enter Tryd.func24, Tryd.ntmps24
      go_wp2_with (first | ((with_reducible refine gate_dst (N := 2) rfl ?_); refine box_event ?hg (N := 2) ?hd (cs := #[.int .i64 a0_0, .int .i64 a0_1, .int .i64 a0_2, .string a0_3]) (t := 27) ?hr ?_; (case hd => rfl); (case hg => rfl); (case hr => first | (go_simp; done) | (go_simp; rfl)); intro gb212 hg w33 hbox hb; have n0_ := Aside0.mk (below_step (by repeat (first | (with_reducible first | exact HB.out | apply below_alloc | apply pw_below_drewN | apply below_drew1) | exact HB.out)) hb); have n1_ := Aside0.mk (hbox); have n2_ := Aside0.mk ((by rw [hg]; exact (below_size (by repeat (first | (with_reducible first | exact HB.out | apply below_alloc | apply pw_below_drewN | apply below_drew1) | exact HB.out))) : w.heap.size ≤ gb212)); have n3_ := Aside0.mk ((by rw [hg]; exact (below_size (by repeat (first | (with_reducible first | exact HB.out | apply below_alloc | apply pw_below_drewN | apply below_drew1) | exact HB.out))) : w.heap.size ≤ gb212)); clear HB; have HB := n0_; have BK212 := n1_; have GW212 := n2_; have GE212 := n3_; clear n0_ n1_ n2_ n3_; clear hb hbox hg) | ((with_reducible refine gate_dst (N := 3) rfl ?_); refine box_event ?hg (N := 3) ?hd (cs := #[.int .i64 a1_0, .int .i64 a1_1, .int .i64 a1_2, .string a1_3]) (t := 27) ?hr ?_; (case hd => rfl); (case hg => rfl); (case hr => first | (go_simp; done) | (go_simp; rfl)); intro gb213 hg w34 hbox hb; have n0_ := Aside0.mk (blk_below (g := gb212) (o := .cells #[.int .i64 a0_0, .int .i64 a0_1, .int .i64 a0_2, .string a0_3] 27 (0, 0)) (by (with_reducible repeat (first | refine blk_drewN ?_ _ | refine blk_drew ?_ | refine blk_alloc ?_ _)); exact BK212.out) hb); have n1_ := Aside0.mk (below_step (by repeat (first | (with_reducible first | exact HB.out | apply below_alloc | apply pw_below_drewN | apply below_drew1 | refine below_set ?_ GE212.out) | exact HB.out)) hb); have n2_ := Aside0.mk (hbox); have n3_ := Aside0.mk ((by rw [hg]; exact (below_size (by repeat (first | (with_reducible first | exact HB.out | apply below_alloc | apply pw_below_drewN | apply below_drew1 | refine below_set ?_ GE212.out) | exact HB.out))) : w.heap.size ≤ gb213)); have n4_ := Aside0.mk ((by rw [hg]; exact (below_size (by repeat (first | (with_reducible first | exact HB.out | apply below_alloc | apply pw_below_drewN | apply below_drew1 | refine below_set ?_ GE212.out) | exact HB.out))) : w.heap.size ≤ gb213)); have n5_ := Aside0.mk ((by rw [hg]; exact Nat.ne_of_lt (blk_lt (g := gb212) (o := .cells #[.int .i64 a0_0, .int .i64 a0_1, .int .i64 a0_2, .string a0_3] 27 (0, 0)) (by (with_reducible repeat (first | refine blk_drewN ?_ _ | refine blk_drew ?_ | refine blk_alloc ?_ _)); exact BK212.out)) : gb212 ≠ gb213)); have n6_ := Aside0.mk ((by rw [hg]; exact Nat.ne_of_gt (blk_lt (g := gb212) (o := .cells #[.int .i64 a0_0, .int .i64 a0_1, .int .i64 a0_2, .string a0_3] 27 (0, 0)) (by (with_reducible repeat (first | refine blk_drewN ?_ _ | refine blk_drew ?_ | refine blk_alloc ?_ _)); exact BK212.out)) : gb213 ≠ gb212)); clear BK212; clear HB; have BK212 := n0_; have HB := n1_; have BK213 := n2_; have GW213 := n3_; have GE213 := n4_; have NB212_213 := n5_; have NB213_212 := n6_; clear n0_ n1_ n2_ n3_ n4_ n5_ n6_; clear hb hbox hg; have hnb35 := NB212_213.out; have hnc35 := NB213_212.out; have hcz36_0 : w34.cell? ⟨gb212, 0, none⟩ = some (.int .i64 a0_0) := (blk_cell BK212.out 0).trans rfl; have hcz36_1 : w34.cell? ⟨gb212, 1, none⟩ = some (.int .i64 a0_1) := (blk_cell BK212.out 1).trans rfl; have hcz36_2 : w34.cell? ⟨gb212, 2, none⟩ = some (.int .i64 a0_2) := (blk_cell BK212.out 2).trans rfl; have hcz36_3 : w34.cell? ⟨gb212, 3, none⟩ = some (.string a0_3) := (blk_cell BK212.out 3).trans rfl; have hfz36_0 := blk_frozen BK212.out 0; have hfz36_1 := blk_frozen BK212.out 1; have hfz36_2 := blk_frozen BK212.out 2; have hfz36_3 := blk_frozen BK212.out 3; have hcz37_0 : w34.cell? ⟨gb213, 0, none⟩ = some (.int .i64 a1_0) := (blk_cell BK213.out 0).trans rfl; have hcz37_1 : w34.cell? ⟨gb213, 1, none⟩ = some (.int .i64 a1_1) := (blk_cell BK213.out 1).trans rfl; have hcz37_2 : w34.cell? ⟨gb213, 2, none⟩ = some (.int .i64 a1_2) := (blk_cell BK213.out 2).trans rfl; have hcz37_3 : w34.cell? ⟨gb213, 3, none⟩ = some (.string a1_3) := (blk_cell BK213.out 3).trans rfl; have hfz37_0 := blk_frozen BK213.out 0; have hfz37_1 := blk_frozen BK213.out 1; have hfz37_2 := blk_frozen BK213.out 2; have hfz37_3 := blk_frozen BK213.out 3))
      go_ret
      exact ⟨by first | rfl | (simp [errW_none, errW_some] <;> rfl) | (simp [*, errW_none, errW_some] <;> rfl), by repeat (first | (with_reducible first | exact HB.out | apply below_alloc | apply pw_below_drewN | apply below_drew1 | refine below_set ?_ GE212.out | refine below_set ?_ GE213.out) | exact HB.out)⟩
  · rw [if_neg c3] at H
    have c3b0 : (a0_0 == a1_0) = false := beq_eq_false_iff_ne.mpr c3
    have c3b1 : (a0_0 != a1_0) = true := bne_iff_ne.mpr c3
    obtain rfl := Option.some.inj H
    go_enter Tryd.func24, Tryd.ntmps24
    go_wp2_with (first | ((with_reducible refine gate_dst (N := 2) rfl ?_); refine box_event ?hg (N := 2) ?hd (cs := #[.int .i64 a0_0, .int .i64 a0_1, .int .i64 a0_2, .string a0_3]) (t := 27) ?hr ?_; (case hd => rfl); (case hg => rfl); (case hr => first | (go_simp; done) | (go_simp; rfl)); intro gb212 hg w38 hbox hb; have n0_ := Aside0.mk (below_step (by repeat (first | (with_reducible first | exact HB.out | apply below_alloc | apply pw_below_drewN | apply below_drew1) | exact HB.out)) hb); have n1_ := Aside0.mk (hbox); have n2_ := Aside0.mk ((by rw [hg]; exact (below_size (by repeat (first | (with_reducible first | exact HB.out | apply below_alloc | apply pw_below_drewN | apply below_drew1) | exact HB.out))) : w.heap.size ≤ gb212)); have n3_ := Aside0.mk ((by rw [hg]; exact (below_size (by repeat (first | (with_reducible first | exact HB.out | apply below_alloc | apply pw_below_drewN | apply below_drew1) | exact HB.out))) : w.heap.size ≤ gb212)); clear HB; have HB := n0_; have BK212 := n1_; have GW212 := n2_; have GE212 := n3_; clear n0_ n1_ n2_ n3_; clear hb hbox hg) | ((with_reducible refine gate_dst (N := 3) rfl ?_); refine box_event ?hg (N := 3) ?hd (cs := #[.int .i64 a1_0, .int .i64 a1_1, .int .i64 a1_2, .string a1_3]) (t := 27) ?hr ?_; (case hd => rfl); (case hg => rfl); (case hr => first | (go_simp; done) | (go_simp; rfl)); intro gb213 hg w39 hbox hb; have n0_ := Aside0.mk (blk_below (g := gb212) (o := .cells #[.int .i64 a0_0, .int .i64 a0_1, .int .i64 a0_2, .string a0_3] 27 (0, 0)) (by (with_reducible repeat (first | refine blk_drewN ?_ _ | refine blk_drew ?_ | refine blk_alloc ?_ _)); exact BK212.out) hb); have n1_ := Aside0.mk (below_step (by repeat (first | (with_reducible first | exact HB.out | apply below_alloc | apply pw_below_drewN | apply below_drew1 | refine below_set ?_ GE212.out) | exact HB.out)) hb); have n2_ := Aside0.mk (hbox); have n3_ := Aside0.mk ((by rw [hg]; exact (below_size (by repeat (first | (with_reducible first | exact HB.out | apply below_alloc | apply pw_below_drewN | apply below_drew1 | refine below_set ?_ GE212.out) | exact HB.out))) : w.heap.size ≤ gb213)); have n4_ := Aside0.mk ((by rw [hg]; exact (below_size (by repeat (first | (with_reducible first | exact HB.out | apply below_alloc | apply pw_below_drewN | apply below_drew1 | refine below_set ?_ GE212.out) | exact HB.out))) : w.heap.size ≤ gb213)); have n5_ := Aside0.mk ((by rw [hg]; exact Nat.ne_of_lt (blk_lt (g := gb212) (o := .cells #[.int .i64 a0_0, .int .i64 a0_1, .int .i64 a0_2, .string a0_3] 27 (0, 0)) (by (with_reducible repeat (first | refine blk_drewN ?_ _ | refine blk_drew ?_ | refine blk_alloc ?_ _)); exact BK212.out)) : gb212 ≠ gb213)); have n6_ := Aside0.mk ((by rw [hg]; exact Nat.ne_of_gt (blk_lt (g := gb212) (o := .cells #[.int .i64 a0_0, .int .i64 a0_1, .int .i64 a0_2, .string a0_3] 27 (0, 0)) (by (with_reducible repeat (first | refine blk_drewN ?_ _ | refine blk_drew ?_ | refine blk_alloc ?_ _)); exact BK212.out)) : gb213 ≠ gb212)); clear BK212; clear HB; have BK212 := n0_; have HB := n1_; have BK213 := n2_; have GW213 := n3_; have GE213 := n4_; have NB212_213 := n5_; have NB213_212 := n6_; clear n0_ n1_ n2_ n3_ n4_ n5_ n6_; clear hb hbox hg; have hnb40 := NB212_213.out; have hnc40 := NB213_212.out; have hcz41_0 : w39.cell? ⟨gb212, 0, none⟩ = some (.int .i64 a0_0) := (blk_cell BK212.out 0).trans rfl; have hcz41_1 : w39.cell? ⟨gb212, 1, none⟩ = some (.int .i64 a0_1) := (blk_cell BK212.out 1).trans rfl; have hcz41_2 : w39.cell? ⟨gb212, 2, none⟩ = some (.int .i64 a0_2) := (blk_cell BK212.out 2).trans rfl; have hcz41_3 : w39.cell? ⟨gb212, 3, none⟩ = some (.string a0_3) := (blk_cell BK212.out 3).trans rfl; have hfz41_0 := blk_frozen BK212.out 0; have hfz41_1 := blk_frozen BK212.out 1; have hfz41_2 := blk_frozen BK212.out 2; have hfz41_3 := blk_frozen BK212.out 3; have hcz42_0 : w39.cell? ⟨gb213, 0, none⟩ = some (.int .i64 a1_0) := (blk_cell BK213.out 0).trans rfl; have hcz42_1 : w39.cell? ⟨gb213, 1, none⟩ = some (.int .i64 a1_1) := (blk_cell BK213.out 1).trans rfl; have hcz42_2 : w39.cell? ⟨gb213, 2, none⟩ = some (.int .i64 a1_2) := (blk_cell BK213.out 2).trans rfl; have hcz42_3 : w39.cell? ⟨gb213, 3, none⟩ = some (.string a1_3) := (blk_cell BK213.out 3).trans rfl; have hfz42_0 := blk_frozen BK213.out 0; have hfz42_1 := blk_frozen BK213.out 1; have hfz42_2 := blk_frozen BK213.out 2; have hfz42_3 := blk_frozen BK213.out 3))
    go_ret
    exact ⟨by first | rfl | (simp [errW_none, errW_some] <;> rfl) | (simp [*, errW_none, errW_some] <;> rfl), by repeat (first | (with_reducible first | exact HB.out | apply below_alloc | apply pw_below_drewN | apply below_drew1 | refine below_set ?_ GE212.out | refine below_set ?_ GE213.out) | exact HB.out)⟩

end Go.Proofs.YtagbldaiedmikaaDoor.X

/- Versions set in order, the program's way: what it gives. Plain lemmas. -/
set_option linter.unusedVariables false
namespace Go.Proofs.YtagbldaiedmikaaDoor.Z
open Go.RowKit Go.Proofs.YtagbldaiedmikaaDoorW.PrintWords Go.Proofs.YtagbldaiedmikaaDoorW.PrintMore Go.Proofs.YtagbldaiedmikaaDoor.X Go.Proofs.YtagbldaiedmikaaDoor.Sp
def cmpI (a b : Int) : Int := if a < b then -1 else if a > b then 1 else 0
theorem cmpI_ev (a b : Int) : cmp_Compare_int.f a b = some (cmpI a b) := by
  unfold cmp_Compare_int.f cmp_isNaN_int.f cmpI
  simp only [bne_self_eq_false, Option.bind_some, Bool.false_eq_true, if_false]
  split
  · rfl
  · split <;> rfl
theorem cmpI_zero {a b : Int} : cmpI a b = 0 ↔ a = b := by
  unfold cmpI
  split
  · omega
  · split <;> omega
theorem cmpI_neg {a b : Int} : cmpI a b < 0 ↔ a < b := by
  unfold cmpI
  split
  · omega
  · split <;> omega
def cmpS (a b : ByteArray) : Int := if Op.bytesLess a.data.toList b.data.toList = true then -1 else if Op.bytesLess b.data.toList a.data.toList = true then 1 else 0
theorem cmpS_ev (a b : ByteArray) : cmp_Compare_string.f a b = some (cmpS a b) := by
  unfold cmp_Compare_string.f cmp_isNaN_string.f cmpS
  simp only [bne_self_eq_false, Option.bind_some, Bool.false_eq_true, if_false, tl]
  split
  · rfl
  · split <;> rfl
theorem cmpS_zero {a b : ByteArray} : cmpS a b = 0 ↔ a = b := by
  unfold cmpS
  by_cases h1 : Op.bytesLess a.data.toList b.data.toList = true
  · rw [if_pos h1]
    refine ⟨fun e => by omega, fun e => ?_⟩
    subst e
    rw [Y.less_self] at h1
    cases h1
  · rw [if_neg h1]
    by_cases h2 : Op.bytesLess b.data.toList a.data.toList = true
    · rw [if_pos h2]
      refine ⟨fun e => by omega, fun e => ?_⟩
      subst e
      rw [Y.less_self] at h2
      cases h2
    · rw [if_neg h2]
      refine ⟨fun _ => ?_, fun _ => rfl⟩
      have h := Y.less_eq (a := a.data.toList) (b := b.data.toList) (by simpa using h1) (by simpa using h2)
      rw [← tl, ← tl] at h
      exact tl_inj.1 (by simpa using h)
theorem cmpS_neg {a b : ByteArray} : cmpS a b < 0 ↔ Op.bytesLess a.data.toList b.data.toList = true := by
  unfold cmpS
  split
  · rename_i h; simp [h]
  · rename_i h
    split <;> simp [h]
theorem or_l0 (l : List Int) (hl : l.length ≤ 10) (d : Nat) : ∀ i : Nat, i + d = l.length → Ev (fun k => cmp_Or_int.l0 k 0 l (l.length : Int) (i : Int)) ((l.drop i).foldr (fun x y => if x = 0 then y else x) 0) := by
  induction d with
  | zero =>
    intro i hi
    rw [List.drop_eq_nil_of_le (by omega)]
    refine evS (fun k => by rw [cmp_Or_int.l0]) ?_
    exact evF (by omega) (evR rfl)
  | succ d ih =>
    intro i hi
    have hlt : i < l.length := by omega
    have hr : rd l (i : Int) = l[i] := by
      have := rd_get hlt
      rw [List.getElem?_eq_getElem hlt] at this
      exact (Option.some.inj this).symm
    rw [List.drop_eq_getElem_cons hlt]
    refine evS (fun k => by rw [cmp_Or_int.l0]) ?_
    rw [hr, w64s hlt (by omega)]
    refine evT (by omega) (evT (by omega) (evT (by omega) ?_))
    by_cases hx : l[i] = 0
    · refine evT hx (evE ?_ (ih (i + 1) (by omega)))
      rw [List.foldr_cons, if_pos hx]
    · refine evF hx (evR ?_)
      rw [List.foldr_cons, if_neg hx]
theorem or_ev (l : List Int) (hl : l.length ≤ 10) : Ev (fun k => cmp_Or_int.f k l) (l.foldr (fun x y => if x = 0 then y else x) 0) := or_l0 l hl l.length 0 (by omega)
/-- Two parts. -/
def cp (a b : ByteArray) : Int :=
  if short a && short b then (if cmpI a.size b.size = 0 then cmpS a b else cmpI a.size b.size) else if short a then -1 else if short b then 1 else cmpS a b
theorem cp_zero {a b : ByteArray} : cp a b = 0 ↔ a = b := by
  unfold cp
  by_cases h1 : short a = true
  · by_cases h2 : short b = true
    · rw [h1, h2]
      simp only [Bool.and_self, if_true]
      by_cases h : cmpI a.size b.size = 0
      · rw [if_pos h]; exact cmpS_zero
      · rw [if_neg h]
        refine ⟨fun e => absurd e h, fun e => ?_⟩
        subst e
        exact absurd (cmpI_zero.2 rfl) h
    · simp only [h1, h2, Bool.and_false, Bool.false_eq_true, if_false, if_true]
      refine ⟨fun e => by omega, fun e => ?_⟩
      subst e
      exact absurd h1 h2
  · by_cases h2 : short b = true
    · simp only [h1, h2, Bool.false_and, Bool.false_eq_true, if_false, if_true]
      refine ⟨fun e => by omega, fun e => ?_⟩
      subst e
      exact absurd h2 h1
    · simp only [h1, h2, Bool.false_and, Bool.false_eq_true, if_false]
      exact cmpS_zero
theorem cp_ev (a b : ByteArray) (ha : a.size ≤ 1048576) (hb : b.size ≤ 1048576) : Ev (fun k => impl_comparePart.f k a b) (cp a b) := by
  have hor : Ev (fun k => cmp_Or_int.f k [cmpI a.size b.size, cmpS a b]) (if cmpI a.size b.size = 0 then cmpS a b else cmpI a.size b.size) := by
    refine evE ?_ (or_ev [cmpI a.size b.size, cmpS a b] (by simp))
    simp only [List.foldr_cons, List.foldr_nil]
    split
    · split <;> omega
    · rfl
  have hj : ∀ x y : Bool, short a = x → short b = y → Ev (fun k => impl_comparePart.j0 k a b x y) (cp a b) := by
    intro x y hx hy
    have hcp : cp a b = if x && y then (if cmpI a.size b.size = 0 then cmpS a b else cmpI a.size b.size) else if x then -1 else if y then 1 else cmpS a b := by
      unfold cp
      rw [hx, hy]
    rw [hcp]
    cases x with
    | true =>
      cases y with
      | true =>
        refine evS (fun k => by rw [impl_comparePart.j0]) (evT rfl ?_)
        refine evS (fun k => by rw [impl_comparePart.j1]) (evT rfl ?_)
        exact evC (cmpI_ev _ _) (evC (cmpS_ev _ _) (evB hor (evR rfl)))
      | false =>
        refine evS (fun k => by rw [impl_comparePart.j0]) (evT rfl ?_)
        refine evS (fun k => by rw [impl_comparePart.j1]) (evF Bool.false_ne_true (evT rfl ?_))
        exact evR rfl
    | false =>
      refine evS (fun k => by rw [impl_comparePart.j0]) (evF Bool.false_ne_true ?_)
      refine evS (fun k => by rw [impl_comparePart.j1]) (evF Bool.false_ne_true (evF Bool.false_ne_true ?_))
      cases y with
      | true => exact evT rfl (evR rfl)
      | false => exact evF Bool.false_ne_true (evC (cmpS_ev _ _) (evR rfl))
  have e1 : ∀ s : ByteArray, decide ((s.size : Int) ≤ 8) = decide (s.size ≤ 8) := fun s => decide_eq_decide.2 (by omega)
  unfold impl_comparePart.f
  rw [e1, e1]
  refine evB (num_impl a ha) ?_
  cases hna : num a with
  | true =>
    refine evT rfl (evB (num_impl b hb) ?_)
    have hx : short a = decide (a.size ≤ 8) := by unfold short; rw [hna]; simp
    cases hnb : num b with
    | true => exact evT rfl (hj _ _ hx (by unfold short; rw [hnb]; simp))
    | false => exact evF Bool.false_ne_true (hj _ _ hx (by unfold short; rw [hnb]; simp))
  | false =>
    refine evF Bool.false_ne_true (evB (num_impl b hb) ?_)
    have hx : short a = false := by unfold short; rw [hna]; simp
    cases hnb : num b with
    | true => exact evT rfl (hj _ _ hx (by unfold short; rw [hnb]; simp))
    | false => exact evF Bool.false_ne_true (hj _ _ hx (by unfold short; rw [hnb]; simp))
/-- Two lists of parts. -/
def lcp : List ByteArray → List ByteArray → Int
  | [], [] => 0
  | [], _ :: _ => -1
  | _ :: _, [] => 1
  | a :: l, b :: m => if cp a b = 0 then lcp l m else cp a b
theorem lcp_l0 (l m : List ByteArray) (hl : l.length ≤ 1048577) (hm : m.length ≤ 1048577) (zl : ∀ x ∈ l, x.size ≤ 1048576) (zm : ∀ x ∈ m, x.size ≤ 1048576) (n : Nat) (hn : n = min l.length m.length) (d : Nat) : ∀ i : Nat, i + d = n →
    Ev (fun k => impl_comparePre.l0 k l m (n : Int) (i : Int)) (lcp (l.drop i) (m.drop i)) := by
  induction d with
  | zero =>
    intro i hi
    refine evS (fun k => by rw [impl_comparePre.l0]) ?_
    refine evF (by omega) (evC (cmpI_ev _ _) (evR ?_))
    by_cases h1 : l.length ≤ i
    · rw [List.drop_eq_nil_of_le h1]
      by_cases h2 : m.length ≤ i
      · rw [List.drop_eq_nil_of_le h2]
        exact cmpI_zero.2 (by omega)
      · rw [List.drop_eq_getElem_cons (show i < m.length by omega)]
        unfold cmpI
        rw [if_pos (by omega)]
        rfl
    · rw [List.drop_eq_getElem_cons (show i < l.length by omega), List.drop_eq_nil_of_le (show m.length ≤ i by omega)]
      unfold cmpI
      rw [if_neg (by omega), if_pos (by omega)]
      rfl
  | succ d ih =>
    intro i hi
    have il : i < l.length := by omega
    have im : i < m.length := by omega
    have gl : rdOf ByteArray.empty l (i : Int) = l[i] := by
      have := rdOf_get (d := ByteArray.empty) il
      rw [List.getElem?_eq_getElem il] at this
      exact (Option.some.inj this).symm
    have gm : rdOf ByteArray.empty m (i : Int) = m[i] := by
      have := rdOf_get (d := ByteArray.empty) im
      rw [List.getElem?_eq_getElem im] at this
      exact (Option.some.inj this).symm
    rw [List.drop_eq_getElem_cons il, List.drop_eq_getElem_cons im, lcp]
    refine evS (fun k => by rw [impl_comparePre.l0]) ?_
    rw [gl, gm, w64s il (by omega)]
    refine evT (by omega) (evT (by omega) (evT (by omega) (evT (by omega) (evB (cp_ev _ _ (zl _ (List.getElem_mem il)) (zm _ (List.getElem_mem im))) ?_))))
    by_cases hc : cp l[i] m[i] = 0
    · rw [if_pos hc]
      exact evT hc (ih (i + 1) (by omega))
    · rw [if_neg hc]
      exact evF hc (evR rfl)
/-- Two texts behind the numbers. -/
def cpre (a b : ByteArray) : Int := if a = b then 0 else if a.size = 0 then 1 else if b.size = 0 then -1 else lcp (pieces 46 a) (pieces 46 b)
theorem nil_iff (s : ByteArray) : s.toList = ([] : List UInt8) ↔ s.size = 0 := by
  rw [tl]
  have := data_length s
  constructor
  · intro e; rw [e] at this; simpa using this.symm
  · intro e; exact List.eq_nil_of_length_eq_zero (by omega)
theorem split_impl' (s : ByteArray) (hs : s.size ≤ 1048576) (c : UInt8) : strings_Split.f s (⟨#[c]⟩ : ByteArray) = some (pieces c s) := by
  unfold strings_Split.f
  rw [if_pos ⟨by omega, rfl⟩]
  rfl
theorem cpre_ev (a b : ByteArray) (ha : a.size ≤ 1048576) (hb : b.size ≤ 1048576) : Ev (fun k => impl_comparePre.f k a b) (cpre a b) := by
  unfold impl_comparePre.f cpre
  by_cases h : a = b
  · rw [if_pos h]
    exact evT (by rw [h]) (evR rfl)
  rw [if_neg h]
  refine evF (fun e => h (tl_inj.1 e)) ?_
  by_cases h1 : a.size = 0
  · rw [if_pos h1]
    exact evT ((nil_iff a).2 h1) (evR rfl)
  rw [if_neg h1]
  refine evF (fun e => h1 ((nil_iff a).1 e)) ?_
  by_cases h2 : b.size = 0
  · rw [if_pos h2]
    exact evT ((nil_iff b).2 h2) (evR rfl)
  rw [if_neg h2]
  refine evF (fun e => h2 ((nil_iff b).1 e)) (evC (split_impl' a ha 46) (evC (split_impl' b hb 46) ?_))
  have ca := pieces_count 46 a
  have cb := pieces_count 46 b
  have hm : mn ((pieces 46 a).length : Int) ((pieces 46 b).length : Int) = ((min (pieces 46 a).length (pieces 46 b).length : Nat) : Int) := by unfold mn; omega
  rw [hm]
  have := lcp_l0 (pieces 46 a) (pieces 46 b) (by omega) (by omega) (fun x hx => by have := pieces_mem 46 a x hx; omega) (fun x hx => by have := pieces_mem 46 b x hx; omega) _ rfl _ 0 (Nat.zero_add _)
  exact this
/-- Two versions. -/
def cmpV (a0 a1 a2 : Int) (a3 : ByteArray) (b0 b1 b2 : Int) (b3 : ByteArray) : Int :=
  if cmpI a0 b0 = 0 then (if cmpI a1 b1 = 0 then (if cmpI a2 b2 = 0 then cpre a3 b3 else cmpI a2 b2) else cmpI a1 b1) else cmpI a0 b0
theorem less_impl (a0 a1 a2 : Int) (a3 : ByteArray) (b0 b1 b2 : Int) (b3 : ByteArray) (ha : a3.size ≤ 1048576) (hb : b3.size ≤ 1048576) :
    Ev (fun k => impl_LessVersion.f k a0 a1 a2 a3 b0 b1 b2 b3) (decide (cmpV a0 a1 a2 a3 b0 b1 b2 b3 < 0)) := by
  unfold impl_LessVersion.f
  refine evB (a := cmpV a0 a1 a2 a3 b0 b1 b2 b3) ?_ (evR rfl)
  unfold impl_compare.f
  refine evC (cmpI_ev _ _) (evC (cmpI_ev _ _) (evC (cmpI_ev _ _) (evB (cpre_ev _ _ ha hb) (evB (or_ev [cmpI a0 b0, cmpI a1 b1, cmpI a2 b2, cpre a3 b3] (by simp)) (evR ?_)))))
  simp only [List.foldr_cons, List.foldr_nil]
  unfold cmpV
  split
  · split
    · split
      · split <;> omega
      · rfl
    · rfl
  · rfl
end Go.Proofs.YtagbldaiedmikaaDoor.Z

/- Versions set in order, the reference's way: the same. Plain lemmas. -/
set_option linter.unusedVariables false
namespace Go.Proofs.YtagbldaiedmikaaDoor.Z
open Go.RowKit Go.Proofs.YtagbldaiedmikaaDoorW.PrintWords Go.Proofs.YtagbldaiedmikaaDoorW.PrintMore Go.Proofs.YtagbldaiedmikaaDoor.X Go.Proofs.YtagbldaiedmikaaDoor.Sp
theorem digit_lt {a b : UInt8} (ha : isD a = true) (hb : isD b = true) : digit a < digit b ↔ a < b := by
  have h1 := (isD_iff a).1 ha
  have h2 := (isD_iff b).1 hb
  unfold digit
  rw [UInt8.lt_iff_toNat_lt]
  omega
theorem less_val : ∀ x y : List UInt8, x.all isD = true → y.all isD = true → x.length = y.length → (Op.bytesLess x y = true ↔ val x < val y)
  | [], [], _, _, _ => by simp [Op.bytesLess]
  | [], _ :: _, _, _, h => by simp at h
  | _ :: _, [], _, _, h => by simp at h
  | a :: x, b :: y, hx, hy, hl => by
    simp only [List.all_cons, Bool.and_eq_true] at hx hy
    have hl' : x.length = y.length := by simpa using hl
    have ih := less_val x y hx.2 hy.2 hl'
    have vx := val_lt x hx.2
    have vy := val_lt y hy.2
    rw [val_cons, val_cons, ← hl'] 
    rw [← hl'] at vy
    have hd := digit_lt hx.1 hy.1
    have hd' := digit_lt hy.1 hx.1
    generalize 10 ^ x.length = p at *
    by_cases h1 : a < b
    · have h2 : digit a + 1 ≤ digit b := hd.2 h1
      have h3 : (digit a + 1) * p ≤ digit b * p := Nat.mul_le_mul_right _ h2
      rw [Nat.add_mul] at h3
      simp only [Op.bytesLess, h1, decide_true, Bool.true_or, true_iff]
      omega
    · by_cases h4 : a = b
      · subst h4
        simp only [Op.bytesLess, h1, decide_false, Bool.false_or, beq_self_eq_true, Bool.true_and]
        rw [ih]
        omega
      · have h5 : b < a := by
          rw [UInt8.lt_iff_toNat_lt] at h1 ⊢
          have : a.toNat ≠ b.toNat := fun e => h4 (UInt8.toNat_inj.1 e)
          omega
        have h2 : digit b + 1 ≤ digit a := hd'.2 h5
        have h3 : (digit b + 1) * p ≤ digit a * p := Nat.mul_le_mul_right _ h2
        rw [Nat.add_mul] at h3
        simp only [Op.bytesLess, h1, decide_false, Bool.false_or, beq_eq_false_iff_ne.2 h4, Bool.false_and, Bool.false_eq_true, false_iff]
        omega
theorem short_all {s : ByteArray} (h : short s = true) : s.data.toList.all isD = true ∧ 0 < s.size ∧ s.size ≤ 8 ∧ (s.data.toList = [48] ∨ bt s 0 ≠ 48) := by
  simp only [short, num, figs, Bool.and_eq_true, Bool.or_eq_true, decide_eq_true_eq] at h
  exact ⟨h.1.1.1, by have := h.1.1.2; omega, h.2, h.1.2⟩
theorem short_lead {s : ByteArray} (h : short s = true) (h1 : 1 < s.size) : 10 ^ (s.size - 1) ≤ val s.data.toList := by
  obtain ⟨ha, hz, h8, hb⟩ := short_all h
  have hl := data_length s
  have hne : ¬ s.data.toList = [48] := fun e => by rw [e] at hl; simp at hl; omega
  have hb0 := hb.resolve_left hne
  have hat : bt s 0 = _ := byte_at s 0 (by omega)
  cases hs : s.data.toList with
  | nil => rw [hs] at hl; simp at hl; omega
  | cons b l =>
    rw [hat] at hb0
    simp only [hs, List.getElem_cons_zero] at hb0
    rw [hs] at ha hl
    simp only [List.all_cons, Bool.and_eq_true] at ha
    have hd := (isD_iff b).1 ha.1
    rw [val_cons, show s.size - 1 = l.length by simp at hl; omega]
    have : 1 * 10 ^ l.length ≤ digit b * 10 ^ l.length := Nat.mul_le_mul_right _ (by unfold digit; omega)
    omega
theorem numS_pos (s : ByteArray) : 0 ≤ numS s ↔ short s = true := by
  unfold numS
  split
  · rename_i h; simp [h]
  · rename_i h; simp [h]
theorem numS_val {s : ByteArray} (h : short s = true) : numS s = ((val s.data.toList : Nat) : Int) := by unfold numS; rw [if_pos h]
theorem short_less {a b : ByteArray} (ha : short a = true) (hb : short b = true) (h : a.size < b.size) : val a.data.toList < val b.data.toList := by
  obtain ⟨aa, az, _, _⟩ := short_all ha
  obtain ⟨_, bz, _, _⟩ := short_all hb
  have h1 := val_lt _ aa
  rw [data_length] at h1
  have h2 := short_lead hb (by omega)
  have h3 : 10 ^ a.size ≤ 10 ^ (b.size - 1) := Nat.pow_le_pow_right (by decide) (by omega)
  omega
def lp (a b : ByteArray) : Bool := if 0 ≤ numS a then (if 0 ≤ numS b then decide (numS a < numS b) else true) else if 0 ≤ numS b then false else Op.bytesLess a.data.toList b.data.toList
theorem cp_neg (a b : ByteArray) : lp a b = decide (cp a b < 0) := by
  unfold lp cp
  by_cases h1 : short a = true
  · rw [if_pos ((numS_pos a).2 h1)]
    by_cases h2 : short b = true
    · rw [if_pos ((numS_pos b).2 h2), h1, h2, numS_val h1, numS_val h2]
      simp only [Bool.and_self, if_true]
      refine decide_eq_decide.2 ?_
      by_cases h : cmpI a.size b.size = 0
      · rw [if_pos h]
        have hs : a.size = b.size := by have := cmpI_zero.1 h; omega
        rw [cmpS_neg, less_val _ _ (short_all h1).1 (short_all h2).1 (by rw [data_length, data_length]; exact hs)]
        omega
      · rw [if_neg h, cmpI_neg]
        have hs : ¬ a.size = b.size := fun e => h (cmpI_zero.2 (by omega))
        by_cases hlt : a.size < b.size
        · have := short_less h1 h2 hlt
          omega
        · have := short_less h2 h1 (by omega)
          omega
    · rw [if_neg (fun e => h2 ((numS_pos b).1 e))]
      simp only [h1, h2, Bool.and_false, Bool.false_eq_true, if_false, if_true]
      rfl
  · rw [if_neg (fun e => h1 ((numS_pos a).1 e))]
    by_cases h2 : short b = true
    · rw [if_pos ((numS_pos b).2 h2)]
      simp only [h1, h2, Bool.false_and, Bool.false_eq_true, if_false, if_true]
      rfl
    · rw [if_neg (fun e => h2 ((numS_pos b).1 e))]
      simp only [h1, h2, Bool.false_and, Bool.false_eq_true, if_false]
      by_cases hb : Op.bytesLess a.data.toList b.data.toList = true
      · rw [hb, decide_eq_true (cmpS_neg.2 hb)]
      · rw [Bool.eq_false_iff.2 hb, decide_eq_false (fun e => hb (cmpS_neg.1 e))]
theorem lp_spec (a b : ByteArray) (ha : a.size ≤ 1048576) (hb : b.size ≤ 1048576) : Ev (fun k => spec_l3LessPart.f k a b) (lp a b) := by
  unfold spec_l3LessPart.f
  refine evB (numS_spec a ha) (evB (numS_spec b hb) ?_)
  by_cases h1 : 0 ≤ numS a
  · refine evT h1 ?_
    refine evS (fun k => by rw [spec_l3LessPart.j0]) ?_
    by_cases h2 : 0 ≤ numS b
    · exact evT (decide_eq_true h2) (evR (by unfold lp; rw [if_pos h1, if_pos h2]))
    · exact evF (by simpa using h2) (evT h1 (evR (by unfold lp; rw [if_pos h1, if_neg h2])))
  · refine evF h1 ?_
    refine evS (fun k => by rw [spec_l3LessPart.j0]) (evF Bool.false_ne_true (evF h1 ?_))
    by_cases h2 : 0 ≤ numS b
    · exact evT h2 (evR (by unfold lp; rw [if_neg h1, if_pos h2]))
    · exact evF h2 (evR (by unfold lp; rw [if_neg h1, if_neg h2, tl, tl]))
theorem lcp_spec (l m : List ByteArray) (hl : l.length ≤ 1048577) (hm : m.length ≤ 1048577) (zl : ∀ x ∈ l, x.size ≤ 1048576) (zm : ∀ x ∈ m, x.size ≤ 1048576) (d : Nat) : ∀ i : Nat, i + d = min l.length m.length →
    Ev (fun k => spec_l3LessPre.l0 k l m (i : Int)) (decide (lcp (l.drop i) (m.drop i) < 0)) := by
  induction d with
  | zero =>
    intro i hi
    by_cases h1 : l.length ≤ i
    · refine evS (fun k => by rw [spec_l3LessPre.l0]) (evF (by omega) ?_)
      refine evS (fun k => by rw [spec_l3LessPre.j1]) (evF Bool.false_ne_true (evR ?_))
      rw [List.drop_eq_nil_of_le h1]
      by_cases h2 : m.length ≤ i
      · rw [List.drop_eq_nil_of_le h2]
        exact decide_eq_decide.2 (by simp only [lcp]; omega)
      · rw [List.drop_eq_getElem_cons (show i < m.length by omega)]
        exact decide_eq_decide.2 (by simp only [lcp]; omega)
    · refine evS (fun k => by rw [spec_l3LessPre.l0]) (evT (by omega) ?_)
      refine evS (fun k => by rw [spec_l3LessPre.j1]) (evF (by simp; omega) (evR ?_))
      rw [List.drop_eq_getElem_cons (show i < l.length by omega), List.drop_eq_nil_of_le (show m.length ≤ i by omega)]
      exact decide_eq_decide.2 (by simp only [lcp]; omega)
  | succ d ih =>
    intro i hi
    have il : i < l.length := by omega
    have im : i < m.length := by omega
    have gl : rdOf ByteArray.empty l (i : Int) = l[i] := by
      have := rdOf_get (d := ByteArray.empty) il
      rw [List.getElem?_eq_getElem il] at this
      exact (Option.some.inj this).symm
    have gm : rdOf ByteArray.empty m (i : Int) = m[i] := by
      have := rdOf_get (d := ByteArray.empty) im
      rw [List.getElem?_eq_getElem im] at this
      exact (Option.some.inj this).symm
    rw [List.drop_eq_getElem_cons il, List.drop_eq_getElem_cons im, lcp]
    refine evS (fun k => by rw [spec_l3LessPre.l0]) (evT (by omega) ?_)
    refine evS (fun k => by rw [spec_l3LessPre.j1]) ?_
    rw [gl, gm, w64s il (by omega)]
    refine evT (decide_eq_true (by omega)) (evT (by omega) (evT (by omega) (evT (by omega) ?_)))
    by_cases hc : l[i] = m[i]
    · rw [if_pos (cp_zero.2 hc)]
      exact evT (by rw [hc]) (ih (i + 1) (by omega))
    · rw [if_neg (fun e => hc (cp_zero.1 e)), ← cp_neg]
      exact evF (fun e => hc (tl_inj.1 e)) (evB (lp_spec _ _ (zl _ (List.getElem_mem il)) (zm _ (List.getElem_mem im))) (evR rfl))
theorem lpre_spec (a b : ByteArray) (ha : a.size ≤ 1048576) (hb : b.size ≤ 1048576) : Ev (fun k => spec_l3LessPre.f k a b) (decide (lcp (pieces 46 a) (pieces 46 b) < 0)) := by
  unfold spec_l3LessPre.f
  have ca := pieces_count 46 a
  have cb := pieces_count 46 b
  have hA : Ev (fun k => spec_l3Split.f k a 46) (pieces 46 a) := split_spec a ha 46
  have hB : Ev (fun k => spec_l3Split.f k b 46) (pieces 46 b) := split_spec b hb 46
  refine evB hA (evB hB ?_)
  exact lcp_spec (pieces 46 a) (pieces 46 b) (by omega) (by omega) (fun x hx => by have := pieces_mem 46 a x hx; omega) (fun x hx => by have := pieces_mem 46 b x hx; omega) _ 0 (Nat.zero_add _)
theorem less_spec (a0 a1 a2 : Int) (a3 : ByteArray) (b0 b1 b2 : Int) (b3 : ByteArray) (ha : a3.size ≤ 1048576) (hb : b3.size ≤ 1048576) :
    Ev (fun k => spec_LessVersion.f k a0 a1 a2 a3 b0 b1 b2 b3) (decide (cmpV a0 a1 a2 a3 b0 b1 b2 b3 < 0)) := by
  unfold spec_LessVersion.f cmpV
  by_cases h0 : a0 = b0
  · rw [if_pos (cmpI_zero.2 h0)]
    refine evT h0 ?_
    by_cases h1 : a1 = b1
    · rw [if_pos (cmpI_zero.2 h1)]
      refine evT h1 ?_
      by_cases h2 : a2 = b2
      · rw [if_pos (cmpI_zero.2 h2)]
        refine evT h2 ?_
        unfold cpre
        by_cases h3 : a3 = b3
        · rw [if_pos h3]
          refine evT (by rw [h3]) ?_
          refine evS (fun k => by rw [spec_LessVersion.j0]) ?_
          exact evT rfl (evR rfl)
        · rw [if_neg h3]
          refine evF (fun e => h3 (tl_inj.1 e)) ?_
          refine evS (fun k => by rw [spec_LessVersion.j0]) ?_
          by_cases h4 : a3.size = 0
          · rw [if_pos h4]
            exact evT (beq_iff_eq.2 ((nil_iff a3).2 h4)) (evR rfl)
          · rw [if_neg h4]
            refine evF (fun e => h4 ((nil_iff a3).1 (beq_iff_eq.1 e))) ?_
            by_cases h5 : b3.size = 0
            · rw [if_pos h5]
              exact evT ((nil_iff b3).2 h5) (evR rfl)
            · rw [if_neg h5]
              exact evF (fun e => h5 ((nil_iff b3).1 e)) (evB (lpre_spec a3 b3 ha hb) (evR rfl))
      · rw [if_neg (fun e => h2 (cmpI_zero.1 e))]
        exact evF h2 (evR (decide_eq_decide.2 cmpI_neg.symm))
    · rw [if_neg (fun e => h1 (cmpI_zero.1 e))]
      exact evF h1 (evR (decide_eq_decide.2 cmpI_neg.symm))
  · rw [if_neg (fun e => h0 (cmpI_zero.1 e))]
    exact evF h0 (evR (decide_eq_decide.2 cmpI_neg.symm))
end Go.Proofs.YtagbldaiedmikaaDoor.Z

/- Decimal texts and their numbers. Plain lemmas. -/
set_option linter.unusedVariables false
namespace Go.Proofs.YtagbldaiedmikaaDoor.Z
open Go.RowKit Go.Proofs.YtagbldaiedmikaaDoorW.PrintWords Go.Proofs.YtagbldaiedmikaaDoorW.PrintMore Go.Proofs.YtagbldaiedmikaaDoor.X Go.Proofs.YtagbldaiedmikaaDoor.Sp
theorem val_snoc (l : List UInt8) (b : UInt8) : val (l ++ [b]) = val l * 10 + digit b := by
  unfold val valA
  rw [List.foldl_append]
  rfl
theorem digit_back {b : UInt8} (h : isD b = true) : UInt8.ofNat (48 + digit b) = b := by
  have := (isD_iff b).1 h
  unfold digit
  rw [show 48 + (b.toNat - 48) = b.toNat by omega]
  exact UInt8.ofNat_toNat
theorem digit_le {b : UInt8} (h : isD b = true) : digit b ≤ 9 := by
  have := (isD_iff b).1 h
  unfold digit
  omega
/-- No zero ahead. -/
def lead (l : List UInt8) : Prop := l.head? ≠ some 48
theorem val_pos {l : List UInt8} (hn : l ≠ []) (hd : l.all isD = true) (hl : lead l) : 1 ≤ val l := by
  cases l with
  | nil => exact absurd rfl hn
  | cons b m =>
    simp only [List.all_cons, Bool.and_eq_true] at hd
    have hb := (isD_iff b).1 hd.1
    have hne : b.toNat ≠ 48 := fun e => hl (by show some b = some 48; rw [UInt8.toNat_inj.1 (show b.toNat = (48 : UInt8).toNat from e)])
    rw [val_cons]
    have h1 : 1 * 10 ^ m.length ≤ digit b * 10 ^ m.length := Nat.mul_le_mul_right _ (by unfold digit; omega)
    have h2 : 0 < 10 ^ m.length := Nat.pow_pos (by decide)
    omega
theorem dec_snoc (n : Nat) : ∀ l : List UInt8, l.length = n → l ≠ [] → l.all isD = true → (lead l ∨ l.length = 1) → Lib.decDigits (val l) = l := by
  induction n with
  | zero => intro l h hn; exact absurd (List.eq_nil_of_length_eq_zero h) hn
  | succ n ih =>
    intro l h hn hd hl
    obtain ⟨m, b, rfl⟩ : ∃ m b, l = m ++ [b] := ⟨l.dropLast, l.getLast hn, (List.dropLast_concat_getLast hn).symm⟩
    rw [List.all_append, Bool.and_eq_true] at hd
    have hb : isD b = true := by simpa using hd.2
    have hb9 := digit_le hb
    rw [val_snoc, Lib.decDigits]
    by_cases hm : m = []
    · subst hm
      have e : val [] * 10 + digit b = digit b := by rw [show val [] = 0 from rfl]; omega
      rw [e, dif_pos (by omega), digit_back hb]
      rfl
    · have hlen : 1 ≤ m.length := by cases m with | nil => exact absurd rfl hm | cons _ _ => simp
      have hl' : lead (m ++ [b]) := hl.resolve_right (by simp; omega)
      have hlm : lead m := by
        unfold lead at hl' ⊢
        cases m with
        | nil => exact absurd rfl hm
        | cons x y => exact hl'
      have hv := val_pos hm hd.1 hlm
      rw [dif_neg (by omega), show (val m * 10 + digit b) / 10 = val m by omega, show (val m * 10 + digit b) % 10 = digit b by omega, digit_back hb, ih m (by simpa using h) hm hd.1 (.inl hlm)]
/-- A number's text of its value. -/
theorem dec_short {s : ByteArray} (h : num s = true) : Lib.decDigits (val s.data.toList) = s.data.toList := by
  simp only [num, figs, Bool.and_eq_true, Bool.or_eq_true, decide_eq_true_eq] at h
  obtain ⟨⟨ha, hz⟩, hb⟩ := h
  have hl := data_length s
  have hn : s.data.toList ≠ [] := fun e => by rw [e] at hl; simp at hl; omega
  refine dec_snoc _ _ rfl hn ha ?_
  rcases hb with hb | hb
  · exact .inr (by rw [hb]; rfl)
  · left
    have hat : bt s 0 = _ := byte_at s 0 (by omega)
    unfold lead
    cases hs : s.data.toList with
    | nil => exact absurd hs hn
    | cons x y =>
      rw [hat] at hb
      simp only [hs, List.getElem_cons_zero] at hb
      intro e
      have : x = 48 := by simpa using e
      subst this
      exact hb rfl
theorem decFrom_ev (l : List UInt8) (hd : l.all isD = true) : ∀ a : Nat, Lib.decFrom a l = some (valA a l) := by
  induction l with
  | nil => intro a; rfl
  | cons b l ih =>
    intro a
    simp only [List.all_cons, Bool.and_eq_true] at hd
    have hb := (isD_iff b).1 hd.1
    rw [valA_cons]
    unfold Lib.decFrom Lib.digitVal
    rw [if_pos hb]
    exact ih hd.2 _
theorem atoi_val {s : ByteArray} (h : num s = true) : Lib.atoi s.data.toList = some ((val s.data.toList : Nat) : Int) := by
  simp only [num, figs, Bool.and_eq_true, Bool.or_eq_true, decide_eq_true_eq] at h
  obtain ⟨⟨ha, hz⟩, hb⟩ := h
  have hl := data_length s
  cases hs : s.data.toList with
  | nil => rw [hs] at hl; simp at hl; omega
  | cons b l =>
    rw [hs] at ha
    have ha' := ha
    simp only [List.all_cons, Bool.and_eq_true] at ha
    have hb := (isD_iff b).1 ha.1
    have h1 : (b == 45) = false := beq_eq_false_iff_ne.2 (fun e => by subst e; revert hb; decide)
    have h2 : (b == 43) = false := beq_eq_false_iff_ne.2 (fun e => by subst e; revert hb; decide)
    simp only [Lib.atoi, h1, h2, Bool.false_eq_true, if_false]
    unfold Lib.decNat
    rw [decFrom_ev _ ha']
    rfl
theorem text_ev (n : Nat) : n ≤ 100000000 → Ev (fun k => spec_l3Text.f k (n : Int)) ⟨(Lib.decDigits n).toArray⟩ := by
  induction n using Nat.strongRecOn with
  | ind n ih =>
    intro hn
    rw [Lib.decDigits]
    by_cases h : n < 10
    · rw [dif_pos h]
      refine evS (fun k => by rw [spec_l3Text.f]) (evT (by omega) (evR ?_))
      rw [w64 (by omega), show (48 + (n : Int)) % 256 = ((48 + n : Nat) : Int) by omega]
      rfl
    · rw [dif_neg h]
      have e1 : wrap64 (Int.tdiv (n : Int) 10) = ((n / 10 : Nat) : Int) := by
        rw [Int.tdiv_eq_ediv_of_nonneg (by omega), w64 (by omega)]
        omega
      have e2 : wrap64 (48 + Int.tmod (n : Int) 10) % 256 = ((48 + n % 10 : Nat) : Int) := by
        rw [Int.tmod_eq_emod_of_nonneg (by omega), w64 (by omega)]
        omega
      have hsz : (Lib.decDigits (n / 10)).length ≤ n := by
        rw [Lib.decDigits_length]
        have : ∀ m : Nat, Lib.nDigits m ≤ m + 1 := by
          intro m
          induction m using Nat.strongRecOn with
          | ind m ihm =>
            rw [Lib.nDigits]
            split
            · omega
            · have := ihm (m / 10) (by omega)
              omega
        have := this (n / 10)
        omega
      refine evS (fun k => by rw [spec_l3Text.f]) ?_
      rw [e1, e2]
      refine evF (by omega) (evB (ih (n / 10) (by omega) (by omega)) (evC rfl (evT ?_ (evR ?_))))
      · show (Lib.decDigits (n / 10)).toArray.size + 1 ≤ _
        rw [List.size_toArray]
        omega
      · show (⟨(Lib.decDigits (n / 10)).toArray⟩ : ByteArray) ++ (⟨([UInt8.ofNat (48 + n % 10)] : List UInt8).toArray⟩ : ByteArray) = _
        apply ByteArray.ext
        rw [ByteArray.data_append]
        simp
end Go.Proofs.YtagbldaiedmikaaDoor.Z

/- A version's text, the program's and the reference's: the same. Plain lemmas. -/
set_option linter.unusedVariables false
namespace Go.Proofs.YtagbldaiedmikaaDoor.Z
open Go.RowKit Go.Proofs.YtagbldaiedmikaaDoorW.PrintWords Go.Proofs.YtagbldaiedmikaaDoorW.PrintMore Go.Proofs.YtagbldaiedmikaaDoor.X Go.Proofs.YtagbldaiedmikaaDoor.Sp
def dB (a : Int) : ByteArray := ⟨(Lib.decDigits a.toNat).toArray⟩
theorem nd7 : ∀ n : Nat, n < 10000000 → Lib.nDigits n ≤ 7 := by
  intro n h
  have s : ∀ (m d : Nat), Lib.nDigits (m / 10) ≤ d → Lib.nDigits m ≤ d + 1 := by
    intro m d hm
    rw [Lib.nDigits]
    split <;> omega
  have b : Lib.nDigits (n / 10 / 10 / 10 / 10 / 10 / 10) ≤ 1 := by
    rw [Lib.nDigits, dif_pos (by omega)]
    exact Nat.le_refl _
  exact s _ _ (s _ _ (s _ _ (s _ _ (s _ _ (s _ _ b)))))
theorem dB_size (a : Int) (h : a ≤ 1000000) : (dB a).size ≤ 7 := by
  show (Lib.decDigits a.toNat).toArray.size ≤ 7
  rw [List.size_toArray, Lib.decDigits_length]
  exact nd7 _ (by omega)
def verT (a b c : Int) (p : ByteArray) : ByteArray :=
  if p.size = 0 then ((((((⟨#[118]⟩ : ByteArray) ++ dB a) ++ (⟨#[46]⟩ : ByteArray)) ++ dB b) ++ (⟨#[46]⟩ : ByteArray)) ++ dB c) else ((((((⟨#[118]⟩ : ByteArray) ++ dB a) ++ (⟨#[46]⟩ : ByteArray)) ++ dB b) ++ (⟨#[46]⟩ : ByteArray)) ++ dB c) ++ ((⟨#[45]⟩ : ByteArray) ++ p)
def verText (a b c : Int) (p : ByteArray) : ByteArray := if verOk a b c p = true then verT a b c p else ⟨#[]⟩
theorem verOk_in {a b c : Int} {p : ByteArray} (h : verOk a b c p = true) : (0 ≤ a ∧ a ≤ 1000000) ∧ (0 ≤ b ∧ b ≤ 1000000) ∧ (0 ≤ c ∧ c ≤ 1000000) := by
  unfold verOk in6 at h
  simp only [Bool.and_eq_true, decide_eq_true_eq] at h
  exact ⟨h.1, h.2.1, h.2.2.1⟩
theorem itoa_dB (a : Int) (h : 0 ≤ a ∧ a ≤ 1000000) : strconv_Itoa.f a = some (dB a) := by
  unfold strconv_Itoa.f dB Lib.itoa
  rw [if_pos (by omega), if_neg (by omega)]
theorem text_dB (a : Int) (h : 0 ≤ a ∧ a ≤ 1000000) : Ev (fun k => spec_l3Text.f k a) (dB a) := by
  have := text_ev a.toNat (by omega)
  rw [show ((a.toNat : Nat) : Int) = a by omega] at this
  exact this
theorem verText_both (a b c : Int) (p : ByteArray) (hp : p.size ≤ 1048576) : Ev (fun k => impl_VersionText.f k a b c p) (verText a b c p) ∧ Ev (fun k => spec_VersionText.f k a b c p) (verText a b c p) := by
  obtain ⟨hI, hS⟩ := verOk_both a b c p hp
  unfold verText
  cases hv : verOk a b c p with
  | false =>
    rw [hv] at hI hS
    refine ⟨?_, ?_⟩
    · unfold impl_VersionText.f
      exact evB hI (evF Bool.false_ne_true (evR rfl))
    · unfold spec_VersionText.f
      exact evB hS (evF Bool.false_ne_true (evR rfl))
  | true =>
    rw [hv] at hI hS
    obtain ⟨ra, rb, rc⟩ := verOk_in hv
    have za := dB_size a ra.2
    have zb := dB_size b rb.2
    have zc := dB_size c rc.2
    have ia := itoa_dB a ra
    have ib := itoa_dB b rb
    have ic := itoa_dB c rc
    have ta := text_dB a ra
    have tb := text_dB b rb
    have tc := text_dB c rc
    unfold verT
    generalize dB a = x at *
    generalize dB b = y at *
    generalize dB c = z at *
    have s1 : ((⟨#[118]⟩ : ByteArray) ++ x).size = 1 + x.size := ByteArray.size_append
    have s2 : (((⟨#[118]⟩ : ByteArray) ++ x) ++ (⟨#[46]⟩ : ByteArray)).size = 1 + x.size + 1 := by rw [ByteArray.size_append, s1]; rfl
    have s3 : ((((⟨#[118]⟩ : ByteArray) ++ x) ++ (⟨#[46]⟩ : ByteArray)) ++ y).size = 1 + x.size + 1 + y.size := by rw [ByteArray.size_append, s2]
    have s4 : (((((⟨#[118]⟩ : ByteArray) ++ x) ++ (⟨#[46]⟩ : ByteArray)) ++ y) ++ (⟨#[46]⟩ : ByteArray)).size = 1 + x.size + 1 + y.size + 1 := by rw [ByteArray.size_append, s3]; rfl
    have s5 : ((((((⟨#[118]⟩ : ByteArray) ++ x) ++ (⟨#[46]⟩ : ByteArray)) ++ y) ++ (⟨#[46]⟩ : ByteArray)) ++ z).size = 1 + x.size + 1 + y.size + 1 + z.size := by rw [ByteArray.size_append, s4]
    have s6 : (((((((⟨#[118]⟩ : ByteArray) ++ x) ++ (⟨#[46]⟩ : ByteArray)) ++ y) ++ (⟨#[46]⟩ : ByteArray)) ++ z) ++ (⟨#[45]⟩ : ByteArray)).size = 1 + x.size + 1 + y.size + 1 + z.size + 1 := by rw [ByteArray.size_append, s5]; rfl
    have s7 : ((⟨#[45]⟩ : ByteArray) ++ p).size = 1 + p.size := ByteArray.size_append
    refine ⟨?_, ?_⟩
    · unfold impl_VersionText.f
      refine evB hI (evT rfl (evC ia (evT (by omega) (evT (by omega) (evC ib (evT (by omega) (evT (by omega) (evC ic (evT (by omega) ?_)))))))))
      rw [if_pos rfl]
      by_cases h : p.size = 0
      · rw [if_pos h]
        exact evT ((nil_iff' p).2 h) (evR rfl)
      · rw [if_neg h]
        exact evF (fun e => h ((nil_iff' p).1 e)) (evT (by omega) (evT (by omega) (evR rfl)))
    · unfold spec_VersionText.f
      refine evB hS (evT rfl (evB ta (evT (by omega) (evT (by omega) (evB tb (evT (by omega) (evT (by omega) (evB tc (evT (by omega) ?_)))))))))
      rw [if_pos rfl]
      by_cases h : p.size = 0
      · rw [if_pos h]
        exact evT ((nil_iff' p).2 h) (evR rfl)
      · rw [if_neg h]
        refine evF (fun e => h ((nil_iff' p).1 e)) (evT (by omega) (evT (by omega) (evR ?_)))
        exact ByteArray.append_assoc
end Go.Proofs.YtagbldaiedmikaaDoor.Z

/- The law FnExactVersionText, as a plain statement: the program's VersionText answers as the reference's. Conditions: those of the row's reading alone. -/
namespace Go.Proofs.YtagbldaiedmikaaDoor.Pure
open Go.RowKit Go.Proofs.YtagbldaiedmikaaDoor.X Go.Proofs.YtagbldaiedmikaaDoor.Z Go.Proofs.YtagbldaiedmikaaDoorW.PrintWords Go.Proofs.YtagbldaiedmikaaDoorW.PrintLast
theorem FnExactVersionText : laws_FnExactVersionText.Pure := by
  intro a0 a1 a2 a3 ⟨_, _, _, ha⟩
  refine Ev.rounds ?_
  unfold laws_FnExactVersionText.f
  unfold maxLen at ha
  have e1 : wrap64 ((1048576 : Int) - (a3.size : Int)) = 1048576 - (a3.size : Int) := w64 (by omega)
  by_cases h1 : (1048576 : Int) - (a3.size : Int) < 0
  · refine evC (a := -1) (by unfold laws_szVersion.f; rw [e1, if_pos h1]) ?_
    exact evT (by omega) (evR rfl)
  refine evC (a := 1048576 - (a3.size : Int)) (by unfold laws_szVersion.f; rw [e1, if_neg h1]) ?_
  refine evF h1 ?_
  obtain ⟨hI, hS⟩ := verText_both a0 a1 a2 a3 (by omega)
  exact evC rfl (evB hS (evC rfl (evB hI (evT rfl (evR rfl)))))
end Go.Proofs.YtagbldaiedmikaaDoor.Pure

/- Values that come in as data (strings' slices, structs, slices of structs, nested) are of the printer's kinds: one lemma a make of type. Plain lemmas for the rows of laws over such parameters. No conditions beyond what each lemma names. -/
set_option linter.unusedVariables false
namespace Go.Proofs.YtagbldaiedmikaaDoor.Y
open Go.RowKit Go.Proofs.YtagbldaiedmikaaDoorW.PrintWords Go.ChangeShapes Go.WideShapes Go.Deep

/-- What is read as data of type T is of kind d, and G holds of what it says. -/
def Opn {α : Type} (P : Program) (d : Kd α) (T : TypeId) (G : α → Prop) : Prop :=
  ∀ {H : Type} (enc : TypeId × Value → H) (w : World) (spare : Nat → Bool) (held : Bool) (fuel : Nat) (cs : List Value) (x : DataW H × List MemPlace), DataW.trod enc P w 0 spare held fuel T cs = some x → ∃ y, d.K w y cs ∧ G y

theorem Opn.int {P : Program} {T : TypeId} {k : IntKind} (h : P.underlying T = some (.int k)) : Opn P (Kd.int k) T (fun n => (Lit.int k n).wf = true) := by
  intro H enc w spare held fuel cs x hx
  obtain ⟨n, rfl, _, hn⟩ := DataW.trod_int h hx
  exact ⟨n, rfl, hn⟩
theorem Opn.bool {P : Program} {T : TypeId} (h : P.underlying T = some .bool) : Opn P Kd.bool T (fun _ => True) := by
  intro H enc w spare held fuel cs x hx
  obtain ⟨n, rfl, _⟩ := DataW.trod_bool h hx
  exact ⟨n, rfl, trivial⟩
theorem Opn.string {P : Program} {T : TypeId} (h : P.underlying T = some .string) : Opn P Kd.string T (fun s => s.size ≤ maxLen) := by
  intro H enc w spare held fuel cs x hx
  obtain ⟨s, rfl, _, hs⟩ := DataW.trod_string h hx
  exact ⟨s, rfl, hs⟩
theorem Opn.slice {α : Type} {P : Program} {d : Kd α} {T e : TypeId} {G : α → Prop} [Inhabited α] (h : P.underlying T = some (.slice e)) (he : P.cellsOf e = d.sz) (ho : Opn P d e G) :
    Opn P (Kd.slice e d) T (fun l => l.length ≤ maxLen ∧ ∀ y, y ∈ l → G y) := by
  intro H enc w spare held fuel cs x hx
  rcases open_slice h hx with ⟨rfl, _⟩ | ⟨a, len, cap, m, n, D, Pl, rfl, _, hl, hm, hmm, _, hel⟩
  · exact ⟨[], ⟨none, 0, rfl, Nat.le_refl _, rfl, by simp, fun hn => absurd hn (Nat.lt_irrefl 0)⟩, by simp, fun y hy => by cases hy⟩
  · have hlm : len ≤ m := by rw [hmm]; split <;> omega
    have each : ∀ i, i < len → ∃ y, (∃ c, c.length = d.sz ∧ d.K w y c ∧ ∀ j u, c[j]? = some u → w.cell? (a.add (i * d.sz + j)) = some u) ∧ G y := by
      intro i hi
      obtain ⟨c, hc, ht⟩ := hel i (by omega)
      obtain ⟨y, hk, hg⟩ := ho enc w spare held n c _ ht
      obtain ⟨_, hlen, hcell⟩ := World.cells?_some hc
      refine ⟨y, ⟨c, hlen.trans he, hk, fun j u hu => ?_⟩, hg⟩
      have hj : j < P.cellsOf e := by rw [← hlen]; exact (List.getElem?_eq_some_iff.1 hu).1
      have := hcell j hj
      rw [Go.Deep.add_add, hu, he] at this
      exact this
    obtain ⟨f, hf⟩ := choose_lt each
    have hlen : ((List.range len).map f).length = len := by simp
    have hm' : len ≤ maxLen := Nat.le_trans hl hm
    refine ⟨(List.range len).map f, ⟨some a, cap, by rw [hlen], by rw [hlen]; exact hl, by rw [hlen], by rw [hlen]; unfold maxLen at hm'; exact hm', fun _ => ⟨a, rfl, fun j p hp => ?_⟩⟩, by rw [hlen]; exact hm', fun y hy => ?_⟩
    · obtain ⟨hj, rfl⟩ := List.getElem?_eq_some_iff.1 hp
      rw [hlen] at hj
      simp only [List.getElem_map, List.getElem_range]
      exact (hf j hj).1
    · obtain ⟨i, hi, rfl⟩ := List.mem_map.1 hy
      exact (hf i (List.mem_range.1 hi)).2

/-- The fields from cell 'off' on. -/
def FOpn {α : Type} (P : Program) (d : Kd α) (off : Nat) (fs : List Field) (G : α → Prop) : Prop :=
  ∀ {H : Type} (enc : TypeId × Value → H) (w : World) (spare : Nat → Bool) (held : Bool) (fuel : Nat) (cs : List Value),
    (∀ f, f ∈ fs → ∃ x, DataW.trod enc P w 0 spare held fuel f.type ((cs.drop f.offset).take (P.cellsOf f.type)) = some x) → cs.length = off + d.sz → ∃ y, d.K w y (cs.drop off) ∧ G y
theorem FOpn.one {α : Type} {P : Program} {d : Kd α} {off : Nat} {f : Field} {G : α → Prop} (hf : f.offset = off) (hc : P.cellsOf f.type = d.sz) (ho : Opn P d f.type G) : FOpn P d off [f] G := by
  intro H enc w spare held fuel cs hx hl
  obtain ⟨x, hx⟩ := hx f (by simp)
  rw [hf, hc, List.take_of_length_le (by simp; omega)] at hx
  exact ho enc w spare held fuel _ x hx
theorem FOpn.cons {α β : Type} {P : Program} {d : Kd α} {d' : Kd β} {off : Nat} {f : Field} {fs : List Field} {G : α → Prop} {G' : β → Prop} (hf : f.offset = off) (hc : P.cellsOf f.type = d.sz) (ho : Opn P d f.type G)
    (hs : FOpn P d' (off + d.sz) fs G') : FOpn P (Kd.pair d d') off (f :: fs) (fun y => G y.1 ∧ G' y.2) := by
  intro H enc w spare held fuel cs hx hl
  have hl' : cs.length = off + (d.sz + d'.sz) := hl
  obtain ⟨x, h1⟩ := hx f (by simp)
  rw [hf, hc] at h1
  obtain ⟨y, hy, gy⟩ := ho enc w spare held fuel _ x h1
  obtain ⟨z, hz, gz⟩ := hs enc w spare held fuel cs (fun g hg => hx g (List.mem_cons_of_mem _ hg)) (by omega)
  refine ⟨(y, z), ⟨_, _, ?_, hy, hz⟩, gy, gz⟩
  rw [← List.drop_drop, List.take_append_drop]
theorem Opn.struct {α β : Type} {P : Program} {d : Kd α} {T : TypeId} {fs : Array Field} {fl : List Field} {G : α → Prop} {G' : β → Prop} {proj : β → α} (mk : α → β) (h : P.underlying T = some (.struct fs)) (hfl : fs.toList = fl) (hc : P.cellsOf T = d.sz)
    (hmk : ∀ y, proj (mk y) = y) (hG : ∀ y, G y → G' (mk y)) (hs : FOpn P d 0 fl G) : Opn P (Kd.iso d proj) T G' := by
  intro H enc w spare held fuel cs x hx
  obtain ⟨xs, n, rfl, _, hlen, hxs, hall⟩ := DataW.trod_struct h hx
  obtain ⟨y, hy, gy⟩ := hs enc w spare held n cs (fun f hf => by
    rw [← hfl] at hf
    obtain ⟨i, hi, he⟩ := List.getElem_of_mem hf
    have hi' : i < fs.size := by simpa using hi
    have h1 : fs[i]? = some f := by rw [Array.getElem?_eq_getElem hi']; simpa using he
    exact ⟨_, (hall i f h1).trans (List.getElem?_eq_getElem (by omega))⟩) (by rw [hlen, hc, Nat.zero_add])
  refine ⟨mk y, ?_, hG y gy⟩
  show d.K w (proj (mk y)) cs
  rw [hmk]
  exact hy

/-- A parameter that is a slice. -/
theorem Opn.arg_slice {α : Type} {P : Program} {d : Kd α} {T e : TypeId} {G : α → Prop} [Inhabited α] (h : P.underlying T = some (.slice e)) (he : P.cellsOf e = d.sz) (ho : Opn P d e G)
    {H : Type} {enc : TypeId × Value → H} {w : World} {spare : Nat → Bool} {held : Bool} {v : Value} {D : DataW H} {ps : List MemPlace} {r : Reach} {b : Nat} (hv : Value.okWide P w r b T v) (hx : DataW.Trod enc P w 0 spare held T v D ps) :
    ∃ (A : Option Addr) (c : Nat) (l : List α), v = .slice A l.length c ∧ l.length ≤ c ∧ d.C w A l.length l ∧ l.length ≤ maxLen ∧ ∀ y, y ∈ l → G y := by
  obtain ⟨a, len, cap, rfl⟩ := okWide_slice h hv
  obtain ⟨fuel, hf⟩ := hx
  obtain ⟨l, ⟨A, c, hcs, hlc, hC⟩, hg1, hg2⟩ := Opn.slice h he ho enc w spare held fuel _ _ hf
  have hcs' : [Value.slice a len cap] = [Value.slice A l.length c] := hcs
  injection hcs' with h1 _
  exact ⟨A, c, l, h1, hlc, hC, hg1, hg2⟩
/-- A parameter that is a struct. -/
theorem Opn.arg_struct {α : Type} {P : Program} {d : Kd α} {T : TypeId} {G : α → Prop} {fs : Array Field} (hu : P.underlying T = some (.struct fs)) (ho : Opn P d T G)
    {H : Type} {enc : TypeId × Value → H} {w : World} {spare : Nat → Bool} {held : Bool} {v : Value} {D : DataW H} {ps : List MemPlace} {r : Reach} {b : Nat} (hv : Value.okWide P w r b T v) (hx : DataW.Trod enc P w 0 spare held T v D ps) :
    ∃ (cs : List Value) (y : α), v = .agg cs.toArray ∧ d.K w y cs ∧ G y := by
  obtain ⟨cs, rfl, _⟩ := okWide_struct hu hv
  obtain ⟨fuel, hf⟩ := hx
  obtain ⟨y, hk, hg⟩ := ho enc w spare held fuel _ _ hf
  exact ⟨cs.toList, y, by simp, hk, hg⟩
end Go.Proofs.YtagbldaiedmikaaDoor.Y

/- Three closed facts of the rows of this seat (how the program may be entered), by the first words of the translation's head row. No conditions. -/
namespace Go.Proofs.YtagbldaiedmikaaDoor.Y
open Go.ChangeShapes Go.WideShapes Go.ChangeAt Go.RowKit
def tailSigns : List Char := [Char.ofNat 108, Char.ofNat 111, Char.ofNat 111, Char.ofNat 112, Char.ofNat 46, Char.ofNat 101, Char.ofNat 120, Char.ofNat 97, Char.ofNat 109, Char.ofNat 112, Char.ofNat 108, Char.ofNat 101, Char.ofNat 47, Char.ofNat 103, Char.ofNat 48, Char.ofNat 48, Char.ofNat 50, Char.ofNat 51, Char.ofNat 51, Char.ofNat 47, Char.ofNat 108, Char.ofNat 97, Char.ofNat 119, Char.ofNat 115, Char.ofNat 46, Char.ofNat 70, Char.ofNat 110, Char.ofNat 69, Char.ofNat 120, Char.ofNat 97, Char.ofNat 99, Char.ofNat 116, Char.ofNat 80, Char.ofNat 97, Char.ofNat 116, Char.ofNat 104, Char.ofNat 79, Char.ofNat 107, Char.ofNat 32, Char.ofNat 108, Char.ofNat 111, Char.ofNat 111, Char.ofNat 112, Char.ofNat 46, Char.ofNat 101, Char.ofNat 120, Char.ofNat 97, Char.ofNat 109, Char.ofNat 112, Char.ofNat 108, Char.ofNat 101, Char.ofNat 47, Char.ofNat 103, Char.ofNat 48, Char.ofNat 48, Char.ofNat 50, Char.ofNat 51, Char.ofNat 51, Char.ofNat 47, Char.ofNat 108, Char.ofNat 97, Char.ofNat 119, Char.ofNat 115, Char.ofNat 46, Char.ofNat 70, Char.ofNat 110, Char.ofNat 69, Char.ofNat 120, Char.ofNat 97, Char.ofNat 99, Char.ofNat 116, Char.ofNat 86, Char.ofNat 101, Char.ofNat 114, Char.ofNat 115, Char.ofNat 105, Char.ofNat 111, Char.ofNat 110, Char.ofNat 79, Char.ofNat 107, Char.ofNat 32, Char.ofNat 108, Char.ofNat 111, Char.ofNat 111, Char.ofNat 112, Char.ofNat 46, Char.ofNat 101, Char.ofNat 120, Char.ofNat 97, Char.ofNat 109, Char.ofNat 112, Char.ofNat 108, Char.ofNat 101, Char.ofNat 47, Char.ofNat 103, Char.ofNat 48, Char.ofNat 48, Char.ofNat 50, Char.ofNat 51, Char.ofNat 51, Char.ofNat 47, Char.ofNat 108, Char.ofNat 97, Char.ofNat 119, Char.ofNat 115, Char.ofNat 46, Char.ofNat 70, Char.ofNat 110, Char.ofNat 69, Char.ofNat 120, Char.ofNat 97, Char.ofNat 99, Char.ofNat 116, Char.ofNat 66, Char.ofNat 117, Char.ofNat 109, Char.ofNat 112, Char.ofNat 32, Char.ofNat 108, Char.ofNat 111, Char.ofNat 111, Char.ofNat 112, Char.ofNat 46, Char.ofNat 101, Char.ofNat 120, Char.ofNat 97, Char.ofNat 109, Char.ofNat 112, Char.ofNat 108, Char.ofNat 101, Char.ofNat 47, Char.ofNat 103, Char.ofNat 48, Char.ofNat 48, Char.ofNat 50, Char.ofNat 51, Char.ofNat 51, Char.ofNat 47, Char.ofNat 108, Char.ofNat 97, Char.ofNat 119, Char.ofNat 115, Char.ofNat 46, Char.ofNat 70, Char.ofNat 110, Char.ofNat 69, Char.ofNat 120, Char.ofNat 97, Char.ofNat 99, Char.ofNat 116, Char.ofNat 76, Char.ofNat 101, Char.ofNat 115, Char.ofNat 115, Char.ofNat 86, Char.ofNat 101, Char.ofNat 114, Char.ofNat 115, Char.ofNat 105, Char.ofNat 111, Char.ofNat 110, Char.ofNat 32, Char.ofNat 108, Char.ofNat 111, Char.ofNat 111, Char.ofNat 112, Char.ofNat 46, Char.ofNat 101, Char.ofNat 120, Char.ofNat 97, Char.ofNat 109, Char.ofNat 112, Char.ofNat 108, Char.ofNat 101, Char.ofNat 47, Char.ofNat 103, Char.ofNat 48, Char.ofNat 48, Char.ofNat 50, Char.ofNat 51, Char.ofNat 51, Char.ofNat 47, Char.ofNat 108, Char.ofNat 97, Char.ofNat 119, Char.ofNat 115, Char.ofNat 46, Char.ofNat 70, Char.ofNat 110, Char.ofNat 80, Char.ofNat 114, Char.ofNat 101, Char.ofNat 32, Char.ofNat 108, Char.ofNat 111, Char.ofNat 111, Char.ofNat 112, Char.ofNat 46, Char.ofNat 101, Char.ofNat 120, Char.ofNat 97, Char.ofNat 109, Char.ofNat 112, Char.ofNat 108, Char.ofNat 101, Char.ofNat 47, Char.ofNat 103, Char.ofNat 48, Char.ofNat 48, Char.ofNat 50, Char.ofNat 51, Char.ofNat 51, Char.ofNat 47, Char.ofNat 108, Char.ofNat 97, Char.ofNat 119, Char.ofNat 115, Char.ofNat 46, Char.ofNat 70, Char.ofNat 110, Char.ofNat 79, Char.ofNat 114, Char.ofNat 100, Char.ofNat 101, Char.ofNat 114, Char.ofNat 32, Char.ofNat 108, Char.ofNat 111, Char.ofNat 111, Char.ofNat 112, Char.ofNat 46, Char.ofNat 101, Char.ofNat 120, Char.ofNat 97, Char.ofNat 109, Char.ofNat 112, Char.ofNat 108, Char.ofNat 101, Char.ofNat 47, Char.ofNat 103, Char.ofNat 48, Char.ofNat 48, Char.ofNat 50, Char.ofNat 51, Char.ofNat 51, Char.ofNat 47, Char.ofNat 108, Char.ofNat 97, Char.ofNat 119, Char.ofNat 115, Char.ofNat 46, Char.ofNat 70, Char.ofNat 110, Char.ofNat 69, Char.ofNat 120, Char.ofNat 97, Char.ofNat 99, Char.ofNat 116, Char.ofNat 76, Char.ofNat 97, Char.ofNat 116, Char.ofNat 101, Char.ofNat 115, Char.ofNat 116, Char.ofNat 32, Char.ofNat 108, Char.ofNat 111, Char.ofNat 111, Char.ofNat 112, Char.ofNat 46, Char.ofNat 101, Char.ofNat 120, Char.ofNat 97, Char.ofNat 109, Char.ofNat 112, Char.ofNat 108, Char.ofNat 101, Char.ofNat 47, Char.ofNat 103, Char.ofNat 48, Char.ofNat 48, Char.ofNat 50, Char.ofNat 51, Char.ofNat 51, Char.ofNat 47, Char.ofNat 108, Char.ofNat 97, Char.ofNat 119, Char.ofNat 115, Char.ofNat 46, Char.ofNat 70, Char.ofNat 110, Char.ofNat 76, Char.ofNat 97, Char.ofNat 116, Char.ofNat 101, Char.ofNat 115, Char.ofNat 116, Char.ofNat 32, Char.ofNat 108, Char.ofNat 111, Char.ofNat 111, Char.ofNat 112, Char.ofNat 46, Char.ofNat 101, Char.ofNat 120, Char.ofNat 97, Char.ofNat 109, Char.ofNat 112, Char.ofNat 108, Char.ofNat 101, Char.ofNat 47, Char.ofNat 103, Char.ofNat 48, Char.ofNat 48, Char.ofNat 50, Char.ofNat 51, Char.ofNat 51, Char.ofNat 47, Char.ofNat 108, Char.ofNat 97, Char.ofNat 119, Char.ofNat 115, Char.ofNat 46, Char.ofNat 70, Char.ofNat 110, Char.ofNat 69, Char.ofNat 120, Char.ofNat 97, Char.ofNat 99, Char.ofNat 116, Char.ofNat 86, Char.ofNat 101, Char.ofNat 114, Char.ofNat 115, Char.ofNat 105, Char.ofNat 111, Char.ofNat 110, Char.ofNat 84, Char.ofNat 101, Char.ofNat 120, Char.ofNat 116, Char.ofNat 32, Char.ofNat 108, Char.ofNat 111, Char.ofNat 111, Char.ofNat 112, Char.ofNat 46, Char.ofNat 101, Char.ofNat 120, Char.ofNat 97, Char.ofNat 109, Char.ofNat 112, Char.ofNat 108, Char.ofNat 101, Char.ofNat 47, Char.ofNat 103, Char.ofNat 48, Char.ofNat 48, Char.ofNat 50, Char.ofNat 51, Char.ofNat 51, Char.ofNat 47, Char.ofNat 108, Char.ofNat 97, Char.ofNat 119, Char.ofNat 115, Char.ofNat 46, Char.ofNat 70, Char.ofNat 110, Char.ofNat 69, Char.ofNat 120, Char.ofNat 97, Char.ofNat 99, Char.ofNat 116, Char.ofNat 77, Char.ofNat 97, Char.ofNat 106, Char.ofNat 111, Char.ofNat 114, Char.ofNat 79, Char.ofNat 102, Char.ofNat 32, Char.ofNat 108, Char.ofNat 111, Char.ofNat 111, Char.ofNat 112, Char.ofNat 46, Char.ofNat 101, Char.ofNat 120, Char.ofNat 97, Char.ofNat 109, Char.ofNat 112, Char.ofNat 108, Char.ofNat 101, Char.ofNat 47, Char.ofNat 103, Char.ofNat 48, Char.ofNat 48, Char.ofNat 50, Char.ofNat 51, Char.ofNat 51, Char.ofNat 47, Char.ofNat 108, Char.ofNat 97, Char.ofNat 119, Char.ofNat 115, Char.ofNat 46, Char.ofNat 70, Char.ofNat 110, Char.ofNat 69, Char.ofNat 120, Char.ofNat 97, Char.ofNat 99, Char.ofNat 116, Char.ofNat 66, Char.ofNat 97, Char.ofNat 115, Char.ofNat 101, Char.ofNat 32, Char.ofNat 108, Char.ofNat 111, Char.ofNat 111, Char.ofNat 112, Char.ofNat 46, Char.ofNat 101, Char.ofNat 120, Char.ofNat 97, Char.ofNat 109, Char.ofNat 112, Char.ofNat 108, Char.ofNat 101, Char.ofNat 47, Char.ofNat 103, Char.ofNat 48, Char.ofNat 48, Char.ofNat 50, Char.ofNat 51, Char.ofNat 51, Char.ofNat 47, Char.ofNat 108, Char.ofNat 97, Char.ofNat 119, Char.ofNat 115, Char.ofNat 46, Char.ofNat 70, Char.ofNat 110, Char.ofNat 69, Char.ofNat 120, Char.ofNat 97, Char.ofNat 99, Char.ofNat 116, Char.ofNat 80, Char.ofNat 97, Char.ofNat 114, Char.ofNat 115, Char.ofNat 101, Char.ofNat 86, Char.ofNat 101, Char.ofNat 114, Char.ofNat 115, Char.ofNat 105, Char.ofNat 111, Char.ofNat 110]
set_option maxRecDepth 100000 in
theorem initOrder_lit : Tryd.pinned.checked.prog.initOrder = "harness 8854c4987ba7e5863879e1c1f3e5572041dc37068018b6f4d5d9faa1d5368be2 cut at loop.example/g00233/laws.FnExactPathOk loop.example/g00233/laws.FnExactVersionOk loop.example/g00233/laws.FnExactBump loop.example/g00233/laws.FnExactLessVersion loop.example/g00233/laws.FnPre loop.example/g00233/laws.FnOrder loop.example/g00233/laws.FnExactLatest loop.example/g00233/laws.FnLatest loop.example/g00233/laws.FnExactVersionText loop.example/g00233/laws.FnExactMajorOf loop.example/g00233/laws.FnExactBase loop.example/g00233/laws.FnExactParseVersion" := by kernel_rfl
set_option maxRecDepth 100000 in
theorem lit_list : ("harness 8854c4987ba7e5863879e1c1f3e5572041dc37068018b6f4d5d9faa1d5368be2 cut at loop.example/g00233/laws.FnExactPathOk loop.example/g00233/laws.FnExactVersionOk loop.example/g00233/laws.FnExactBump loop.example/g00233/laws.FnExactLessVersion loop.example/g00233/laws.FnPre loop.example/g00233/laws.FnOrder loop.example/g00233/laws.FnExactLatest loop.example/g00233/laws.FnLatest loop.example/g00233/laws.FnExactVersionText loop.example/g00233/laws.FnExactMajorOf loop.example/g00233/laws.FnExactBase loop.example/g00233/laws.FnExactParseVersion" : String) = String.ofList (Char.ofNat 104 :: Char.ofNat 97 :: Char.ofNat 114 :: Char.ofNat 110 :: Char.ofNat 101 :: Char.ofNat 115 :: Char.ofNat 115 :: Char.ofNat 32 :: Char.ofNat 56 :: Char.ofNat 56 :: Char.ofNat 53 :: Char.ofNat 52 :: Char.ofNat 99 :: Char.ofNat 52 :: Char.ofNat 57 :: Char.ofNat 56 :: Char.ofNat 55 :: Char.ofNat 98 :: Char.ofNat 97 :: Char.ofNat 55 :: Char.ofNat 101 :: Char.ofNat 53 :: Char.ofNat 56 :: Char.ofNat 54 :: Char.ofNat 51 :: Char.ofNat 56 :: Char.ofNat 55 :: Char.ofNat 57 :: Char.ofNat 101 :: Char.ofNat 49 :: Char.ofNat 99 :: Char.ofNat 49 :: Char.ofNat 102 :: Char.ofNat 51 :: Char.ofNat 101 :: Char.ofNat 53 :: Char.ofNat 53 :: Char.ofNat 55 :: Char.ofNat 50 :: Char.ofNat 48 :: Char.ofNat 52 :: Char.ofNat 49 :: Char.ofNat 100 :: Char.ofNat 99 :: Char.ofNat 51 :: Char.ofNat 55 :: Char.ofNat 48 :: Char.ofNat 54 :: Char.ofNat 56 :: Char.ofNat 48 :: Char.ofNat 49 :: Char.ofNat 56 :: Char.ofNat 98 :: Char.ofNat 54 :: Char.ofNat 102 :: Char.ofNat 52 :: Char.ofNat 100 :: Char.ofNat 53 :: Char.ofNat 100 :: Char.ofNat 57 :: Char.ofNat 102 :: Char.ofNat 97 :: Char.ofNat 97 :: Char.ofNat 49 :: Char.ofNat 100 :: Char.ofNat 53 :: Char.ofNat 51 :: Char.ofNat 54 :: Char.ofNat 56 :: Char.ofNat 98 :: Char.ofNat 101 :: Char.ofNat 50 :: Char.ofNat 32 :: Char.ofNat 99 :: Char.ofNat 117 :: Char.ofNat 116 :: Char.ofNat 32 :: Char.ofNat 97 :: Char.ofNat 116 :: Char.ofNat 32 :: tailSigns) := by kernel_rfl
theorem initOrder_list : Tryd.pinned.checked.prog.initOrder.toList = Char.ofNat 104 :: Char.ofNat 97 :: Char.ofNat 114 :: Char.ofNat 110 :: Char.ofNat 101 :: Char.ofNat 115 :: Char.ofNat 115 :: Char.ofNat 32 :: Char.ofNat 56 :: Char.ofNat 56 :: Char.ofNat 53 :: Char.ofNat 52 :: Char.ofNat 99 :: Char.ofNat 52 :: Char.ofNat 57 :: Char.ofNat 56 :: Char.ofNat 55 :: Char.ofNat 98 :: Char.ofNat 97 :: Char.ofNat 55 :: Char.ofNat 101 :: Char.ofNat 53 :: Char.ofNat 56 :: Char.ofNat 54 :: Char.ofNat 51 :: Char.ofNat 56 :: Char.ofNat 55 :: Char.ofNat 57 :: Char.ofNat 101 :: Char.ofNat 49 :: Char.ofNat 99 :: Char.ofNat 49 :: Char.ofNat 102 :: Char.ofNat 51 :: Char.ofNat 101 :: Char.ofNat 53 :: Char.ofNat 53 :: Char.ofNat 55 :: Char.ofNat 50 :: Char.ofNat 48 :: Char.ofNat 52 :: Char.ofNat 49 :: Char.ofNat 100 :: Char.ofNat 99 :: Char.ofNat 51 :: Char.ofNat 55 :: Char.ofNat 48 :: Char.ofNat 54 :: Char.ofNat 56 :: Char.ofNat 48 :: Char.ofNat 49 :: Char.ofNat 56 :: Char.ofNat 98 :: Char.ofNat 54 :: Char.ofNat 102 :: Char.ofNat 52 :: Char.ofNat 100 :: Char.ofNat 53 :: Char.ofNat 100 :: Char.ofNat 57 :: Char.ofNat 102 :: Char.ofNat 97 :: Char.ofNat 97 :: Char.ofNat 49 :: Char.ofNat 100 :: Char.ofNat 53 :: Char.ofNat 51 :: Char.ofNat 54 :: Char.ofNat 56 :: Char.ofNat 98 :: Char.ofNat 101 :: Char.ofNat 50 :: Char.ofNat 32 :: Char.ofNat 99 :: Char.ofNat 117 :: Char.ofNat 116 :: Char.ofNat 32 :: Char.ofNat 97 :: Char.ofNat 116 :: Char.ofNat 32 :: tailSigns := (congrArg String.toList (initOrder_lit.trans lit_list)).trans String.toList_ofList
theorem words_at (r : List Char) : wordsSigns (Char.ofNat 104 :: Char.ofNat 97 :: Char.ofNat 114 :: Char.ofNat 110 :: Char.ofNat 101 :: Char.ofNat 115 :: Char.ofNat 115 :: Char.ofNat 32 :: Char.ofNat 56 :: Char.ofNat 56 :: Char.ofNat 53 :: Char.ofNat 52 :: Char.ofNat 99 :: Char.ofNat 52 :: Char.ofNat 57 :: Char.ofNat 56 :: Char.ofNat 55 :: Char.ofNat 98 :: Char.ofNat 97 :: Char.ofNat 55 :: Char.ofNat 101 :: Char.ofNat 53 :: Char.ofNat 56 :: Char.ofNat 54 :: Char.ofNat 51 :: Char.ofNat 56 :: Char.ofNat 55 :: Char.ofNat 57 :: Char.ofNat 101 :: Char.ofNat 49 :: Char.ofNat 99 :: Char.ofNat 49 :: Char.ofNat 102 :: Char.ofNat 51 :: Char.ofNat 101 :: Char.ofNat 53 :: Char.ofNat 53 :: Char.ofNat 55 :: Char.ofNat 50 :: Char.ofNat 48 :: Char.ofNat 52 :: Char.ofNat 49 :: Char.ofNat 100 :: Char.ofNat 99 :: Char.ofNat 51 :: Char.ofNat 55 :: Char.ofNat 48 :: Char.ofNat 54 :: Char.ofNat 56 :: Char.ofNat 48 :: Char.ofNat 49 :: Char.ofNat 56 :: Char.ofNat 98 :: Char.ofNat 54 :: Char.ofNat 102 :: Char.ofNat 52 :: Char.ofNat 100 :: Char.ofNat 53 :: Char.ofNat 100 :: Char.ofNat 57 :: Char.ofNat 102 :: Char.ofNat 97 :: Char.ofNat 97 :: Char.ofNat 49 :: Char.ofNat 100 :: Char.ofNat 53 :: Char.ofNat 51 :: Char.ofNat 54 :: Char.ofNat 56 :: Char.ofNat 98 :: Char.ofNat 101 :: Char.ofNat 50 :: Char.ofNat 32 :: Char.ofNat 99 :: Char.ofNat 117 :: Char.ofNat 116 :: Char.ofNat 32 :: Char.ofNat 97 :: Char.ofNat 116 :: Char.ofNat 32 :: r) = [Char.ofNat 104, Char.ofNat 97, Char.ofNat 114, Char.ofNat 110, Char.ofNat 101, Char.ofNat 115, Char.ofNat 115] :: [Char.ofNat 56, Char.ofNat 56, Char.ofNat 53, Char.ofNat 52, Char.ofNat 99, Char.ofNat 52, Char.ofNat 57, Char.ofNat 56, Char.ofNat 55, Char.ofNat 98, Char.ofNat 97, Char.ofNat 55, Char.ofNat 101, Char.ofNat 53, Char.ofNat 56, Char.ofNat 54, Char.ofNat 51, Char.ofNat 56, Char.ofNat 55, Char.ofNat 57, Char.ofNat 101, Char.ofNat 49, Char.ofNat 99, Char.ofNat 49, Char.ofNat 102, Char.ofNat 51, Char.ofNat 101, Char.ofNat 53, Char.ofNat 53, Char.ofNat 55, Char.ofNat 50, Char.ofNat 48, Char.ofNat 52, Char.ofNat 49, Char.ofNat 100, Char.ofNat 99, Char.ofNat 51, Char.ofNat 55, Char.ofNat 48, Char.ofNat 54, Char.ofNat 56, Char.ofNat 48, Char.ofNat 49, Char.ofNat 56, Char.ofNat 98, Char.ofNat 54, Char.ofNat 102, Char.ofNat 52, Char.ofNat 100, Char.ofNat 53, Char.ofNat 100, Char.ofNat 57, Char.ofNat 102, Char.ofNat 97, Char.ofNat 97, Char.ofNat 49, Char.ofNat 100, Char.ofNat 53, Char.ofNat 51, Char.ofNat 54, Char.ofNat 56, Char.ofNat 98, Char.ofNat 101, Char.ofNat 50] :: [Char.ofNat 99, Char.ofNat 117, Char.ofNat 116] :: [Char.ofNat 97, Char.ofNat 116] :: wordsSigns r := by kernel_rfl
theorem behind_at (t : List (List Char)) : behindMainWord ([Char.ofNat 104, Char.ofNat 97, Char.ofNat 114, Char.ofNat 110, Char.ofNat 101, Char.ofNat 115, Char.ofNat 115] :: [Char.ofNat 56, Char.ofNat 56, Char.ofNat 53, Char.ofNat 52, Char.ofNat 99, Char.ofNat 52, Char.ofNat 57, Char.ofNat 56, Char.ofNat 55, Char.ofNat 98, Char.ofNat 97, Char.ofNat 55, Char.ofNat 101, Char.ofNat 53, Char.ofNat 56, Char.ofNat 54, Char.ofNat 51, Char.ofNat 56, Char.ofNat 55, Char.ofNat 57, Char.ofNat 101, Char.ofNat 49, Char.ofNat 99, Char.ofNat 49, Char.ofNat 102, Char.ofNat 51, Char.ofNat 101, Char.ofNat 53, Char.ofNat 53, Char.ofNat 55, Char.ofNat 50, Char.ofNat 48, Char.ofNat 52, Char.ofNat 49, Char.ofNat 100, Char.ofNat 99, Char.ofNat 51, Char.ofNat 55, Char.ofNat 48, Char.ofNat 54, Char.ofNat 56, Char.ofNat 48, Char.ofNat 49, Char.ofNat 56, Char.ofNat 98, Char.ofNat 54, Char.ofNat 102, Char.ofNat 52, Char.ofNat 100, Char.ofNat 53, Char.ofNat 100, Char.ofNat 57, Char.ofNat 102, Char.ofNat 97, Char.ofNat 97, Char.ofNat 49, Char.ofNat 100, Char.ofNat 53, Char.ofNat 51, Char.ofNat 54, Char.ofNat 56, Char.ofNat 98, Char.ofNat 101, Char.ofNat 50] :: [Char.ofNat 99, Char.ofNat 117, Char.ofNat 116] :: [Char.ofNat 97, Char.ofNat 116] :: t) = [Char.ofNat 99, Char.ofNat 117, Char.ofNat 116] :: [Char.ofNat 97, Char.ofNat 116] :: t := by kernel_rfl
theorem behind_all : behindMainWord (wordsSigns Tryd.pinned.checked.prog.initOrder.toList) = [Char.ofNat 99, Char.ofNat 117, Char.ofNat 116] :: [Char.ofNat 97, Char.ofNat 116] :: wordsSigns tailSigns := by rw [initOrder_list, words_at, behind_at]
theorem make_of (c : List Char) (rest : List (List Char)) (P : Program) (h0 : (c == "gc".toList) = false) (h1 : (c == "spec".toList) = false) (h2 : (c == "cut".toList) = true) (h : behindMainWord (wordsSigns P.initOrder.toList) = c :: rest) : P.make = some .cut := by
  unfold Program.make
  rw [h]
  simp only [h0, h1, h2]
  rfl
theorem mayEnter_of (c : List Char) (rest : List (List Char)) (P : Program) (h0 : (c == "gc".toList) = false) (h1 : (c == "spec".toList) = false) (h2 : (c == "carried".toList) = false) (h : behindMainWord (wordsSigns P.initOrder.toList) = c :: rest)
    (h3 : ((stripLifts liftWords (c :: rest)).2.head? == some "cut".toList) = true) (h4 : P.laysLater = false) (h5 : P.bearsReflect = false) (h6 : P.doorFits (stripLifts liftWords (c :: rest)).1 = true) (h7 : (stripLifts liftWords (c :: rest)).1.contains "leanrows" = false) : P.mayEnter = true := by
  unfold Program.mayEnter
  rw [h]
  simp only [h0, h1, h2, h3, h4, h5, h6, h7]
  simp
theorem liftsFinal_of (c : List Char) (rest : List (List Char)) (P : Program) (h2 : (some c == some "carried".toList) = false) (h : behindMainWord (wordsSigns P.initOrder.toList) = c :: rest)
    (h3 : ((stripLifts liftWords (c :: rest)).2.head? == some "cut".toList) = true) (h7 : (stripLifts liftWords (c :: rest)).1.contains "finals" = false) : P.liftsFinal = false := by
  unfold Program.liftsFinal Program.headLifts
  rw [h]
  simp only [List.head?_cons, h2, h3, if_true, h7, Bool.false_and, Bool.or_self]
theorem strip_at (t : List (List Char)) : stripLifts liftWords ([Char.ofNat 99, Char.ofNat 117, Char.ofNat 116] :: [Char.ofNat 97, Char.ofNat 116] :: t) = ([], [Char.ofNat 99, Char.ofNat 117, Char.ofNat 116] :: [Char.ofNat 97, Char.ofNat 116] :: t) := by kernel_rfl
theorem laysLater_at : Tryd.pinned.checked.prog.laysLater = false := by kernel_rfl
theorem bearsReflect_at : Tryd.pinned.checked.prog.bearsReflect = false := by kernel_rfl
theorem doorFits_at : Tryd.pinned.checked.prog.doorFits [] = true := by kernel_rfl
theorem mayEnter_at : Tryd.pinned.checked.prog.mayEnter = true :=
  mayEnter_of _ _ _ (by kernel_rfl) (by kernel_rfl) (by kernel_rfl) behind_all (by rw [strip_at]; generalize wordsSigns tailSigns = t; kernel_rfl) laysLater_at bearsReflect_at (by rw [strip_at]; exact doorFits_at) (by rw [strip_at]; rfl)
theorem liftsFinal_at : Tryd.pinned.checked.prog.liftsFinal = false :=
  liftsFinal_of _ _ _ (by kernel_rfl) behind_all (by rw [strip_at]; generalize wordsSigns tailSigns = t; kernel_rfl) (by rw [strip_at]; rfl)
theorem make_at : Tryd.pinned.checked.prog.make = some .cut := make_of _ _ _ (by kernel_rfl) (by kernel_rfl) (by kernel_rfl) behind_all
end Go.Proofs.YtagbldaiedmikaaDoor.Y

/- A world for the witnesses: the settled one, the listed tables holding what their initialisers lay. No conditions. -/
namespace Go.Proofs.YtagbldaiedmikaaDoor.Y
open Go.ChangeShapes Go.WideShapes Go.ChangeAt Go.RowKit
noncomputable def laidWorld (os : Os) : World :=
  { World.holding Tryd.prog os ⟨#[], #[], []⟩ with heap := ((((((((((World.holding Tryd.prog os ⟨#[], #[], []⟩).heap).modify 1 (fun o => match o with | .cells _ t z => .cells #[Value.int .u64 1, Value.int .u64 10, Value.int .u64 100, Value.int .u64 1000, Value.int .u64 10000, Value.int .u64 100000, Value.int .u64 1000000, Value.int .u64 10000000, Value.int .u64 100000000, Value.int .u64 1000000000, Value.int .u64 10000000000, Value.int .u64 100000000000, Value.int .u64 1000000000000, Value.int .u64 10000000000000, Value.int .u64 100000000000000, Value.int .u64 1000000000000000, Value.int .u64 10000000000000000, Value.int .u64 100000000000000000, Value.int .u64 1000000000000000000, Value.int .u64 10000000000000000000] t z | o => o)).modify 4 (fun o => match o with | .cells _ t z => .cells ((Go.Pinned.utf8FirstZ.map fun (n : Nat) => Value.int .u8 (n : Int)).toArray) t z | o => o)).modify 5 (fun o => match o with | .cells _ t z => .cells #[Value.int .u8 128, Value.int .u8 191, Value.int .u8 160, Value.int .u8 191, Value.int .u8 128, Value.int .u8 159, Value.int .u8 144, Value.int .u8 191, Value.int .u8 128, Value.int .u8 143, Value.int .u8 0, Value.int .u8 0, Value.int .u8 0, Value.int .u8 0, Value.int .u8 0, Value.int .u8 0, Value.int .u8 0, Value.int .u8 0, Value.int .u8 0, Value.int .u8 0, Value.int .u8 0, Value.int .u8 0, Value.int .u8 0, Value.int .u8 0, Value.int .u8 0, Value.int .u8 0, Value.int .u8 0, Value.int .u8 0, Value.int .u8 0, Value.int .u8 0, Value.int .u8 0, Value.int .u8 0] t z | o => o)).modify 6 (fun o => match o with | .cells _ t z => .cells #[Value.int .u8 0, Value.int .u8 1, Value.int .u8 28, Value.int .u8 2, Value.int .u8 29, Value.int .u8 14, Value.int .u8 24, Value.int .u8 3, Value.int .u8 30, Value.int .u8 22, Value.int .u8 20, Value.int .u8 15, Value.int .u8 25, Value.int .u8 17, Value.int .u8 4, Value.int .u8 8, Value.int .u8 31, Value.int .u8 27, Value.int .u8 13, Value.int .u8 23, Value.int .u8 21, Value.int .u8 19, Value.int .u8 16, Value.int .u8 7, Value.int .u8 26, Value.int .u8 12, Value.int .u8 18, Value.int .u8 6, Value.int .u8 11, Value.int .u8 5, Value.int .u8 10, Value.int .u8 9] t z | o => o)).modify 7 (fun o => match o with | .cells _ t z => .cells #[Value.int .u8 0, Value.int .u8 1, Value.int .u8 56, Value.int .u8 2, Value.int .u8 57, Value.int .u8 49, Value.int .u8 28, Value.int .u8 3, Value.int .u8 61, Value.int .u8 58, Value.int .u8 42, Value.int .u8 50, Value.int .u8 38, Value.int .u8 29, Value.int .u8 17, Value.int .u8 4, Value.int .u8 62, Value.int .u8 47, Value.int .u8 59, Value.int .u8 36, Value.int .u8 45, Value.int .u8 43, Value.int .u8 51, Value.int .u8 22, Value.int .u8 53, Value.int .u8 39, Value.int .u8 33, Value.int .u8 30, Value.int .u8 24, Value.int .u8 18, Value.int .u8 12, Value.int .u8 5, Value.int .u8 63, Value.int .u8 55, Value.int .u8 48, Value.int .u8 27, Value.int .u8 60, Value.int .u8 41, Value.int .u8 37, Value.int .u8 16, Value.int .u8 46, Value.int .u8 35, Value.int .u8 44, Value.int .u8 21, Value.int .u8 52, Value.int .u8 32, Value.int .u8 23, Value.int .u8 11, Value.int .u8 54, Value.int .u8 26, Value.int .u8 40, Value.int .u8 15, Value.int .u8 34, Value.int .u8 20, Value.int .u8 31, Value.int .u8 10, Value.int .u8 25, Value.int .u8 14, Value.int .u8 19, Value.int .u8 9, Value.int .u8 13, Value.int .u8 8, Value.int .u8 7, Value.int .u8 6] t z | o => o)).modify 2 (fun o => match o with | .cells _ t z => .cells #[Value.iface 130 (.pointer (some ⟨(World.holding Tryd.prog os ⟨#[], #[], []⟩).heap.size + 0, 0, none⟩))] t z | o => o)).push (.cells #[Value.string ⟨#[105, 110, 118, 97, 108, 105, 100, 32, 115, 121, 110, 116, 97, 120]⟩] 132 (0, 0))).modify 3 (fun o => match o with | .cells _ t z => .cells #[Value.iface 130 (.pointer (some ⟨(World.holding Tryd.prog os ⟨#[], #[], []⟩).heap.size + 1, 0, none⟩))] t z | o => o)).push (.cells #[Value.string ⟨#[118, 97, 108, 117, 101, 32, 111, 117, 116, 32, 111, 102, 32, 114, 97, 110, 103, 101]⟩] 132 (0, 0)) }
end Go.Proofs.YtagbldaiedmikaaDoor.Y
