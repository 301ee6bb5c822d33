/- The law FnExactGetText, as a plain statement: the program's GetText answers as the reference's, and leaves its argument alone. Conditions: those of the row's reading alone. -/
/- Part 2 of 3 of this claim's texts. -/
import Derived.Test.YtmkhhnfmahdijaaWWords
import Derived.Deep.Slices
import Derived.ChangeArms
import Derived.WideShapes
import Derived.DataReads
import Derived.Test.YtmkhhnfmahdijaaRows
import Derived.WalkKit
import Derived.ProofKit
import Derived.Test.YtmkhhnfmahdijaaCFnExactGetText0
namespace Go.Proofs.Ytmkhhnfmahdijaa.X
open Go.RowKit Go.Proofs.YtmkhhnfmahdijaaW.PrintWords Go.Proofs.YtmkhhnfmahdijaaW.PrintLast Go.Proofs.YtmkhhnfmahdijaaW.PrintMore
attribute [local go_sem] max2_int min2_int max_two min_two max_three min_three max_four min_four   -- for this text's walks alone
set_option linter.unusedVariables false
set_option linter.unusedSimpArgs false

/-! ### laws_toStringS: function 56 -/
def laws_toStringS.l0 : Nat → List ByteArray → List ByteArray → Int → Option (List ByteArray)
  | 0, _, _, _ => none
  | k + 1, x0, x3, x4 => if x4 < (x0.length : Int) then (if 0 ≤ x4 then (if x4 < (x3.length : Int) then (laws_toStringS.l0 k x0 (x3.set (x4 : Int).toNat (rdOf ByteArray.empty x0 x4)) (wrap64 (x4 + 1))) else (none)) else (none)) else (some x3)
def laws_toStringS.f (k : Nat) (l0 : List ByteArray) : Option (List ByteArray) := if 0 ≤ (l0.length : Int) then (if ((l0.length : Int) : Int).toNat ≤ 17592186044416 then (laws_toStringS.l0 k l0 (List.replicate ((l0.length : Int) : Int).toNat (⟨#[]⟩ : ByteArray)) 0) else (none)) else (none)
theorem laws_toStringS.mono_l : ∀ k, (∀ y0 y1 y2, LeO (laws_toStringS.l0 k y0 y1 y2) (laws_toStringS.l0 (k + 1) y0 y1 y2))
  | 0 => fun _ _ _ r h => by simp [laws_toStringS.l0] at h
  | k + 1 => by
    have ih0 := laws_toStringS.mono_l k
    · intro y0 y1 y2
      unfold laws_toStringS.l0
      repeat' first
      | (with_reducible exact ih0 _ _ _)
      | (with_reducible exact LeO.refl _)
      | (with_reducible exact LeO.none _)
      | (with_reducible refine LeO.ite ?_ ?_)
      | (with_reducible refine LeO.bind ?_ (fun _ => ?_))
      | exact ih0 _ _ _
      | exact LeO.none _
      | refine LeO.ite ?_ ?_
      | refine LeO.bind ?_ (fun _ => ?_)
theorem laws_toStringS.mono : ∀ a0 k, LeO (laws_toStringS.f k a0) (laws_toStringS.f (k + 1) a0) := by
  intro a0 k
  have ih0 := laws_toStringS.mono_l k
  unfold laws_toStringS.f
  repeat' first
      | (with_reducible exact ih0 _ _ _)
      | (with_reducible exact LeO.refl _)
      | (with_reducible exact LeO.none _)
      | (with_reducible refine LeO.ite ?_ ?_)
      | (with_reducible refine LeO.bind ?_ (fun _ => ?_))
      | exact ih0 _ _ _
      | exact LeO.none _
      | refine LeO.ite ?_ ?_
      | refine LeO.bind ?_ (fun _ => ?_)
set_option maxHeartbeats 8000000 in
set_option maxRecDepth 100000 in
theorem laws_toStringS.calls (k : Nat) (A0 : Option Addr) (c0 : Nat) (l0 : List ByteArray) (r : List ByteArray) (w : World) (hr0 : Kd.C Kd.string w A0 l0.length l0) (hc0 : l0.length ≤ c0) (h : laws_toStringS.f k l0 = some r) :
    Calls Try.prog 56 #[.slice A0 l0.length c0] w fun e w' => ∃ v0_ : Value, e = .returned (v0_) ∧ Kd.R Kd.string 9 w' w.heap.size (fun _ => True) v0_ r ∧ Below w.heap.size w w' := by
  have HR0 := Aside0.mk hr0
  have HC0 := Aside0.mk hc0
  clear hr0 hc0
  have HB := Aside0.mk (Below.refl w.heap.size w)
  have H : (if 0 ≤ (l0.length : Int) then (if ((l0.length : Int) : Int).toNat ≤ 17592186044416 then (laws_toStringS.l0 k l0 (List.replicate ((l0.length : Int) : Int).toNat (⟨#[]⟩ : ByteArray)) 0) else (none)) else (none)) = some r := h
  clear h
  by_cases c2 : 0 ≤ (l0.length : Int)
  · rw [if_pos c2] at H
    have c2b0 := eq_true c2
    have c2b1 : decide (0 ≤ (l0.length : Int)) = true := decide_eq_true c2
    clear c2
    by_cases c3 : ((l0.length : Int) : Int).toNat ≤ 17592186044416
    · rw [if_pos c3] at H
      have c3b0 := eq_true c3
      have c3b1 : decide (((l0.length : Int) : Int).toNat ≤ 17592186044416) = true := decide_eq_true c3
      clear c3
      obtain ⟨y444, hy444⟩ : ∃ y_ : List ByteArray, y_ = (List.replicate ((l0.length : Int) : Int).toNat (⟨#[]⟩ : ByteArray)) := ⟨_, rfl⟩
      replace H : (laws_toStringS.l0 k l0 y444 0) = some r := by first | (rw [hy444]; with_reducible exact H) | (have H2_ := (Option.bind_some _ _).symm.trans H; rw [hy444]; with_reducible exact H2_) | (have H2_ := (Option.bind_some _ _).symm.trans H; with_reducible exact H2_) | with_reducible exact H | (rw [hy444]; exact H) | exact H
      have Ny444 := Aside0.mk hy444
      clear hy444
      have H' := Aside0.mk H
      clear H
      go_enter Try.func56, Try.ntmps56
      go_wp2_with (first | ((with_reducible refine gate_dst (N := 7) rfl ?_); refine Kd.R_make Kd.string _ 9 rfl (N := 7) rfl 44 _ _ rfl (l0.length : Int) rfl rfl Try.underlying44 (.string ⟨#[]⟩) 16 info9 rfl (by decide) (by omega) (⟨#[]⟩ : ByteArray) (ok := fun _ => True) (okp := fun _ => True) rfl (fun _ hk => hk) trivial (of_decide_eq_true (by first | (with_reducible assumption) | assumption)) (Nat.le_trans (Nat.mul_le_mul_right _ (of_decide_eq_true (by first | (with_reducible assumption) | assumption) : (l0.length : Int).toNat ≤ 17592186044416)) (by omega)) (Below.refl _ _) (Nat.le_refl _) ?_; intro v445 w4 ho5 hb hg_ hnew_; clear hg_ hnew_; (first | rw [← Ny444.out] at ho5 | (simp only [Int.reduceToNat] at ho5; rw [← Ny444.out] at ho5)); have n0_ := Aside0.mk (Kd.R_lower ho5 (below_size (by repeat (first | (with_reducible first | exact HB.out | apply below_alloc | apply pw_below_drewN | apply below_drew1) | exact HB.out)))); have n1_ := Aside0.mk (below_step (by repeat (first | (with_reducible first | exact HB.out | apply below_alloc | apply pw_below_drewN | apply below_drew1) | exact HB.out)) hb); clear HB; have HO446 := n0_; have HB := n1_; clear n0_ n1_; clear hb ho5))
      go_loopg [4] k (fun kq v4 w' => ∃ (x3_1 : List ByteArray) (x4_1 : Int), v4 = .int .i64 x4_1 ∧ Aside0 (laws_toStringS.l0 kq l0 x3_1 x4_1 = some r) ∧ Aside0 (kq ≤ k) ∧ Aside0 (Kd.R Kd.string 9 w' w.heap.size (fun _ => True) v445 x3_1) ∧ Aside0 (Below w.heap.size w w'))
      case atStart => exact ⟨(y444), (0), (by first | rfl | (simp; done) | (simp [*]; done)), H', ⟨Nat.le_refl _⟩, ⟨by (with_reducible repeat (first | apply Kd.R_alloc | apply Kd.R_drewN | apply Kd.R_drew)); exact HO446.out⟩, ⟨by repeat (first | (with_reducible first | exact HB.out | apply below_alloc | apply pw_below_drewN | apply below_drew1) | exact HB.out)⟩⟩
      case round =>
        clear H'
        try clear c2
        try clear c2b0
        try clear c2b1
        try clear p2
        try clear c3
        try clear c3b0
        try clear c3b1
        try clear c5
        obtain ⟨x3_1, x4_1, rfl, HA, HK1, HO_3, HB⟩ := hrel
        cases gk with
        | zero => exact absurd HA.out (by simp [laws_toStringS.l0])
        | succ k1 =>
          have H := HA.out
          clear HA
          simp only [laws_toStringS.l0] at H
          by_cases c6 : x4_1 < (l0.length : Int)
          · rw [if_pos c6] at H
            have c6b0 : decide (x4_1 < (l0.length : Int)) = true := decide_eq_true c6
            clear c6
            by_cases c7 : 0 ≤ x4_1
            · rw [if_pos c7] at H
              have c7b0 : decide (0 ≤ x4_1) = true := decide_eq_true c7
              clear c7
              by_cases c8 : x4_1 < (x3_1.length : Int)
              · rw [if_pos c8] at H
                have c8b0 : decide (x4_1 < (x3_1.length : Int)) = true := decide_eq_true c8
                clear c8
                obtain ⟨y448, hy448⟩ : ∃ y_ : List ByteArray, y_ = (x3_1.set (x4_1 : Int).toNat (rdOf ByteArray.empty l0 x4_1)) := ⟨_, rfl⟩
                replace H : (laws_toStringS.l0 k1 l0 y448 (wrap64 (x4_1 + 1))) = some r := by first | (rw [hy448]; with_reducible exact H) | (have H2_ := (Option.bind_some _ _).symm.trans H; rw [hy448]; with_reducible exact H2_) | (have H2_ := (Option.bind_some _ _).symm.trans H; with_reducible exact H2_) | with_reducible exact H | (rw [hy448]; exact H) | exact H
                have Ny448 := Aside0.mk hy448
                clear hy448
                have H' := Aside0.mk H
                clear H
                have p447 : 0 ≤ (x4_1 : Int) := of_decide_eq_true (by first | (with_reducible assumption) | assumption)
                have q447 : x4_1 < (l0.length : Int) := of_decide_eq_true (by first | (with_reducible assumption) | assumption)
                obtain ⟨ad447, e447, hx447_0⟩ := Kd.at_string HR0.out x4_1 p447 q447
                cases e447
                replace hx447_0 := (HB.out.cell (World.block_lt_of_cell? w _ hx447_0)).trans hx447_0
                replace p447 := eq_true p447
                replace q447 := eq_true q447
                have p9 : 0 ≤ (x4_1 : Int) := of_decide_eq_true (by first | (with_reducible assumption) | assumption)
                have q9 : (x4_1 : Int) < ((x3_1.length : Int) : Int) := of_decide_eq_true (by first | (with_reducible assumption) | assumption)
                obtain ⟨go9, co9, eo9, gb9, gl9, cl9, HG9⟩ := Kd.R_form HO_3.out (by omega)
                (first | cases eo9 | (injection eo9 with ea_ en_ ec_; (first | subst ea_ | (injection ea_ with ea_; subst ea_)); subst ec_; clear en_))
                have GB9 := Aside0.mk gb9
                have GG9 := Aside0.mk HG9
                clear gb9 gl9 HG9
                obtain ⟨hx9_0, hf9_0⟩ := Kd.R_celln (⟨#[]⟩ : ByteArray) HO_3.out (x4_1 : Int) p9 q9
                replace p9 := eq_true p9
                replace q9 := eq_true q9
                have HP10 := Kd.R_putg HO_3.out (x4_1 : Int) (rdOf ByteArray.empty l0 x4_1)
                go_wp2_with (first | ((with_reducible refine gate_store (t := 9) (p := 20) rfl ?_); refine store_event (t := 9) (p := 20) (v := ?vo_w11) (w1 := (wr.setCell ⟨go9, (x4_1 : Int).toNat, none⟩ (.string (rdOf ByteArray.empty l0 x4_1)))) ?hg ?ho ?hn ?hr ?_; (case ho => rfl); (case hg => rfl); (case hn => rfl); (case hr => first | (go_simp; done) | (go_simp; rfl)); intro w11 hw; have hg : wr.grownBy w11 (some go9) := (by rw [hw]; exact HP10.2); have hp_ : Kd.R Kd.string 9 w11 w.heap.size (fun _ => True) (.slice (some ⟨go9, 0, none⟩) x3_1.length co9) y448 := (by rw [hw, Ny448.out]; exact HP10.1); clear HP10; have n0_ := Aside0.mk (hp_); have n1_ := Aside0.mk ((by rw [hw]; exact below_set (HB.out) GB9.out : Below w.heap.size w w11)); clear HO_3; clear HB; have HO_3 := n0_; have HB := n1_; clear n0_ n1_; clear hg hw hp_))
                go_roundg k1
                case measure => have := HK1.out; omega
                case rel => exact ⟨(y448), (wrap64 (x4_1 + 1)), (by first | rfl | (simp; done) | (simp [*]; done)), H', ⟨by have := HK1.out; omega⟩, ⟨by (with_reducible repeat (first | apply Kd.R_alloc | apply Kd.R_drewN | apply Kd.R_drew)); exact HO_3.out⟩, ⟨by repeat (first | (with_reducible first | exact HB.out | apply below_alloc | apply pw_below_drewN | apply below_drew1) | exact HB.out)⟩⟩
              · rw [if_neg c8] at H
                exact absurd H (by simp)
            · rw [if_neg c7] at H
              exact absurd H (by simp)
          · rw [if_neg c6] at H
            have c6b0 : decide (x4_1 < (l0.length : Int)) = false := decide_eq_false c6
            clear c6
            obtain rfl := Option.some.inj H
            go_wp2
            go_ret
            exact ⟨_, by first | rfl | (simp [errW_none, errW_some] <;> rfl) | (simp [*, errW_none, errW_some] <;> rfl), by (with_reducible repeat (first | apply Kd.R_alloc | apply Kd.R_drewN | apply Kd.R_drew)); exact HO_3.out, by repeat (first | (with_reducible first | exact HB.out | apply below_alloc | apply pw_below_drewN | apply below_drew1) | exact HB.out)⟩
    · rw [if_neg c3] at H
      exact absurd H (by simp)
  · rw [if_neg c2] at H
    exact absurd H (by simp)

end Go.Proofs.Ytmkhhnfmahdijaa.X

namespace Go.Proofs.Ytmkhhnfmahdijaa.X
open Go.RowKit Go.Proofs.YtmkhhnfmahdijaaW.PrintWords Go.Proofs.YtmkhhnfmahdijaaW.PrintLast Go.Proofs.YtmkhhnfmahdijaaW.PrintMore
attribute [local go_sem] max2_int min2_int max_two min_two max_three min_three max_four min_four   -- for this text's walks alone
set_option linter.unusedVariables false
set_option linter.unusedSimpArgs false

/-! ### laws_eqStringS: function 58 -/
def laws_eqStringS.l0 : Nat → List ByteArray → List ByteArray → Int → Option (Bool)
  | 0, _, _, _ => none
  | k + 1, x0, x1, x5 => if x5 < (x0.length : Int) then (if 0 ≤ x5 then (if x5 < (x1.length : Int) then (if (rdOf ByteArray.empty x0 x5).toList = (rdOf ByteArray.empty x1 x5).toList then (laws_eqStringS.l0 k x0 x1 (wrap64 (x5 + 1))) else (some false)) else (none)) else (none)) else (some true)
def laws_eqStringS.f (k : Nat) (l0 : List ByteArray) (l1 : List ByteArray) : Option (Bool) := if (l0.length : Int) = (l1.length : Int) then (laws_eqStringS.l0 k l0 l1 0) else (some false)
theorem laws_eqStringS.mono_l : ∀ k, (∀ y0 y1 y2, LeO (laws_eqStringS.l0 k y0 y1 y2) (laws_eqStringS.l0 (k + 1) y0 y1 y2))
  | 0 => fun _ _ _ r h => by simp [laws_eqStringS.l0] at h
  | k + 1 => by
    have ih0 := laws_eqStringS.mono_l k
    · intro y0 y1 y2
      unfold laws_eqStringS.l0
      repeat' first
      | (with_reducible exact ih0 _ _ _)
      | (with_reducible exact LeO.refl _)
      | (with_reducible exact LeO.none _)
      | (with_reducible refine LeO.ite ?_ ?_)
      | (with_reducible refine LeO.bind ?_ (fun _ => ?_))
      | exact ih0 _ _ _
      | exact LeO.none _
      | refine LeO.ite ?_ ?_
      | refine LeO.bind ?_ (fun _ => ?_)
theorem laws_eqStringS.mono : ∀ a0 a1 k, LeO (laws_eqStringS.f k a0 a1) (laws_eqStringS.f (k + 1) a0 a1) := by
  intro a0 a1 k
  have ih0 := laws_eqStringS.mono_l k
  unfold laws_eqStringS.f
  repeat' first
      | (with_reducible exact ih0 _ _ _)
      | (with_reducible exact LeO.refl _)
      | (with_reducible exact LeO.none _)
      | (with_reducible refine LeO.ite ?_ ?_)
      | (with_reducible refine LeO.bind ?_ (fun _ => ?_))
      | exact ih0 _ _ _
      | exact LeO.none _
      | refine LeO.ite ?_ ?_
      | refine LeO.bind ?_ (fun _ => ?_)
set_option maxHeartbeats 8000000 in
set_option maxRecDepth 100000 in
theorem laws_eqStringS.calls (k : Nat) (A0 : Option Addr) (c0 : Nat) (l0 : List ByteArray) (A1 : Option Addr) (c1 : Nat) (l1 : List ByteArray) (r : Bool) (w : World) (hr0 : Kd.C Kd.string w A0 l0.length l0) (hc0 : l0.length ≤ c0) (hr1 : Kd.C Kd.string w A1 l1.length l1) (hc1 : l1.length ≤ c1) (h : laws_eqStringS.f k l0 l1 = some r) :
    Calls Try.prog 58 #[.slice A0 l0.length c0, .slice A1 l1.length c1] w fun e w' => e = .returned (.bool r) ∧ Drawn0 w w' := by
  have HR0 := Aside0.mk hr0
  have HC0 := Aside0.mk hc0
  clear hr0 hc0
  have HR1 := Aside0.mk hr1
  have HC1 := Aside0.mk hc1
  clear hr1 hc1
  have H : (if (l0.length : Int) = (l1.length : Int) then (laws_eqStringS.l0 k l0 l1 0) else (some false)) = some r := h
  clear h
  by_cases c3 : (l0.length : Int) = (l1.length : Int)
  · rw [if_pos c3] at H
    have c3b0 : ((l0.length : Int) == (l1.length : Int)) = true := beq_iff_eq.mpr c3
    have c3b1 : ((l0.length : Int) != (l1.length : Int)) = false := bne_eq_false_iff_eq.mpr c3
    have c3b2 : (l0.length == l1.length) = true := by first | simpa using c3 | (simp at c3 ⊢; omega)
    clear c3
    have H' := Aside0.mk H
    clear H
    go_enter Try.func58, Try.ntmps58
    go_wp2
    repeat (go_quiet (fail); try go_wp2)
    go_loopg [5] k (fun kq v5 w' => ∃ (x5_1 : Int), v5 = .int .i64 x5_1 ∧ Aside0 (laws_eqStringS.l0 kq l0 l1 x5_1 = some r) ∧ Aside0 (kq ≤ k) ∧ Drawn0 w w')
    case atStart => exact ⟨(0), (by first | rfl | (simp; done) | (simp [*]; done)), H', ⟨Nat.le_refl _⟩, by repeat (first | exact Drawn0.refl _ | apply Drawn0.step)⟩
    case round =>
      clear H'
      try clear c1
      try clear p2
      try clear c3
      try clear c3b0
      try clear c3b1
      try clear c3b2
      obtain ⟨x5_1, rfl, HA, HK1, ⟨m1, rfl⟩⟩ := hrel
      cases gk with
      | zero => exact absurd HA.out (by simp [laws_eqStringS.l0])
      | succ k1 =>
        have H := HA.out
        clear HA
        simp only [laws_eqStringS.l0] at H
        by_cases c4 : x5_1 < (l0.length : Int)
        · rw [if_pos c4] at H
          have c4b0 : decide (x5_1 < (l0.length : Int)) = true := decide_eq_true c4
          clear c4
          by_cases c5 : 0 ≤ x5_1
          · rw [if_pos c5] at H
            have c5b0 : decide (0 ≤ x5_1) = true := decide_eq_true c5
            clear c5
            by_cases c6 : x5_1 < (l1.length : Int)
            · rw [if_pos c6] at H
              have c6b0 : decide (x5_1 < (l1.length : Int)) = true := decide_eq_true c6
              clear c6
              by_cases c7 : (rdOf ByteArray.empty l0 x5_1).toList = (rdOf ByteArray.empty l1 x5_1).toList
              · rw [if_pos c7] at H
                have c7b0 : ((rdOf ByteArray.empty l0 x5_1).toList == (rdOf ByteArray.empty l1 x5_1).toList) = true := beq_iff_eq.mpr c7
                have c7b1 : ((rdOf ByteArray.empty l0 x5_1).toList != (rdOf ByteArray.empty l1 x5_1).toList) = false := bne_eq_false_iff_eq.mpr c7
                clear c7
                have H' := Aside0.mk H
                clear H
                have p460 : 0 ≤ (x5_1 : Int) := of_decide_eq_true (by first | (with_reducible assumption) | assumption)
                have q460 : x5_1 < (l0.length : Int) := of_decide_eq_true (by first | (with_reducible assumption) | assumption)
                obtain ⟨ad460, e460, hx460_0⟩ := Kd.at_string HR0.out x5_1 p460 q460
                cases e460
                replace p460 := eq_true p460
                replace q460 := eq_true q460
                have p461 : 0 ≤ (x5_1 : Int) := of_decide_eq_true (by first | (with_reducible assumption) | assumption)
                have q461 : x5_1 < (l1.length : Int) := of_decide_eq_true (by first | (with_reducible assumption) | assumption)
                obtain ⟨ad461, e461, hx461_0⟩ := Kd.at_string HR1.out x5_1 p461 q461
                cases e461
                replace p461 := eq_true p461
                replace q461 := eq_true q461
                go_wp2
                repeat (go_quiet (fail); try go_wp2)
                go_roundg k1
                case measure => have := HK1.out; omega
                case rel => exact ⟨(wrap64 (x5_1 + 1)), (by first | rfl | (simp; done) | (simp [*]; done)), H', ⟨by have := HK1.out; omega⟩, by repeat (first | exact Drawn0.refl _ | apply Drawn0.step)⟩
              · rw [if_neg c7] at H
                have c7b0 : ((rdOf ByteArray.empty l0 x5_1).toList == (rdOf ByteArray.empty l1 x5_1).toList) = false := beq_eq_false_iff_ne.mpr c7
                have c7b1 : ((rdOf ByteArray.empty l0 x5_1).toList != (rdOf ByteArray.empty l1 x5_1).toList) = true := bne_iff_ne.mpr c7
                obtain rfl := Option.some.inj H
                have p460 : 0 ≤ (x5_1 : Int) := of_decide_eq_true (by first | (with_reducible assumption) | assumption)
                have q460 : x5_1 < (l0.length : Int) := of_decide_eq_true (by first | (with_reducible assumption) | assumption)
                obtain ⟨ad460, e460, hx460_0⟩ := Kd.at_string HR0.out x5_1 p460 q460
                cases e460
                replace p460 := eq_true p460
                replace q460 := eq_true q460
                have p461 : 0 ≤ (x5_1 : Int) := of_decide_eq_true (by first | (with_reducible assumption) | assumption)
                have q461 : x5_1 < (l1.length : Int) := of_decide_eq_true (by first | (with_reducible assumption) | assumption)
                obtain ⟨ad461, e461, hx461_0⟩ := Kd.at_string HR1.out x5_1 p461 q461
                cases e461
                replace p461 := eq_true p461
                replace q461 := eq_true q461
                go_wp2
                repeat (go_quiet (fail); try go_wp2)
                go_ret
                exact ⟨by first | rfl | (simp; done) | (simp [*]; done), by repeat (first | exact Drawn0.refl _ | apply Drawn0.step)⟩
            · rw [if_neg c6] at H
              exact absurd H (by simp)
          · rw [if_neg c5] at H
            exact absurd H (by simp)
        · rw [if_neg c4] at H
          have c4b0 : decide (x5_1 < (l0.length : Int)) = false := decide_eq_false c4
          clear c4
          obtain rfl := Option.some.inj H
          go_wp2
          repeat (go_quiet (fail); try go_wp2)
          go_ret
          exact ⟨by first | rfl | (simp; done) | (simp [*]; done), by repeat (first | exact Drawn0.refl _ | apply Drawn0.step)⟩
  · rw [if_neg c3] at H
    have c3b0 : ((l0.length : Int) == (l1.length : Int)) = false := beq_eq_false_iff_ne.mpr c3
    have c3b1 : ((l0.length : Int) != (l1.length : Int)) = true := bne_iff_ne.mpr c3
    have c3b2 : (l0.length == l1.length) = false := by first | simpa using c3 | (simp at c3 ⊢; omega)
    obtain rfl := Option.some.inj H
    go_enter Try.func58, Try.ntmps58
    go_wp2
    repeat (go_quiet (fail); try go_wp2)
    go_ret
    exact ⟨by first | rfl | (simp; done) | (simp [*]; done), by repeat (first | exact Drawn0.refl _ | apply Drawn0.step)⟩

end Go.Proofs.Ytmkhhnfmahdijaa.X

namespace Go.Proofs.Ytmkhhnfmahdijaa.X
open Go.RowKit Go.Proofs.YtmkhhnfmahdijaaW.PrintWords Go.Proofs.YtmkhhnfmahdijaaW.PrintLast Go.Proofs.YtmkhhnfmahdijaaW.PrintMore
attribute [local go_sem] max2_int min2_int max_two min_two max_three min_three max_four min_four   -- for this text's walks alone
set_option linter.unusedVariables false
set_option linter.unusedSimpArgs false

/-! ### laws_szStringS: function 54 -/
def laws_szStringS.l0 : Nat → List ByteArray → Int → Int → Option (Int)
  | 0, _, _, _ => none
  | k + 1, x0, x1, x5 => if x5 < (x0.length : Int) then (if 0 ≤ x5 then (if (wrap64 (x1 - ((rdOf ByteArray.empty x0 x5).size : Int))) < 0 then (some (-1)) else (laws_szStringS.l0 k x0 (wrap64 (x1 - ((rdOf ByteArray.empty x0 x5).size : Int))) (wrap64 (x5 + 1)))) else (none)) else (some x1)
def laws_szStringS.f (k : Nat) (l0 : List ByteArray) (a1 : Int) : Option (Int) := if (wrap64 (a1 - (l0.length : Int))) < 0 then (some (-1)) else (laws_szStringS.l0 k l0 (wrap64 (a1 - (l0.length : Int))) 0)
theorem laws_szStringS.mono_l : ∀ k, (∀ y0 y1 y2, LeO (laws_szStringS.l0 k y0 y1 y2) (laws_szStringS.l0 (k + 1) y0 y1 y2))
  | 0 => fun _ _ _ r h => by simp [laws_szStringS.l0] at h
  | k + 1 => by
    have ih0 := laws_szStringS.mono_l k
    · intro y0 y1 y2
      unfold laws_szStringS.l0
      repeat' first
      | (with_reducible exact ih0 _ _ _)
      | (with_reducible exact LeO.refl _)
      | (with_reducible exact LeO.none _)
      | (with_reducible refine LeO.ite ?_ ?_)
      | (with_reducible refine LeO.bind ?_ (fun _ => ?_))
      | exact ih0 _ _ _
      | exact LeO.none _
      | refine LeO.ite ?_ ?_
      | refine LeO.bind ?_ (fun _ => ?_)
theorem laws_szStringS.mono : ∀ a0 a1 k, LeO (laws_szStringS.f k a0 a1) (laws_szStringS.f (k + 1) a0 a1) := by
  intro a0 a1 k
  have ih0 := laws_szStringS.mono_l k
  unfold laws_szStringS.f
  repeat' first
      | (with_reducible exact ih0 _ _ _)
      | (with_reducible exact LeO.refl _)
      | (with_reducible exact LeO.none _)
      | (with_reducible refine LeO.ite ?_ ?_)
      | (with_reducible refine LeO.bind ?_ (fun _ => ?_))
      | exact ih0 _ _ _
      | exact LeO.none _
      | refine LeO.ite ?_ ?_
      | refine LeO.bind ?_ (fun _ => ?_)
set_option maxHeartbeats 8000000 in
set_option maxRecDepth 100000 in
theorem laws_szStringS.calls (k : Nat) (A0 : Option Addr) (c0 : Nat) (l0 : List ByteArray) (a1 : Int) (r : Int) (w : World) (hr0 : Kd.C Kd.string w A0 l0.length l0) (hc0 : l0.length ≤ c0) (h : laws_szStringS.f k l0 a1 = some r) :
    Calls Try.prog 54 #[.slice A0 l0.length c0, .int .i64 a1] w fun e w' => e = .returned (.int .i64 r) ∧ Drawn0 w w' := by
  have HR0 := Aside0.mk hr0
  have HC0 := Aside0.mk hc0
  clear hr0 hc0
  have H : (if (wrap64 (a1 - (l0.length : Int))) < 0 then (some (-1)) else (laws_szStringS.l0 k l0 (wrap64 (a1 - (l0.length : Int))) 0)) = some r := h
  clear h
  by_cases c3 : (wrap64 (a1 - (l0.length : Int))) < 0
  · rw [if_pos c3] at H
    have c3b0 : decide ((wrap64 (a1 - (l0.length : Int))) < 0) = true := decide_eq_true c3
    clear c3
    obtain rfl := Option.some.inj H
    go_enter Try.func54, Try.ntmps54
    go_wp2
    go_ret
    exact ⟨by first | rfl | (simp; done) | (simp [*]; done), by repeat (first | exact Drawn0.refl _ | apply Drawn0.step)⟩
  · rw [if_neg c3] at H
    have c3b0 : decide ((wrap64 (a1 - (l0.length : Int))) < 0) = false := decide_eq_false c3
    clear c3
    have H' := Aside0.mk H
    clear H
    go_enter Try.func54, Try.ntmps54
    go_wp2
    go_loopg [1, 5] k (fun kq v1 v5 w' => ∃ (x1_1 : Int) (x5_1 : Int), v1 = .int .i64 x1_1 ∧ v5 = .int .i64 x5_1 ∧ Aside0 (laws_szStringS.l0 kq l0 x1_1 x5_1 = some r) ∧ Aside0 (kq ≤ k) ∧ Drawn0 w w')
    case atStart => exact ⟨(wrap64 (a1 - (l0.length : Int))), (0), (by first | rfl | (simp; done) | (simp [*]; done)), (by first | rfl | (simp; done) | (simp [*]; done)), H', ⟨Nat.le_refl _⟩, by repeat (first | exact Drawn0.refl _ | apply Drawn0.step)⟩
    case round =>
      clear H'
      try clear p2
      try clear c3
      try clear c3b0
      obtain ⟨x1_1, x5_1, rfl, rfl, HA, HK1, ⟨m1, rfl⟩⟩ := hrel
      cases gk with
      | zero => exact absurd HA.out (by simp [laws_szStringS.l0])
      | succ k1 =>
        have H := HA.out
        clear HA
        simp only [laws_szStringS.l0] at H
        by_cases c4 : x5_1 < (l0.length : Int)
        · rw [if_pos c4] at H
          have c4b0 : decide (x5_1 < (l0.length : Int)) = true := decide_eq_true c4
          clear c4
          by_cases c5 : 0 ≤ x5_1
          · rw [if_pos c5] at H
            have c5b0 : decide (0 ≤ x5_1) = true := decide_eq_true c5
            clear c5
            by_cases c6 : (wrap64 (x1_1 - ((rdOf ByteArray.empty l0 x5_1).size : Int))) < 0
            · rw [if_pos c6] at H
              have c6b0 : decide ((wrap64 (x1_1 - ((rdOf ByteArray.empty l0 x5_1).size : Int))) < 0) = true := decide_eq_true c6
              clear c6
              obtain rfl := Option.some.inj H
              have p437 : 0 ≤ (x5_1 : Int) := of_decide_eq_true (by first | (with_reducible assumption) | assumption)
              have q437 : x5_1 < (l0.length : Int) := of_decide_eq_true (by first | (with_reducible assumption) | assumption)
              obtain ⟨ad437, e437, hx437_0⟩ := Kd.at_string HR0.out x5_1 p437 q437
              cases e437
              replace p437 := eq_true p437
              replace q437 := eq_true q437
              go_wp2
              go_ret
              exact ⟨by first | rfl | (simp; done) | (simp [*]; done), by repeat (first | exact Drawn0.refl _ | apply Drawn0.step)⟩
            · rw [if_neg c6] at H
              have c6b0 : decide ((wrap64 (x1_1 - ((rdOf ByteArray.empty l0 x5_1).size : Int))) < 0) = false := decide_eq_false c6
              clear c6
              have H' := Aside0.mk H
              clear H
              have p437 : 0 ≤ (x5_1 : Int) := of_decide_eq_true (by first | (with_reducible assumption) | assumption)
              have q437 : x5_1 < (l0.length : Int) := of_decide_eq_true (by first | (with_reducible assumption) | assumption)
              obtain ⟨ad437, e437, hx437_0⟩ := Kd.at_string HR0.out x5_1 p437 q437
              cases e437
              replace p437 := eq_true p437
              replace q437 := eq_true q437
              go_wp2
              go_roundg k1
              case measure => have := HK1.out; omega
              case rel => exact ⟨(wrap64 (x1_1 - ((rdOf ByteArray.empty l0 x5_1).size : Int))), (wrap64 (x5_1 + 1)), (by first | rfl | (simp; done) | (simp [*]; done)), (by first | rfl | (simp; done) | (simp [*]; done)), H', ⟨by have := HK1.out; omega⟩, by repeat (first | exact Drawn0.refl _ | apply Drawn0.step)⟩
          · rw [if_neg c5] at H
            exact absurd H (by simp)
        · rw [if_neg c4] at H
          have c4b0 : decide (x5_1 < (l0.length : Int)) = false := decide_eq_false c4
          clear c4
          obtain rfl := Option.some.inj H
          go_wp2
          go_ret
          exact ⟨by first | rfl | (simp; done) | (simp [*]; done), by repeat (first | exact Drawn0.refl _ | apply Drawn0.step)⟩

end Go.Proofs.Ytmkhhnfmahdijaa.X

/- What the laws' own helpers compute: copies, comparisons, marks. No Go, no memory. -/
set_option linter.unusedVariables false
namespace Go.Proofs.Ytmkhhnfmahdijaa.Z
open Go.RowKit Go.Proofs.YtmkhhnfmahdijaaW.PrintWords Go.Proofs.YtmkhhnfmahdijaaW.PrintMore Go.Proofs.Ytmkhhnfmahdijaa.X

/-! Strings as lists of bytes -/
theorem tl_loop (a : ByteArray) (d : Nat) : ∀ i r, a.size = i + d → ByteArray.toList.loop a i r = r.reverse ++ a.data.toList.drop i := by
  have h2 := data_length a
  induction d with
  | zero =>
    intro i r h
    unfold ByteArray.toList.loop
    rw [if_neg (by omega), List.drop_eq_nil_of_le (by omega), List.append_nil]
  | succ d ih =>
    intro i r h
    unfold ByteArray.toList.loop
    rw [if_pos (by omega), ih (i + 1) _ (by omega)]
    have hi : i < a.data.size := by
      have : a.data.size = a.size := rfl
      omega
    rw [List.drop_eq_getElem_cons (i := i) (by simpa using hi)]
    simp [ByteArray.get!]
    exact getElem!_pos a.data i hi
theorem tl (a : ByteArray) : a.toList = a.data.toList := by
  unfold ByteArray.toList
  rw [tl_loop a a.size 0 [] (by omega)]
  simp
theorem tl_inj {a b : ByteArray} : a.toList = b.toList ↔ a = b := by
  constructor
  · intro h
    rw [tl, tl] at h
    have h1 : a.data = b.data := Array.toList_inj.1 h
    cases a
    cases b
    simp_all
  · rintro rfl
    rfl

/-! toByteS -/
theorem toByteS_l0 (l : List Int) (hn : l.length ≤ 4611686018427387904) (d : Nat) : ∀ (i : Nat) (m : List Int), i + d = l.length → m.length = l.length → (∀ j, j < i → m[j]? = l[j]?) → Ev (fun k => laws_toByteS.l0 k l m (i : Int)) l := by
  induction d with
  | zero =>
    intro i m hi hm h
    refine evS (fun k => by rw [laws_toByteS.l0]) (evF (by omega) (evR ?_))
    exact ext_get hm (fun j hj => h j (by omega))
  | succ d ih =>
    intro i m hi hm h
    refine evS (fun k => by rw [laws_toByteS.l0]) (evT (by omega) (evT (by omega) (evT (by omega) ?_)))
    rw [w64s (show i < l.length by omega) (by omega)]
    exact ih (i + 1) _ (by omega) (by simpa using hm) (by simpa using set_next hm (by omega) (rd_get (by omega)) h)
theorem toByteS_ev (l : List Int) (hn : l.length ≤ 281474976710656) : Ev (fun k => laws_toByteS.f k l) l := by
  unfold laws_toByteS.f
  exact evT (by omega) (evT (by omega) (toByteS_l0 l (by omega) l.length 0 _ (by omega) (by simp) (by intro j hj; omega)))

/-! eqByteS -/
theorem eqByteS_l0 (a b : List Int) (hn : a.length ≤ 4611686018427387904) (hl : a.length = b.length) (d : Nat) : ∀ (i : Nat), i + d = a.length → (∀ j, j < i → a[j]? = b[j]?) → Ev (fun k => laws_eqByteS.l0 k a b (i : Int)) (decide (a = b)) := by
  induction d with
  | zero =>
    intro i hi h
    refine evS (fun k => by rw [laws_eqByteS.l0]) (evF (by omega) (evR ?_))
    exact (decide_eq_true (ext_get hl (fun j hj => h j (by omega)))).symm
  | succ d ih =>
    intro i hi h
    refine evS (fun k => by rw [laws_eqByteS.l0]) (evT (by omega) (evT (by omega) (evT (by omega) (evI ?_ ?_))))
    · intro he
      rw [w64s (show i < a.length by omega) (by omega)]
      refine ih (i + 1) (by omega) (fun j hj => ?_)
      rcases Nat.lt_or_ge j i with h1 | h1
      · exact h j h1
      · obtain rfl : i = j := by omega
        rw [rd_get (by omega), rd_get (by omega), he]
    · intro he
      refine evR (decide_eq_false (fun e => he ?_)).symm
      rw [e]
theorem eqByteS_ev (a b : List Int) (hn : a.length ≤ 4611686018427387904) : Ev (fun k => laws_eqByteS.f k a b) (decide (a = b)) := by
  unfold laws_eqByteS.f
  refine evI (fun h => ?_) (fun h => ?_)
  · exact eqByteS_l0 a b hn (by omega) a.length 0 (by omega) (by intro j hj; omega)
  · refine evR (decide_eq_false (fun e => h ?_)).symm
    rw [e]
theorem eqByteS_same (a : List Int) (hn : a.length ≤ 4611686018427387904) : Ev (fun k => laws_eqByteS.f k a a) true := by
  have := eqByteS_ev a a hn
  rwa [decide_eq_true rfl] at this

/-! marks -/
def mkB (n : Nat) (k : Int) : List Int := (List.range n).map fun (i : Nat) => (k + (i : Int)) % 256
theorem mkB_length (n : Nat) (k : Int) : (mkB n k).length = n := by simp [mkB]
theorem mkB_get {n : Nat} (k : Int) {i : Nat} (h : i < n) : (mkB n k)[i]? = some ((k + (i : Int)) % 256) := by simp [mkB, h]
theorem markByteS_l0 (n : Nat) (a : Int) (ha : 0 ≤ a) (hn : a + n ≤ 4611686018427387904) (d : Nat) : ∀ (i : Nat) (m : List Int), i + d = n → m.length = n → (∀ j, j < i → m[j]? = (mkB n a)[j]?) → Ev (fun k => laws_markByteS.l0 k m (a + (i : Int)) (i : Int)) (a + (n : Int), mkB n a) := by
  induction d with
  | zero =>
    intro i m hi hm h
    refine evS (fun k => by rw [laws_markByteS.l0]) (evF (by omega) (evR ?_))
    rw [ext_get (m := mkB n a) (by rw [mkB_length]; exact hm) (fun j hj => h j (by rw [mkB_length] at hj; omega)), show i = n by omega]
  | succ d ih =>
    intro i m hi hm h
    refine evS (fun k => by rw [laws_markByteS.l0]) (evT (by omega) (evT (by omega) ?_))
    rw [w64s (show i < n by omega) (by omega), w64 (x := a + (i : Int) + 1) (by omega), show a + (i : Int) + 1 = a + ((i + 1 : Nat) : Int) by omega]
    exact ih (i + 1) _ (by omega) (by simpa using hm) (by simpa using set_next (m := mkB n a) (by rw [mkB_length]; exact hm) (by rw [mkB_length]; omega) (mkB_get a (by omega)) h)
theorem markByteS_ev (l : List Int) (a : Int) (ha : 0 ≤ a) (hn : a + l.length ≤ 4611686018427387904) : Ev (fun k => laws_markByteS.f k l a) (a + (l.length : Int), mkB l.length a) := by
  have h := markByteS_l0 l.length a ha hn l.length 0 l (by omega) rfl (by intro j hj; omega)
  rw [show a + ((0 : Nat) : Int) = a by omega] at h
  exact h
theorem heldByteS_l0 (n : Nat) (a : Int) (ha : 0 ≤ a) (hn : a + n ≤ 4611686018427387904) (d : Nat) : ∀ (i : Nat), i + d = n → Ev (fun k => laws_heldByteS.l0 k (mkB n a) (a + (i : Int)) (i : Int)) (a + (n : Int)) := by
  induction d with
  | zero =>
    intro i hi
    refine evS (fun k => by rw [laws_heldByteS.l0]) (evF (by rw [mkB_length]; omega) (evR ?_))
    rw [show i = n by omega]
  | succ d ih =>
    intro i hi
    refine evS (fun k => by rw [laws_heldByteS.l0]) (evT (by rw [mkB_length]; omega) (evT (by omega) (evT ?_ ?_)))
    · have h1 := rd_get (l := mkB n a) (i := i) (by rw [mkB_length]; omega)
      rw [mkB_get a (by omega)] at h1
      exact (Option.some.inj h1).symm
    · rw [w64s (show i < n by omega) (by omega), w64 (x := a + (i : Int) + 1) (by omega), show a + (i : Int) + 1 = a + ((i + 1 : Nat) : Int) by omega]
      exact ih (i + 1) (by omega)
theorem heldByteS_ev (n : Nat) (a : Int) (ha : 0 ≤ a) (hn : a + n ≤ 4611686018427387904) : Ev (fun k => laws_heldByteS.f k (mkB n a) a) (a + (n : Int)) := by
  have h := heldByteS_l0 n a ha hn n 0 (by omega)
  rw [show a + ((0 : Nat) : Int) = a by omega] at h
  exact h

/-- Marks that are held, behind one another. -/
theorem evHeld {α : Type} {g f f' : Nat → Option α} {r : α} {n : Nat} {m : Int} (hm : m = 1 + (n : Int)) (H : Ev g r) : Ev (fun k => if m < 0 then f k else if m = 1 + (n : Int) then g k else f' k) r :=
  evF (by omega) (evT hm H)
theorem evNeg {α : Type} {g f : Nat → Option α} {r : α} {n : Nat} (H : Ev g r) : Ev (fun k => if (1 + (n : Int)) < 0 then f k else g k) r := evF (by omega) H

/-! strings' slices -/
theorem toStringS_l0 (l : List ByteArray) (hn : l.length ≤ 4611686018427387904) (d : Nat) : ∀ (i : Nat) (m : List ByteArray), i + d = l.length → m.length = l.length → (∀ j, j < i → m[j]? = l[j]?) → Ev (fun k => laws_toStringS.l0 k l m (i : Int)) l := by
  induction d with
  | zero =>
    intro i m hi hm h
    refine evS (fun k => by rw [laws_toStringS.l0]) (evF (by omega) (evR ?_))
    exact ext_get hm (fun j hj => h j (by omega))
  | succ d ih =>
    intro i m hi hm h
    refine evS (fun k => by rw [laws_toStringS.l0]) (evT (by omega) (evT (by omega) (evT (by omega) ?_)))
    rw [w64s (show i < l.length by omega) (by omega)]
    exact ih (i + 1) _ (by omega) (by simpa using hm) (by simpa using set_next hm (by omega) (rdOf_get (by omega)) h)
theorem toStringS_ev (l : List ByteArray) (hn : l.length ≤ 1048576) : Ev (fun k => laws_toStringS.f k l) l := by
  unfold laws_toStringS.f
  exact evT (by omega) (evT (by omega) (toStringS_l0 l (by omega) l.length 0 _ (by omega) (by simp) (by intro j hj; omega)))
theorem eqStringS_l0 (a b : List ByteArray) (hn : a.length ≤ 4611686018427387904) (hl : a.length = b.length) (d : Nat) : ∀ (i : Nat), i + d = a.length → (∀ j, j < i → a[j]? = b[j]?) → Ev (fun k => laws_eqStringS.l0 k a b (i : Int)) (decide (a = b)) := by
  induction d with
  | zero =>
    intro i hi h
    refine evS (fun k => by rw [laws_eqStringS.l0]) (evF (by omega) (evR ?_))
    exact (decide_eq_true (ext_get hl (fun j hj => h j (by omega)))).symm
  | succ d ih =>
    intro i hi h
    refine evS (fun k => by rw [laws_eqStringS.l0]) (evT (by omega) (evT (by omega) (evT (by omega) (evI ?_ ?_))))
    · intro he
      rw [w64s (show i < a.length by omega) (by omega)]
      refine ih (i + 1) (by omega) (fun j hj => ?_)
      rcases Nat.lt_or_ge j i with h1 | h1
      · exact h j h1
      · obtain rfl : i = j := by omega
        rw [rdOf_get (d := ByteArray.empty) (by omega), rdOf_get (d := ByteArray.empty) (by omega), tl_inj.1 he]
    · intro he
      refine evR (decide_eq_false (fun e => he ?_)).symm
      rw [e]
theorem eqStringS_ev (a b : List ByteArray) (hn : a.length ≤ 4611686018427387904) : Ev (fun k => laws_eqStringS.f k a b) (decide (a = b)) := by
  unfold laws_eqStringS.f
  refine evI (fun h => ?_) (fun h => ?_)
  · exact eqStringS_l0 a b hn (by omega) a.length 0 (by omega) (by intro j hj; omega)
  · refine evR (decide_eq_false (fun e => h ?_)).symm
    rw [e]
theorem eqStringS_same (a : List ByteArray) (hn : a.length ≤ 4611686018427387904) : Ev (fun k => laws_eqStringS.f k a a) true := by
  have := eqStringS_ev a a hn
  rwa [decide_eq_true rfl] at this

/-- How many bytes and texts there are. -/
def total (l : List ByteArray) : Nat := (l.map fun s => s.size).sum
theorem total_nil : total [] = 0 := rfl
theorem total_cons (s : ByteArray) (l : List ByteArray) : total (s :: l) = s.size + total l := by simp [total]
theorem total_drop (l : List ByteArray) (i : Nat) (h : i < l.length) : total (l.drop i) = (rdOf ByteArray.empty l (i : Int)).size + total (l.drop (i + 1)) := by
  rw [List.drop_eq_getElem_cons h, total_cons]
  have := rdOf_get (d := ByteArray.empty) h
  rw [List.getElem?_eq_getElem h] at this
  rw [Option.some.inj this]
theorem szStringS_l0 (l : List ByteArray) (hn : l.length ≤ 4611686018427387904) (hs : ∀ y, y ∈ l → y.size ≤ maxLen) (d : Nat) : ∀ (i : Nat) (left : Int), i + d = l.length → 0 ≤ left → left ≤ 1048576 → ∃ r : Int, Ev (fun k => laws_szStringS.l0 k l left (i : Int)) r ∧ (r < 0 ∨ 0 ≤ r ∧ (total (l.drop i) : Int) + r = left) := by
  induction d with
  | zero =>
    intro i left hi h0 h1
    refine ⟨left, evS (fun k => by rw [laws_szStringS.l0]) (evF (by omega) (evR rfl)), .inr ⟨h0, ?_⟩⟩
    rw [List.drop_eq_nil_of_le (by omega), total_nil]
    omega
  | succ d ih =>
    intro i left hi h0 h1
    have hm : (rdOf ByteArray.empty l (i : Int)).size ≤ maxLen := by
      refine hs _ ?_
      have := rdOf_get (d := ByteArray.empty) (l := l) (i := i) (by omega)
      exact List.mem_of_getElem? this
    unfold maxLen at hm
    have hw : wrap64 (left - ((rdOf ByteArray.empty l (i : Int)).size : Int)) = left - ((rdOf ByteArray.empty l (i : Int)).size : Int) := w64 (by omega)
    have ht := total_drop l i (by omega)
    by_cases hlt : left - ((rdOf ByteArray.empty l (i : Int)).size : Int) < 0
    · refine ⟨-1, evS (fun k => by rw [laws_szStringS.l0]) (evT (by omega) (evT (by omega) ?_)), .inl (by omega)⟩
      rw [hw]
      exact evT hlt (evR rfl)
    · obtain ⟨r, hr, hr2⟩ := ih (i + 1) (left - ((rdOf ByteArray.empty l (i : Int)).size : Int)) (by omega) (by omega) (by omega)
      refine ⟨r, evS (fun k => by rw [laws_szStringS.l0]) (evT (by omega) (evT (by omega) ?_)), ?_⟩
      · rw [hw, w64s (show i < l.length by omega) (by omega)]
        exact evF hlt hr
      · rcases hr2 with h | ⟨h, h'⟩
        · exact .inl h
        · exact .inr ⟨h, by omega⟩
theorem szStringS_ev (l : List ByteArray) (hn : l.length ≤ maxLen) (hs : ∀ y, y ∈ l → y.size ≤ maxLen) (left : Int) (h0 : 0 ≤ left) (h1 : left ≤ 1048576) :
    ∃ r : Int, Ev (fun k => laws_szStringS.f k l left) r ∧ (r < 0 ∨ 0 ≤ r ∧ (l.length : Int) + (total l : Int) + r = left) := by
  unfold maxLen at hn
  have hw : wrap64 (left - (l.length : Int)) = left - (l.length : Int) := w64 (by omega)
  by_cases hlt : left - (l.length : Int) < 0
  · refine ⟨-1, ?_, .inl (by omega)⟩
    unfold laws_szStringS.f
    rw [hw]
    exact evT hlt (evR rfl)
  · obtain ⟨r, hr, hr2⟩ := szStringS_l0 l (by omega) hs l.length 0 (left - (l.length : Int)) (by omega) (by omega) (by omega)
    refine ⟨r, ?_, ?_⟩
    · unfold laws_szStringS.f
      rw [hw]
      exact evF hlt hr
    · rcases hr2 with h | ⟨h, h'⟩
      · exact .inl h
      · exact .inr ⟨h, by rw [List.drop_zero] at h'; omega⟩
theorem total_mem {l : List ByteArray} {y : ByteArray} (h : y ∈ l) : y.size ≤ total l := by
  induction l with
  | nil => cases h
  | cons a l ih =>
    rw [total_cons]
    rcases List.mem_cons.1 h with rfl | h
    · omega
    · have := ih h
      omega
end Go.Proofs.Ytmkhhnfmahdijaa.Z

/- What GetNum computes, the program's and the reference's, step by step: the same. No Go, no memory. -/
set_option linter.unusedVariables false
namespace Go.Proofs.Ytmkhhnfmahdijaa.Z
open Go.RowKit Go.Proofs.YtmkhhnfmahdijaaW.PrintWords Go.Proofs.YtmkhhnfmahdijaaW.PrintMore Go.Proofs.Ytmkhhnfmahdijaa.X

theorem or_comm64 (k : IntKind) (a b : Int) : Go.bits .or k a b = Go.bits .or k b a := by simp [Go.bits, BitVec.or_comm]
theorem and127 {c : Int} (hc : 0 ≤ c ∧ c ≤ 255) : Go.bits .and .i64 (wrap64 c) 127 = c % 128 := by
  rw [w64 (by omega)]
  exact bits_mask .i64 63 (by decide) wraps_i64 7 (by decide) c hc.1 (by omega)
theorem shl_at {y : Int} {i : Nat} (hi : i < 5) (hy : 0 ≤ y ∧ y < 128) : shl .i64 y (IntKind.u64.wrap (wrap64 (7 * (i : Int)))) = y * 2 ^ (7 * i) := by
  have h : i = 0 ∨ i = 1 ∨ i = 2 ∨ i = 3 ∨ i = 4 := by omega
  rcases h with rfl | rfl | rfl | rfl | rfl
  all_goals
    unfold shl
    rw [wi64]
    simp [IntKind.wrap, IntKind.bits, IntKind.signed, wrap64]
    omega
theorem gn_step {c n : Int} {i : Nat} (hi : i < 5) (hc : 0 ≤ c ∧ c ≤ 255) (hn : 0 ≤ n ∧ n < 2 ^ (7 * i)) :
    Go.bits .or .i64 n (shl .i64 (Go.bits .and .i64 (wrap64 c) 127) (IntKind.u64.wrap (wrap64 (7 * (i : Int))))) = n + (c % 128) * 2 ^ (7 * i) := by
  rw [and127 hc, shl_at hi (by omega), or_comm64]
  have hm : 0 ≤ c % 128 ∧ c % 128 < 128 := by omega
  generalize c % 128 = y at hm
  have h : i = 0 ∨ i = 1 ∨ i = 2 ∨ i = 3 ∨ i = 4 := by omega
  rcases h with rfl | rfl | rfl | rfl | rfl
  all_goals
    rw [bits_join .i64 63 (by decide) wraps_i64 _ _ _ (by omega) (by simp) (by omega) hn.1 hn.2 (by omega)]
    omega
theorem pow_next {n y : Int} {i : Nat} (hi : i < 5) (hn : 0 ≤ n ∧ n < 2 ^ (7 * i)) (hy : 0 ≤ y ∧ y < 128) : 0 ≤ n + y * 2 ^ (7 * i) ∧ n + y * 2 ^ (7 * i) < 2 ^ (7 * (i + 1)) := by
  have h : i = 0 ∨ i = 1 ∨ i = 2 ∨ i = 3 ∨ i = 4 := by omega
  rcases h with rfl | rfl | rfl | rfl | rfl <;> omega
theorem u64_ok {i : Nat} (hi : i < 5) : 0 ≤ IntKind.u64.wrap (wrap64 (7 * (i : Int))) := by
  rw [w64 (by omega), wu64 (by omega)]
  omega

/-- What an answer of GetNum is. -/
def GetOk (len : Nat) (a : Int) (r : Int × Int × Bool) : Prop := r = (0, 0, false) ∨ r.2.2 = true ∧ 0 ≤ r.1 ∧ r.1 ≤ 1000000000 ∧ a < r.2.1 ∧ r.2.1 ≤ len ∧ 0 ≤ a
theorem rd_byte {b : List Int} (hb : ∀ x ∈ b, (Lit.int .u8 x).wf = true) (i : Int) : 0 ≤ rd b i ∧ rd b i ≤ 255 := by
  unfold rd
  rcases Nat.lt_or_ge i.toNat b.length with h | h
  · have h1 := hb _ (List.getElem_mem h)
    rw [List.getD_eq_getElem?_getD, List.getElem?_eq_getElem h]
    simp [Lit.wf, IntKind.min, IntKind.max, IntKind.signed, IntKind.bits] at h1
    simp
    omega
  · rw [List.getD_eq_getElem?_getD, List.getElem?_eq_none h]
    simp

theorem gn_both (b : List Int) (hb : ∀ x ∈ b, (Lit.int .u8 x).wf = true) (hl : b.length ≤ 140737488355328) (a : Nat) (d : Nat) : ∀ (i : Nat) (n : Int), i + d = 5 → a < b.length → 0 ≤ n ∧ n < 2 ^ (7 * i) →
    ∃ r, Ev (fun k => spec_GetNum.l0 k b (a : Int) n (i : Int)) r ∧ Ev (fun k => impl_GetNum.l0 k b ((a + i : Nat) : Int) n (i : Int)) r ∧ GetOk b.length a r := by
  induction d with
  | zero =>
    intro i n hi ha hn
    refine ⟨(0, 0, false), ?_, ?_, .inl rfl⟩
    · exact evS (fun k => by rw [spec_GetNum.l0]) (evF (by omega) (evS (fun k => by rw [spec_GetNum.j1]) (evF (by simp) (evR rfl))))
    · exact evS (fun k => by rw [impl_GetNum.l0]) (evF (by omega) (evS (fun k => by rw [impl_GetNum.j1]) (evF (by simp) (evR rfl))))
  | succ d ih =>
    intro i n hi ha hn
    have hw : wrap64 ((a : Int) + (i : Int)) = ((a + i : Nat) : Int) := by rw [w64 (by omega)]; omega
    by_cases hp : a + i < b.length
    · have hc := rd_byte hb ((a + i : Nat) : Int)
      have hv := gn_step (i := i) (by omega) hc hn
      have hN := pow_next (i := i) (y := rd b ((a + i : Nat) : Int) % 128) (by omega) hn (by omega)
      have hu := u64_ok (i := i) (by omega)
      have hwc : wrap64 (rd b ((a + i : Nat) : Int)) = rd b ((a + i : Nat) : Int) := w64 (by omega)
      have hs1 : ∀ r, Ev (fun k => spec_GetNum.j1 k b (a : Int) n (i : Int) true) r → Ev (fun k => spec_GetNum.l0 k b (a : Int) n (i : Int)) r := by
        intro r h
        refine evS (fun k => by rw [spec_GetNum.l0]) (evT (by omega) (evT (by omega) (evT (by omega) ?_)))
        rw [hw, decide_eq_true (by omega)]
        exact h
      have hi1 : ∀ r, Ev (fun k => impl_GetNum.j1 k b ((a + i : Nat) : Int) n (i : Int) true) r → Ev (fun k => impl_GetNum.l0 k b ((a + i : Nat) : Int) n (i : Int)) r := by
        intro r h
        refine evS (fun k => by rw [impl_GetNum.l0]) (evT (by omega) ?_)
        rw [decide_eq_true (by omega)]
        exact h
      generalize hN' : n + rd b ((a + i : Nat) : Int) % 128 * 2 ^ (7 * i) = N at *
      by_cases h1 : rd b ((a + i : Nat) : Int) > 127
      · obtain ⟨r, e1, e2, g⟩ := ih (i + 1) N (by omega) ha hN
        refine ⟨r, hs1 r ?_, hi1 r ?_, g⟩
        · refine evS (fun k => by rw [spec_GetNum.j1]) (evT rfl ?_)
          rw [hw]
          refine evT (by omega) (evT (by omega) (evT hu ?_))
          rw [hv, hwc, w64s (show i < 6 by omega) (by omega)]
          exact evT h1 e1
        · refine evS (fun k => by rw [impl_GetNum.j1]) (evT rfl (evT (by omega) (evT (by omega) (evT hu ?_))))
          rw [hv, hwc, w64s (show i < 6 by omega) (by omega), w64s (show a + i < b.length by omega) (by omega)]
          exact evF (by omega) e2
      · have hgen : ∀ r : Int × Int × Bool, (if (rd b ((a + i : Nat) : Int) = 0 ∧ 0 < i) ∨ N > 1000000000 then ((0 : Int), (0 : Int), false) else (N, ((a + i + 1 : Nat) : Int), true)) = r →
            Ev (fun k => spec_GetNum.l0 k b (a : Int) n (i : Int)) r ∧ Ev (fun k => impl_GetNum.l0 k b ((a + i : Nat) : Int) n (i : Int)) r := by
          intro r hr
          refine ⟨hs1 r ?_, hi1 r ?_⟩
          · refine evS (fun k => by rw [spec_GetNum.j1]) (evT rfl ?_)
            rw [hw]
            refine evT (by omega) (evT (by omega) (evT hu ?_))
            rw [hv, hwc, w64s (show a + i < b.length by omega) (by omega)]
            refine evF h1 (evI (fun h2 => evI (fun h3 => ?_) (fun h3 => evI (fun h4 => ?_) (fun h4 => ?_))) (fun h2 => evI (fun h4 => ?_) (fun h4 => ?_)))
            · rw [if_pos (.inl ⟨h3, by omega⟩)] at hr
              exact evR hr
            · rw [if_pos (.inr h4)] at hr
              exact evR hr
            · rw [if_neg (by omega)] at hr
              exact evR hr
            · rw [if_pos (.inr h4)] at hr
              exact evR hr
            · rw [if_neg (by omega)] at hr
              exact evR hr
          · refine evS (fun k => by rw [impl_GetNum.j1]) (evT rfl (evT (by omega) (evT (by omega) (evT hu ?_))))
            rw [hv, hwc, w64s (show a + i < b.length by omega) (by omega)]
            refine evT (by omega) (evI (fun h3 => evI (fun h2 => ?_) (fun h2 => evI (fun h4 => ?_) (fun h4 => ?_))) (fun h3 => evI (fun h4 => ?_) (fun h4 => ?_)))
            · rw [if_pos (.inl ⟨h3, by omega⟩)] at hr
              exact evR hr
            · rw [if_pos (.inr h4)] at hr
              exact evR hr
            · rw [if_neg (by omega)] at hr
              exact evR hr
            · rw [if_pos (.inr h4)] at hr
              exact evR hr
            · rw [if_neg (by omega)] at hr
              exact evR hr
        obtain ⟨e1, e2⟩ := hgen _ rfl
        refine ⟨_, e1, e2, ?_⟩
        split
        · exact .inl rfl
        · exact .inr ⟨rfl, by show 0 ≤ N; omega, by show N ≤ _; omega, by show (a : Int) < ((a + i + 1 : Nat) : Int); omega, by show ((a + i + 1 : Nat) : Int) ≤ _; omega, by omega⟩
    · refine ⟨(0, 0, false), ?_, ?_, .inl rfl⟩
      · refine evS (fun k => by rw [spec_GetNum.l0]) (evT (by omega) (evT (by omega) (evT (by omega) ?_)))
        rw [hw, decide_eq_false (by omega)]
        exact evS (fun k => by rw [spec_GetNum.j1]) (evF (by simp) (evR rfl))
      · refine evS (fun k => by rw [impl_GetNum.l0]) (evT (by omega) ?_)
        rw [decide_eq_false (by omega)]
        exact evS (fun k => by rw [impl_GetNum.j1]) (evF (by simp) (evR rfl))
theorem getNum_both (b : List Int) (hb : ∀ x ∈ b, (Lit.int .u8 x).wf = true) (hl : b.length ≤ 140737488355328) (a : Int) :
    ∃ r, Ev (fun k => spec_GetNum.f k b a) r ∧ Ev (fun k => impl_GetNum.f k b a) r ∧ GetOk b.length a r := by
  have hlen : wrap64 ((b.length : Int) - 1) = (b.length : Int) - 1 := w64 (by omega)
  by_cases h : 0 ≤ a ∧ a < b.length
  · obtain ⟨p, rfl⟩ := Int.eq_ofNat_of_zero_le h.1
    obtain ⟨r, e1, e2, g⟩ := gn_both b hb hl p 5 0 0 rfl (by omega) (by decide)
    refine ⟨r, e1, ?_, g⟩
    unfold impl_GetNum.f impl_inRange.f
    rw [hlen]
    refine evC (a := true) ?_ (evT rfl e2)
    rw [if_pos (by omega), decide_eq_true (by omega)]
  · refine ⟨(0, 0, false), ?_, ?_, .inl rfl⟩
    · unfold spec_GetNum.f
      have hj : Ev (fun k => spec_GetNum.j1 k b a 0 0 false) ((0 : Int), (0 : Int), false) := evS (fun k => by rw [spec_GetNum.j1]) (evF (by simp) (evR rfl))
      refine evS (fun k => by rw [spec_GetNum.l0]) (evT (by omega) (evI (fun h0 => evF (by omega) hj) (fun _ => hj)))
    · unfold impl_GetNum.f impl_inRange.f
      rw [hlen]
      refine evC (a := false) ?_ (evF (by simp) (evR rfl))
      by_cases h0 : a ≥ 0
      · rw [if_pos h0, decide_eq_false (by omega)]
      · rw [if_neg h0]
end Go.Proofs.Ytmkhhnfmahdijaa.Z

/- What GetText and GetTexts compute, the program's and the reference's: the same. No Go, no memory. -/
set_option linter.unusedVariables false
namespace Go.Proofs.Ytmkhhnfmahdijaa.Z
open Go.RowKit Go.Proofs.YtmkhhnfmahdijaaW.PrintWords Go.Proofs.YtmkhhnfmahdijaaW.PrintMore Go.Proofs.Ytmkhhnfmahdijaa.X

/-- What an answer of GetText is. -/
def TextOk (len : Nat) (a : Int) (r : ByteArray × Int × Bool) : Prop := r.2.2 = false ∨ r.2.2 = true ∧ a < r.2.1 ∧ r.2.1 ≤ len
/-- GetText out of GetNum's answer. -/
def textOf (b : List Int) (r : Int × Int × Bool) : ByteArray × Int × Bool :=
  if r.2.2 = true then (if r.1 > (b.length : Int) - r.2.1 then ((⟨#[]⟩ : ByteArray), 0, false) else (strOfNums ((b.take (r.2.1 + r.1).toNat).drop r.2.1.toNat), r.2.1 + r.1, true)) else ((⟨#[]⟩ : ByteArray), 0, false)
theorem textOf_ok {b : List Int} {a : Int} {r : Int × Int × Bool} (g : GetOk b.length a r) : TextOk b.length a (textOf b r) := by
  unfold textOf
  split
  · rename_i h
    rcases g with rfl | ⟨_, g1, g2, g3, g4, g5⟩
    · cases h
    · split
      · exact .inl rfl
      · exact .inr ⟨rfl, by show a < r.2.1 + r.1; omega, by show r.2.1 + r.1 ≤ _; omega⟩
  · exact .inl rfl
theorem specText_of {b : List Int} (hl : b.length ≤ 140737488355328) {a : Int} {r : Int × Int × Bool} (h : Ev (fun k => spec_GetNum.f k b a) r) (g : GetOk b.length a r) : Ev (fun k => spec_GetText.f k b a) (textOf b r) := by
  unfold spec_GetText.f
  refine evB h ?_
  unfold textOf
  rcases g with rfl | ⟨g0, g1, g2, g3, g4, g5⟩
  · exact evF (by simp) (evR rfl)
  · have h1 : wrap64 ((b.length : Int) - r.2.1) = (b.length : Int) - r.2.1 := w64 (by omega)
    rw [h1]
    refine evT g0 (evI (fun h2 => ?_) (fun h2 => ?_))
    · exact evR (by rw [if_pos g0, if_pos h2])
    · by_cases h3 : 0 ≤ r.2.1
      · have h4 : wrap64 (r.2.1 + r.1) = r.2.1 + r.1 := w64 (by omega)
        rw [h4]
        exact evT h3 (evT (by omega) (evT (by omega) (evR (by rw [if_pos g0, if_neg h2]))))
      · exfalso
        omega
theorem implText_of {b : List Int} (hl : b.length ≤ 140737488355328) {a : Int} {r : Int × Int × Bool} (h : Ev (fun k => impl_GetNum.f k b a) r) (g : GetOk b.length a r) : Ev (fun k => impl_GetText.f k b a) (textOf b r) := by
  unfold impl_GetText.f
  refine evB h ?_
  unfold textOf
  rcases g with rfl | ⟨g0, g1, g2, g3, g4, g5⟩
  · exact evF (by simp) (evR rfl)
  · have h1 : wrap64 ((b.length : Int) - r.2.1) = (b.length : Int) - r.2.1 := w64 (by omega)
    rw [h1]
    refine evT g0 (evI (fun h2 => ?_) (fun h2 => ?_))
    · exact evR (by rw [if_pos g0, if_pos h2])
    · by_cases h3 : 0 ≤ r.2.1
      · have h4 : wrap64 (r.2.1 + r.1) = r.2.1 + r.1 := w64 (by omega)
        rw [h4]
        exact evT h3 (evT (by omega) (evT (by omega) (evR (by rw [if_pos g0, if_neg h2]))))
      · exfalso
        omega
theorem getText_both (b : List Int) (hb : ∀ x ∈ b, (Lit.int .u8 x).wf = true) (hl : b.length ≤ 140737488355328) (a : Int) :
    ∃ r, Ev (fun k => spec_GetText.f k b a) r ∧ Ev (fun k => impl_GetText.f k b a) r ∧ TextOk b.length a r := by
  obtain ⟨r, e1, e2, g⟩ := getNum_both b hb hl a
  exact ⟨_, specText_of hl e1 g, implText_of hl e2 g, textOf_ok g⟩
end Go.Proofs.Ytmkhhnfmahdijaa.Z

/- The law FnExactGetText, as a plain statement: the program's GetText answers as the reference's, and leaves its argument alone. Conditions: those of the row's reading alone. -/
namespace Go.Proofs.Ytmkhhnfmahdijaa.Pure
open Go.RowKit Go.Proofs.Ytmkhhnfmahdijaa.X Go.Proofs.Ytmkhhnfmahdijaa.Z Go.Proofs.YtmkhhnfmahdijaaW.PrintWords Go.Proofs.YtmkhhnfmahdijaaW.PrintLast
theorem FnExactGetText : laws_FnExactGetText.Pure := by
  intro l0 a1 h1 h2 h3 h4
  refine Ev.rounds ?_
  unfold laws_FnExactGetText.f
  refine evI (fun _ => evR rfl) (fun hl => ?_)
  have hT := toByteS_ev l0 (by omega)
  obtain ⟨r, e1, e2, _⟩ := getText_both l0 h3 (by omega) a1
  refine evB hT (evB e1 (evB hT (evB e2 (evT rfl (evT rfl ?_)))))
  rw [bne_self_eq_false]
  exact evS (fun k => by rw [laws_FnExactGetText.j0]) (evF (by simp) (evB hT (evB (eqByteS_same l0 (by omega)) (evT rfl (evR rfl)))))
end Go.Proofs.Ytmkhhnfmahdijaa.Pure

/- Values that come in as data (strings' slices, structs, slices of structs, nested) are of the printer's kinds: one lemma a make of type. Plain lemmas for the rows of laws over such parameters. No conditions beyond what each lemma names. -/
set_option linter.unusedVariables false
namespace Go.Proofs.Ytmkhhnfmahdijaa.Y
open Go.RowKit Go.Proofs.YtmkhhnfmahdijaaW.PrintWords Go.ChangeShapes Go.WideShapes Go.Deep

/-- What is read as data of type T is of kind d, and G holds of what it says. -/
def Opn {α : Type} (P : Program) (d : Kd α) (T : TypeId) (G : α → Prop) : Prop :=
  ∀ {H : Type} (enc : TypeId × Value → H) (w : World) (spare : Nat → Bool) (held : Bool) (fuel : Nat) (cs : List Value) (x : DataW H × List MemPlace), DataW.trod enc P w 0 spare held fuel T cs = some x → ∃ y, d.K w y cs ∧ G y

theorem Opn.int {P : Program} {T : TypeId} {k : IntKind} (h : P.underlying T = some (.int k)) : Opn P (Kd.int k) T (fun n => (Lit.int k n).wf = true) := by
  intro H enc w spare held fuel cs x hx
  obtain ⟨n, rfl, _, hn⟩ := DataW.trod_int h hx
  exact ⟨n, rfl, hn⟩
theorem Opn.bool {P : Program} {T : TypeId} (h : P.underlying T = some .bool) : Opn P Kd.bool T (fun _ => True) := by
  intro H enc w spare held fuel cs x hx
  obtain ⟨n, rfl, _⟩ := DataW.trod_bool h hx
  exact ⟨n, rfl, trivial⟩
theorem Opn.string {P : Program} {T : TypeId} (h : P.underlying T = some .string) : Opn P Kd.string T (fun s => s.size ≤ maxLen) := by
  intro H enc w spare held fuel cs x hx
  obtain ⟨s, rfl, _, hs⟩ := DataW.trod_string h hx
  exact ⟨s, rfl, hs⟩
theorem Opn.slice {α : Type} {P : Program} {d : Kd α} {T e : TypeId} {G : α → Prop} [Inhabited α] (h : P.underlying T = some (.slice e)) (he : P.cellsOf e = d.sz) (ho : Opn P d e G) :
    Opn P (Kd.slice e d) T (fun l => l.length ≤ maxLen ∧ ∀ y, y ∈ l → G y) := by
  intro H enc w spare held fuel cs x hx
  rcases open_slice h hx with ⟨rfl, _⟩ | ⟨a, len, cap, m, n, D, Pl, rfl, _, hl, hm, hmm, _, hel⟩
  · exact ⟨[], ⟨none, 0, rfl, Nat.le_refl _, rfl, by simp, fun hn => absurd hn (Nat.lt_irrefl 0)⟩, by simp, fun y hy => by cases hy⟩
  · have hlm : len ≤ m := by rw [hmm]; split <;> omega
    have each : ∀ i, i < len → ∃ y, (∃ c, c.length = d.sz ∧ d.K w y c ∧ ∀ j u, c[j]? = some u → w.cell? (a.add (i * d.sz + j)) = some u) ∧ G y := by
      intro i hi
      obtain ⟨c, hc, ht⟩ := hel i (by omega)
      obtain ⟨y, hk, hg⟩ := ho enc w spare held n c _ ht
      obtain ⟨_, hlen, hcell⟩ := World.cells?_some hc
      refine ⟨y, ⟨c, hlen.trans he, hk, fun j u hu => ?_⟩, hg⟩
      have hj : j < P.cellsOf e := by rw [← hlen]; exact (List.getElem?_eq_some_iff.1 hu).1
      have := hcell j hj
      rw [Go.Deep.add_add, hu, he] at this
      exact this
    obtain ⟨f, hf⟩ := choose_lt each
    have hlen : ((List.range len).map f).length = len := by simp
    have hm' : len ≤ maxLen := Nat.le_trans hl hm
    refine ⟨(List.range len).map f, ⟨some a, cap, by rw [hlen], by rw [hlen]; exact hl, by rw [hlen], by rw [hlen]; unfold maxLen at hm'; exact hm', fun _ => ⟨a, rfl, fun j p hp => ?_⟩⟩, by rw [hlen]; exact hm', fun y hy => ?_⟩
    · obtain ⟨hj, rfl⟩ := List.getElem?_eq_some_iff.1 hp
      rw [hlen] at hj
      simp only [List.getElem_map, List.getElem_range]
      exact (hf j hj).1
    · obtain ⟨i, hi, rfl⟩ := List.mem_map.1 hy
      exact (hf i (List.mem_range.1 hi)).2

/-- The fields from cell 'off' on. -/
def FOpn {α : Type} (P : Program) (d : Kd α) (off : Nat) (fs : List Field) (G : α → Prop) : Prop :=
  ∀ {H : Type} (enc : TypeId × Value → H) (w : World) (spare : Nat → Bool) (held : Bool) (fuel : Nat) (cs : List Value),
    (∀ f, f ∈ fs → ∃ x, DataW.trod enc P w 0 spare held fuel f.type ((cs.drop f.offset).take (P.cellsOf f.type)) = some x) → cs.length = off + d.sz → ∃ y, d.K w y (cs.drop off) ∧ G y
theorem FOpn.one {α : Type} {P : Program} {d : Kd α} {off : Nat} {f : Field} {G : α → Prop} (hf : f.offset = off) (hc : P.cellsOf f.type = d.sz) (ho : Opn P d f.type G) : FOpn P d off [f] G := by
  intro H enc w spare held fuel cs hx hl
  obtain ⟨x, hx⟩ := hx f (by simp)
  rw [hf, hc, List.take_of_length_le (by simp; omega)] at hx
  exact ho enc w spare held fuel _ x hx
theorem FOpn.cons {α β : Type} {P : Program} {d : Kd α} {d' : Kd β} {off : Nat} {f : Field} {fs : List Field} {G : α → Prop} {G' : β → Prop} (hf : f.offset = off) (hc : P.cellsOf f.type = d.sz) (ho : Opn P d f.type G)
    (hs : FOpn P d' (off + d.sz) fs G') : FOpn P (Kd.pair d d') off (f :: fs) (fun y => G y.1 ∧ G' y.2) := by
  intro H enc w spare held fuel cs hx hl
  have hl' : cs.length = off + (d.sz + d'.sz) := hl
  obtain ⟨x, h1⟩ := hx f (by simp)
  rw [hf, hc] at h1
  obtain ⟨y, hy, gy⟩ := ho enc w spare held fuel _ x h1
  obtain ⟨z, hz, gz⟩ := hs enc w spare held fuel cs (fun g hg => hx g (List.mem_cons_of_mem _ hg)) (by omega)
  refine ⟨(y, z), ⟨_, _, ?_, hy, hz⟩, gy, gz⟩
  rw [← List.drop_drop, List.take_append_drop]
theorem Opn.struct {α β : Type} {P : Program} {d : Kd α} {T : TypeId} {fs : Array Field} {fl : List Field} {G : α → Prop} {G' : β → Prop} {proj : β → α} (mk : α → β) (h : P.underlying T = some (.struct fs)) (hfl : fs.toList = fl) (hc : P.cellsOf T = d.sz)
    (hmk : ∀ y, proj (mk y) = y) (hG : ∀ y, G y → G' (mk y)) (hs : FOpn P d 0 fl G) : Opn P (Kd.iso d proj) T G' := by
  intro H enc w spare held fuel cs x hx
  obtain ⟨xs, n, rfl, _, hlen, hxs, hall⟩ := DataW.trod_struct h hx
  obtain ⟨y, hy, gy⟩ := hs enc w spare held n cs (fun f hf => by
    rw [← hfl] at hf
    obtain ⟨i, hi, he⟩ := List.getElem_of_mem hf
    have hi' : i < fs.size := by simpa using hi
    have h1 : fs[i]? = some f := by rw [Array.getElem?_eq_getElem hi']; simpa using he
    exact ⟨_, (hall i f h1).trans (List.getElem?_eq_getElem (by omega))⟩) (by rw [hlen, hc, Nat.zero_add])
  refine ⟨mk y, ?_, hG y gy⟩
  show d.K w (proj (mk y)) cs
  rw [hmk]
  exact hy

/-- A parameter that is a slice. -/
theorem Opn.arg_slice {α : Type} {P : Program} {d : Kd α} {T e : TypeId} {G : α → Prop} [Inhabited α] (h : P.underlying T = some (.slice e)) (he : P.cellsOf e = d.sz) (ho : Opn P d e G)
    {H : Type} {enc : TypeId × Value → H} {w : World} {spare : Nat → Bool} {held : Bool} {v : Value} {D : DataW H} {ps : List MemPlace} {r : Reach} {b : Nat} (hv : Value.okWide P w r b T v) (hx : DataW.Trod enc P w 0 spare held T v D ps) :
    ∃ (A : Option Addr) (c : Nat) (l : List α), v = .slice A l.length c ∧ l.length ≤ c ∧ d.C w A l.length l ∧ l.length ≤ maxLen ∧ ∀ y, y ∈ l → G y := by
  obtain ⟨a, len, cap, rfl⟩ := okWide_slice h hv
  obtain ⟨fuel, hf⟩ := hx
  obtain ⟨l, ⟨A, c, hcs, hlc, hC⟩, hg1, hg2⟩ := Opn.slice h he ho enc w spare held fuel _ _ hf
  have hcs' : [Value.slice a len cap] = [Value.slice A l.length c] := hcs
  injection hcs' with h1 _
  exact ⟨A, c, l, h1, hlc, hC, hg1, hg2⟩
/-- A parameter that is a struct. -/
theorem Opn.arg_struct {α : Type} {P : Program} {d : Kd α} {T : TypeId} {G : α → Prop} {fs : Array Field} (hu : P.underlying T = some (.struct fs)) (ho : Opn P d T G)
    {H : Type} {enc : TypeId × Value → H} {w : World} {spare : Nat → Bool} {held : Bool} {v : Value} {D : DataW H} {ps : List MemPlace} {r : Reach} {b : Nat} (hv : Value.okWide P w r b T v) (hx : DataW.Trod enc P w 0 spare held T v D ps) :
    ∃ (cs : List Value) (y : α), v = .agg cs.toArray ∧ d.K w y cs ∧ G y := by
  obtain ⟨cs, rfl, _⟩ := okWide_struct hu hv
  obtain ⟨fuel, hf⟩ := hx
  obtain ⟨y, hk, hg⟩ := ho enc w spare held fuel _ _ hf
  exact ⟨cs.toList, y, by simp, hk, hg⟩
end Go.Proofs.Ytmkhhnfmahdijaa.Y

/- Three closed facts of the rows of this seat (how the program may be entered), by the first words of the translation's head row. No conditions. -/
namespace Go.Proofs.Ytmkhhnfmahdijaa.Y
open Go.ChangeShapes Go.WideShapes Go.ChangeAt Go.RowKit
def tailSigns : List Char := [Char.ofNat 108, Char.ofNat 111, Char.ofNat 111, Char.ofNat 112, Char.ofNat 46, Char.ofNat 101, Char.ofNat 120, Char.ofNat 97, Char.ofNat 109, Char.ofNat 112, Char.ofNat 108, Char.ofNat 101, Char.ofNat 47, Char.ofNat 103, Char.ofNat 48, Char.ofNat 48, Char.ofNat 50, Char.ofNat 51, Char.ofNat 51, Char.ofNat 47, Char.ofNat 108, Char.ofNat 97, Char.ofNat 119, Char.ofNat 115, Char.ofNat 46, Char.ofNat 70, Char.ofNat 110, Char.ofNat 69, Char.ofNat 120, Char.ofNat 97, Char.ofNat 99, Char.ofNat 116, Char.ofNat 67, Char.ofNat 111, Char.ofNat 110, Char.ofNat 115, Char.ofNat 116, Char.ofNat 97, Char.ofNat 110, Char.ofNat 116, Char.ofNat 115, Char.ofNat 32, Char.ofNat 108, Char.ofNat 111, Char.ofNat 111, Char.ofNat 112, Char.ofNat 46, Char.ofNat 101, Char.ofNat 120, Char.ofNat 97, Char.ofNat 109, Char.ofNat 112, Char.ofNat 108, Char.ofNat 101, Char.ofNat 47, Char.ofNat 103, Char.ofNat 48, Char.ofNat 48, Char.ofNat 50, Char.ofNat 51, Char.ofNat 51, Char.ofNat 47, Char.ofNat 108, Char.ofNat 97, Char.ofNat 119, Char.ofNat 115, Char.ofNat 46, Char.ofNat 70, Char.ofNat 110, Char.ofNat 69, Char.ofNat 120, Char.ofNat 97, Char.ofNat 99, Char.ofNat 116, Char.ofNat 72, Char.ofNat 101, Char.ofNat 120, Char.ofNat 79, Char.ofNat 102, Char.ofNat 32, Char.ofNat 108, Char.ofNat 111, Char.ofNat 111, Char.ofNat 112, Char.ofNat 46, Char.ofNat 101, Char.ofNat 120, Char.ofNat 97, Char.ofNat 109, Char.ofNat 112, Char.ofNat 108, Char.ofNat 101, Char.ofNat 47, Char.ofNat 103, Char.ofNat 48, Char.ofNat 48, Char.ofNat 50, Char.ofNat 51, Char.ofNat 51, Char.ofNat 47, Char.ofNat 108, Char.ofNat 97, Char.ofNat 119, Char.ofNat 115, Char.ofNat 46, Char.ofNat 70, Char.ofNat 110, Char.ofNat 69, Char.ofNat 120, Char.ofNat 97, Char.ofNat 99, Char.ofNat 116, Char.ofNat 85, Char.ofNat 110, Char.ofNat 72, Char.ofNat 101, Char.ofNat 120, Char.ofNat 32, Char.ofNat 108, Char.ofNat 111, Char.ofNat 111, Char.ofNat 112, Char.ofNat 46, Char.ofNat 101, Char.ofNat 120, Char.ofNat 97, Char.ofNat 109, Char.ofNat 112, Char.ofNat 108, Char.ofNat 101, Char.ofNat 47, Char.ofNat 103, Char.ofNat 48, Char.ofNat 48, Char.ofNat 50, Char.ofNat 51, Char.ofNat 51, Char.ofNat 47, Char.ofNat 108, Char.ofNat 97, Char.ofNat 119, Char.ofNat 115, Char.ofNat 46, Char.ofNat 70, Char.ofNat 110, Char.ofNat 69, Char.ofNat 120, Char.ofNat 97, Char.ofNat 99, Char.ofNat 116, Char.ofNat 71, Char.ofNat 101, Char.ofNat 116, Char.ofNat 78, Char.ofNat 117, Char.ofNat 109, Char.ofNat 32, Char.ofNat 108, Char.ofNat 111, Char.ofNat 111, Char.ofNat 112, Char.ofNat 46, Char.ofNat 101, Char.ofNat 120, Char.ofNat 97, Char.ofNat 109, Char.ofNat 112, Char.ofNat 108, Char.ofNat 101, Char.ofNat 47, Char.ofNat 103, Char.ofNat 48, Char.ofNat 48, Char.ofNat 50, Char.ofNat 51, Char.ofNat 51, Char.ofNat 47, Char.ofNat 108, Char.ofNat 97, Char.ofNat 119, Char.ofNat 115, Char.ofNat 46, Char.ofNat 70, Char.ofNat 110, Char.ofNat 69, Char.ofNat 120, Char.ofNat 97, Char.ofNat 99, Char.ofNat 116, Char.ofNat 80, Char.ofNat 97, Char.ofNat 100, Char.ofNat 100, Char.ofNat 101, Char.ofNat 100, Char.ofNat 32, Char.ofNat 108, Char.ofNat 111, Char.ofNat 111, Char.ofNat 112, Char.ofNat 46, Char.ofNat 101, Char.ofNat 120, Char.ofNat 97, Char.ofNat 109, Char.ofNat 112, Char.ofNat 108, Char.ofNat 101, Char.ofNat 47, Char.ofNat 103, Char.ofNat 48, Char.ofNat 48, Char.ofNat 50, Char.ofNat 51, Char.ofNat 51, Char.ofNat 47, Char.ofNat 108, Char.ofNat 97, Char.ofNat 119, Char.ofNat 115, Char.ofNat 46, Char.ofNat 70, Char.ofNat 110, Char.ofNat 69, Char.ofNat 120, Char.ofNat 97, Char.ofNat 99, Char.ofNat 116, Char.ofNat 71, Char.ofNat 101, Char.ofNat 116, Char.ofNat 84, Char.ofNat 101, Char.ofNat 120, Char.ofNat 116, Char.ofNat 32, Char.ofNat 108, Char.ofNat 111, Char.ofNat 111, Char.ofNat 112, Char.ofNat 46, Char.ofNat 101, Char.ofNat 120, Char.ofNat 97, Char.ofNat 109, Char.ofNat 112, Char.ofNat 108, Char.ofNat 101, Char.ofNat 47, Char.ofNat 103, Char.ofNat 48, Char.ofNat 48, Char.ofNat 50, Char.ofNat 51, Char.ofNat 51, Char.ofNat 47, Char.ofNat 108, Char.ofNat 97, Char.ofNat 119, Char.ofNat 115, Char.ofNat 46, Char.ofNat 70, Char.ofNat 110, Char.ofNat 69, Char.ofNat 120, Char.ofNat 97, Char.ofNat 99, Char.ofNat 116, Char.ofNat 80, Char.ofNat 117, Char.ofNat 116, Char.ofNat 78, Char.ofNat 117, Char.ofNat 109, Char.ofNat 32, Char.ofNat 108, Char.ofNat 111, Char.ofNat 111, Char.ofNat 112, Char.ofNat 46, Char.ofNat 101, Char.ofNat 120, Char.ofNat 97, Char.ofNat 109, Char.ofNat 112, Char.ofNat 108, Char.ofNat 101, Char.ofNat 47, Char.ofNat 103, Char.ofNat 48, Char.ofNat 48, Char.ofNat 50, Char.ofNat 51, Char.ofNat 51, Char.ofNat 47, Char.ofNat 108, Char.ofNat 97, Char.ofNat 119, Char.ofNat 115, Char.ofNat 46, Char.ofNat 70, Char.ofNat 110, Char.ofNat 69, Char.ofNat 120, Char.ofNat 97, Char.ofNat 99, Char.ofNat 116, Char.ofNat 80, Char.ofNat 117, Char.ofNat 116, Char.ofNat 84, Char.ofNat 101, Char.ofNat 120, Char.ofNat 116, Char.ofNat 32, Char.ofNat 108, Char.ofNat 111, Char.ofNat 111, Char.ofNat 112, Char.ofNat 46, Char.ofNat 101, Char.ofNat 120, Char.ofNat 97, Char.ofNat 109, Char.ofNat 112, Char.ofNat 108, Char.ofNat 101, Char.ofNat 47, Char.ofNat 103, Char.ofNat 48, Char.ofNat 48, Char.ofNat 50, Char.ofNat 51, Char.ofNat 51, Char.ofNat 47, Char.ofNat 108, Char.ofNat 97, Char.ofNat 119, Char.ofNat 115, Char.ofNat 46, Char.ofNat 70, Char.ofNat 110, Char.ofNat 78, Char.ofNat 117, Char.ofNat 109, Char.ofNat 115, Char.ofNat 32, Char.ofNat 108, Char.ofNat 111, Char.ofNat 111, Char.ofNat 112, Char.ofNat 46, Char.ofNat 101, Char.ofNat 120, Char.ofNat 97, Char.ofNat 109, Char.ofNat 112, Char.ofNat 108, Char.ofNat 101, Char.ofNat 47, Char.ofNat 103, Char.ofNat 48, Char.ofNat 48, Char.ofNat 50, Char.ofNat 51, Char.ofNat 51, Char.ofNat 47, Char.ofNat 108, Char.ofNat 97, Char.ofNat 119, Char.ofNat 115, Char.ofNat 46, Char.ofNat 70, Char.ofNat 110, Char.ofNat 69, Char.ofNat 120, Char.ofNat 97, Char.ofNat 99, Char.ofNat 116, Char.ofNat 69, Char.ofNat 100, Char.ofNat 103, Char.ofNat 101, Char.ofNat 79, Char.ofNat 107, Char.ofNat 32, Char.ofNat 108, Char.ofNat 111, Char.ofNat 111, Char.ofNat 112, Char.ofNat 46, Char.ofNat 101, Char.ofNat 120, Char.ofNat 97, Char.ofNat 109, Char.ofNat 112, Char.ofNat 108, Char.ofNat 101, Char.ofNat 47, Char.ofNat 103, Char.ofNat 48, Char.ofNat 48, Char.ofNat 50, Char.ofNat 51, Char.ofNat 51, Char.ofNat 47, Char.ofNat 108, Char.ofNat 97, Char.ofNat 119, Char.ofNat 115, Char.ofNat 46, Char.ofNat 70, Char.ofNat 110, Char.ofNat 69, Char.ofNat 120, Char.ofNat 97, Char.ofNat 99, Char.ofNat 116, Char.ofNat 80, Char.ofNat 117, Char.ofNat 116, Char.ofNat 84, Char.ofNat 101, Char.ofNat 120, Char.ofNat 116, Char.ofNat 115, Char.ofNat 32, Char.ofNat 108, Char.ofNat 111, Char.ofNat 111, Char.ofNat 112, Char.ofNat 46, Char.ofNat 101, Char.ofNat 120, Char.ofNat 97, Char.ofNat 109, Char.ofNat 112, Char.ofNat 108, Char.ofNat 101, Char.ofNat 47, Char.ofNat 103, Char.ofNat 48, Char.ofNat 48, Char.ofNat 50, Char.ofNat 51, Char.ofNat 51, Char.ofNat 47, Char.ofNat 108, Char.ofNat 97, Char.ofNat 119, Char.ofNat 115, Char.ofNat 46, Char.ofNat 70, Char.ofNat 110, Char.ofNat 84, Char.ofNat 101, Char.ofNat 120, Char.ofNat 116, Char.ofNat 115, Char.ofNat 32, Char.ofNat 108, Char.ofNat 111, Char.ofNat 111, Char.ofNat 112, Char.ofNat 46, Char.ofNat 101, Char.ofNat 120, Char.ofNat 97, Char.ofNat 109, Char.ofNat 112, Char.ofNat 108, Char.ofNat 101, Char.ofNat 47, Char.ofNat 103, Char.ofNat 48, Char.ofNat 48, Char.ofNat 50, Char.ofNat 51, Char.ofNat 51, Char.ofNat 47, Char.ofNat 108, Char.ofNat 97, Char.ofNat 119, Char.ofNat 115, Char.ofNat 46, Char.ofNat 70, Char.ofNat 110, Char.ofNat 69, Char.ofNat 120, Char.ofNat 97, Char.ofNat 99, Char.ofNat 116, Char.ofNat 71, Char.ofNat 101, Char.ofNat 116, Char.ofNat 84, Char.ofNat 101, Char.ofNat 120, Char.ofNat 116, Char.ofNat 115, Char.ofNat 32, Char.ofNat 108, Char.ofNat 111, Char.ofNat 111, Char.ofNat 112, Char.ofNat 46, Char.ofNat 101, Char.ofNat 120, Char.ofNat 97, Char.ofNat 109, Char.ofNat 112, Char.ofNat 108, Char.ofNat 101, Char.ofNat 47, Char.ofNat 103, Char.ofNat 48, Char.ofNat 48, Char.ofNat 50, Char.ofNat 51, Char.ofNat 51, Char.ofNat 47, Char.ofNat 108, Char.ofNat 97, Char.ofNat 119, Char.ofNat 115, Char.ofNat 46, Char.ofNat 70, Char.ofNat 110, Char.ofNat 82, Char.ofNat 111, Char.ofNat 111, Char.ofNat 116, Char.ofNat 115, Char.ofNat 32, Char.ofNat 108, Char.ofNat 111, Char.ofNat 111, Char.ofNat 112, Char.ofNat 46, Char.ofNat 101, Char.ofNat 120, Char.ofNat 97, Char.ofNat 109, Char.ofNat 112, Char.ofNat 108, Char.ofNat 101, Char.ofNat 47, Char.ofNat 103, Char.ofNat 48, Char.ofNat 48, Char.ofNat 50, Char.ofNat 51, Char.ofNat 51, Char.ofNat 47, Char.ofNat 108, Char.ofNat 97, Char.ofNat 119, Char.ofNat 115, Char.ofNat 46, Char.ofNat 70, Char.ofNat 110, Char.ofNat 69, Char.ofNat 120, Char.ofNat 97, Char.ofNat 99, Char.ofNat 116, Char.ofNat 76, Char.ofNat 101, Char.ofNat 97, Char.ofNat 102, Char.ofNat 72, Char.ofNat 97, Char.ofNat 115, Char.ofNat 104, Char.ofNat 32, Char.ofNat 108, Char.ofNat 111, Char.ofNat 111, Char.ofNat 112, Char.ofNat 46, Char.ofNat 101, Char.ofNat 120, Char.ofNat 97, Char.ofNat 109, Char.ofNat 112, Char.ofNat 108, Char.ofNat 101, Char.ofNat 47, Char.ofNat 103, Char.ofNat 48, Char.ofNat 48, Char.ofNat 50, Char.ofNat 51, Char.ofNat 51, Char.ofNat 47, Char.ofNat 108, Char.ofNat 97, Char.ofNat 119, Char.ofNat 115, Char.ofNat 46, Char.ofNat 70, Char.ofNat 110, Char.ofNat 69, Char.ofNat 120, Char.ofNat 97, Char.ofNat 99, Char.ofNat 116, Char.ofNat 78, Char.ofNat 111, Char.ofNat 100, Char.ofNat 101, Char.ofNat 72, Char.ofNat 97, Char.ofNat 115, Char.ofNat 104, Char.ofNat 32, Char.ofNat 108, Char.ofNat 111, Char.ofNat 111, Char.ofNat 112, Char.ofNat 46, Char.ofNat 101, Char.ofNat 120, Char.ofNat 97, Char.ofNat 109, Char.ofNat 112, Char.ofNat 108, Char.ofNat 101, Char.ofNat 47, Char.ofNat 103, Char.ofNat 48, Char.ofNat 48, Char.ofNat 50, Char.ofNat 51, Char.ofNat 51, Char.ofNat 47, Char.ofNat 108, Char.ofNat 97, Char.ofNat 119, Char.ofNat 115, Char.ofNat 46, Char.ofNat 70, Char.ofNat 110, Char.ofNat 69, Char.ofNat 120, Char.ofNat 97, Char.ofNat 99, Char.ofNat 116, Char.ofNat 68, Char.ofNat 105, Char.ofNat 103, Char.ofNat 101, Char.ofNat 115, Char.ofNat 116, Char.ofNat 32, Char.ofNat 108, Char.ofNat 111, Char.ofNat 111, Char.ofNat 112, Char.ofNat 46, Char.ofNat 101, Char.ofNat 120, Char.ofNat 97, Char.ofNat 109, Char.ofNat 112, Char.ofNat 108, Char.ofNat 101, Char.ofNat 47, Char.ofNat 103, Char.ofNat 48, Char.ofNat 48, Char.ofNat 50, Char.ofNat 51, Char.ofNat 51, Char.ofNat 47, Char.ofNat 108, Char.ofNat 97, Char.ofNat 119, Char.ofNat 115, Char.ofNat 46, Char.ofNat 70, Char.ofNat 110, Char.ofNat 80, Char.ofNat 97, Char.ofNat 116, Char.ofNat 104, Char.ofNat 115, Char.ofNat 32, Char.ofNat 108, Char.ofNat 111, Char.ofNat 111, Char.ofNat 112, Char.ofNat 46, Char.ofNat 101, Char.ofNat 120, Char.ofNat 97, Char.ofNat 109, Char.ofNat 112, Char.ofNat 108, Char.ofNat 101, Char.ofNat 47, Char.ofNat 103, Char.ofNat 48, Char.ofNat 48, Char.ofNat 50, Char.ofNat 51, Char.ofNat 51, Char.ofNat 47, Char.ofNat 108, Char.ofNat 97, Char.ofNat 119, Char.ofNat 115, Char.ofNat 46, Char.ofNat 70, Char.ofNat 110, Char.ofNat 71, Char.ofNat 114, Char.ofNat 111, Char.ofNat 119, Char.ofNat 110, Char.ofNat 32, Char.ofNat 108, Char.ofNat 111, Char.ofNat 111, Char.ofNat 112, Char.ofNat 46, Char.ofNat 101, Char.ofNat 120, Char.ofNat 97, Char.ofNat 109, Char.ofNat 112, Char.ofNat 108, Char.ofNat 101, Char.ofNat 47, Char.ofNat 103, Char.ofNat 48, Char.ofNat 48, Char.ofNat 50, Char.ofNat 51, Char.ofNat 51, Char.ofNat 47, Char.ofNat 108, Char.ofNat 97, Char.ofNat 119, Char.ofNat 115, Char.ofNat 46, Char.ofNat 70, Char.ofNat 110, Char.ofNat 69, Char.ofNat 120, Char.ofNat 97, Char.ofNat 99, Char.ofNat 116, Char.ofNat 82, Char.ofNat 111, Char.ofNat 111, Char.ofNat 116, Char.ofNat 79, Char.ofNat 102, Char.ofNat 32, Char.ofNat 108, Char.ofNat 111, Char.ofNat 111, Char.ofNat 112, Char.ofNat 46, Char.ofNat 101, Char.ofNat 120, Char.ofNat 97, Char.ofNat 109, Char.ofNat 112, Char.ofNat 108, Char.ofNat 101, Char.ofNat 47, Char.ofNat 103, Char.ofNat 48, Char.ofNat 48, Char.ofNat 50, Char.ofNat 51, Char.ofNat 51, Char.ofNat 47, Char.ofNat 108, Char.ofNat 97, Char.ofNat 119, Char.ofNat 115, Char.ofNat 46, Char.ofNat 70, Char.ofNat 110, Char.ofNat 68, Char.ofNat 105, Char.ofNat 103, Char.ofNat 101, Char.ofNat 115, Char.ofNat 116, Char.ofNat 115, Char.ofNat 32, Char.ofNat 108, Char.ofNat 111, Char.ofNat 111, Char.ofNat 112, Char.ofNat 46, Char.ofNat 101, Char.ofNat 120, Char.ofNat 97, Char.ofNat 109, Char.ofNat 112, Char.ofNat 108, Char.ofNat 101, Char.ofNat 47, Char.ofNat 103, Char.ofNat 48, Char.ofNat 48, Char.ofNat 50, Char.ofNat 51, Char.ofNat 51, Char.ofNat 47, Char.ofNat 108, Char.ofNat 97, Char.ofNat 119, Char.ofNat 115, Char.ofNat 46, Char.ofNat 70, Char.ofNat 110, Char.ofNat 69, Char.ofNat 120, Char.ofNat 97, Char.ofNat 99, Char.ofNat 116, Char.ofNat 67, Char.ofNat 104, Char.ofNat 101, Char.ofNat 99, Char.ofNat 107, Char.ofNat 73, Char.ofNat 110, Char.ofNat 32, Char.ofNat 108, Char.ofNat 111, Char.ofNat 111, Char.ofNat 112, Char.ofNat 46, Char.ofNat 101, Char.ofNat 120, Char.ofNat 97, Char.ofNat 109, Char.ofNat 112, Char.ofNat 108, Char.ofNat 101, Char.ofNat 47, Char.ofNat 103, Char.ofNat 48, Char.ofNat 48, Char.ofNat 50, Char.ofNat 51, Char.ofNat 51, Char.ofNat 47, Char.ofNat 108, Char.ofNat 97, Char.ofNat 119, Char.ofNat 115, Char.ofNat 46, Char.ofNat 70, Char.ofNat 110, Char.ofNat 69, Char.ofNat 120, Char.ofNat 97, Char.ofNat 99, Char.ofNat 116, Char.ofNat 67, Char.ofNat 104, Char.ofNat 101, Char.ofNat 99, Char.ofNat 107, Char.ofNat 71, Char.ofNat 114, Char.ofNat 111, Char.ofNat 119, Char.ofNat 32, Char.ofNat 108, Char.ofNat 111, Char.ofNat 111, Char.ofNat 112, Char.ofNat 46, Char.ofNat 101, Char.ofNat 120, Char.ofNat 97, Char.ofNat 109, Char.ofNat 112, Char.ofNat 108, Char.ofNat 101, Char.ofNat 47, Char.ofNat 103, Char.ofNat 48, Char.ofNat 48, Char.ofNat 50, Char.ofNat 51, Char.ofNat 51, Char.ofNat 47, Char.ofNat 108, Char.ofNat 97, Char.ofNat 119, Char.ofNat 115, Char.ofNat 46, Char.ofNat 70, Char.ofNat 110, Char.ofNat 69, Char.ofNat 120, Char.ofNat 97, Char.ofNat 99, Char.ofNat 116, Char.ofNat 73, Char.ofNat 110, Char.ofNat 80, Char.ofNat 97, Char.ofNat 116, Char.ofNat 104, Char.ofNat 32, Char.ofNat 108, Char.ofNat 111, Char.ofNat 111, Char.ofNat 112, Char.ofNat 46, Char.ofNat 101, Char.ofNat 120, Char.ofNat 97, Char.ofNat 109, Char.ofNat 112, Char.ofNat 108, Char.ofNat 101, Char.ofNat 47, Char.ofNat 103, Char.ofNat 48, Char.ofNat 48, Char.ofNat 50, Char.ofNat 51, Char.ofNat 51, Char.ofNat 47, Char.ofNat 108, Char.ofNat 97, Char.ofNat 119, Char.ofNat 115, Char.ofNat 46, Char.ofNat 70, Char.ofNat 110, Char.ofNat 69, Char.ofNat 120, Char.ofNat 97, Char.ofNat 99, Char.ofNat 116, Char.ofNat 71, Char.ofNat 114, Char.ofNat 111, Char.ofNat 119, Char.ofNat 80, Char.ofNat 97, Char.ofNat 116, Char.ofNat 104]
set_option maxRecDepth 100000 in
theorem initOrder_lit : Try.pinned.checked.prog.initOrder = "harness 2030bd7aaa6f326128d74bbc92777a6f2b658087ac5cca4802849e451c912101 cut at loop.example/g00233/laws.FnExactConstants loop.example/g00233/laws.FnExactHexOf loop.example/g00233/laws.FnExactUnHex loop.example/g00233/laws.FnExactGetNum loop.example/g00233/laws.FnExactPadded loop.example/g00233/laws.FnExactGetText loop.example/g00233/laws.FnExactPutNum loop.example/g00233/laws.FnExactPutText loop.example/g00233/laws.FnNums loop.example/g00233/laws.FnExactEdgeOk loop.example/g00233/laws.FnExactPutTexts loop.example/g00233/laws.FnTexts loop.example/g00233/laws.FnExactGetTexts loop.example/g00233/laws.FnRoots loop.example/g00233/laws.FnExactLeafHash loop.example/g00233/laws.FnExactNodeHash loop.example/g00233/laws.FnExactDigest loop.example/g00233/laws.FnPaths loop.example/g00233/laws.FnGrown loop.example/g00233/laws.FnExactRootOf loop.example/g00233/laws.FnDigests loop.example/g00233/laws.FnExactCheckIn loop.example/g00233/laws.FnExactCheckGrow loop.example/g00233/laws.FnExactInPath loop.example/g00233/laws.FnExactGrowPath" := by kernel_rfl
set_option maxRecDepth 100000 in
theorem lit_list : ("harness 2030bd7aaa6f326128d74bbc92777a6f2b658087ac5cca4802849e451c912101 cut at loop.example/g00233/laws.FnExactConstants loop.example/g00233/laws.FnExactHexOf loop.example/g00233/laws.FnExactUnHex loop.example/g00233/laws.FnExactGetNum loop.example/g00233/laws.FnExactPadded loop.example/g00233/laws.FnExactGetText loop.example/g00233/laws.FnExactPutNum loop.example/g00233/laws.FnExactPutText loop.example/g00233/laws.FnNums loop.example/g00233/laws.FnExactEdgeOk loop.example/g00233/laws.FnExactPutTexts loop.example/g00233/laws.FnTexts loop.example/g00233/laws.FnExactGetTexts loop.example/g00233/laws.FnRoots loop.example/g00233/laws.FnExactLeafHash loop.example/g00233/laws.FnExactNodeHash loop.example/g00233/laws.FnExactDigest loop.example/g00233/laws.FnPaths loop.example/g00233/laws.FnGrown loop.example/g00233/laws.FnExactRootOf loop.example/g00233/laws.FnDigests loop.example/g00233/laws.FnExactCheckIn loop.example/g00233/laws.FnExactCheckGrow loop.example/g00233/laws.FnExactInPath loop.example/g00233/laws.FnExactGrowPath" : String) = String.ofList (Char.ofNat 104 :: Char.ofNat 97 :: Char.ofNat 114 :: Char.ofNat 110 :: Char.ofNat 101 :: Char.ofNat 115 :: Char.ofNat 115 :: Char.ofNat 32 :: Char.ofNat 50 :: Char.ofNat 48 :: Char.ofNat 51 :: Char.ofNat 48 :: Char.ofNat 98 :: Char.ofNat 100 :: Char.ofNat 55 :: Char.ofNat 97 :: Char.ofNat 97 :: Char.ofNat 97 :: Char.ofNat 54 :: Char.ofNat 102 :: Char.ofNat 51 :: Char.ofNat 50 :: Char.ofNat 54 :: Char.ofNat 49 :: Char.ofNat 50 :: Char.ofNat 56 :: Char.ofNat 100 :: Char.ofNat 55 :: Char.ofNat 52 :: Char.ofNat 98 :: Char.ofNat 98 :: Char.ofNat 99 :: Char.ofNat 57 :: Char.ofNat 50 :: Char.ofNat 55 :: Char.ofNat 55 :: Char.ofNat 55 :: Char.ofNat 97 :: Char.ofNat 54 :: Char.ofNat 102 :: Char.ofNat 50 :: Char.ofNat 98 :: Char.ofNat 54 :: Char.ofNat 53 :: Char.ofNat 56 :: Char.ofNat 48 :: Char.ofNat 56 :: Char.ofNat 55 :: Char.ofNat 97 :: Char.ofNat 99 :: Char.ofNat 53 :: Char.ofNat 99 :: Char.ofNat 99 :: Char.ofNat 97 :: Char.ofNat 52 :: Char.ofNat 56 :: Char.ofNat 48 :: Char.ofNat 50 :: Char.ofNat 56 :: Char.ofNat 52 :: Char.ofNat 57 :: Char.ofNat 101 :: Char.ofNat 52 :: Char.ofNat 53 :: Char.ofNat 49 :: Char.ofNat 99 :: Char.ofNat 57 :: Char.ofNat 49 :: Char.ofNat 50 :: Char.ofNat 49 :: Char.ofNat 48 :: Char.ofNat 49 :: Char.ofNat 32 :: Char.ofNat 99 :: Char.ofNat 117 :: Char.ofNat 116 :: Char.ofNat 32 :: Char.ofNat 97 :: Char.ofNat 116 :: Char.ofNat 32 :: tailSigns) := by kernel_rfl
theorem initOrder_list : Try.pinned.checked.prog.initOrder.toList = Char.ofNat 104 :: Char.ofNat 97 :: Char.ofNat 114 :: Char.ofNat 110 :: Char.ofNat 101 :: Char.ofNat 115 :: Char.ofNat 115 :: Char.ofNat 32 :: Char.ofNat 50 :: Char.ofNat 48 :: Char.ofNat 51 :: Char.ofNat 48 :: Char.ofNat 98 :: Char.ofNat 100 :: Char.ofNat 55 :: Char.ofNat 97 :: Char.ofNat 97 :: Char.ofNat 97 :: Char.ofNat 54 :: Char.ofNat 102 :: Char.ofNat 51 :: Char.ofNat 50 :: Char.ofNat 54 :: Char.ofNat 49 :: Char.ofNat 50 :: Char.ofNat 56 :: Char.ofNat 100 :: Char.ofNat 55 :: Char.ofNat 52 :: Char.ofNat 98 :: Char.ofNat 98 :: Char.ofNat 99 :: Char.ofNat 57 :: Char.ofNat 50 :: Char.ofNat 55 :: Char.ofNat 55 :: Char.ofNat 55 :: Char.ofNat 97 :: Char.ofNat 54 :: Char.ofNat 102 :: Char.ofNat 50 :: Char.ofNat 98 :: Char.ofNat 54 :: Char.ofNat 53 :: Char.ofNat 56 :: Char.ofNat 48 :: Char.ofNat 56 :: Char.ofNat 55 :: Char.ofNat 97 :: Char.ofNat 99 :: Char.ofNat 53 :: Char.ofNat 99 :: Char.ofNat 99 :: Char.ofNat 97 :: Char.ofNat 52 :: Char.ofNat 56 :: Char.ofNat 48 :: Char.ofNat 50 :: Char.ofNat 56 :: Char.ofNat 52 :: Char.ofNat 57 :: Char.ofNat 101 :: Char.ofNat 52 :: Char.ofNat 53 :: Char.ofNat 49 :: Char.ofNat 99 :: Char.ofNat 57 :: Char.ofNat 49 :: Char.ofNat 50 :: Char.ofNat 49 :: Char.ofNat 48 :: Char.ofNat 49 :: Char.ofNat 32 :: Char.ofNat 99 :: Char.ofNat 117 :: Char.ofNat 116 :: Char.ofNat 32 :: Char.ofNat 97 :: Char.ofNat 116 :: Char.ofNat 32 :: tailSigns := (congrArg String.toList (initOrder_lit.trans lit_list)).trans String.toList_ofList
theorem words_at (r : List Char) : wordsSigns (Char.ofNat 104 :: Char.ofNat 97 :: Char.ofNat 114 :: Char.ofNat 110 :: Char.ofNat 101 :: Char.ofNat 115 :: Char.ofNat 115 :: Char.ofNat 32 :: Char.ofNat 50 :: Char.ofNat 48 :: Char.ofNat 51 :: Char.ofNat 48 :: Char.ofNat 98 :: Char.ofNat 100 :: Char.ofNat 55 :: Char.ofNat 97 :: Char.ofNat 97 :: Char.ofNat 97 :: Char.ofNat 54 :: Char.ofNat 102 :: Char.ofNat 51 :: Char.ofNat 50 :: Char.ofNat 54 :: Char.ofNat 49 :: Char.ofNat 50 :: Char.ofNat 56 :: Char.ofNat 100 :: Char.ofNat 55 :: Char.ofNat 52 :: Char.ofNat 98 :: Char.ofNat 98 :: Char.ofNat 99 :: Char.ofNat 57 :: Char.ofNat 50 :: Char.ofNat 55 :: Char.ofNat 55 :: Char.ofNat 55 :: Char.ofNat 97 :: Char.ofNat 54 :: Char.ofNat 102 :: Char.ofNat 50 :: Char.ofNat 98 :: Char.ofNat 54 :: Char.ofNat 53 :: Char.ofNat 56 :: Char.ofNat 48 :: Char.ofNat 56 :: Char.ofNat 55 :: Char.ofNat 97 :: Char.ofNat 99 :: Char.ofNat 53 :: Char.ofNat 99 :: Char.ofNat 99 :: Char.ofNat 97 :: Char.ofNat 52 :: Char.ofNat 56 :: Char.ofNat 48 :: Char.ofNat 50 :: Char.ofNat 56 :: Char.ofNat 52 :: Char.ofNat 57 :: Char.ofNat 101 :: Char.ofNat 52 :: Char.ofNat 53 :: Char.ofNat 49 :: Char.ofNat 99 :: Char.ofNat 57 :: Char.ofNat 49 :: Char.ofNat 50 :: Char.ofNat 49 :: Char.ofNat 48 :: Char.ofNat 49 :: Char.ofNat 32 :: Char.ofNat 99 :: Char.ofNat 117 :: Char.ofNat 116 :: Char.ofNat 32 :: Char.ofNat 97 :: Char.ofNat 116 :: Char.ofNat 32 :: r) = [Char.ofNat 104, Char.ofNat 97, Char.ofNat 114, Char.ofNat 110, Char.ofNat 101, Char.ofNat 115, Char.ofNat 115] :: [Char.ofNat 50, Char.ofNat 48, Char.ofNat 51, Char.ofNat 48, Char.ofNat 98, Char.ofNat 100, Char.ofNat 55, Char.ofNat 97, Char.ofNat 97, Char.ofNat 97, Char.ofNat 54, Char.ofNat 102, Char.ofNat 51, Char.ofNat 50, Char.ofNat 54, Char.ofNat 49, Char.ofNat 50, Char.ofNat 56, Char.ofNat 100, Char.ofNat 55, Char.ofNat 52, Char.ofNat 98, Char.ofNat 98, Char.ofNat 99, Char.ofNat 57, Char.ofNat 50, Char.ofNat 55, Char.ofNat 55, Char.ofNat 55, Char.ofNat 97, Char.ofNat 54, Char.ofNat 102, Char.ofNat 50, Char.ofNat 98, Char.ofNat 54, Char.ofNat 53, Char.ofNat 56, Char.ofNat 48, Char.ofNat 56, Char.ofNat 55, Char.ofNat 97, Char.ofNat 99, Char.ofNat 53, Char.ofNat 99, Char.ofNat 99, Char.ofNat 97, Char.ofNat 52, Char.ofNat 56, Char.ofNat 48, Char.ofNat 50, Char.ofNat 56, Char.ofNat 52, Char.ofNat 57, Char.ofNat 101, Char.ofNat 52, Char.ofNat 53, Char.ofNat 49, Char.ofNat 99, Char.ofNat 57, Char.ofNat 49, Char.ofNat 50, Char.ofNat 49, Char.ofNat 48, Char.ofNat 49] :: [Char.ofNat 99, Char.ofNat 117, Char.ofNat 116] :: [Char.ofNat 97, Char.ofNat 116] :: wordsSigns r := by kernel_rfl
theorem behind_at (t : List (List Char)) : behindMainWord ([Char.ofNat 104, Char.ofNat 97, Char.ofNat 114, Char.ofNat 110, Char.ofNat 101, Char.ofNat 115, Char.ofNat 115] :: [Char.ofNat 50, Char.ofNat 48, Char.ofNat 51, Char.ofNat 48, Char.ofNat 98, Char.ofNat 100, Char.ofNat 55, Char.ofNat 97, Char.ofNat 97, Char.ofNat 97, Char.ofNat 54, Char.ofNat 102, Char.ofNat 51, Char.ofNat 50, Char.ofNat 54, Char.ofNat 49, Char.ofNat 50, Char.ofNat 56, Char.ofNat 100, Char.ofNat 55, Char.ofNat 52, Char.ofNat 98, Char.ofNat 98, Char.ofNat 99, Char.ofNat 57, Char.ofNat 50, Char.ofNat 55, Char.ofNat 55, Char.ofNat 55, Char.ofNat 97, Char.ofNat 54, Char.ofNat 102, Char.ofNat 50, Char.ofNat 98, Char.ofNat 54, Char.ofNat 53, Char.ofNat 56, Char.ofNat 48, Char.ofNat 56, Char.ofNat 55, Char.ofNat 97, Char.ofNat 99, Char.ofNat 53, Char.ofNat 99, Char.ofNat 99, Char.ofNat 97, Char.ofNat 52, Char.ofNat 56, Char.ofNat 48, Char.ofNat 50, Char.ofNat 56, Char.ofNat 52, Char.ofNat 57, Char.ofNat 101, Char.ofNat 52, Char.ofNat 53, Char.ofNat 49, Char.ofNat 99, Char.ofNat 57, Char.ofNat 49, Char.ofNat 50, Char.ofNat 49, Char.ofNat 48, Char.ofNat 49] :: [Char.ofNat 99, Char.ofNat 117, Char.ofNat 116] :: [Char.ofNat 97, Char.ofNat 116] :: t) = [Char.ofNat 99, Char.ofNat 117, Char.ofNat 116] :: [Char.ofNat 97, Char.ofNat 116] :: t := by kernel_rfl
theorem behind_all : behindMainWord (wordsSigns Try.pinned.checked.prog.initOrder.toList) = [Char.ofNat 99, Char.ofNat 117, Char.ofNat 116] :: [Char.ofNat 97, Char.ofNat 116] :: wordsSigns tailSigns := by rw [initOrder_list, words_at, behind_at]
theorem make_of (c : List Char) (rest : List (List Char)) (P : Program) (h0 : (c == "gc".toList) = false) (h1 : (c == "spec".toList) = false) (h2 : (c == "cut".toList) = true) (h : behindMainWord (wordsSigns P.initOrder.toList) = c :: rest) : P.make = some .cut := by
  unfold Program.make
  rw [h]
  simp only [h0, h1, h2]
  rfl
theorem mayEnter_of (c : List Char) (rest : List (List Char)) (P : Program) (h0 : (c == "gc".toList) = false) (h1 : (c == "spec".toList) = false) (h2 : (c == "carried".toList) = false) (h : behindMainWord (wordsSigns P.initOrder.toList) = c :: rest)
    (h3 : ((stripLifts liftWords (c :: rest)).2.head? == some "cut".toList) = true) (h4 : P.laysLater = false) (h5 : P.bearsReflect = false) (h6 : P.doorFits (stripLifts liftWords (c :: rest)).1 = true) (h7 : (stripLifts liftWords (c :: rest)).1.contains "leanrows" = false) : P.mayEnter = true := by
  unfold Program.mayEnter
  rw [h]
  simp only [h0, h1, h2, h3, h4, h5, h6, h7]
  simp
theorem liftsFinal_of (c : List Char) (rest : List (List Char)) (P : Program) (h2 : (some c == some "carried".toList) = false) (h : behindMainWord (wordsSigns P.initOrder.toList) = c :: rest)
    (h3 : ((stripLifts liftWords (c :: rest)).2.head? == some "cut".toList) = true) (h7 : (stripLifts liftWords (c :: rest)).1.contains "finals" = false) : P.liftsFinal = false := by
  unfold Program.liftsFinal Program.headLifts
  rw [h]
  simp only [List.head?_cons, h2, h3, if_true, h7, Bool.false_and, Bool.or_self]
theorem strip_at (t : List (List Char)) : stripLifts liftWords ([Char.ofNat 99, Char.ofNat 117, Char.ofNat 116] :: [Char.ofNat 97, Char.ofNat 116] :: t) = ([], [Char.ofNat 99, Char.ofNat 117, Char.ofNat 116] :: [Char.ofNat 97, Char.ofNat 116] :: t) := by kernel_rfl
theorem laysLater_at : Try.pinned.checked.prog.laysLater = false := by kernel_rfl
theorem bearsReflect_at : Try.pinned.checked.prog.bearsReflect = false := by kernel_rfl
theorem doorFits_at : Try.pinned.checked.prog.doorFits [] = true := by kernel_rfl
theorem mayEnter_at : Try.pinned.checked.prog.mayEnter = true :=
  mayEnter_of _ _ _ (by kernel_rfl) (by kernel_rfl) (by kernel_rfl) behind_all (by rw [strip_at]; generalize wordsSigns tailSigns = t; kernel_rfl) laysLater_at bearsReflect_at (by rw [strip_at]; exact doorFits_at) (by rw [strip_at]; rfl)
theorem liftsFinal_at : Try.pinned.checked.prog.liftsFinal = false :=
  liftsFinal_of _ _ _ (by kernel_rfl) behind_all (by rw [strip_at]; generalize wordsSigns tailSigns = t; kernel_rfl) (by rw [strip_at]; rfl)
theorem make_at : Try.pinned.checked.prog.make = some .cut := make_of _ _ _ (by kernel_rfl) (by kernel_rfl) (by kernel_rfl) behind_all
end Go.Proofs.Ytmkhhnfmahdijaa.Y
