/- The law FnExactPutEntry, as a plain statement: the program's PutEntry answers as the reference's, and leaves its argument alone. Conditions: those of the row's reading alone. -/
/- Part 3 of 10 of this claim's texts. -/
import Derived.Test.YtgdknepphkhnlaaGreatDoorCFnExactPutEntry1
namespace Go.Proofs.YtgdknepphkhnlaaGreatDoor.X
open Go.RowKit Go.Proofs.YtgdknepphkhnlaaGreatDoorW.PrintWords Go.Proofs.YtgdknepphkhnlaaGreatDoorW.PrintLast Go.Proofs.YtgdknepphkhnlaaGreatDoorW.PrintMore
attribute [local go_sem] max2_int min2_int max_two min_two max_three min_three max_four min_four
set_option linter.unusedVariables false
set_option linter.unusedSimpArgs false
def impl_partOk.l0 : Nat → ByteArray → Int → Option (Bool)
 | 0, _, _ => none
 | k + 1, x0, x3 => if x3 < (x0.size : Int) then (if 0 ≤ x3 then (if (bt x0 x3) ≥ 97 then (if (bt x0 x3) ≤ 122 then (impl_partOk.l0 k x0 (wrap64 (x3 + 1))) else (if (bt x0 x3) ≥ 65 then (if (bt x0 x3) ≤ 90 then (impl_partOk.l0 k x0 (wrap64 (x3 + 1))) else ((impl_isFigure.f (bt x0 x3)).bind fun t134 => (if t134 = true then (impl_partOk.l0 k x0 (wrap64 (x3 + 1))) else (if ((bt x0 x3) = 45) then (impl_partOk.l0 k x0 (wrap64 (x3 + 1))) else (some false))))) else ((impl_isFigure.f (bt x0 x3)).bind fun t135 => (if t135 = true then (impl_partOk.l0 k x0 (wrap64 (x3 + 1))) else (if ((bt x0 x3) = 45) then (impl_partOk.l0 k x0 (wrap64 (x3 + 1))) else (some false)))))) else (if (bt x0 x3) ≥ 65 then (if (bt x0 x3) ≤ 90 then (impl_partOk.l0 k x0 (wrap64 (x3 + 1))) else ((impl_isFigure.f (bt x0 x3)).bind fun t136 => (if t136 = true then (impl_partOk.l0 k x0 (wrap64 (x3 + 1))) else (if ((bt x0 x3) = 45) then (impl_partOk.l0 k x0 (wrap64 (x3 + 1))) else (some false))))) else ((impl_isFigure.f (bt x0 x3)).bind fun t137 => (if t137 = true then (impl_partOk.l0 k x0 (wrap64 (x3 + 1))) else (if ((bt x0 x3) = 45) then (impl_partOk.l0 k x0 (wrap64 (x3 + 1))) else (some false)))))) else (none)) else ((impl_inRange.f (x0.size : Int) 1 8).bind fun t138 => (if t138 = true then ((impl_isFigures.f k x0).bind fun t139 => (if t139 = true then ((impl_isNumber.f k x0).bind fun t140 => (some t140)) else (some true))) else (some false)))
def impl_partOk.f (k : Nat) (a0 : ByteArray) : Option (Bool) := impl_partOk.l0 k a0 0
set_option maxHeartbeats 8000000 in
set_option maxRecDepth 100000 in
theorem impl_partOk.calls (k : Nat) (a0 : ByteArray) (r : Bool) (w : World) (h : impl_partOk.f k a0 = some r) :
  Calls Tryz.prog 98 #[.string a0] w fun e w' => e = .returned (.bool r) ∧ Drawn0 w w' := by
 have H : (impl_partOk.l0 k a0 0) = some r := h
 clear h
 have H' := Aside0.mk H
 clear H
 go_enter Tryz.func98, Tryz.ntmps98
 go_wp2
 go_loopg [3] k (fun kq v3 w' => ∃ (x3_1 : Int), v3 = .int .i64 x3_1 ∧ Aside0 (impl_partOk.l0 kq a0 x3_1 = some r) ∧ Aside0 (kq ≤ k) ∧ Drawn0 w w')
 case atStart => exact ⟨(0), zj, H', ⟨Nat.le_refl _⟩, zk⟩
 case round =>
  clear H'
  obtain ⟨x3_1, rfl, HA, HK1, ⟨m1, rfl⟩⟩ := hrel
  cases gk with
  | zero => exact absurd HA.out (by simp [impl_partOk.l0])
  | succ k1 =>
   have H := HA.out
   clear HA
   simp only [impl_partOk.l0] at H
   by_cases c2 : x3_1 < (a0.size : Int)
   ·rw [if_pos c2] at H
    have c2b0 : decide (x3_1 < (a0.size : Int)) = true := decide_eq_true c2
    clear c2
    by_cases c3 : 0 ≤ x3_1
    ·rw [if_pos c3] at H
     have c3b0 : decide (0 ≤ x3_1) = true := decide_eq_true c3
     clear c3
     by_cases c5 : (bt a0 x3_1) ≥ 97
     ·rw [if_pos c5] at H
      have c5b0 : decide (97 ≤ (bt a0 x3_1)) = true := decide_eq_true c5
      clear c5
      by_cases c6 : (bt a0 x3_1) ≤ 122
      ·rw [if_pos c6] at H
       have c6b0 : decide ((bt a0 x3_1) ≤ 122) = true := decide_eq_true c6
       clear c6
       have H' := Aside0.mk H
       clear H
       have p4 : 0 ≤ (x3_1 : Int) := of_decide_eq_true zm
       have q4 : x3_1 < (a0.size : Int) := of_decide_eq_true zm
       have hx4 := bt_at a0 x3_1
       replace p4 := eq_true p4
       replace q4 := eq_true q4
       go_wp2
       go_roundg k1
       case measure => have := HK1.out; omega
       case rel => exact ⟨(wrap64 (x3_1 + 1)), zj, H', ⟨zn⟩, zk⟩
      ·rw [if_neg c6] at H
       have c6b0 : decide ((bt a0 x3_1) ≤ 122) = false := decide_eq_false c6
       clear c6
       by_cases c7 : (bt a0 x3_1) ≥ 65
       ·rw [if_pos c7] at H
        have c7b0 : decide (65 ≤ (bt a0 x3_1)) = true := decide_eq_true c7
        clear c7
        by_cases c8 : (bt a0 x3_1) ≤ 90
        ·rw [if_pos c8] at H
         have c8b0 : decide ((bt a0 x3_1) ≤ 90) = true := decide_eq_true c8
         clear c8
         have H' := Aside0.mk H
         clear H
         have p4 : 0 ≤ (x3_1 : Int) := of_decide_eq_true zm
         have q4 : x3_1 < (a0.size : Int) := of_decide_eq_true zm
         have hx4 := bt_at a0 x3_1
         replace p4 := eq_true p4
         replace q4 := eq_true q4
         go_wp2
         go_roundg k1
         case measure => have := HK1.out; omega
         case rel => exact ⟨(wrap64 (x3_1 + 1)), zj, H', ⟨zn⟩, zk⟩
        ·rw [if_neg c8] at H
         have c8b0 : decide ((bt a0 x3_1) ≤ 90) = false := decide_eq_false c8
         clear c8
         replace H := Option.bind_eq_some_iff.mp H
         obtain ⟨t134, A90, H⟩ := H
         replace H : (if t134 = true then (impl_partOk.l0 k1 a0 (wrap64 (x3_1 + 1))) else (if ((bt a0 x3_1) = 45) then (impl_partOk.l0 k1 a0 (wrap64 (x3_1 + 1))) else (some false))) = some r := H
         have A9 := Aside0.mk A90
         clear A90
         by_cases c10 : t134 = true
         ·subst c10
          have H1 : (impl_partOk.l0 k1 a0 (wrap64 (x3_1 + 1))) = some r := by rw [if_pos rfl] at H; exact H
          clear H
          have H := H1
          clear H1
          have H' := Aside0.mk H
          clear H
          have p4 : 0 ≤ (x3_1 : Int) := of_decide_eq_true zm
          have q4 : x3_1 < (a0.size : Int) := of_decide_eq_true zm
          have hx4 := bt_at a0 x3_1
          replace p4 := eq_true p4
          replace q4 := eq_true q4
          go_wp2_with (first | (go_at_call 112; (with_reducible refine (impl_isFigure.calls (bt a0 x3_1) true _ A9.out).mono ?_); rintro e w' ⟨rfl, ⟨nd, rfl⟩⟩))
          go_roundg k1
          case measure => have := HK1.out; omega
          case rel => exact ⟨(wrap64 (x3_1 + 1)), zj, H', ⟨zn⟩, zk⟩
         ·replace c10 := Bool.eq_false_iff.mpr c10
          subst c10
          have H1 : (if ((bt a0 x3_1) = 45) then (impl_partOk.l0 k1 a0 (wrap64 (x3_1 + 1))) else (some false)) = some r := by rw [if_neg (show ¬ (false = true) by decide)] at H; exact H
          clear H
          have H := H1
          clear H1
          by_cases c11 : ((bt a0 x3_1) = 45)
          ·rw [if_pos c11] at H
           have c11b0 : ((bt a0 x3_1) == 45) = true := beq_iff_eq.mpr c11
           have c11b1 : ((bt a0 x3_1) != 45) = false := bne_eq_false_iff_eq.mpr c11
           clear c11
           have H' := Aside0.mk H
           clear H
           have p4 : 0 ≤ (x3_1 : Int) := of_decide_eq_true zm
           have q4 : x3_1 < (a0.size : Int) := of_decide_eq_true zm
           have hx4 := bt_at a0 x3_1
           replace p4 := eq_true p4
           replace q4 := eq_true q4
           go_wp2_with (first | (go_at_call 112; (with_reducible refine (impl_isFigure.calls (bt a0 x3_1) false _ A9.out).mono ?_); rintro e w' ⟨rfl, ⟨nd, rfl⟩⟩))
           go_roundg k1
           case measure => have := HK1.out; omega
           case rel => exact ⟨(wrap64 (x3_1 + 1)), zj, H', ⟨zn⟩, zk⟩
          ·rw [if_neg c11] at H
           have c11b0 : ((bt a0 x3_1) == 45) = false := beq_eq_false_iff_ne.mpr c11
           have c11b1 : ((bt a0 x3_1) != 45) = true := bne_iff_ne.mpr c11
           obtain rfl := Option.some.inj H
           have p4 : 0 ≤ (x3_1 : Int) := of_decide_eq_true zm
           have q4 : x3_1 < (a0.size : Int) := of_decide_eq_true zm
           have hx4 := bt_at a0 x3_1
           replace p4 := eq_true p4
           replace q4 := eq_true q4
           go_wp2_with (first | (go_at_call 112; (with_reducible refine (impl_isFigure.calls (bt a0 x3_1) false _ A9.out).mono ?_); rintro e w' ⟨rfl, ⟨nd, rfl⟩⟩))
           go_ret
           exact ⟨zj, zk⟩
       ·rw [if_neg c7] at H
        have c7b0 : decide (65 ≤ (bt a0 x3_1)) = false := decide_eq_false c7
        clear c7
        replace H := Option.bind_eq_some_iff.mp H
        obtain ⟨t135, A120, H⟩ := H
        replace H : (if t135 = true then (impl_partOk.l0 k1 a0 (wrap64 (x3_1 + 1))) else (if ((bt a0 x3_1) = 45) then (impl_partOk.l0 k1 a0 (wrap64 (x3_1 + 1))) else (some false))) = some r := H
        have A12 := Aside0.mk A120
        clear A120
        by_cases c13 : t135 = true
        ·subst c13
         have H1 : (impl_partOk.l0 k1 a0 (wrap64 (x3_1 + 1))) = some r := by rw [if_pos rfl] at H; exact H
         clear H
         have H := H1
         clear H1
         have H' := Aside0.mk H
         clear H
         have p4 : 0 ≤ (x3_1 : Int) := of_decide_eq_true zm
         have q4 : x3_1 < (a0.size : Int) := of_decide_eq_true zm
         have hx4 := bt_at a0 x3_1
         replace p4 := eq_true p4
         replace q4 := eq_true q4
         go_wp2_with (first | (go_at_call 112; (with_reducible refine (impl_isFigure.calls (bt a0 x3_1) true _ A12.out).mono ?_); rintro e w' ⟨rfl, ⟨nd, rfl⟩⟩))
         go_roundg k1
         case measure => have := HK1.out; omega
         case rel => exact ⟨(wrap64 (x3_1 + 1)), zj, H', ⟨zn⟩, zk⟩
        ·replace c13 := Bool.eq_false_iff.mpr c13
         subst c13
         have H1 : (if ((bt a0 x3_1) = 45) then (impl_partOk.l0 k1 a0 (wrap64 (x3_1 + 1))) else (some false)) = some r := by rw [if_neg (show ¬ (false = true) by decide)] at H; exact H
         clear H
         have H := H1
         clear H1
         by_cases c14 : ((bt a0 x3_1) = 45)
         ·rw [if_pos c14] at H
          have c14b0 : ((bt a0 x3_1) == 45) = true := beq_iff_eq.mpr c14
          have c14b1 : ((bt a0 x3_1) != 45) = false := bne_eq_false_iff_eq.mpr c14
          clear c14
          have H' := Aside0.mk H
          clear H
          have p4 : 0 ≤ (x3_1 : Int) := of_decide_eq_true zm
          have q4 : x3_1 < (a0.size : Int) := of_decide_eq_true zm
          have hx4 := bt_at a0 x3_1
          replace p4 := eq_true p4
          replace q4 := eq_true q4
          go_wp2_with (first | (go_at_call 112; (with_reducible refine (impl_isFigure.calls (bt a0 x3_1) false _ A12.out).mono ?_); rintro e w' ⟨rfl, ⟨nd, rfl⟩⟩))
          go_roundg k1
          case measure => have := HK1.out; omega
          case rel => exact ⟨(wrap64 (x3_1 + 1)), zj, H', ⟨zn⟩, zk⟩
         ·rw [if_neg c14] at H
          have c14b0 : ((bt a0 x3_1) == 45) = false := beq_eq_false_iff_ne.mpr c14
          have c14b1 : ((bt a0 x3_1) != 45) = true := bne_iff_ne.mpr c14
          obtain rfl := Option.some.inj H
          have p4 : 0 ≤ (x3_1 : Int) := of_decide_eq_true zm
          have q4 : x3_1 < (a0.size : Int) := of_decide_eq_true zm
          have hx4 := bt_at a0 x3_1
          replace p4 := eq_true p4
          replace q4 := eq_true q4
          go_wp2_with (first | (go_at_call 112; (with_reducible refine (impl_isFigure.calls (bt a0 x3_1) false _ A12.out).mono ?_); rintro e w' ⟨rfl, ⟨nd, rfl⟩⟩))
          go_ret
          exact ⟨zj, zk⟩
     ·rw [if_neg c5] at H
      have c5b0 : decide (97 ≤ (bt a0 x3_1)) = false := decide_eq_false c5
      clear c5
      by_cases c15 : (bt a0 x3_1) ≥ 65
      ·rw [if_pos c15] at H
       have c15b0 : decide (65 ≤ (bt a0 x3_1)) = true := decide_eq_true c15
       clear c15
       by_cases c16 : (bt a0 x3_1) ≤ 90
       ·rw [if_pos c16] at H
        have c16b0 : decide ((bt a0 x3_1) ≤ 90) = true := decide_eq_true c16
        clear c16
        have H' := Aside0.mk H
        clear H
        have p4 : 0 ≤ (x3_1 : Int) := of_decide_eq_true zm
        have q4 : x3_1 < (a0.size : Int) := of_decide_eq_true zm
        have hx4 := bt_at a0 x3_1
        replace p4 := eq_true p4
        replace q4 := eq_true q4
        go_wp2
        go_roundg k1
        case measure => have := HK1.out; omega
        case rel => exact ⟨(wrap64 (x3_1 + 1)), zj, H', ⟨zn⟩, zk⟩
       ·rw [if_neg c16] at H
        have c16b0 : decide ((bt a0 x3_1) ≤ 90) = false := decide_eq_false c16
        clear c16
        replace H := Option.bind_eq_some_iff.mp H
        obtain ⟨t136, A170, H⟩ := H
        replace H : (if t136 = true then (impl_partOk.l0 k1 a0 (wrap64 (x3_1 + 1))) else (if ((bt a0 x3_1) = 45) then (impl_partOk.l0 k1 a0 (wrap64 (x3_1 + 1))) else (some false))) = some r := H
        have A17 := Aside0.mk A170
        clear A170
        by_cases c18 : t136 = true
        ·subst c18
         have H1 : (impl_partOk.l0 k1 a0 (wrap64 (x3_1 + 1))) = some r := by rw [if_pos rfl] at H; exact H
         clear H
         have H := H1
         clear H1
         have H' := Aside0.mk H
         clear H
         have p4 : 0 ≤ (x3_1 : Int) := of_decide_eq_true zm
         have q4 : x3_1 < (a0.size : Int) := of_decide_eq_true zm
         have hx4 := bt_at a0 x3_1
         replace p4 := eq_true p4
         replace q4 := eq_true q4
         go_wp2_with (first | (go_at_call 112; (with_reducible refine (impl_isFigure.calls (bt a0 x3_1) true _ A17.out).mono ?_); rintro e w' ⟨rfl, ⟨nd, rfl⟩⟩))
         go_roundg k1
         case measure => have := HK1.out; omega
         case rel => exact ⟨(wrap64 (x3_1 + 1)), zj, H', ⟨zn⟩, zk⟩
        ·replace c18 := Bool.eq_false_iff.mpr c18
         subst c18
         have H1 : (if ((bt a0 x3_1) = 45) then (impl_partOk.l0 k1 a0 (wrap64 (x3_1 + 1))) else (some false)) = some r := by rw [if_neg (show ¬ (false = true) by decide)] at H; exact H
         clear H
         have H := H1
         clear H1
         by_cases c19 : ((bt a0 x3_1) = 45)
         ·rw [if_pos c19] at H
          have c19b0 : ((bt a0 x3_1) == 45) = true := beq_iff_eq.mpr c19
          have c19b1 : ((bt a0 x3_1) != 45) = false := bne_eq_false_iff_eq.mpr c19
          clear c19
          have H' := Aside0.mk H
          clear H
          have p4 : 0 ≤ (x3_1 : Int) := of_decide_eq_true zm
          have q4 : x3_1 < (a0.size : Int) := of_decide_eq_true zm
          have hx4 := bt_at a0 x3_1
          replace p4 := eq_true p4
          replace q4 := eq_true q4
          go_wp2_with (first | (go_at_call 112; (with_reducible refine (impl_isFigure.calls (bt a0 x3_1) false _ A17.out).mono ?_); rintro e w' ⟨rfl, ⟨nd, rfl⟩⟩))
          go_roundg k1
          case measure => have := HK1.out; omega
          case rel => exact ⟨(wrap64 (x3_1 + 1)), zj, H', ⟨zn⟩, zk⟩
         ·rw [if_neg c19] at H
          have c19b0 : ((bt a0 x3_1) == 45) = false := beq_eq_false_iff_ne.mpr c19
          have c19b1 : ((bt a0 x3_1) != 45) = true := bne_iff_ne.mpr c19
          obtain rfl := Option.some.inj H
          have p4 : 0 ≤ (x3_1 : Int) := of_decide_eq_true zm
          have q4 : x3_1 < (a0.size : Int) := of_decide_eq_true zm
          have hx4 := bt_at a0 x3_1
          replace p4 := eq_true p4
          replace q4 := eq_true q4
          go_wp2_with (first | (go_at_call 112; (with_reducible refine (impl_isFigure.calls (bt a0 x3_1) false _ A17.out).mono ?_); rintro e w' ⟨rfl, ⟨nd, rfl⟩⟩))
          go_ret
          exact ⟨zj, zk⟩
      ·rw [if_neg c15] at H
       have c15b0 : decide (65 ≤ (bt a0 x3_1)) = false := decide_eq_false c15
       clear c15
       replace H := Option.bind_eq_some_iff.mp H
       obtain ⟨t137, A200, H⟩ := H
       replace H : (if t137 = true then (impl_partOk.l0 k1 a0 (wrap64 (x3_1 + 1))) else (if ((bt a0 x3_1) = 45) then (impl_partOk.l0 k1 a0 (wrap64 (x3_1 + 1))) else (some false))) = some r := H
       have A20 := Aside0.mk A200
       clear A200
       by_cases c21 : t137 = true
       ·subst c21
        have H1 : (impl_partOk.l0 k1 a0 (wrap64 (x3_1 + 1))) = some r := by rw [if_pos rfl] at H; exact H
        clear H
        have H := H1
        clear H1
        have H' := Aside0.mk H
        clear H
        have p4 : 0 ≤ (x3_1 : Int) := of_decide_eq_true zm
        have q4 : x3_1 < (a0.size : Int) := of_decide_eq_true zm
        have hx4 := bt_at a0 x3_1
        replace p4 := eq_true p4
        replace q4 := eq_true q4
        go_wp2_with (first | (go_at_call 112; (with_reducible refine (impl_isFigure.calls (bt a0 x3_1) true _ A20.out).mono ?_); rintro e w' ⟨rfl, ⟨nd, rfl⟩⟩))
        go_roundg k1
        case measure => have := HK1.out; omega
        case rel => exact ⟨(wrap64 (x3_1 + 1)), zj, H', ⟨zn⟩, zk⟩
       ·replace c21 := Bool.eq_false_iff.mpr c21
        subst c21
        have H1 : (if ((bt a0 x3_1) = 45) then (impl_partOk.l0 k1 a0 (wrap64 (x3_1 + 1))) else (some false)) = some r := by rw [if_neg (show ¬ (false = true) by decide)] at H; exact H
        clear H
        have H := H1
        clear H1
        by_cases c22 : ((bt a0 x3_1) = 45)
        ·rw [if_pos c22] at H
         have c22b0 : ((bt a0 x3_1) == 45) = true := beq_iff_eq.mpr c22
         have c22b1 : ((bt a0 x3_1) != 45) = false := bne_eq_false_iff_eq.mpr c22
         clear c22
         have H' := Aside0.mk H
         clear H
         have p4 : 0 ≤ (x3_1 : Int) := of_decide_eq_true zm
         have q4 : x3_1 < (a0.size : Int) := of_decide_eq_true zm
         have hx4 := bt_at a0 x3_1
         replace p4 := eq_true p4
         replace q4 := eq_true q4
         go_wp2_with (first | (go_at_call 112; (with_reducible refine (impl_isFigure.calls (bt a0 x3_1) false _ A20.out).mono ?_); rintro e w' ⟨rfl, ⟨nd, rfl⟩⟩))
         go_roundg k1
         case measure => have := HK1.out; omega
         case rel => exact ⟨(wrap64 (x3_1 + 1)), zj, H', ⟨zn⟩, zk⟩
        ·rw [if_neg c22] at H
         have c22b0 : ((bt a0 x3_1) == 45) = false := beq_eq_false_iff_ne.mpr c22
         have c22b1 : ((bt a0 x3_1) != 45) = true := bne_iff_ne.mpr c22
         obtain rfl := Option.some.inj H
         have p4 : 0 ≤ (x3_1 : Int) := of_decide_eq_true zm
         have q4 : x3_1 < (a0.size : Int) := of_decide_eq_true zm
         have hx4 := bt_at a0 x3_1
         replace p4 := eq_true p4
         replace q4 := eq_true q4
         go_wp2_with (first | (go_at_call 112; (with_reducible refine (impl_isFigure.calls (bt a0 x3_1) false _ A20.out).mono ?_); rintro e w' ⟨rfl, ⟨nd, rfl⟩⟩))
         go_ret
         exact ⟨zj, zk⟩
    ·rw [if_neg c3] at H
     exact absurd H (by simp)
   ·rw [if_neg c2] at H
    have c2b0 : decide (x3_1 < (a0.size : Int)) = false := decide_eq_false c2
    clear c2
    replace H := Option.bind_eq_some_iff.mp H
    obtain ⟨t138, A230, H⟩ := H
    replace H : (if t138 = true then ((impl_isFigures.f k1 a0).bind fun t139 => (if t139 = true then ((impl_isNumber.f k1 a0).bind fun t140 => (some t140)) else (some true))) else (some false)) = some r := H
    have A23 := Aside0.mk A230
    clear A230
    by_cases c24 : t138 = true
    ·subst c24
     have H1 : ((impl_isFigures.f k1 a0).bind fun t139 => (if t139 = true then ((impl_isNumber.f k1 a0).bind fun t140 => (some t140)) else (some true))) = some r := by rw [if_pos rfl] at H; exact H
     clear H
     have H := H1
     clear H1
     replace H := Option.bind_eq_some_iff.mp H
     obtain ⟨t139, A250, H⟩ := H
     replace H : (if t139 = true then ((impl_isNumber.f k1 a0).bind fun t140 => (some t140)) else (some true)) = some r := H
     have A25 := Aside0.mk A250
     clear A250
     by_cases c26 : t139 = true
     ·subst c26
      have H1 : ((impl_isNumber.f k1 a0).bind fun t140 => (some t140)) = some r := by rw [if_pos rfl] at H; exact H
      clear H
      have H := H1
      clear H1
      replace H := Option.bind_eq_some_iff.mp H
      obtain ⟨t140, A270, H⟩ := H
      replace H : (some t140) = some r := H
      have A27 := Aside0.mk A270
      clear A270
      obtain rfl := Option.some.inj H
      go_wp2_with (first | ((with_reducible refine gate_callee (f := 97) rfl ?_); refine goesL_ (some 39) rfl rfl Tryz.func97 zi rfl #[.int .i64 (a0.size : Int), .int .i64 1, .int .i64 8] rfl zo ?_; (with_reducible refine (impl_inRange.calls (a0.size : Int) 1 8 true _ A23.out).mono ?_); rintro e w' ⟨rfl, ⟨nd, rfl⟩⟩; refine ⟨_, rfl, ?_⟩) | (go_at_call 113; (with_reducible refine (impl_isFigures.calls k1 a0 true _ A25.out).mono ?_); rintro e w' ⟨rfl, ⟨nd, rfl⟩⟩) | (go_at_call 103; (with_reducible refine (impl_isNumber.calls k1 a0 t140 _ A27.out).mono ?_); rintro e w' ⟨rfl, ⟨nd, rfl⟩⟩))
      go_ret
      exact ⟨zj, zk⟩
     ·replace c26 := Bool.eq_false_iff.mpr c26
      subst c26
      have H1 : (some true) = some r := by rw [if_neg (show ¬ (false = true) by decide)] at H; exact H
      clear H
      have H := H1
      clear H1
      obtain rfl := Option.some.inj H
      go_wp2_with (first | ((with_reducible refine gate_callee (f := 97) rfl ?_); refine goesL_ (some 39) rfl rfl Tryz.func97 zi rfl #[.int .i64 (a0.size : Int), .int .i64 1, .int .i64 8] rfl zo ?_; (with_reducible refine (impl_inRange.calls (a0.size : Int) 1 8 true _ A23.out).mono ?_); rintro e w' ⟨rfl, ⟨nd, rfl⟩⟩; refine ⟨_, rfl, ?_⟩) | (go_at_call 113; (with_reducible refine (impl_isFigures.calls k1 a0 false _ A25.out).mono ?_); rintro e w' ⟨rfl, ⟨nd, rfl⟩⟩))
      go_ret
      exact ⟨zj, zk⟩
    ·replace c24 := Bool.eq_false_iff.mpr c24
     subst c24
     have H1 : (some false) = some r := by rw [if_neg (show ¬ (false = true) by decide)] at H; exact H
     clear H
     have H := H1
     clear H1
     obtain rfl := Option.some.inj H
     go_wp2_with (first | ((with_reducible refine gate_callee (f := 97) rfl ?_); refine goesL_ (some 39) rfl rfl Tryz.func97 zi rfl #[.int .i64 (a0.size : Int), .int .i64 1, .int .i64 8] rfl zo ?_; (with_reducible refine (impl_inRange.calls (a0.size : Int) 1 8 false _ A23.out).mono ?_); rintro e w' ⟨rfl, ⟨nd, rfl⟩⟩; refine ⟨_, rfl, ?_⟩))
     go_ret
     exact ⟨zj, zk⟩
end Go.Proofs.YtgdknepphkhnlaaGreatDoor.X

namespace Go.Proofs.YtgdknepphkhnlaaGreatDoor.X
open Go.RowKit Go.Proofs.YtgdknepphkhnlaaGreatDoorW.PrintWords Go.Proofs.YtgdknepphkhnlaaGreatDoorW.PrintLast Go.Proofs.YtgdknepphkhnlaaGreatDoorW.PrintMore
attribute [local go_sem] max2_int min2_int max_two min_two max_three min_three max_four min_four
set_option linter.unusedVariables false
set_option linter.unusedSimpArgs false
def impl_VersionOk.l0 : Nat → List ByteArray → Int → Option (Bool)
 | 0, _, _ => none
 | k + 1, l, i => if i < (l.length : Int) then (if 0 ≤ i then ((impl_partOk.f k (rdOf ByteArray.empty l i)).bind fun t => (if t = true then (impl_VersionOk.l0 k l (wrap64 (i + 1))) else (some false))) else (none)) else (some (decide ((l.length : Int) ≤ 4)))
def impl_VersionOk.f0 (k : Nat) (p : ByteArray) : Option (Bool) := if p.toList = ([] : List UInt8) then (some true) else ((strings_Split.f p (⟨#[46]⟩ : ByteArray)).bind fun l => (impl_VersionOk.l0 k l 0))
def impl_VersionOk.f1 (k : Nat) (c : Int) (p : ByteArray) : Option (Bool) := (impl_inRange.f c 0 1000000).bind fun t => (if t = true then (impl_VersionOk.f0 k p) else (some false))
def impl_VersionOk.f2 (k : Nat) (b c : Int) (p : ByteArray) : Option (Bool) := (impl_inRange.f b 0 1000000).bind fun t => (if t = true then (impl_VersionOk.f1 k c p) else (some false))
def impl_VersionOk.f (k : Nat) (a b c : Int) (p : ByteArray) : Option (Bool) := (impl_inRange.f a 0 1000000).bind fun t => (if t = true then (impl_VersionOk.f2 k b c p) else (some false))
theorem cell_drewN_ (w : World) (n : Nat) (a : Addr) : (w.drewN n).cell? a = w.cell? a := by
 induction n generalizing w with
 | zero => rfl
 | succ n ih => exact ih _
set_option maxHeartbeats 8000000 in
set_option maxRecDepth 100000 in
theorem impl_VersionOk.calls (k : Nat) (a0_0 : Int) (a0_1 : Int) (a0_2 : Int) (a0_3 : ByteArray) (r : Bool) (w : World) (h : impl_VersionOk.f k a0_0 a0_1 a0_2 a0_3 = some r) :
  Calls Tryz.prog 71 #[.agg #[.int .i64 a0_0, .int .i64 a0_1, .int .i64 a0_2, .string a0_3]] w fun e w' => e = .returned (.bool r) ∧ Below w.heap.size w w' := by
 have HB := Aside0.mk (Below.refl w.heap.size w)
 have H' := Aside0.mk h
 clear h
 have ix0 : ∀ W, (Instr.index 116 (.agg #[.int .i64 a0_0, .int .i64 a0_1, .int .i64 a0_2]) (.int .i64 0)).run Tryz.prog W = .ok (.int .i64 a0_0) W := fun W => by simp [Instr.index, run_underlying Tryz.underlying116, asIntOf, go_sem]
 have ix1 : ∀ W, (Instr.index 116 (.agg #[.int .i64 a0_0, .int .i64 a0_1, .int .i64 a0_2]) (.int .i64 1)).run Tryz.prog W = .ok (.int .i64 a0_1) W := fun W => by simp [Instr.index, run_underlying Tryz.underlying116, asIntOf, go_sem]
 have ix2 : ∀ W, (Instr.index 116 (.agg #[.int .i64 a0_0, .int .i64 a0_1, .int .i64 a0_2]) (.int .i64 2)).run Tryz.prog W = .ok (.int .i64 a0_2) W := fun W => by simp [Instr.index, run_underlying Tryz.underlying116, asIntOf, go_sem]
 have hu27 := Tryz.underlying25
 go_enter Tryz.func71, Tryz.ntmps71
 go_wp2
 obtain ⟨W1, hW1⟩ : ∃ W1, W1 = w.alloc (Obj.cells #[Value.int IntKind.i64 a0_0, Value.int IntKind.i64 a0_1, Value.int IntKind.i64 a0_2, Value.string a0_3] 25) := ⟨_, rfl⟩
 have hc3 : W1.cell? ⟨w.heap.size, 3, none⟩ = some (.string a0_3) := by rw [hW1]; exact (World.cell?_alloc_at (hn := rfl) ..).trans rfl
 have HB1 := Aside0.mk (show Below w.heap.size w W1 by rw [hW1]; exact (Below.refl _ _).alloc (Nat.le_refl _) _)
 rw [← hW1]
 clear hW1 HB
 go_loopw [15] (fun v15 wr => ∃ (i : Nat), v15 = .int .i64 (i : Int) ∧ i ≤ 3 ∧ wr.cell? ⟨w.heap.size, 3, none⟩ = some (.string a0_3) ∧ Aside0 (Below w.heap.size w wr) ∧ Aside0 (i = 0 ∧ impl_VersionOk.f k a0_0 a0_1 a0_2 a0_3 = some r ∨ i = 1 ∧ impl_VersionOk.f2 k a0_1 a0_2 a0_3 = some r ∨ i = 2 ∧ impl_VersionOk.f1 k a0_2 a0_3 = some r ∨ i = 3 ∧ impl_VersionOk.f0 k a0_3 = some r))
  (fun v15 _ => 3 - (intOf v15).toNat)
 case atStart => exact ⟨0, rfl, zg, hc3, HB1, ⟨.inl ⟨rfl, H'.out⟩⟩⟩
 case round =>
  clear H' hc3 HB1
  obtain ⟨i, rfl, hi, hc3, HB, HA⟩ := hrel
  rcases HA.out with ⟨rfl, h⟩ | ⟨rfl, h⟩ | ⟨rfl, h⟩ | ⟨rfl, h⟩
  ·obtain ⟨t, A1, h2⟩ := Option.bind_eq_some_iff.mp h
   have A10 := Aside0.mk A1
   clear A1 HA h
   cases t with
   | true =>
    have HT := Aside0.mk h2
    clear h2
    go_wp2_with (go_at_call 97; refine (impl_inRange.calls a0_0 0 1000000 true _ A10.out).mono ?_; rintro e w' ⟨rfl, ⟨nd, rfl⟩⟩)
    exact ⟨⟨1, rfl, zg, (cell_drewN_ _ _ _).trans hc3, ⟨pw_below_drewN HB.out nd⟩, ⟨.inr (.inl ⟨rfl, HT.out⟩)⟩⟩, zh⟩
   | false =>
    obtain rfl := Option.some.inj h2
    clear h2
    go_wp2_with (go_at_call 97; refine (impl_inRange.calls a0_0 0 1000000 false _ A10.out).mono ?_; rintro e w' ⟨rfl, ⟨nd, rfl⟩⟩)
    go_ret
    exact ⟨rfl, pw_below_drewN HB.out nd⟩
  ·obtain ⟨t, A1, h2⟩ := Option.bind_eq_some_iff.mp h
   have A10 := Aside0.mk A1
   clear A1 HA h
   cases t with
   | true =>
    have HT := Aside0.mk h2
    clear h2
    go_wp2_with (go_at_call 97; refine (impl_inRange.calls a0_1 0 1000000 true _ A10.out).mono ?_; rintro e w' ⟨rfl, ⟨nd, rfl⟩⟩)
    exact ⟨⟨2, rfl, zg, (cell_drewN_ _ _ _).trans hc3, ⟨pw_below_drewN HB.out nd⟩, ⟨.inr (.inr (.inl ⟨rfl, HT.out⟩))⟩⟩, zh⟩
   | false =>
    obtain rfl := Option.some.inj h2
    clear h2
    go_wp2_with (go_at_call 97; refine (impl_inRange.calls a0_1 0 1000000 false _ A10.out).mono ?_; rintro e w' ⟨rfl, ⟨nd, rfl⟩⟩)
    go_ret
    exact ⟨rfl, pw_below_drewN HB.out nd⟩
  ·obtain ⟨t, A1, h2⟩ := Option.bind_eq_some_iff.mp h
   have A10 := Aside0.mk A1
   clear A1 HA h
   cases t with
   | true =>
    have HT := Aside0.mk h2
    clear h2
    go_wp2_with (go_at_call 97; refine (impl_inRange.calls a0_2 0 1000000 true _ A10.out).mono ?_; rintro e w' ⟨rfl, ⟨nd, rfl⟩⟩)
    exact ⟨⟨3, rfl, zg, (cell_drewN_ _ _ _).trans hc3, ⟨pw_below_drewN HB.out nd⟩, ⟨.inr (.inr (.inr ⟨rfl, HT.out⟩))⟩⟩, zh⟩
   | false =>
    obtain rfl := Option.some.inj h2
    clear h2
    go_wp2_with (go_at_call 97; refine (impl_inRange.calls a0_2 0 1000000 false _ A10.out).mono ?_; rintro e w' ⟨rfl, ⟨nd, rfl⟩⟩)
    go_ret
    exact ⟨rfl, pw_below_drewN HB.out nd⟩
  ·clear HA ix0 ix1 ix2
   have hcn : ∀ n, (wr.drewN n).cell? ⟨w.heap.size, 3, none⟩ = some (.string a0_3) := fun n => (cell_drewN_ _ _ _).trans hc3
   unfold impl_VersionOk.f0 at h
   by_cases c4 : a0_3.toList = ([] : List UInt8)
   ·rw [if_pos c4] at h
    obtain rfl := Option.some.inj h
    clear h
    go_wp2
    go_ret
    exact ⟨rfl, HB.out⟩
   ·rw [if_neg c4] at h
    have c4b : (a0_3.toList == ([] : List UInt8)) = false := beq_eq_false_iff_ne.2 c4
    obtain ⟨l, A1, h2⟩ := Option.bind_eq_some_iff.mp h
    clear h
    have A2 := Aside0.mk A1
    clear A1
    have H' := Aside0.mk h2
    clear h2
    go_wp2_with (go_at_call 76; refine (strings_Split.calls a0_3 (⟨#[46]⟩ : ByteArray) l _ A2.out).mono ?_; rintro e w3 ⟨v122, rfl, ho0, hb⟩; have n0_ := Aside0.mk (Kd.R_lower ho0 (below_size zp)); have n1_ := Aside0.mk (below_step zp hb); clear HB; have HO := n0_; have HB := n1_; clear n0_ n1_; (try clear hb); (try clear ho0); obtain ⟨Ao4, co4, eo4⟩ := Kd.R_slice HO.out; subst eo4)
    clear hc3 hcn c4
    go_loopg [30] k (fun kq v30 w' => ∃ (x_1 : Int), v30 = .int .i64 x_1 ∧ Aside0 (impl_VersionOk.l0 kq l x_1 = some r) ∧ Aside0 (kq ≤ k) ∧ Aside0 (Kd.R Kd.string 9 w' w.heap.size (fun _ => True) (.slice Ao4 l.length co4) l) ∧ Aside0 (Below w.heap.size w w'))
    case atStart => exact ⟨(0), zj, H', ⟨Nat.le_refl _⟩, ⟨by (with_reducible repeat (first | apply Kd.R_alloc | apply Kd.R_drewN | apply Kd.R_drew)); exact HO.out⟩, ⟨zp⟩⟩
    case round =>
     clear H' HO HB A2
     obtain ⟨x_1, rfl, HA, HK1, HO, HB⟩ := hrel
     cases gk with
     | zero => exact absurd HA.out (by simp [impl_VersionOk.l0])
     | succ k1 =>
      have H := HA.out
      clear HA
      simp only [impl_VersionOk.l0] at H
      by_cases c5 : x_1 < (l.length : Int)
      ·rw [if_pos c5] at H
       have c5b0 : decide (x_1 < (l.length : Int)) = true := decide_eq_true c5
       clear c5
       by_cases c6 : 0 ≤ x_1
       ·rw [if_pos c6] at H
        have c6b0 : decide (0 ≤ x_1) = true := decide_eq_true c6
        clear c6
        replace H := Option.bind_eq_some_iff.mp H
        obtain ⟨t125, A80, H⟩ := H
        replace H : (if t125 = true then (impl_VersionOk.l0 k1 l (wrap64 (x_1 + 1))) else (some false)) = some r := H
        have A8 := Aside0.mk A80
        clear A80
        have p124 : 0 ≤ (x_1 : Int) := of_decide_eq_true zm
        have q124 : x_1 < (l.length : Int) := of_decide_eq_true zm
        obtain ⟨ad124, e124, hx124_0⟩ := Kd.at_string (Kd.R_reads' HO.out).2.2 x_1 p124 q124
        cases e124
        replace p124 := eq_true p124
        replace q124 := eq_true q124
        by_cases c9 : t125 = true
        ·subst c9
         have H1 : (impl_VersionOk.l0 k1 l (wrap64 (x_1 + 1))) = some r := by rw [if_pos rfl] at H; exact H
         clear H
         have H' := Aside0.mk H1
         clear H1
         go_wp2_with (go_at_call 98; (with_reducible refine (impl_partOk.calls k1 (rdOf ByteArray.empty l x_1) true _ A8.out).mono ?_); rintro e w' ⟨rfl, ⟨nd, rfl⟩⟩)
         go_roundg k1
         case measure => have := HK1.out; omega
         case rel => exact ⟨(wrap64 (x_1 + 1)), zj, H', ⟨zn⟩, ⟨by (with_reducible repeat (first | apply Kd.R_alloc | apply Kd.R_drewN | apply Kd.R_drew)); exact HO.out⟩, ⟨zp⟩⟩
        ·replace c9 := Bool.eq_false_iff.mpr c9
         subst c9
         have H1 : (some false) = some r := by rw [if_neg (show ¬ (false = true) by decide)] at H; exact H
         clear H
         obtain rfl := Option.some.inj H1
         clear H1
         go_wp2_with (go_at_call 98; (with_reducible refine (impl_partOk.calls k1 (rdOf ByteArray.empty l x_1) false _ A8.out).mono ?_); rintro e w' ⟨rfl, ⟨nd, rfl⟩⟩)
         go_ret
         exact ⟨zj, zp⟩
       ·rw [if_neg c6] at H
        exact absurd H (by simp)
      ·rw [if_neg c5] at H
       have c5b0 : decide (x_1 < (l.length : Int)) = false := decide_eq_false c5
       clear c5
       obtain rfl := Option.some.inj H
       clear H
       go_wp2
       go_ret
       exact ⟨zj, zp⟩
end Go.Proofs.YtgdknepphkhnlaaGreatDoor.X

namespace Go.Proofs.YtgdknepphkhnlaaGreatDoor.X
open Go.RowKit Go.Proofs.YtgdknepphkhnlaaGreatDoorW.PrintWords Go.Proofs.YtgdknepphkhnlaaGreatDoorW.PrintLast Go.Proofs.YtgdknepphkhnlaaGreatDoorW.PrintMore
attribute [local go_sem] max2_int min2_int max_two min_two max_three min_three max_four min_four
set_option linter.unusedVariables false
set_option linter.unusedSimpArgs false
def impl_Fits.f (k : Nat) (a0 : ByteArray) (a1_0 : Int) (a1_1 : Int) (a1_2 : Int) (a1_3 : ByteArray) : Option (Bool) := (impl_MajorOf.f k a0).bind fun t142 => (if t142 > 0 then ((impl_VersionOk.f k a1_0 a1_1 a1_2 a1_3).bind fun t143 => (if t143 = true then (if a1_0 = t142 then (some true) else (if a1_0 = 0 then (some (t142 == 1)) else (some false))) else (some false))) else (some false))
set_option maxHeartbeats 8000000 in
set_option maxRecDepth 100000 in
theorem impl_Fits.calls (k : Nat) (a0 : ByteArray) (a1_0 : Int) (a1_1 : Int) (a1_2 : Int) (a1_3 : ByteArray) (r : Bool) (w : World) (h : impl_Fits.f k a0 a1_0 a1_1 a1_2 a1_3 = some r) :
  Calls Tryz.prog 35 #[.string a0, .agg #[.int .i64 a1_0, .int .i64 a1_1, .int .i64 a1_2, .string a1_3]] w fun e w' => e = .returned (.bool r) ∧ Below w.heap.size w w' := by
 have hu25 := Tryz.underlying25
 have HB := Aside0.mk (Below.refl w.heap.size w)
 have H : ((impl_MajorOf.f k a0).bind fun t142 => (if t142 > 0 then ((impl_VersionOk.f k a1_0 a1_1 a1_2 a1_3).bind fun t143 => (if t143 = true then (if a1_0 = t142 then (some true) else (if a1_0 = 0 then (some (t142 == 1)) else (some false))) else (some false))) else (some false))) = some r := h
 clear h
 replace H := Option.bind_eq_some_iff.mp H
 obtain ⟨t142, A30, H⟩ := H
 replace H : (if t142 > 0 then ((impl_VersionOk.f k a1_0 a1_1 a1_2 a1_3).bind fun t143 => (if t143 = true then (if a1_0 = t142 then (some true) else (if a1_0 = 0 then (some (t142 == 1)) else (some false))) else (some false))) else (some false)) = some r := H
 have A3 := Aside0.mk A30
 clear A30
 by_cases c4 : t142 > 0
 ·rw [if_pos c4] at H
  have c4b0 : decide (0 < t142) = true := decide_eq_true c4
  clear c4
  replace H := Option.bind_eq_some_iff.mp H
  obtain ⟨t143, A50, H⟩ := H
  replace H : (if t143 = true then (if a1_0 = t142 then (some true) else (if a1_0 = 0 then (some (t142 == 1)) else (some false))) else (some false)) = some r := H
  have A5 := Aside0.mk A50
  clear A50
  by_cases c6 : t143 = true
  ·subst c6
   have H1 : (if a1_0 = t142 then (some true) else (if a1_0 = 0 then (some (t142 == 1)) else (some false))) = some r := by rw [if_pos rfl] at H; exact H
   clear H
   have H := H1
   clear H1
   by_cases c7 : a1_0 = t142
   ·rw [if_pos c7] at H
    have c7b0 : (a1_0 == t142) = true := beq_iff_eq.mpr c7
    have c7b1 : (a1_0 != t142) = false := bne_eq_false_iff_eq.mpr c7
    clear c7
    obtain rfl := Option.some.inj H
    go_enter Tryz.func35, Tryz.ntmps35
    go_wp2_with (first | ((with_reducible refine gate_dst (N := 3) rfl ?_); refine box_event zw (N := 3) zw (cs := #[.int .i64 a1_0, .int .i64 a1_1, .int .i64 a1_2, .string a1_3]) (t := 25) zx ?_; intro gb141 hg w8 hbox hb; have n0_ := Aside0.mk (below_step zp hb); have n1_ := Aside0.mk hbox; have n2_ := Aside0.mk ((z3s : w.heap.size ≤ gb141)); have n3_ := Aside0.mk ((z3s : w.heap.size ≤ gb141)); clear HB; have HB := n0_; have BK141 := n1_; have GW141 := n2_; have GE141 := n3_; clear n0_ n1_ n2_ n3_; clear hb hbox hg) | ((with_reducible refine gate_callee (f := 70) rfl ?_); refine goesL_ (some 7) rfl rfl Tryz.func70 zi rfl #[.string a0] rfl zo ?_; (with_reducible refine (impl_MajorOf.calls k a0 t142 _ A3.out).mono ?_); rintro e w9 ⟨rfl, hb⟩; refine ⟨_, rfl, ?_⟩; have n0_ := Aside0.mk (blk_below (g := gb141) (o := .cells #[.int .i64 a1_0, .int .i64 a1_1, .int .i64 a1_2, .string a1_3] 25 (0, 0)) zy hb); have n1_ := Aside0.mk (below_step zz hb); clear BK141; clear HB; have BK141 := n0_; have HB := n1_; clear n0_ n1_; (try clear hb); (try clear hb2); (try clear hk); (try clear hi); obtain ⟨hcz10_0, hcz10_1, hcz10_2, hcz10_3, hfz10_0, hfz10_1, hfz10_2, hfz10_3⟩ := zd BK141.out) | (go_at_call 71; (with_reducible refine (impl_VersionOk.calls k a1_0 a1_1 a1_2 a1_3 true _ A5.out).mono ?_); rintro e w11 ⟨rfl, hb⟩; have n0_ := Aside0.mk (blk_below (g := gb141) (o := .cells #[.int .i64 a1_0, .int .i64 a1_1, .int .i64 a1_2, .string a1_3] 25 (0, 0)) zy hb); have n1_ := Aside0.mk (below_step zz hb); clear BK141; clear HB; have BK141 := n0_; have HB := n1_; clear n0_ n1_; (try clear hb); (try clear hb2); (try clear hk); (try clear hi); obtain ⟨hcz12_0, hcz12_1, hcz12_2, hcz12_3, hfz12_0, hfz12_1, hfz12_2, hfz12_3⟩ := zd BK141.out))
    go_ret
    exact ⟨zr, zz⟩
   ·rw [if_neg c7] at H
    have c7b0 : (a1_0 == t142) = false := beq_eq_false_iff_ne.mpr c7
    have c7b1 : (a1_0 != t142) = true := bne_iff_ne.mpr c7
    by_cases c13 : a1_0 = 0
    ·rw [if_pos c13] at H
     have c13b0 : (a1_0 == 0) = true := beq_iff_eq.mpr c13
     have c13b1 : (a1_0 != 0) = false := bne_eq_false_iff_eq.mpr c13
     clear c13
     obtain rfl := Option.some.inj H
     go_enter Tryz.func35, Tryz.ntmps35
     go_wp2_with (first | ((with_reducible refine gate_dst (N := 3) rfl ?_); refine box_event zw (N := 3) zw (cs := #[.int .i64 a1_0, .int .i64 a1_1, .int .i64 a1_2, .string a1_3]) (t := 25) zx ?_; intro gb141 hg w14 hbox hb; have n0_ := Aside0.mk (below_step zp hb); have n1_ := Aside0.mk hbox; have n2_ := Aside0.mk ((z3s : w.heap.size ≤ gb141)); have n3_ := Aside0.mk ((z3s : w.heap.size ≤ gb141)); clear HB; have HB := n0_; have BK141 := n1_; have GW141 := n2_; have GE141 := n3_; clear n0_ n1_ n2_ n3_; clear hb hbox hg) | ((with_reducible refine gate_callee (f := 70) rfl ?_); refine goesL_ (some 7) rfl rfl Tryz.func70 zi rfl #[.string a0] rfl zo ?_; (with_reducible refine (impl_MajorOf.calls k a0 t142 _ A3.out).mono ?_); rintro e w15 ⟨rfl, hb⟩; refine ⟨_, rfl, ?_⟩; have n0_ := Aside0.mk (blk_below (g := gb141) (o := .cells #[.int .i64 a1_0, .int .i64 a1_1, .int .i64 a1_2, .string a1_3] 25 (0, 0)) zy hb); have n1_ := Aside0.mk (below_step zz hb); clear BK141; clear HB; have BK141 := n0_; have HB := n1_; clear n0_ n1_; (try clear hb); (try clear hb2); (try clear hk); (try clear hi); obtain ⟨hcz16_0, hcz16_1, hcz16_2, hcz16_3, hfz16_0, hfz16_1, hfz16_2, hfz16_3⟩ := zd BK141.out) | (go_at_call 71; (with_reducible refine (impl_VersionOk.calls k a1_0 a1_1 a1_2 a1_3 true _ A5.out).mono ?_); rintro e w17 ⟨rfl, hb⟩; have n0_ := Aside0.mk (blk_below (g := gb141) (o := .cells #[.int .i64 a1_0, .int .i64 a1_1, .int .i64 a1_2, .string a1_3] 25 (0, 0)) zy hb); have n1_ := Aside0.mk (below_step zz hb); clear BK141; clear HB; have BK141 := n0_; have HB := n1_; clear n0_ n1_; (try clear hb); (try clear hb2); (try clear hk); (try clear hi); obtain ⟨hcz18_0, hcz18_1, hcz18_2, hcz18_3, hfz18_0, hfz18_1, hfz18_2, hfz18_3⟩ := zd BK141.out))
     go_ret
     exact ⟨zr, zz⟩
    ·rw [if_neg c13] at H
     have c13b0 : (a1_0 == 0) = false := beq_eq_false_iff_ne.mpr c13
     have c13b1 : (a1_0 != 0) = true := bne_iff_ne.mpr c13
     obtain rfl := Option.some.inj H
     go_enter Tryz.func35, Tryz.ntmps35
     go_wp2_with (first | ((with_reducible refine gate_dst (N := 3) rfl ?_); refine box_event zw (N := 3) zw (cs := #[.int .i64 a1_0, .int .i64 a1_1, .int .i64 a1_2, .string a1_3]) (t := 25) zx ?_; intro gb141 hg w19 hbox hb; have n0_ := Aside0.mk (below_step zp hb); have n1_ := Aside0.mk hbox; have n2_ := Aside0.mk ((z3s : w.heap.size ≤ gb141)); have n3_ := Aside0.mk ((z3s : w.heap.size ≤ gb141)); clear HB; have HB := n0_; have BK141 := n1_; have GW141 := n2_; have GE141 := n3_; clear n0_ n1_ n2_ n3_; clear hb hbox hg) | ((with_reducible refine gate_callee (f := 70) rfl ?_); refine goesL_ (some 7) rfl rfl Tryz.func70 zi rfl #[.string a0] rfl zo ?_; (with_reducible refine (impl_MajorOf.calls k a0 t142 _ A3.out).mono ?_); rintro e w20 ⟨rfl, hb⟩; refine ⟨_, rfl, ?_⟩; have n0_ := Aside0.mk (blk_below (g := gb141) (o := .cells #[.int .i64 a1_0, .int .i64 a1_1, .int .i64 a1_2, .string a1_3] 25 (0, 0)) zy hb); have n1_ := Aside0.mk (below_step zz hb); clear BK141; clear HB; have BK141 := n0_; have HB := n1_; clear n0_ n1_; (try clear hb); (try clear hb2); (try clear hk); (try clear hi); obtain ⟨hcz21_0, hcz21_1, hcz21_2, hcz21_3, hfz21_0, hfz21_1, hfz21_2, hfz21_3⟩ := zd BK141.out) | (go_at_call 71; (with_reducible refine (impl_VersionOk.calls k a1_0 a1_1 a1_2 a1_3 true _ A5.out).mono ?_); rintro e w22 ⟨rfl, hb⟩; have n0_ := Aside0.mk (blk_below (g := gb141) (o := .cells #[.int .i64 a1_0, .int .i64 a1_1, .int .i64 a1_2, .string a1_3] 25 (0, 0)) zy hb); have n1_ := Aside0.mk (below_step zz hb); clear BK141; clear HB; have BK141 := n0_; have HB := n1_; clear n0_ n1_; (try clear hb); (try clear hb2); (try clear hk); (try clear hi); obtain ⟨hcz23_0, hcz23_1, hcz23_2, hcz23_3, hfz23_0, hfz23_1, hfz23_2, hfz23_3⟩ := zd BK141.out))
     go_ret
     exact ⟨zr, zz⟩
  ·replace c6 := Bool.eq_false_iff.mpr c6
   subst c6
   have H1 : (some false) = some r := by rw [if_neg (show ¬ (false = true) by decide)] at H; exact H
   clear H
   have H := H1
   clear H1
   obtain rfl := Option.some.inj H
   go_enter Tryz.func35, Tryz.ntmps35
   go_wp2_with (first | ((with_reducible refine gate_dst (N := 3) rfl ?_); refine box_event zw (N := 3) zw (cs := #[.int .i64 a1_0, .int .i64 a1_1, .int .i64 a1_2, .string a1_3]) (t := 25) zx ?_; intro gb141 hg w24 hbox hb; have n0_ := Aside0.mk (below_step zp hb); have n1_ := Aside0.mk hbox; have n2_ := Aside0.mk ((z3s : w.heap.size ≤ gb141)); have n3_ := Aside0.mk ((z3s : w.heap.size ≤ gb141)); clear HB; have HB := n0_; have BK141 := n1_; have GW141 := n2_; have GE141 := n3_; clear n0_ n1_ n2_ n3_; clear hb hbox hg) | ((with_reducible refine gate_callee (f := 70) rfl ?_); refine goesL_ (some 7) rfl rfl Tryz.func70 zi rfl #[.string a0] rfl zo ?_; (with_reducible refine (impl_MajorOf.calls k a0 t142 _ A3.out).mono ?_); rintro e w25 ⟨rfl, hb⟩; refine ⟨_, rfl, ?_⟩; have n0_ := Aside0.mk (blk_below (g := gb141) (o := .cells #[.int .i64 a1_0, .int .i64 a1_1, .int .i64 a1_2, .string a1_3] 25 (0, 0)) zy hb); have n1_ := Aside0.mk (below_step zz hb); clear BK141; clear HB; have BK141 := n0_; have HB := n1_; clear n0_ n1_; (try clear hb); (try clear hb2); (try clear hk); (try clear hi); obtain ⟨hcz26_0, hcz26_1, hcz26_2, hcz26_3, hfz26_0, hfz26_1, hfz26_2, hfz26_3⟩ := zd BK141.out) | (go_at_call 71; (with_reducible refine (impl_VersionOk.calls k a1_0 a1_1 a1_2 a1_3 false _ A5.out).mono ?_); rintro e w27 ⟨rfl, hb⟩; have n0_ := Aside0.mk (blk_below (g := gb141) (o := .cells #[.int .i64 a1_0, .int .i64 a1_1, .int .i64 a1_2, .string a1_3] 25 (0, 0)) zy hb); have n1_ := Aside0.mk (below_step zz hb); clear BK141; clear HB; have BK141 := n0_; have HB := n1_; clear n0_ n1_; (try clear hb); (try clear hb2); (try clear hk); (try clear hi)))
   go_ret
   exact ⟨zr, zz⟩
 ·rw [if_neg c4] at H
  have c4b0 : decide (0 < t142) = false := decide_eq_false c4
  clear c4
  obtain rfl := Option.some.inj H
  go_enter Tryz.func35, Tryz.ntmps35
  go_wp2_with (first | ((with_reducible refine gate_dst (N := 3) rfl ?_); refine box_event zw (N := 3) zw (cs := #[.int .i64 a1_0, .int .i64 a1_1, .int .i64 a1_2, .string a1_3]) (t := 25) zx ?_; intro gb141 hg w28 hbox hb; have n0_ := Aside0.mk (below_step zp hb); have n1_ := Aside0.mk hbox; have n2_ := Aside0.mk ((z3s : w.heap.size ≤ gb141)); have n3_ := Aside0.mk ((z3s : w.heap.size ≤ gb141)); clear HB; have HB := n0_; have BK141 := n1_; have GW141 := n2_; have GE141 := n3_; clear n0_ n1_ n2_ n3_; clear hb hbox hg) | ((with_reducible refine gate_callee (f := 70) rfl ?_); refine goesL_ (some 7) rfl rfl Tryz.func70 zi rfl #[.string a0] rfl zo ?_; (with_reducible refine (impl_MajorOf.calls k a0 t142 _ A3.out).mono ?_); rintro e w29 ⟨rfl, hb⟩; refine ⟨_, rfl, ?_⟩; have n0_ := Aside0.mk (blk_below (g := gb141) (o := .cells #[.int .i64 a1_0, .int .i64 a1_1, .int .i64 a1_2, .string a1_3] 25 (0, 0)) zy hb); have n1_ := Aside0.mk (below_step zz hb); clear BK141; clear HB; have BK141 := n0_; have HB := n1_; clear n0_ n1_; (try clear hb); (try clear hb2); (try clear hk); (try clear hi)))
  go_ret
  exact ⟨zr, zz⟩
end Go.Proofs.YtgdknepphkhnlaaGreatDoor.X

namespace Go.Proofs.YtgdknepphkhnlaaGreatDoor.X
open Go.RowKit Go.Proofs.YtgdknepphkhnlaaGreatDoorW.PrintWords Go.Proofs.YtgdknepphkhnlaaGreatDoorW.PrintLast Go.Proofs.YtgdknepphkhnlaaGreatDoorW.PrintMore
attribute [local go_sem] max2_int min2_int max_two min_two max_three min_three max_four min_four
set_option linter.unusedVariables false
set_option linter.unusedSimpArgs false
def impl_NeedOk.f (k : Nat) (a0_0 : ByteArray) (a0_1 : Int) (a0_2 : Int) (a0_3 : Int) (a0_4 : ByteArray) : Option (Bool) := (impl_Fits.f k a0_0 a0_1 a0_2 a0_3 a0_4).bind fun t145 => (some t145)
set_option maxHeartbeats 8000000 in
set_option maxRecDepth 100000 in
theorem impl_NeedOk.calls (k : Nat) (a0_0 : ByteArray) (a0_1 : Int) (a0_2 : Int) (a0_3 : Int) (a0_4 : ByteArray) (r : Bool) (w : World) (h : impl_NeedOk.f k a0_0 a0_1 a0_2 a0_3 a0_4 = some r) :
  Calls Tryz.prog 16 #[.agg #[.string a0_0, .int .i64 a0_1, .int .i64 a0_2, .int .i64 a0_3, .string a0_4]] w fun e w' => e = .returned (.bool r) ∧ Below w.heap.size w w' := by
 have hu35 := Tryz.underlying35
 have hu25 := Tryz.underlying25
 have HB := Aside0.mk (Below.refl w.heap.size w)
 have H : ((impl_Fits.f k a0_0 a0_1 a0_2 a0_3 a0_4).bind fun t145 => (some t145)) = some r := h
 clear h
 replace H := Option.bind_eq_some_iff.mp H
 obtain ⟨t145, A20, H⟩ := H
 replace H : (some t145) = some r := H
 have A2 := Aside0.mk A20
 clear A20
 obtain rfl := Option.some.inj H
 go_enter Tryz.func16, Tryz.ntmps16
 go_wp2_with (first | ((with_reducible refine gate_dst (N := 1) rfl ?_); refine box_event zw (N := 1) zw (cs := #[.string a0_0, .int .i64 a0_1, .int .i64 a0_2, .int .i64 a0_3, .string a0_4]) (t := 35) zx ?_; intro gb144 hg w3 hbox hb; have n0_ := Aside0.mk (below_step zp hb); have n1_ := Aside0.mk hbox; have n2_ := Aside0.mk ((z3s : w.heap.size ≤ gb144)); have n3_ := Aside0.mk ((z3s : w.heap.size ≤ gb144)); clear HB; have HB := n0_; have BK144 := n1_; have GW144 := n2_; have GE144 := n3_; clear n0_ n1_ n2_ n3_; clear hb hbox hg; obtain ⟨hcz4_0, hcz4_1, hcz4_2, hcz4_3, hcz4_4, hfz4_0, hfz4_1, hfz4_2, hfz4_3, hfz4_4⟩ := ze BK144.out) | ((with_reducible refine gate_callee (f := 35) rfl ?_); refine goesL_ (some 7) rfl rfl Tryz.func35 zi rfl #[.string a0_0, .agg #[.int .i64 a0_1, .int .i64 a0_2, .int .i64 a0_3, .string a0_4]] rfl zo ?_; (with_reducible refine (impl_Fits.calls k a0_0 a0_1 a0_2 a0_3 a0_4 t145 _ A2.out).mono ?_); rintro e w5 ⟨rfl, hb⟩; refine ⟨_, rfl, ?_⟩; have n0_ := Aside0.mk (blk_below (g := gb144) (o := .cells #[.string a0_0, .int .i64 a0_1, .int .i64 a0_2, .int .i64 a0_3, .string a0_4] 35 (0, 0)) (by (with_reducible repeat (first | refine blk_drewN ?_ _ | refine blk_drew ?_ | refine blk_alloc ?_ _)); exact BK144.out) hb); have n1_ := Aside0.mk (below_step (by repeat (first | (with_reducible first | exact HB.out | apply below_alloc | apply pw_below_drewN | apply below_drew1 | refine below_set ?_ GE144.out) | exact HB.out)) hb); clear BK144; clear HB; have BK144 := n0_; have HB := n1_; clear n0_ n1_; (try clear hb); (try clear hb2); (try clear hk); (try clear hi)))
 go_ret
 exact ⟨zr, by repeat (first | (with_reducible first | exact HB.out | apply below_alloc | apply pw_below_drewN | apply below_drew1 | refine below_set ?_ GE144.out) | exact HB.out)⟩
end Go.Proofs.YtgdknepphkhnlaaGreatDoor.X

namespace Go.Proofs.YtgdknepphkhnlaaGreatDoor.X
open Go.RowKit Go.Proofs.YtgdknepphkhnlaaGreatDoorW.PrintWords Go.Proofs.YtgdknepphkhnlaaGreatDoorW.PrintLast Go.Proofs.YtgdknepphkhnlaaGreatDoorW.PrintMore
attribute [local go_sem] max2_int min2_int max_two min_two max_three min_three max_four min_four
set_option linter.unusedVariables false
set_option linter.unusedSimpArgs false
def impl_ascending.l0 : Nat → List (S35) → Int → List (S35) → Int → Int → Option (Bool)
 | 0, _, _, _, _, _ => none
 | k + 1, x0, x1, x7, x8, x9 => if x9 < x8 then (if 0 ≤ x9 then (if x9 < (x7.length : Int) then ((impl_NeedOk.f k ((rd_T35 x7 x9).f0) ((rd_T35 x7 x9).f1.f0) ((rd_T35 x7 x9).f1.f1) ((rd_T35 x7 x9).f1.f2) ((rd_T35 x7 x9).f1.f3)).bind fun t148 => (if t148 = true then (if x9 > 0 then (if 0 ≤ (wrap64 (x9 - 1)) then (if (wrap64 (x9 - 1)) < (x0.length : Int) then (if ((Op.bytesLess (((rd_T35 x0 (wrap64 (x9 - 1))).f0).toList) (((rd_T35 x7 x9).f0).toList)) = true) then (impl_ascending.l0 k x0 x1 x7 x8 (wrap64 (x9 + 1))) else (some false)) else (none)) else (none)) else (impl_ascending.l0 k x0 x1 x7 x8 (wrap64 (x9 + 1)))) else (some false))) else (none)) else (none)) else (some (decide ((x0.length : Int) ≤ x1)))
def impl_ascending.f (k : Nat) (l0 : List (S35)) (a1 : Int) : Option (Bool) := impl_ascending.l0 k l0 a1 l0 (l0.length : Int) 0
def impl_ascending.T4 : Bool × List (List Nat × List Nat) := (true, [([], []), ([0], [0]), ([1], [1]), ([2, 1], [2]), ([3], [3]), ([4, 3], [3, 4]), ([5, 3, 3], [3, 5]), ([6], [6]), ([7, 6], [6, 7]), ([6], [6]), ([6], [6]), ([10, 6], [6, 10]), ([9, 11, 6], [6, 9, 11]), ([12, 6], [6, 12]), ([13, 6], [6, 13]), ([8, 14, 6], [6, 8, 14]), ([6, 15, 3], [3, 6, 15]), ([3, 16], [3, 16])])
def impl_ascending.B4 : List Nat := [0, 1, 3, 7, 15, 31, 63, 127, 255, 127, 127, 1151, 3711, 7807, 15999, 32767, 65535, 131071]
theorem impl_ascending.tab4 : rtab .any (opsOf Tryz.f36 4) = impl_ascending.T4 := by kernel_rfl
theorem impl_ascending.bits4 : waitsOk impl_ascending.T4.2 impl_ascending.B4 = true := by kernel_rfl
set_option maxHeartbeats 8000000 in
set_option maxRecDepth 100000 in
theorem impl_ascending.calls (k : Nat) (A0 : Option Addr) (c0 : Nat) (l0 : List (S35)) (a1 : Int) (r : Bool) (w : World) (hr0 : Kd.C k35 w A0 l0.length l0) (hc0 : l0.length ≤ c0) (h : impl_ascending.f k l0 a1 = some r) :
  Calls Tryz.prog 36 #[.slice A0 l0.length c0, .int .i64 a1] w fun e w' => e = .returned (.bool r) ∧ Below w.heap.size w w' := by
 have hu35 := Tryz.underlying35
 have HR0 := Aside0.mk hr0
 have HC0 := Aside0.mk hc0
 clear hr0 hc0
 have HB := Aside0.mk (Below.refl w.heap.size w)
 have H : (impl_ascending.l0 k l0 a1 l0 (l0.length : Int) 0) = some r := h
 clear h
 have H' := Aside0.mk H
 clear H
 go_enter Tryz.func36, Tryz.ntmps36
 go_wp2
 go_loopg [9] k (fun kq v9 w' => ∃ (x9_1 : Int), v9 = .int .i64 x9_1 ∧ Aside0 (impl_ascending.l0 kq l0 a1 l0 (l0.length : Int) x9_1 = some r) ∧ Aside0 (kq ≤ k) ∧ Aside0 (Below w.heap.size w w'))
 case atStart => exact ⟨(0), zj, H', ⟨Nat.le_refl _⟩, ⟨zp⟩⟩
 case round =>
  clear H'
  try clear p2
  obtain ⟨x9_1, rfl, HA, HK1, HB⟩ := hrel
  cases gk with
  | zero => exact absurd HA.out (by simp [impl_ascending.l0])
  | succ k1 =>
   have H := HA.out
   clear HA
   simp only [impl_ascending.l0] at H
   by_cases c3 : x9_1 < (l0.length : Int)
   ·rw [if_pos c3] at H
    have c3b0 : decide (x9_1 < (l0.length : Int)) = true := decide_eq_true c3
    clear c3
    by_cases c4 : 0 ≤ x9_1
    ·rw [if_pos c4] at H
     have c4b0 : decide (0 ≤ x9_1) = true := decide_eq_true c4
     clear c4
     by_cases c5 : x9_1 < (l0.length : Int)
     ·rw [if_pos c5] at H
      have c5b0 : decide (x9_1 < (l0.length : Int)) = true := decide_eq_true c5
      clear c5
      replace H := Option.bind_eq_some_iff.mp H
      obtain ⟨t148, A60, H⟩ := H
      replace H : (if t148 = true then (if x9_1 > 0 then (if 0 ≤ (wrap64 (x9_1 - 1)) then (if (wrap64 (x9_1 - 1)) < (l0.length : Int) then (if ((Op.bytesLess (((rd_T35 l0 (wrap64 (x9_1 - 1))).f0).toList) (((rd_T35 l0 x9_1).f0).toList)) = true) then (impl_ascending.l0 k1 l0 a1 l0 (l0.length : Int) (wrap64 (x9_1 + 1))) else (some false)) else (none)) else (none)) else (impl_ascending.l0 k1 l0 a1 l0 (l0.length : Int) (wrap64 (x9_1 + 1)))) else (some false)) = some r := H
      have A6 := Aside0.mk A60
      clear A60
      by_cases c7 : t148 = true
      ·subst c7
       have H1 : (if x9_1 > 0 then (if 0 ≤ (wrap64 (x9_1 - 1)) then (if (wrap64 (x9_1 - 1)) < (l0.length : Int) then (if ((Op.bytesLess (((rd_T35 l0 (wrap64 (x9_1 - 1))).f0).toList) (((rd_T35 l0 x9_1).f0).toList)) = true) then (impl_ascending.l0 k1 l0 a1 l0 (l0.length : Int) (wrap64 (x9_1 + 1))) else (some false)) else (none)) else (none)) else (impl_ascending.l0 k1 l0 a1 l0 (l0.length : Int) (wrap64 (x9_1 + 1)))) = some r := by rw [if_pos rfl] at H; exact H
       clear H
       have H := H1
       clear H1
       by_cases c8 : x9_1 > 0
       ·rw [if_pos c8] at H
        have c8b0 : decide (0 < x9_1) = true := decide_eq_true c8
        clear c8
        obtain ⟨ji9, hji9⟩ : ∃ j_ : Int, (wrap64 (x9_1 - 1)) = j_ := ⟨_, rfl⟩
        replace H : (if 0 ≤ (ji9) then (if (ji9) < (l0.length : Int) then (if ((Op.bytesLess (((rd_T35 l0 (ji9)).f0).toList) (((rd_T35 l0 x9_1).f0).toList)) = true) then (impl_ascending.l0 k1 l0 a1 l0 (l0.length : Int) (wrap64 (x9_1 + 1))) else (some false)) else (none)) else (none)) = some r := by first | (rw [hji9] at H; exact H) | (simp only [hji9] at H ⊢; exact H)
        (try rw [hji9] at A6)
        have hji9w : (IntKind.i64.wrap (x9_1 - 1)) = ji9 := (i64_w _).trans hji9
        by_cases c10 : 0 ≤ (ji9)
        ·rw [if_pos c10] at H
         have c10b0 : decide (0 ≤ (ji9)) = true := decide_eq_true c10
         clear c10
         by_cases c11 : (ji9) < (l0.length : Int)
         ·rw [if_pos c11] at H
          have c11b0 : decide ((ji9) < (l0.length : Int)) = true := decide_eq_true c11
          clear c11
          by_cases c12 : ((Op.bytesLess (((rd_T35 l0 (ji9)).f0).toList) (((rd_T35 l0 x9_1).f0).toList)) = true)
          ·rw [if_pos c12] at H
           have c12b0 : (Op.bytesLess (((rd_T35 l0 (ji9)).f0).toList) (((rd_T35 l0 x9_1).f0).toList)) = true := c12
           have c12e : (Op.bytesLess (((rd_T35 l0 x9_1).f0).toList) (((rd_T35 l0 (ji9)).f0).toList) || ((rd_T35 l0 x9_1).f0).toList == ((rd_T35 l0 (ji9)).f0).toList) = false := Y.le_false c12b0
           clear c12
           have H' := Aside0.mk H
           clear H
           have p146 : 0 ≤ (x9_1 : Int) := of_decide_eq_true zm
           have q146 : x9_1 < (l0.length : Int) := of_decide_eq_true zm
           obtain ⟨ad146, e146, hx146_0, hx146_1, hx146_2, hx146_3, hx146_4⟩ := at_T35 HR0.out x9_1 p146 q146
           cases e146
           replace hx146_0 := (HB.out.cell (World.block_lt_of_cell? w _ hx146_0)).trans hx146_0
           replace hx146_1 := (HB.out.cell (World.block_lt_of_cell? w _ hx146_1)).trans hx146_1
           replace hx146_2 := (HB.out.cell (World.block_lt_of_cell? w _ hx146_2)).trans hx146_2
           replace hx146_3 := (HB.out.cell (World.block_lt_of_cell? w _ hx146_3)).trans hx146_3
           replace hx146_4 := (HB.out.cell (World.block_lt_of_cell? w _ hx146_4)).trans hx146_4
           replace p146 := eq_true p146
           replace q146 := eq_true q146
           try go_wp2_with (first | ((with_reducible refine gate_dst (N := 6) rfl ?_); refine box_event zw (N := 6) zw (cs := #[.string (⟨#[]⟩ : ByteArray), .int .i64 0, .int .i64 0, .int .i64 0, .string (⟨#[]⟩ : ByteArray)]) (t := 35) zx ?_; intro gb147 hg w13 hbox hb; have n0_ := Aside0.mk (below_step zp hb); have n1_ := Aside0.mk hbox; have n2_ := Aside0.mk ((z3s : w.heap.size ≤ gb147)); have n3_ := Aside0.mk ((z3s : w.heap.size ≤ gb147)); clear HB; have HB := n0_; have BK147 := n1_; have GW147 := n2_; have GE147 := n3_; clear n0_ n1_ n2_ n3_; clear hb hbox hg; obtain ⟨hcz14_0, hcz14_1, hcz14_2, hcz14_3, hcz14_4, hfz14_0, hfz14_1, hfz14_2, hfz14_3, hfz14_4⟩ := ze BK147.out))
           have n0_ : Aside0 ((((((w13.setCell ⟨gb147, 0, none⟩ (.string ((rd_T35 l0 x9_1).f0))).setCell ⟨gb147, 1, none⟩ (.int .i64 ((rd_T35 l0 x9_1).f1.f0))).setCell ⟨gb147, 2, none⟩ (.int .i64 ((rd_T35 l0 x9_1).f1.f1))).setCell ⟨gb147, 3, none⟩ (.int .i64 ((rd_T35 l0 x9_1).f1.f2))).setCell ⟨gb147, 4, none⟩ (.string ((rd_T35 l0 x9_1).f1.f3))).heap[gb147]? = some (.cells #[.string ((rd_T35 l0 x9_1).f0), .int .i64 ((rd_T35 l0 x9_1).f1.f0), .int .i64 ((rd_T35 l0 x9_1).f1.f1), .int .i64 ((rd_T35 l0 x9_1).f1.f2), .string ((rd_T35 l0 x9_1).f1.f3)] 35 (0, 0))) := ⟨z1a⟩
           have n1_ : Aside0 (Below w.heap.size w (((((w13.setCell ⟨gb147, 0, none⟩ (.string ((rd_T35 l0 x9_1).f0))).setCell ⟨gb147, 1, none⟩ (.int .i64 ((rd_T35 l0 x9_1).f1.f0))).setCell ⟨gb147, 2, none⟩ (.int .i64 ((rd_T35 l0 x9_1).f1.f1))).setCell ⟨gb147, 3, none⟩ (.int .i64 ((rd_T35 l0 x9_1).f1.f2))).setCell ⟨gb147, 4, none⟩ (.string ((rd_T35 l0 x9_1).f1.f3)))) := ⟨z1b⟩
           (try clear BK147)
           (try clear HB)
           generalize (((((w13.setCell ⟨gb147, 0, none⟩ (.string ((rd_T35 l0 x9_1).f0))).setCell ⟨gb147, 1, none⟩ (.int .i64 ((rd_T35 l0 x9_1).f1.f0))).setCell ⟨gb147, 2, none⟩ (.int .i64 ((rd_T35 l0 x9_1).f1.f1))).setCell ⟨gb147, 3, none⟩ (.int .i64 ((rd_T35 l0 x9_1).f1.f2))).setCell ⟨gb147, 4, none⟩ (.string ((rd_T35 l0 x9_1).f1.f3))) = w15 at n0_ n1_ ⊢
           have BK147 := n0_
           have HB := n1_
           clear n0_ n1_
           have n0_ := Aside0.mk (blk_drew BK147.out)
           have n1_ := Aside0.mk (below_drew1 HB.out)
           clear BK147
           clear HB
           have BK147 := n0_
           have HB := n1_
           clear n0_ n1_
           have p149 : 0 ≤ ((ji9) : Int) := of_decide_eq_true zm
           have q149 : (ji9) < (l0.length : Int) := of_decide_eq_true zm
           obtain ⟨ad149, e149, hx149_0, hx149_1, hx149_2, hx149_3, hx149_4⟩ := at_T35 HR0.out (ji9) p149 q149
           have hw149_4 := hx149_4
           have hw149_3 := hx149_3
           have hw149_2 := hx149_2
           have hw149_1 := hx149_1
           have hw149_0 := hx149_0
           obtain rfl : ad146 = ad149 := (by injection e149)
           replace hx149_0 := (HB.out.cell (World.block_lt_of_cell? w _ hx149_0)).trans hx149_0
           replace hx149_1 := (HB.out.cell (World.block_lt_of_cell? w _ hx149_1)).trans hx149_1
           replace hx149_2 := (HB.out.cell (World.block_lt_of_cell? w _ hx149_2)).trans hx149_2
           replace hx149_3 := (HB.out.cell (World.block_lt_of_cell? w _ hx149_3)).trans hx149_3
           replace hx149_4 := (HB.out.cell (World.block_lt_of_cell? w _ hx149_4)).trans hx149_4
           replace p149 := eq_true p149
           replace q149 := eq_true q149
           refine start_ (n := 18) (S := fun w' => w'.cell? ⟨gb147, 0, none⟩ = some (.string ((rd_T35 l0 x9_1).f0)) ∧ w'.cell? ⟨gb147, 1, none⟩ = some (.int .i64 ((rd_T35 l0 x9_1).f1.f0)) ∧ w'.cell? ⟨gb147, 2, none⟩ = some (.int .i64 ((rd_T35 l0 x9_1).f1.f1)) ∧ w'.cell? ⟨gb147, 3, none⟩ = some (.int .i64 ((rd_T35 l0 x9_1).f1.f2)) ∧ w'.cell? ⟨gb147, 4, none⟩ = some (.string ((rd_T35 l0 x9_1).f1.f3)) ∧ w'.cell? (ad146.add (((ji9)).toNat * 5)) = some (.string ((rd_T35 l0 (ji9)).f0)) ∧ w'.cell? ⟨(ad146.add (((ji9)).toNat * 5)).block, (ad146.add (((ji9)).toNat * 5)).off + 1, none⟩ = some (.int .i64 ((rd_T35 l0 (ji9)).f1.f0)) ∧ w'.cell? ⟨(ad146.add (((ji9)).toNat * 5)).block, (ad146.add (((ji9)).toNat * 5)).off + 2, none⟩ = some (.int .i64 ((rd_T35 l0 (ji9)).f1.f1)) ∧ w'.cell? ⟨(ad146.add (((ji9)).toNat * 5)).block, (ad146.add (((ji9)).toNat * 5)).off + 3, none⟩ = some (.int .i64 ((rd_T35 l0 (ji9)).f1.f2)) ∧ w'.cell? ⟨(ad146.add (((ji9)).toNat * 5)).block, (ad146.add (((ji9)).toNat * 5)).off + 4, none⟩ = some (.string ((rd_T35 l0 (ji9)).f1.f3))) (ds := []) #[z4h, z4h, z4h, z4h, z4h, z4h, z4h, z4h, z4h, z4h, z4h, z4h, z4h, z4h, z4h, z4h, z4h, z4h] zi rfl rfl ⟨(blk_cell BK147.out 0).trans rfl, (blk_cell BK147.out 1).trans rfl, (blk_cell BK147.out 2).trans rfl, (blk_cell BK147.out 3).trans rfl, (blk_cell BK147.out 4).trans rfl, ((HB.out.cell (World.block_lt_of_cell? w _ hw149_0)).trans hw149_0), ((HB.out.cell (World.block_lt_of_cell? w _ hw149_1)).trans hw149_1), ((HB.out.cell (World.block_lt_of_cell? w _ hw149_2)).trans hw149_2), ((HB.out.cell (World.block_lt_of_cell? w _ hw149_3)).trans hw149_3), ((HB.out.cell (World.block_lt_of_cell? w _ hw149_4)).trans hw149_4)⟩ (fun hHeld => ?_); refine with_tabW impl_ascending.tab4 impl_ascending.bits4 (fun HT_ HW_ => ?_)
           generalize w15.drew = w16 at BK147 HB hx149_0 hx149_1 hx149_2 hx149_3 hx149_4 hHeld ⊢
           refine take_ (i := 0) (N := some 14) (v := ?_) (a' := ?_) #[z4g, z4h, z4h, z4h, z4h, z4h, z4h, z4h, z4h, z4h, z4h, z4h, z4h, z4h, z4h, z4h, z4h, z4h] rfl rfl (take_ofW HT_.out HW_.out zi) (fun _ _ _ h => h) (Or.inl ⟨zw, ?_⟩) hHeld ?_ ?_
           rotate_left
           ·rintro w' ⟨s0, s1, s2, s3, s4, s5, s6, s7, s8, s9⟩
            go_simp
            with_reducible rfl
           rotate_left
           ·simp only [Act.put, z4i, z4j, z4k, i64_w, i32_w]
            rfl
           refine one_ (i := 1) (N := some 15) #[z4g, z4g, z4h, z4h, z4h, z4h, z4h, z4h, z4h, z4h, z4h, z4h, z4h, z4h, z4h, z4h, z4h, z4h] rfl rfl (one_of HT_.out zi) zh (fun K hK => ?_)
           refine goes_ Tryz.func16 zi rfl #[.agg #[.string ((rd_T35 l0 x9_1).f0), .int .i64 ((rd_T35 l0 x9_1).f1.f0), .int .i64 ((rd_T35 l0 x9_1).f1.f1), .int .i64 ((rd_T35 l0 x9_1).f1.f2), .string ((rd_T35 l0 x9_1).f1.f3)]] zw rfl rfl zo ?_
           with_reducible refine (impl_NeedOk.calls k1 ((rd_T35 l0 x9_1).f0) ((rd_T35 l0 x9_1).f1.f0) ((rd_T35 l0 x9_1).f1.f1) ((rd_T35 l0 x9_1).f1.f2) ((rd_T35 l0 x9_1).f1.f3) true _ A6.out).mono ?_
           rintro e w17 ⟨rfl, hb⟩
           refine ⟨_, rfl, ?_⟩
           have n0_ := Aside0.mk (blk_below (g := gb147) (o := .cells #[.string ((rd_T35 l0 x9_1).f0), .int .i64 ((rd_T35 l0 x9_1).f1.f0), .int .i64 ((rd_T35 l0 x9_1).f1.f1), .int .i64 ((rd_T35 l0 x9_1).f1.f2), .string ((rd_T35 l0 x9_1).f1.f3)] 35 (0, 0)) z1c hb)
           have n1_ := Aside0.mk (below_step z1b hb)
           clear BK147
           clear HB
           have BK147 := n0_
           have HB := n1_
           clear n0_ n1_
           (try clear hb)
           (try clear hb2)
           (try clear hk)
           (try clear hi)
           refine hK.out _ _ ⟨(blk_cell BK147.out 0).trans rfl, (blk_cell BK147.out 1).trans rfl, (blk_cell BK147.out 2).trans rfl, (blk_cell BK147.out 3).trans rfl, (blk_cell BK147.out 4).trans rfl, ((HB.out.cell (World.block_lt_of_cell? w _ hw149_0)).trans hw149_0), ((HB.out.cell (World.block_lt_of_cell? w _ hw149_1)).trans hw149_1), ((HB.out.cell (World.block_lt_of_cell? w _ hw149_2)).trans hw149_2), ((HB.out.cell (World.block_lt_of_cell? w _ hw149_3)).trans hw149_3), ((HB.out.cell (World.block_lt_of_cell? w _ hw149_4)).trans hw149_4)⟩ (fun hHeld => ?_)
           clear hK K
           refine norm_ (a' := ?_) ?_ ?_
           rotate_left
           ·show Act.put _ (some 15) _ = _
            simp only [Act.put, z4i, z4j, z4k, i64_w, i32_w]
            rfl
           refine pure_ (i := 2) (N := some 16) (v := ?_) (a' := ?_) #[z4g, z4g, z4g, z4h, z4h, z4h, z4h, z4h, z4h, z4h, z4h, z4h, z4h, z4h, z4h, z4h, z4h, z4h] rfl rfl (any_of HT_.out zi) (fun _ _ _ h => h) (Or.inl ⟨zw, ?_⟩) ?_ ?_
           rotate_left
           ·intro w'
            go_simp
            with_reducible rfl
           rotate_left
           ·simp only [Act.put, z4i, z4j, z4k, i64_w, i32_w]
            rfl
           refine pure_ (i := 3) (N := some 17) (v := ?_) (a' := ?_) #[z4g, z4g, z4g, z4g, z4h, z4h, z4h, z4h, z4h, z4h, z4h, z4h, z4h, z4h, z4h, z4h, z4h, z4h] rfl rfl (any_of HT_.out zi) (fun _ _ _ h => h) (Or.inl ⟨zw, ?_⟩) ?_ ?_
           rotate_left
           ·intro w'
            go_simp
            with_reducible rfl
           rotate_left
           ·simp only [Act.put, z4i, z4j, z4k, i64_w, i32_w]
            rfl
           refine pure_ (i := 4) (N := some 18) (v := ?_) (a' := ?_) #[z4g, z4g, z4g, z4g, z4g, z4h, z4h, z4h, z4h, z4h, z4h, z4h, z4h, z4h, z4h, z4h, z4h, z4h] rfl rfl (any_of HT_.out zi) (fun _ _ _ h => h) (Or.inl ⟨zw, ?_⟩) ?_ ?_
           rotate_left
           ·intro w'
            go_simp
            with_reducible rfl
           rotate_left
           ·simp only [Act.put, z4i, z4j, z4k, i64_w, i32_w]
            rfl
           refine pure_ (i := 5) (N := some 19) (v := ?_) (a' := ?_) #[z4g, z4g, z4g, z4g, z4g, z4g, z4h, z4h, z4h, z4h, z4h, z4h, z4h, z4h, z4h, z4h, z4h, z4h] rfl rfl (any_of HT_.out zi) (fun _ _ _ h => h) (Or.inl ⟨zw, ?_⟩) ?_ ?_
           rotate_left
           ·intro w'
            go_simp
            with_reducible rfl
           rotate_left
           ·simp only [Act.put, z4i, z4j, z4k, i64_w, i32_w]
            rfl
           refine pure_ (i := 6) (N := some 20) (v := ?_) (a' := ?_) #[z4g, z4g, z4g, z4g, z4g, z4g, z4g, z4h, z4h, z4h, z4h, z4h, z4h, z4h, z4h, z4h, z4h, z4h] rfl rfl (any_of HT_.out zi) (fun _ _ _ h => h) (Or.inl ⟨zw, ?_⟩) ?_ ?_
           rotate_left
           ·intro w'
            go_simp
            with_reducible rfl
           rotate_left
           ·simp only [Act.put, z4i, z4j, z4k, i64_w, i32_w]
            rfl
           refine pure_ (i := 7) (N := some 21) (v := ?_) (a' := ?_) #[z4g, z4g, z4g, z4g, z4g, z4g, z4g, z4g, z4h, z4h, z4h, z4h, z4h, z4h, z4h, z4h, z4h, z4h] rfl rfl (any_of HT_.out zi) (fun _ _ _ h => h) (Or.inl ⟨zw, ?_⟩) ?_ ?_
           rotate_left
           ·intro w'
            go_simp
            with_reducible rfl
           rotate_left
           ·simp only [Act.put, z4i, z4j, z4k, i64_w, i32_w]
            rfl
           refine pure_ (i := 9) (N := some 23) (v := ?_) (a' := ?_) #[z4g, z4g, z4g, z4g, z4g, z4g, z4g, z4g, z4h, z4g, z4h, z4h, z4h, z4h, z4h, z4h, z4h, z4h] rfl rfl (any_of HT_.out zi) (fun _ _ _ h => h) (Or.inl ⟨zw, ?_⟩) ?_ ?_
           rotate_left
           ·intro w'
            go_simp
            with_reducible rfl
           rotate_left
           ·simp only [Act.put, z4i, z4j, z4k, i64_w, i32_w]
            rfl
           refine pure_ (i := 10) (N := some 24) (v := ?_) (a' := ?_) #[z4g, z4g, z4g, z4g, z4g, z4g, z4g, z4g, z4h, z4g, z4g, z4h, z4h, z4h, z4h, z4h, z4h, z4h] rfl rfl (any_of HT_.out zi) (fun _ _ _ h => h) (Or.inl ⟨zw, ?_⟩) ?_ ?_
           rotate_left
           ·intro w'
            go_simp
            with_reducible rfl
           rotate_left
           ·simp only [Act.put, z4i, z4j, z4k, i64_w, i32_w]
            rfl
           refine pure_ (i := 11) (N := some 25) (v := ?_) (a' := ?_) #[z4g, z4g, z4g, z4g, z4g, z4g, z4g, z4g, z4h, z4g, z4g, z4g, z4h, z4h, z4h, z4h, z4h, z4h] rfl rfl (any_of HT_.out zi) (fun _ _ _ h => h) (Or.inl ⟨zw, ?_⟩) ?_ ?_
           rotate_left
           ·intro w'
            go_simp
            with_reducible rfl
           rotate_left
           ·simp only [Act.put, z4i, z4j, z4k, i64_w, i32_w]
            rfl
           refine pure_ (i := 12) (N := some 26) (v := ?_) (a' := ?_) #[z4g, z4g, z4g, z4g, z4g, z4g, z4g, z4g, z4h, z4g, z4g, z4g, z4g, z4h, z4h, z4h, z4h, z4h] rfl rfl (any_of HT_.out zi) (fun _ _ _ h => h) (Or.inl ⟨zw, ?_⟩) ?_ ?_
           rotate_left
           ·intro w'
            go_simp
            with_reducible rfl
           rotate_left
           ·simp only [Act.put, z4i, z4j, z4k, i64_w, i32_w]
            rfl
           refine pure_ (i := 13) (N := some 27) (v := ?_) (a' := ?_) #[z4g, z4g, z4g, z4g, z4g, z4g, z4g, z4g, z4h, z4g, z4g, z4g, z4g, z4g, z4h, z4h, z4h, z4h] rfl rfl (any_of HT_.out zi) (fun _ _ _ h => h) (Or.inl ⟨zw, ?_⟩) ?_ ?_
           rotate_left
           ·intro w'
            go_simp
            with_reducible rfl
           rotate_left
           ·simp only [Act.put, z4i, z4j, z4k, i64_w, i32_w]
            rfl
           refine take_ (i := 8) (N := some 22) (v := ?_) (a' := ?_) #[z4g, z4g, z4g, z4g, z4g, z4g, z4g, z4g, z4g, z4g, z4g, z4g, z4g, z4g, z4h, z4h, z4h, z4h] rfl rfl (take_ofW HT_.out HW_.out zi) (fun _ _ _ h => h) (Or.inl ⟨zw, ?_⟩) hHeld ?_ ?_
           rotate_left
           ·rintro w' ⟨s0, s1, s2, s3, s4, s5, s6, s7, s8, s9⟩
            go_simp
            with_reducible rfl
           rotate_left
           ·simp only [Act.put, z4i, z4j, z4k, i64_w, i32_w]
            rfl
           refine take_ (i := 14) (N := some 28) (v := ?_) (a' := ?_) #[z4g, z4g, z4g, z4g, z4g, z4g, z4g, z4g, z4g, z4g, z4g, z4g, z4g, z4g, z4g, z4h, z4h, z4h] rfl rfl (take_ofW HT_.out HW_.out zi) (fun _ _ _ h => h) (Or.inl ⟨zw, ?_⟩) hHeld ?_ ?_
           rotate_left
           ·rintro w' ⟨s0, s1, s2, s3, s4, s5, s6, s7, s8, s9⟩
            go_simp
            with_reducible rfl
           rotate_left
           ·simp only [Act.put, z4i, z4j, z4k, i64_w, i32_w]
            rfl
           refine pure_ (i := 15) (N := some 29) (v := ?_) (a' := ?_) #[z4g, z4g, z4g, z4g, z4g, z4g, z4g, z4g, z4g, z4g, z4g, z4g, z4g, z4g, z4g, z4g, z4h, z4h] rfl rfl (any_of HT_.out zi) (fun _ _ _ h => h) (Or.inl ⟨zw, ?_⟩) ?_ ?_
           rotate_left
           ·intro w'
            go_simp
            with_reducible rfl
           rotate_left
           ·simp only [Act.put, z4i, z4j, z4k, i64_w, i32_w]
            rfl
           refine pure_ (i := 16) (N := some 30) (v := ?_) (a' := ?_) #[z4g, z4g, z4g, z4g, z4g, z4g, z4g, z4g, z4g, z4g, z4g, z4g, z4g, z4g, z4g, z4g, z4g, z4h] rfl rfl (any_of HT_.out zi) (fun _ _ _ h => h) (Or.inl ⟨zw, ?_⟩) ?_ ?_
           rotate_left
           ·intro w'
            go_simp
            with_reducible rfl
           rotate_left
           ·simp only [Act.put, z4i, z4j, z4k, i64_w, i32_w]
            rfl
           refine pure_ (i := 17) (N := some 31) (v := ?_) (a' := ?_) #[z4g, z4g, z4g, z4g, z4g, z4g, z4g, z4g, z4g, z4g, z4g, z4g, z4g, z4g, z4g, z4g, z4g, z4g] rfl rfl (any_of HT_.out zi) (fun _ _ _ h => h) (Or.inl ⟨zw, ?_⟩) ?_ ?_
           rotate_left
           ·intro w'
            go_simp
            with_reducible rfl
           rotate_left
           ·simp only [Act.put, z4i, z4j, z4k, i64_w, i32_w]
            rfl
           refine done_ (done_of HT_.out zi) ?_
           try go_wp2
           go_roundg k1
           case measure => have := HK1.out; omega
           case rel => exact ⟨(wrap64 (x9_1 + 1)), zj, H', ⟨zn⟩, ⟨z1b⟩⟩
          ·rw [if_neg c12] at H
           have c12b0 : (Op.bytesLess (((rd_T35 l0 (ji9)).f0).toList) (((rd_T35 l0 x9_1).f0).toList)) = false := by simpa using c12
           have c12e : (Op.bytesLess (((rd_T35 l0 x9_1).f0).toList) (((rd_T35 l0 (ji9)).f0).toList) || ((rd_T35 l0 x9_1).f0).toList == ((rd_T35 l0 (ji9)).f0).toList) = true := Y.le_true c12b0
           clear c12
           obtain rfl := Option.some.inj H
           have p146 : 0 ≤ (x9_1 : Int) := of_decide_eq_true zm
           have q146 : x9_1 < (l0.length : Int) := of_decide_eq_true zm
           obtain ⟨ad146, e146, hx146_0, hx146_1, hx146_2, hx146_3, hx146_4⟩ := at_T35 HR0.out x9_1 p146 q146
           cases e146
           replace hx146_0 := (HB.out.cell (World.block_lt_of_cell? w _ hx146_0)).trans hx146_0
           replace hx146_1 := (HB.out.cell (World.block_lt_of_cell? w _ hx146_1)).trans hx146_1
           replace hx146_2 := (HB.out.cell (World.block_lt_of_cell? w _ hx146_2)).trans hx146_2
           replace hx146_3 := (HB.out.cell (World.block_lt_of_cell? w _ hx146_3)).trans hx146_3
           replace hx146_4 := (HB.out.cell (World.block_lt_of_cell? w _ hx146_4)).trans hx146_4
           replace p146 := eq_true p146
           replace q146 := eq_true q146
           try go_wp2_with (first | ((with_reducible refine gate_dst (N := 6) rfl ?_); refine box_event zw (N := 6) zw (cs := #[.string (⟨#[]⟩ : ByteArray), .int .i64 0, .int .i64 0, .int .i64 0, .string (⟨#[]⟩ : ByteArray)]) (t := 35) zx ?_; intro gb147 hg w18 hbox hb; have n0_ := Aside0.mk (below_step zp hb); have n1_ := Aside0.mk hbox; have n2_ := Aside0.mk ((z3s : w.heap.size ≤ gb147)); have n3_ := Aside0.mk ((z3s : w.heap.size ≤ gb147)); clear HB; have HB := n0_; have BK147 := n1_; have GW147 := n2_; have GE147 := n3_; clear n0_ n1_ n2_ n3_; clear hb hbox hg; obtain ⟨hcz19_0, hcz19_1, hcz19_2, hcz19_3, hcz19_4, hfz19_0, hfz19_1, hfz19_2, hfz19_3, hfz19_4⟩ := ze BK147.out))
           have n0_ : Aside0 ((((((w18.setCell ⟨gb147, 0, none⟩ (.string ((rd_T35 l0 x9_1).f0))).setCell ⟨gb147, 1, none⟩ (.int .i64 ((rd_T35 l0 x9_1).f1.f0))).setCell ⟨gb147, 2, none⟩ (.int .i64 ((rd_T35 l0 x9_1).f1.f1))).setCell ⟨gb147, 3, none⟩ (.int .i64 ((rd_T35 l0 x9_1).f1.f2))).setCell ⟨gb147, 4, none⟩ (.string ((rd_T35 l0 x9_1).f1.f3))).heap[gb147]? = some (.cells #[.string ((rd_T35 l0 x9_1).f0), .int .i64 ((rd_T35 l0 x9_1).f1.f0), .int .i64 ((rd_T35 l0 x9_1).f1.f1), .int .i64 ((rd_T35 l0 x9_1).f1.f2), .string ((rd_T35 l0 x9_1).f1.f3)] 35 (0, 0))) := ⟨z1a⟩
           have n1_ : Aside0 (Below w.heap.size w (((((w18.setCell ⟨gb147, 0, none⟩ (.string ((rd_T35 l0 x9_1).f0))).setCell ⟨gb147, 1, none⟩ (.int .i64 ((rd_T35 l0 x9_1).f1.f0))).setCell ⟨gb147, 2, none⟩ (.int .i64 ((rd_T35 l0 x9_1).f1.f1))).setCell ⟨gb147, 3, none⟩ (.int .i64 ((rd_T35 l0 x9_1).f1.f2))).setCell ⟨gb147, 4, none⟩ (.string ((rd_T35 l0 x9_1).f1.f3)))) := ⟨z1b⟩
           (try clear BK147)
           (try clear HB)
           generalize (((((w18.setCell ⟨gb147, 0, none⟩ (.string ((rd_T35 l0 x9_1).f0))).setCell ⟨gb147, 1, none⟩ (.int .i64 ((rd_T35 l0 x9_1).f1.f0))).setCell ⟨gb147, 2, none⟩ (.int .i64 ((rd_T35 l0 x9_1).f1.f1))).setCell ⟨gb147, 3, none⟩ (.int .i64 ((rd_T35 l0 x9_1).f1.f2))).setCell ⟨gb147, 4, none⟩ (.string ((rd_T35 l0 x9_1).f1.f3))) = w20 at n0_ n1_ ⊢
           have BK147 := n0_
           have HB := n1_
           clear n0_ n1_
           have n0_ := Aside0.mk (blk_drew BK147.out)
           have n1_ := Aside0.mk (below_drew1 HB.out)
           clear BK147
           clear HB
           have BK147 := n0_
           have HB := n1_
           clear n0_ n1_
           have p149 : 0 ≤ ((ji9) : Int) := of_decide_eq_true zm
           have q149 : (ji9) < (l0.length : Int) := of_decide_eq_true zm
           obtain ⟨ad149, e149, hx149_0, hx149_1, hx149_2, hx149_3, hx149_4⟩ := at_T35 HR0.out (ji9) p149 q149
           have hw149_4 := hx149_4
           have hw149_3 := hx149_3
           have hw149_2 := hx149_2
           have hw149_1 := hx149_1
           have hw149_0 := hx149_0
           obtain rfl : ad146 = ad149 := (by injection e149)
           replace hx149_0 := (HB.out.cell (World.block_lt_of_cell? w _ hx149_0)).trans hx149_0
           replace hx149_1 := (HB.out.cell (World.block_lt_of_cell? w _ hx149_1)).trans hx149_1
           replace hx149_2 := (HB.out.cell (World.block_lt_of_cell? w _ hx149_2)).trans hx149_2
           replace hx149_3 := (HB.out.cell (World.block_lt_of_cell? w _ hx149_3)).trans hx149_3
           replace hx149_4 := (HB.out.cell (World.block_lt_of_cell? w _ hx149_4)).trans hx149_4
           replace p149 := eq_true p149
           replace q149 := eq_true q149
           refine start_ (n := 18) (S := fun w' => w'.cell? ⟨gb147, 0, none⟩ = some (.string ((rd_T35 l0 x9_1).f0)) ∧ w'.cell? ⟨gb147, 1, none⟩ = some (.int .i64 ((rd_T35 l0 x9_1).f1.f0)) ∧ w'.cell? ⟨gb147, 2, none⟩ = some (.int .i64 ((rd_T35 l0 x9_1).f1.f1)) ∧ w'.cell? ⟨gb147, 3, none⟩ = some (.int .i64 ((rd_T35 l0 x9_1).f1.f2)) ∧ w'.cell? ⟨gb147, 4, none⟩ = some (.string ((rd_T35 l0 x9_1).f1.f3)) ∧ w'.cell? (ad146.add (((ji9)).toNat * 5)) = some (.string ((rd_T35 l0 (ji9)).f0)) ∧ w'.cell? ⟨(ad146.add (((ji9)).toNat * 5)).block, (ad146.add (((ji9)).toNat * 5)).off + 1, none⟩ = some (.int .i64 ((rd_T35 l0 (ji9)).f1.f0)) ∧ w'.cell? ⟨(ad146.add (((ji9)).toNat * 5)).block, (ad146.add (((ji9)).toNat * 5)).off + 2, none⟩ = some (.int .i64 ((rd_T35 l0 (ji9)).f1.f1)) ∧ w'.cell? ⟨(ad146.add (((ji9)).toNat * 5)).block, (ad146.add (((ji9)).toNat * 5)).off + 3, none⟩ = some (.int .i64 ((rd_T35 l0 (ji9)).f1.f2)) ∧ w'.cell? ⟨(ad146.add (((ji9)).toNat * 5)).block, (ad146.add (((ji9)).toNat * 5)).off + 4, none⟩ = some (.string ((rd_T35 l0 (ji9)).f1.f3))) (ds := []) #[z4h, z4h, z4h, z4h, z4h, z4h, z4h, z4h, z4h, z4h, z4h, z4h, z4h, z4h, z4h, z4h, z4h, z4h] zi rfl rfl ⟨(blk_cell BK147.out 0).trans rfl, (blk_cell BK147.out 1).trans rfl, (blk_cell BK147.out 2).trans rfl, (blk_cell BK147.out 3).trans rfl, (blk_cell BK147.out 4).trans rfl, ((HB.out.cell (World.block_lt_of_cell? w _ hw149_0)).trans hw149_0), ((HB.out.cell (World.block_lt_of_cell? w _ hw149_1)).trans hw149_1), ((HB.out.cell (World.block_lt_of_cell? w _ hw149_2)).trans hw149_2), ((HB.out.cell (World.block_lt_of_cell? w _ hw149_3)).trans hw149_3), ((HB.out.cell (World.block_lt_of_cell? w _ hw149_4)).trans hw149_4)⟩ (fun hHeld => ?_); refine with_tabW impl_ascending.tab4 impl_ascending.bits4 (fun HT_ HW_ => ?_)
           generalize w20.drew = w21 at BK147 HB hx149_0 hx149_1 hx149_2 hx149_3 hx149_4 hHeld ⊢
           refine take_ (i := 0) (N := some 14) (v := ?_) (a' := ?_) #[z4g, z4h, z4h, z4h, z4h, z4h, z4h, z4h, z4h, z4h, z4h, z4h, z4h, z4h, z4h, z4h, z4h, z4h] rfl rfl (take_ofW HT_.out HW_.out zi) (fun _ _ _ h => h) (Or.inl ⟨zw, ?_⟩) hHeld ?_ ?_
           rotate_left
           ·rintro w' ⟨s0, s1, s2, s3, s4, s5, s6, s7, s8, s9⟩
            go_simp
            with_reducible rfl
           rotate_left
           ·simp only [Act.put, z4i, z4j, z4k, i64_w, i32_w]
            rfl
           refine one_ (i := 1) (N := some 15) #[z4g, z4g, z4h, z4h, z4h, z4h, z4h, z4h, z4h, z4h, z4h, z4h, z4h, z4h, z4h, z4h, z4h, z4h] rfl rfl (one_of HT_.out zi) zh (fun K hK => ?_)
           refine goes_ Tryz.func16 zi rfl #[.agg #[.string ((rd_T35 l0 x9_1).f0), .int .i64 ((rd_T35 l0 x9_1).f1.f0), .int .i64 ((rd_T35 l0 x9_1).f1.f1), .int .i64 ((rd_T35 l0 x9_1).f1.f2), .string ((rd_T35 l0 x9_1).f1.f3)]] zw rfl rfl zo ?_
           with_reducible refine (impl_NeedOk.calls k1 ((rd_T35 l0 x9_1).f0) ((rd_T35 l0 x9_1).f1.f0) ((rd_T35 l0 x9_1).f1.f1) ((rd_T35 l0 x9_1).f1.f2) ((rd_T35 l0 x9_1).f1.f3) true _ A6.out).mono ?_
           rintro e w22 ⟨rfl, hb⟩
           refine ⟨_, rfl, ?_⟩
           have n0_ := Aside0.mk (blk_below (g := gb147) (o := .cells #[.string ((rd_T35 l0 x9_1).f0), .int .i64 ((rd_T35 l0 x9_1).f1.f0), .int .i64 ((rd_T35 l0 x9_1).f1.f1), .int .i64 ((rd_T35 l0 x9_1).f1.f2), .string ((rd_T35 l0 x9_1).f1.f3)] 35 (0, 0)) z1c hb)
           have n1_ := Aside0.mk (below_step z1b hb)
           clear BK147
           clear HB
           have BK147 := n0_
           have HB := n1_
           clear n0_ n1_
           (try clear hb)
           (try clear hb2)
           (try clear hk)
           (try clear hi)
           refine hK.out _ _ ⟨(blk_cell BK147.out 0).trans rfl, (blk_cell BK147.out 1).trans rfl, (blk_cell BK147.out 2).trans rfl, (blk_cell BK147.out 3).trans rfl, (blk_cell BK147.out 4).trans rfl, ((HB.out.cell (World.block_lt_of_cell? w _ hw149_0)).trans hw149_0), ((HB.out.cell (World.block_lt_of_cell? w _ hw149_1)).trans hw149_1), ((HB.out.cell (World.block_lt_of_cell? w _ hw149_2)).trans hw149_2), ((HB.out.cell (World.block_lt_of_cell? w _ hw149_3)).trans hw149_3), ((HB.out.cell (World.block_lt_of_cell? w _ hw149_4)).trans hw149_4)⟩ (fun hHeld => ?_)
           clear hK K
           refine norm_ (a' := ?_) ?_ ?_
           rotate_left
           ·show Act.put _ (some 15) _ = _
            simp only [Act.put, z4i, z4j, z4k, i64_w, i32_w]
            rfl
           refine pure_ (i := 2) (N := some 16) (v := ?_) (a' := ?_) #[z4g, z4g, z4g, z4h, z4h, z4h, z4h, z4h, z4h, z4h, z4h, z4h, z4h, z4h, z4h, z4h, z4h, z4h] rfl rfl (any_of HT_.out zi) (fun _ _ _ h => h) (Or.inl ⟨zw, ?_⟩) ?_ ?_
           rotate_left
           ·intro w'
            go_simp
            with_reducible rfl
           rotate_left
           ·simp only [Act.put, z4i, z4j, z4k, i64_w, i32_w]
            rfl
           refine pure_ (i := 3) (N := some 17) (v := ?_) (a' := ?_) #[z4g, z4g, z4g, z4g, z4h, z4h, z4h, z4h, z4h, z4h, z4h, z4h, z4h, z4h, z4h, z4h, z4h, z4h] rfl rfl (any_of HT_.out zi) (fun _ _ _ h => h) (Or.inl ⟨zw, ?_⟩) ?_ ?_
           rotate_left
           ·intro w'
            go_simp
            with_reducible rfl
           rotate_left
           ·simp only [Act.put, z4i, z4j, z4k, i64_w, i32_w]
            rfl
           refine pure_ (i := 4) (N := some 18) (v := ?_) (a' := ?_) #[z4g, z4g, z4g, z4g, z4g, z4h, z4h, z4h, z4h, z4h, z4h, z4h, z4h, z4h, z4h, z4h, z4h, z4h] rfl rfl (any_of HT_.out zi) (fun _ _ _ h => h) (Or.inl ⟨zw, ?_⟩) ?_ ?_
           rotate_left
           ·intro w'
            go_simp
            with_reducible rfl
           rotate_left
           ·simp only [Act.put, z4i, z4j, z4k, i64_w, i32_w]
            rfl
           refine pure_ (i := 5) (N := some 19) (v := ?_) (a' := ?_) #[z4g, z4g, z4g, z4g, z4g, z4g, z4h, z4h, z4h, z4h, z4h, z4h, z4h, z4h, z4h, z4h, z4h, z4h] rfl rfl (any_of HT_.out zi) (fun _ _ _ h => h) (Or.inl ⟨zw, ?_⟩) ?_ ?_
           rotate_left
           ·intro w'
            go_simp
            with_reducible rfl
           rotate_left
           ·simp only [Act.put, z4i, z4j, z4k, i64_w, i32_w]
            rfl
           refine pure_ (i := 6) (N := some 20) (v := ?_) (a' := ?_) #[z4g, z4g, z4g, z4g, z4g, z4g, z4g, z4h, z4h, z4h, z4h, z4h, z4h, z4h, z4h, z4h, z4h, z4h] rfl rfl (any_of HT_.out zi) (fun _ _ _ h => h) (Or.inl ⟨zw, ?_⟩) ?_ ?_
           rotate_left
           ·intro w'
            go_simp
            with_reducible rfl
           rotate_left
           ·simp only [Act.put, z4i, z4j, z4k, i64_w, i32_w]
            rfl
           refine pure_ (i := 7) (N := some 21) (v := ?_) (a' := ?_) #[z4g, z4g, z4g, z4g, z4g, z4g, z4g, z4g, z4h, z4h, z4h, z4h, z4h, z4h, z4h, z4h, z4h, z4h] rfl rfl (any_of HT_.out zi) (fun _ _ _ h => h) (Or.inl ⟨zw, ?_⟩) ?_ ?_
           rotate_left
           ·intro w'
            go_simp
            with_reducible rfl
           rotate_left
           ·simp only [Act.put, z4i, z4j, z4k, i64_w, i32_w]
            rfl
           refine pure_ (i := 9) (N := some 23) (v := ?_) (a' := ?_) #[z4g, z4g, z4g, z4g, z4g, z4g, z4g, z4g, z4h, z4g, z4h, z4h, z4h, z4h, z4h, z4h, z4h, z4h] rfl rfl (any_of HT_.out zi) (fun _ _ _ h => h) (Or.inl ⟨zw, ?_⟩) ?_ ?_
           rotate_left
           ·intro w'
            go_simp
            with_reducible rfl
           rotate_left
           ·simp only [Act.put, z4i, z4j, z4k, i64_w, i32_w]
            rfl
           refine pure_ (i := 10) (N := some 24) (v := ?_) (a' := ?_) #[z4g, z4g, z4g, z4g, z4g, z4g, z4g, z4g, z4h, z4g, z4g, z4h, z4h, z4h, z4h, z4h, z4h, z4h] rfl rfl (any_of HT_.out zi) (fun _ _ _ h => h) (Or.inl ⟨zw, ?_⟩) ?_ ?_
           rotate_left
           ·intro w'
            go_simp
            with_reducible rfl
           rotate_left
           ·simp only [Act.put, z4i, z4j, z4k, i64_w, i32_w]
            rfl
           refine pure_ (i := 11) (N := some 25) (v := ?_) (a' := ?_) #[z4g, z4g, z4g, z4g, z4g, z4g, z4g, z4g, z4h, z4g, z4g, z4g, z4h, z4h, z4h, z4h, z4h, z4h] rfl rfl (any_of HT_.out zi) (fun _ _ _ h => h) (Or.inl ⟨zw, ?_⟩) ?_ ?_
           rotate_left
           ·intro w'
            go_simp
            with_reducible rfl
           rotate_left
           ·simp only [Act.put, z4i, z4j, z4k, i64_w, i32_w]
            rfl
           refine pure_ (i := 12) (N := some 26) (v := ?_) (a' := ?_) #[z4g, z4g, z4g, z4g, z4g, z4g, z4g, z4g, z4h, z4g, z4g, z4g, z4g, z4h, z4h, z4h, z4h, z4h] rfl rfl (any_of HT_.out zi) (fun _ _ _ h => h) (Or.inl ⟨zw, ?_⟩) ?_ ?_
           rotate_left
           ·intro w'
            go_simp
            with_reducible rfl
           rotate_left
           ·simp only [Act.put, z4i, z4j, z4k, i64_w, i32_w]
            rfl
           refine pure_ (i := 13) (N := some 27) (v := ?_) (a' := ?_) #[z4g, z4g, z4g, z4g, z4g, z4g, z4g, z4g, z4h, z4g, z4g, z4g, z4g, z4g, z4h, z4h, z4h, z4h] rfl rfl (any_of HT_.out zi) (fun _ _ _ h => h) (Or.inl ⟨zw, ?_⟩) ?_ ?_
           rotate_left
           ·intro w'
            go_simp
            with_reducible rfl
           rotate_left
           ·simp only [Act.put, z4i, z4j, z4k, i64_w, i32_w]
            rfl
           refine take_ (i := 8) (N := some 22) (v := ?_) (a' := ?_) #[z4g, z4g, z4g, z4g, z4g, z4g, z4g, z4g, z4g, z4g, z4g, z4g, z4g, z4g, z4h, z4h, z4h, z4h] rfl rfl (take_ofW HT_.out HW_.out zi) (fun _ _ _ h => h) (Or.inl ⟨zw, ?_⟩) hHeld ?_ ?_
           rotate_left
           ·rintro w' ⟨s0, s1, s2, s3, s4, s5, s6, s7, s8, s9⟩
            go_simp
            with_reducible rfl
           rotate_left
           ·simp only [Act.put, z4i, z4j, z4k, i64_w, i32_w]
            rfl
           refine take_ (i := 14) (N := some 28) (v := ?_) (a' := ?_) #[z4g, z4g, z4g, z4g, z4g, z4g, z4g, z4g, z4g, z4g, z4g, z4g, z4g, z4g, z4g, z4h, z4h, z4h] rfl rfl (take_ofW HT_.out HW_.out zi) (fun _ _ _ h => h) (Or.inl ⟨zw, ?_⟩) hHeld ?_ ?_
           rotate_left
           ·rintro w' ⟨s0, s1, s2, s3, s4, s5, s6, s7, s8, s9⟩
            go_simp
            with_reducible rfl
           rotate_left
           ·simp only [Act.put, z4i, z4j, z4k, i64_w, i32_w]
            rfl
           refine pure_ (i := 15) (N := some 29) (v := ?_) (a' := ?_) #[z4g, z4g, z4g, z4g, z4g, z4g, z4g, z4g, z4g, z4g, z4g, z4g, z4g, z4g, z4g, z4g, z4h, z4h] rfl rfl (any_of HT_.out zi) (fun _ _ _ h => h) (Or.inl ⟨zw, ?_⟩) ?_ ?_
           rotate_left
           ·intro w'
            go_simp
            with_reducible rfl
           rotate_left
           ·simp only [Act.put, z4i, z4j, z4k, i64_w, i32_w]
            rfl
           refine pure_ (i := 16) (N := some 30) (v := ?_) (a' := ?_) #[z4g, z4g, z4g, z4g, z4g, z4g, z4g, z4g, z4g, z4g, z4g, z4g, z4g, z4g, z4g, z4g, z4g, z4h] rfl rfl (any_of HT_.out zi) (fun _ _ _ h => h) (Or.inl ⟨zw, ?_⟩) ?_ ?_
           rotate_left
           ·intro w'
            go_simp
            with_reducible rfl
           rotate_left
           ·simp only [Act.put, z4i, z4j, z4k, i64_w, i32_w]
            rfl
           refine pure_ (i := 17) (N := some 31) (v := ?_) (a' := ?_) #[z4g, z4g, z4g, z4g, z4g, z4g, z4g, z4g, z4g, z4g, z4g, z4g, z4g, z4g, z4g, z4g, z4g, z4g] rfl rfl (any_of HT_.out zi) (fun _ _ _ h => h) (Or.inl ⟨zw, ?_⟩) ?_ ?_
           rotate_left
           ·intro w'
            go_simp
            with_reducible rfl
           rotate_left
           ·simp only [Act.put, z4i, z4j, z4k, i64_w, i32_w]
            rfl
           refine done_ (done_of HT_.out zi) ?_
           try go_wp2
           go_ret
           exact ⟨by first | rfl | (simp [errW_none, errW_some] <;> rfl) | (simp only [← hji9]; first | rfl | (simp [errW_none, errW_some] <;> rfl)) | (simp [*, errW_none, errW_some] <;> rfl), z1b⟩
         ·rw [if_neg c11] at H
          exact absurd H (by simp)
        ·rw [if_neg c10] at H
         exact absurd H (by simp)
       ·rw [if_neg c8] at H
        have c8b0 : decide (0 < x9_1) = false := decide_eq_false c8
        clear c8
        have H' := Aside0.mk H
        clear H
        have p146 : 0 ≤ (x9_1 : Int) := of_decide_eq_true zm
        have q146 : x9_1 < (l0.length : Int) := of_decide_eq_true zm
        obtain ⟨ad146, e146, hx146_0, hx146_1, hx146_2, hx146_3, hx146_4⟩ := at_T35 HR0.out x9_1 p146 q146
        cases e146
        replace hx146_0 := (HB.out.cell (World.block_lt_of_cell? w _ hx146_0)).trans hx146_0
        replace hx146_1 := (HB.out.cell (World.block_lt_of_cell? w _ hx146_1)).trans hx146_1
        replace hx146_2 := (HB.out.cell (World.block_lt_of_cell? w _ hx146_2)).trans hx146_2
        replace hx146_3 := (HB.out.cell (World.block_lt_of_cell? w _ hx146_3)).trans hx146_3
        replace hx146_4 := (HB.out.cell (World.block_lt_of_cell? w _ hx146_4)).trans hx146_4
        replace p146 := eq_true p146
        replace q146 := eq_true q146
        try go_wp2_with (first | ((with_reducible refine gate_dst (N := 6) rfl ?_); refine box_event zw (N := 6) zw (cs := #[.string (⟨#[]⟩ : ByteArray), .int .i64 0, .int .i64 0, .int .i64 0, .string (⟨#[]⟩ : ByteArray)]) (t := 35) zx ?_; intro gb147 hg w23 hbox hb; have n0_ := Aside0.mk (below_step zp hb); have n1_ := Aside0.mk hbox; have n2_ := Aside0.mk ((z3s : w.heap.size ≤ gb147)); have n3_ := Aside0.mk ((z3s : w.heap.size ≤ gb147)); clear HB; have HB := n0_; have BK147 := n1_; have GW147 := n2_; have GE147 := n3_; clear n0_ n1_ n2_ n3_; clear hb hbox hg; obtain ⟨hcz24_0, hcz24_1, hcz24_2, hcz24_3, hcz24_4, hfz24_0, hfz24_1, hfz24_2, hfz24_3, hfz24_4⟩ := ze BK147.out))
        have n0_ : Aside0 ((((((w23.setCell ⟨gb147, 0, none⟩ (.string ((rd_T35 l0 x9_1).f0))).setCell ⟨gb147, 1, none⟩ (.int .i64 ((rd_T35 l0 x9_1).f1.f0))).setCell ⟨gb147, 2, none⟩ (.int .i64 ((rd_T35 l0 x9_1).f1.f1))).setCell ⟨gb147, 3, none⟩ (.int .i64 ((rd_T35 l0 x9_1).f1.f2))).setCell ⟨gb147, 4, none⟩ (.string ((rd_T35 l0 x9_1).f1.f3))).heap[gb147]? = some (.cells #[.string ((rd_T35 l0 x9_1).f0), .int .i64 ((rd_T35 l0 x9_1).f1.f0), .int .i64 ((rd_T35 l0 x9_1).f1.f1), .int .i64 ((rd_T35 l0 x9_1).f1.f2), .string ((rd_T35 l0 x9_1).f1.f3)] 35 (0, 0))) := ⟨z1a⟩
        have n1_ : Aside0 (Below w.heap.size w (((((w23.setCell ⟨gb147, 0, none⟩ (.string ((rd_T35 l0 x9_1).f0))).setCell ⟨gb147, 1, none⟩ (.int .i64 ((rd_T35 l0 x9_1).f1.f0))).setCell ⟨gb147, 2, none⟩ (.int .i64 ((rd_T35 l0 x9_1).f1.f1))).setCell ⟨gb147, 3, none⟩ (.int .i64 ((rd_T35 l0 x9_1).f1.f2))).setCell ⟨gb147, 4, none⟩ (.string ((rd_T35 l0 x9_1).f1.f3)))) := ⟨z1b⟩
        (try clear BK147)
        (try clear HB)
        generalize (((((w23.setCell ⟨gb147, 0, none⟩ (.string ((rd_T35 l0 x9_1).f0))).setCell ⟨gb147, 1, none⟩ (.int .i64 ((rd_T35 l0 x9_1).f1.f0))).setCell ⟨gb147, 2, none⟩ (.int .i64 ((rd_T35 l0 x9_1).f1.f1))).setCell ⟨gb147, 3, none⟩ (.int .i64 ((rd_T35 l0 x9_1).f1.f2))).setCell ⟨gb147, 4, none⟩ (.string ((rd_T35 l0 x9_1).f1.f3))) = w25 at n0_ n1_ ⊢
        have BK147 := n0_
        have HB := n1_
        clear n0_ n1_
        have n0_ := Aside0.mk (blk_drew BK147.out)
        have n1_ := Aside0.mk (below_drew1 HB.out)
        clear BK147
        clear HB
        have BK147 := n0_
        have HB := n1_
        clear n0_ n1_
        refine start_ (n := 18) (S := fun w' => w'.cell? ⟨gb147, 0, none⟩ = some (.string ((rd_T35 l0 x9_1).f0)) ∧ w'.cell? ⟨gb147, 1, none⟩ = some (.int .i64 ((rd_T35 l0 x9_1).f1.f0)) ∧ w'.cell? ⟨gb147, 2, none⟩ = some (.int .i64 ((rd_T35 l0 x9_1).f1.f1)) ∧ w'.cell? ⟨gb147, 3, none⟩ = some (.int .i64 ((rd_T35 l0 x9_1).f1.f2)) ∧ w'.cell? ⟨gb147, 4, none⟩ = some (.string ((rd_T35 l0 x9_1).f1.f3))) (ds := []) #[z4h, z4h, z4h, z4h, z4h, z4h, z4h, z4h, z4h, z4h, z4h, z4h, z4h, z4h, z4h, z4h, z4h, z4h] zi rfl rfl ⟨(blk_cell BK147.out 0).trans rfl, (blk_cell BK147.out 1).trans rfl, (blk_cell BK147.out 2).trans rfl, (blk_cell BK147.out 3).trans rfl, (blk_cell BK147.out 4).trans rfl⟩ (fun hHeld => ?_); refine with_tabW impl_ascending.tab4 impl_ascending.bits4 (fun HT_ HW_ => ?_)
        generalize w25.drew = w26 at BK147 HB hHeld ⊢
        refine take_ (i := 0) (N := some 14) (v := ?_) (a' := ?_) #[z4g, z4h, z4h, z4h, z4h, z4h, z4h, z4h, z4h, z4h, z4h, z4h, z4h, z4h, z4h, z4h, z4h, z4h] rfl rfl (take_ofW HT_.out HW_.out zi) (fun _ _ _ h => h) (Or.inl ⟨zw, ?_⟩) hHeld ?_ ?_
        rotate_left
        ·rintro w' ⟨s0, s1, s2, s3, s4⟩
         go_simp
         with_reducible rfl
        rotate_left
        ·simp only [Act.put, z4i, z4j, z4k, i64_w, i32_w]
         rfl
        refine one_ (i := 1) (N := some 15) #[z4g, z4g, z4h, z4h, z4h, z4h, z4h, z4h, z4h, z4h, z4h, z4h, z4h, z4h, z4h, z4h, z4h, z4h] rfl rfl (one_of HT_.out zi) zh (fun K hK => ?_)
        refine goes_ Tryz.func16 zi rfl #[.agg #[.string ((rd_T35 l0 x9_1).f0), .int .i64 ((rd_T35 l0 x9_1).f1.f0), .int .i64 ((rd_T35 l0 x9_1).f1.f1), .int .i64 ((rd_T35 l0 x9_1).f1.f2), .string ((rd_T35 l0 x9_1).f1.f3)]] zw rfl rfl zo ?_
        with_reducible refine (impl_NeedOk.calls k1 ((rd_T35 l0 x9_1).f0) ((rd_T35 l0 x9_1).f1.f0) ((rd_T35 l0 x9_1).f1.f1) ((rd_T35 l0 x9_1).f1.f2) ((rd_T35 l0 x9_1).f1.f3) true _ A6.out).mono ?_
        rintro e w27 ⟨rfl, hb⟩
        refine ⟨_, rfl, ?_⟩
        have n0_ := Aside0.mk (blk_below (g := gb147) (o := .cells #[.string ((rd_T35 l0 x9_1).f0), .int .i64 ((rd_T35 l0 x9_1).f1.f0), .int .i64 ((rd_T35 l0 x9_1).f1.f1), .int .i64 ((rd_T35 l0 x9_1).f1.f2), .string ((rd_T35 l0 x9_1).f1.f3)] 35 (0, 0)) z1c hb)
        have n1_ := Aside0.mk (below_step z1b hb)
        clear BK147
        clear HB
        have BK147 := n0_
        have HB := n1_
        clear n0_ n1_
        (try clear hb)
        (try clear hb2)
        (try clear hk)
        (try clear hi)
        refine hK.out _ _ ⟨(blk_cell BK147.out 0).trans rfl, (blk_cell BK147.out 1).trans rfl, (blk_cell BK147.out 2).trans rfl, (blk_cell BK147.out 3).trans rfl, (blk_cell BK147.out 4).trans rfl⟩ (fun hHeld => ?_)
        clear hK K
        refine norm_ (a' := ?_) ?_ ?_
        rotate_left
        ·show Act.put _ (some 15) _ = _
         simp only [Act.put, z4i, z4j, z4k, i64_w, i32_w]
         rfl
        refine pure_ (i := 2) (N := some 16) (v := ?_) (a' := ?_) #[z4g, z4g, z4g, z4h, z4h, z4h, z4h, z4h, z4h, z4h, z4h, z4h, z4h, z4h, z4h, z4h, z4h, z4h] rfl rfl (any_of HT_.out zi) (fun _ _ _ h => h) (Or.inl ⟨zw, ?_⟩) ?_ ?_
        rotate_left
        ·intro w'
         go_simp
         with_reducible rfl
        rotate_left
        ·simp only [Act.put, z4i, z4j, z4k, i64_w, i32_w]
         rfl
        refine pure_ (i := 3) (N := some 17) (v := ?_) (a' := ?_) #[z4g, z4g, z4g, z4g, z4h, z4h, z4h, z4h, z4h, z4h, z4h, z4h, z4h, z4h, z4h, z4h, z4h, z4h] rfl rfl (any_of HT_.out zi) (fun _ _ _ h => h) (Or.inl ⟨zw, ?_⟩) ?_ ?_
        rotate_left
        ·intro w'
         go_simp
         with_reducible rfl
        rotate_left
        ·simp only [Act.put, z4i, z4j, z4k, i64_w, i32_w]
         rfl
        refine pure_ (i := 4) (N := some 18) (v := ?_) (a' := ?_) #[z4g, z4g, z4g, z4g, z4g, z4h, z4h, z4h, z4h, z4h, z4h, z4h, z4h, z4h, z4h, z4h, z4h, z4h] rfl rfl (any_of HT_.out zi) (fun _ _ _ h => h) (Or.inl ⟨zw, ?_⟩) ?_ ?_
        rotate_left
        ·intro w'
         go_simp
         with_reducible rfl
        rotate_left
        ·simp only [Act.put, z4i, z4j, z4k, i64_w, i32_w]
         rfl
        refine pure_ (i := 5) (N := some 19) (v := ?_) (a' := ?_) #[z4g, z4g, z4g, z4g, z4g, z4g, z4h, z4h, z4h, z4h, z4h, z4h, z4h, z4h, z4h, z4h, z4h, z4h] rfl rfl (any_of HT_.out zi) (fun _ _ _ h => h) (Or.inl ⟨zw, ?_⟩) ?_ ?_
        rotate_left
        ·intro w'
         go_simp
         with_reducible rfl
        rotate_left
        ·simp only [Act.put, z4i, z4j, z4k, i64_w, i32_w]
         rfl
        refine pure_ (i := 6) (N := some 20) (v := ?_) (a' := ?_) #[z4g, z4g, z4g, z4g, z4g, z4g, z4g, z4h, z4h, z4h, z4h, z4h, z4h, z4h, z4h, z4h, z4h, z4h] rfl rfl (any_of HT_.out zi) (fun _ _ _ h => h) (Or.inl ⟨zw, ?_⟩) ?_ ?_
        rotate_left
        ·intro w'
         go_simp
         with_reducible rfl
        rotate_left
        ·simp only [Act.put, z4i, z4j, z4k, i64_w, i32_w]
         rfl
        refine pure_ (i := 7) (N := some 21) (v := undef) (a' := ?_) #[z4g, z4g, z4g, z4g, z4g, z4g, z4g, z4g, z4h, z4h, z4h, z4h, z4h, z4h, z4h, z4h, z4h, z4h] rfl rfl (any_of HT_.out zi) (fun _ _ _ h => h) (Or.inr ⟨zw, rfl⟩) ?_ ?_
        rotate_left
        ·simp only [Act.put, z4i, z4j, z4k, i64_w, i32_w]
         rfl
        refine pure_ (i := 8) (N := some 22) (v := undef) (a' := ?_) #[z4g, z4g, z4g, z4g, z4g, z4g, z4g, z4g, z4g, z4h, z4h, z4h, z4h, z4h, z4h, z4h, z4h, z4h] rfl rfl (any_of HT_.out zi) (fun _ _ _ h => h) (Or.inr ⟨zw, rfl⟩) ?_ ?_
        rotate_left
        ·simp only [Act.put, z4i, z4j, z4k, i64_w, i32_w]
         rfl
        refine pure_ (i := 9) (N := some 23) (v := undef) (a' := ?_) #[z4g, z4g, z4g, z4g, z4g, z4g, z4g, z4g, z4g, z4g, z4h, z4h, z4h, z4h, z4h, z4h, z4h, z4h] rfl rfl (any_of HT_.out zi) (fun _ _ _ h => h) (Or.inr ⟨zw, rfl⟩) ?_ ?_
        rotate_left
        ·simp only [Act.put, z4i, z4j, z4k, i64_w, i32_w]
         rfl
        refine pure_ (i := 10) (N := some 24) (v := undef) (a' := ?_) #[z4g, z4g, z4g, z4g, z4g, z4g, z4g, z4g, z4g, z4g, z4g, z4h, z4h, z4h, z4h, z4h, z4h, z4h] rfl rfl (any_of HT_.out zi) (fun _ _ _ h => h) (Or.inr ⟨zw, rfl⟩) ?_ ?_
        rotate_left
        ·simp only [Act.put, z4i, z4j, z4k, i64_w, i32_w]
         rfl
        refine pure_ (i := 11) (N := some 25) (v := undef) (a' := ?_) #[z4g, z4g, z4g, z4g, z4g, z4g, z4g, z4g, z4g, z4g, z4g, z4g, z4h, z4h, z4h, z4h, z4h, z4h] rfl rfl (any_of HT_.out zi) (fun _ _ _ h => h) (Or.inr ⟨zw, rfl⟩) ?_ ?_
        rotate_left
        ·simp only [Act.put, z4i, z4j, z4k, i64_w, i32_w]
         rfl
        refine pure_ (i := 12) (N := some 26) (v := undef) (a' := ?_) #[z4g, z4g, z4g, z4g, z4g, z4g, z4g, z4g, z4g, z4g, z4g, z4g, z4g, z4h, z4h, z4h, z4h, z4h] rfl rfl (any_of HT_.out zi) (fun _ _ _ h => h) (Or.inr ⟨zw, rfl⟩) ?_ ?_
        rotate_left
        ·simp only [Act.put, z4i, z4j, z4k, i64_w, i32_w]
         rfl
        refine pure_ (i := 13) (N := some 27) (v := undef) (a' := ?_) #[z4g, z4g, z4g, z4g, z4g, z4g, z4g, z4g, z4g, z4g, z4g, z4g, z4g, z4g, z4h, z4h, z4h, z4h] rfl rfl (any_of HT_.out zi) (fun _ _ _ h => h) (Or.inr ⟨zw, rfl⟩) ?_ ?_
        rotate_left
        ·simp only [Act.put, z4i, z4j, z4k, i64_w, i32_w]
         rfl
        refine pure_ (i := 14) (N := some 28) (v := undef) (a' := ?_) #[z4g, z4g, z4g, z4g, z4g, z4g, z4g, z4g, z4g, z4g, z4g, z4g, z4g, z4g, z4g, z4h, z4h, z4h] rfl rfl (any_of HT_.out zi) (fun _ _ _ h => h) (Or.inr ⟨zw, rfl⟩) ?_ ?_
        rotate_left
        ·simp only [Act.put, z4i, z4j, z4k, i64_w, i32_w]
         rfl
        refine pure_ (i := 15) (N := some 29) (v := undef) (a' := ?_) #[z4g, z4g, z4g, z4g, z4g, z4g, z4g, z4g, z4g, z4g, z4g, z4g, z4g, z4g, z4g, z4g, z4h, z4h] rfl rfl (any_of HT_.out zi) (fun _ _ _ h => h) (Or.inr ⟨zw, rfl⟩) ?_ ?_
        rotate_left
        ·simp only [Act.put, z4i, z4j, z4k, i64_w, i32_w]
         rfl
        refine pure_ (i := 16) (N := some 30) (v := ?_) (a' := ?_) #[z4g, z4g, z4g, z4g, z4g, z4g, z4g, z4g, z4g, z4g, z4g, z4g, z4g, z4g, z4g, z4g, z4g, z4h] rfl rfl (any_of HT_.out zi) (fun _ _ _ h => h) (Or.inl ⟨zw, ?_⟩) ?_ ?_
        rotate_left
        ·intro w'
         go_simp
         with_reducible rfl
        rotate_left
        ·simp only [Act.put, z4i, z4j, z4k, i64_w, i32_w]
         rfl
        refine pure_ (i := 17) (N := some 31) (v := ?_) (a' := ?_) #[z4g, z4g, z4g, z4g, z4g, z4g, z4g, z4g, z4g, z4g, z4g, z4g, z4g, z4g, z4g, z4g, z4g, z4g] rfl rfl (any_of HT_.out zi) (fun _ _ _ h => h) (Or.inl ⟨zw, ?_⟩) ?_ ?_
        rotate_left
        ·intro w'
         go_simp
         with_reducible rfl
        rotate_left
        ·simp only [Act.put, z4i, z4j, z4k, i64_w, i32_w]
         rfl
        refine done_ (done_of HT_.out zi) ?_
        try go_wp2
        go_roundg k1
        case measure => have := HK1.out; omega
        case rel => exact ⟨(wrap64 (x9_1 + 1)), zj, H', ⟨zn⟩, ⟨z1b⟩⟩
      ·replace c7 := Bool.eq_false_iff.mpr c7
       subst c7
       have H1 : (some false) = some r := by rw [if_neg (show ¬ (false = true) by decide)] at H; exact H
       clear H
       have H := H1
       clear H1
       obtain rfl := Option.some.inj H
       have p146 : 0 ≤ (x9_1 : Int) := of_decide_eq_true zm
       have q146 : x9_1 < (l0.length : Int) := of_decide_eq_true zm
       obtain ⟨ad146, e146, hx146_0, hx146_1, hx146_2, hx146_3, hx146_4⟩ := at_T35 HR0.out x9_1 p146 q146
       cases e146
       replace hx146_0 := (HB.out.cell (World.block_lt_of_cell? w _ hx146_0)).trans hx146_0
       replace hx146_1 := (HB.out.cell (World.block_lt_of_cell? w _ hx146_1)).trans hx146_1
       replace hx146_2 := (HB.out.cell (World.block_lt_of_cell? w _ hx146_2)).trans hx146_2
       replace hx146_3 := (HB.out.cell (World.block_lt_of_cell? w _ hx146_3)).trans hx146_3
       replace hx146_4 := (HB.out.cell (World.block_lt_of_cell? w _ hx146_4)).trans hx146_4
       replace p146 := eq_true p146
       replace q146 := eq_true q146
       try go_wp2_with (first | ((with_reducible refine gate_dst (N := 6) rfl ?_); refine box_event zw (N := 6) zw (cs := #[.string (⟨#[]⟩ : ByteArray), .int .i64 0, .int .i64 0, .int .i64 0, .string (⟨#[]⟩ : ByteArray)]) (t := 35) zx ?_; intro gb147 hg w28 hbox hb; have n0_ := Aside0.mk (below_step zp hb); have n1_ := Aside0.mk hbox; have n2_ := Aside0.mk ((z3s : w.heap.size ≤ gb147)); have n3_ := Aside0.mk ((z3s : w.heap.size ≤ gb147)); clear HB; have HB := n0_; have BK147 := n1_; have GW147 := n2_; have GE147 := n3_; clear n0_ n1_ n2_ n3_; clear hb hbox hg; obtain ⟨hcz29_0, hcz29_1, hcz29_2, hcz29_3, hcz29_4, hfz29_0, hfz29_1, hfz29_2, hfz29_3, hfz29_4⟩ := ze BK147.out))
       have n0_ : Aside0 ((((((w28.setCell ⟨gb147, 0, none⟩ (.string ((rd_T35 l0 x9_1).f0))).setCell ⟨gb147, 1, none⟩ (.int .i64 ((rd_T35 l0 x9_1).f1.f0))).setCell ⟨gb147, 2, none⟩ (.int .i64 ((rd_T35 l0 x9_1).f1.f1))).setCell ⟨gb147, 3, none⟩ (.int .i64 ((rd_T35 l0 x9_1).f1.f2))).setCell ⟨gb147, 4, none⟩ (.string ((rd_T35 l0 x9_1).f1.f3))).heap[gb147]? = some (.cells #[.string ((rd_T35 l0 x9_1).f0), .int .i64 ((rd_T35 l0 x9_1).f1.f0), .int .i64 ((rd_T35 l0 x9_1).f1.f1), .int .i64 ((rd_T35 l0 x9_1).f1.f2), .string ((rd_T35 l0 x9_1).f1.f3)] 35 (0, 0))) := ⟨z1a⟩
       have n1_ : Aside0 (Below w.heap.size w (((((w28.setCell ⟨gb147, 0, none⟩ (.string ((rd_T35 l0 x9_1).f0))).setCell ⟨gb147, 1, none⟩ (.int .i64 ((rd_T35 l0 x9_1).f1.f0))).setCell ⟨gb147, 2, none⟩ (.int .i64 ((rd_T35 l0 x9_1).f1.f1))).setCell ⟨gb147, 3, none⟩ (.int .i64 ((rd_T35 l0 x9_1).f1.f2))).setCell ⟨gb147, 4, none⟩ (.string ((rd_T35 l0 x9_1).f1.f3)))) := ⟨z1b⟩
       (try clear BK147)
       (try clear HB)
       generalize (((((w28.setCell ⟨gb147, 0, none⟩ (.string ((rd_T35 l0 x9_1).f0))).setCell ⟨gb147, 1, none⟩ (.int .i64 ((rd_T35 l0 x9_1).f1.f0))).setCell ⟨gb147, 2, none⟩ (.int .i64 ((rd_T35 l0 x9_1).f1.f1))).setCell ⟨gb147, 3, none⟩ (.int .i64 ((rd_T35 l0 x9_1).f1.f2))).setCell ⟨gb147, 4, none⟩ (.string ((rd_T35 l0 x9_1).f1.f3))) = w30 at n0_ n1_ ⊢
       have BK147 := n0_
       have HB := n1_
       clear n0_ n1_
       have n0_ := Aside0.mk (blk_drew BK147.out)
       have n1_ := Aside0.mk (below_drew1 HB.out)
       clear BK147
       clear HB
       have BK147 := n0_
       have HB := n1_
       clear n0_ n1_
       refine start_ (n := 18) (S := fun w' => w'.cell? ⟨gb147, 0, none⟩ = some (.string ((rd_T35 l0 x9_1).f0)) ∧ w'.cell? ⟨gb147, 1, none⟩ = some (.int .i64 ((rd_T35 l0 x9_1).f1.f0)) ∧ w'.cell? ⟨gb147, 2, none⟩ = some (.int .i64 ((rd_T35 l0 x9_1).f1.f1)) ∧ w'.cell? ⟨gb147, 3, none⟩ = some (.int .i64 ((rd_T35 l0 x9_1).f1.f2)) ∧ w'.cell? ⟨gb147, 4, none⟩ = some (.string ((rd_T35 l0 x9_1).f1.f3))) (ds := []) #[z4h, z4h, z4h, z4h, z4h, z4h, z4h, z4h, z4h, z4h, z4h, z4h, z4h, z4h, z4h, z4h, z4h, z4h] zi rfl rfl ⟨(blk_cell BK147.out 0).trans rfl, (blk_cell BK147.out 1).trans rfl, (blk_cell BK147.out 2).trans rfl, (blk_cell BK147.out 3).trans rfl, (blk_cell BK147.out 4).trans rfl⟩ (fun hHeld => ?_); refine with_tabW impl_ascending.tab4 impl_ascending.bits4 (fun HT_ HW_ => ?_)
       generalize w30.drew = w31 at BK147 HB hHeld ⊢
       refine take_ (i := 0) (N := some 14) (v := ?_) (a' := ?_) #[z4g, z4h, z4h, z4h, z4h, z4h, z4h, z4h, z4h, z4h, z4h, z4h, z4h, z4h, z4h, z4h, z4h, z4h] rfl rfl (take_ofW HT_.out HW_.out zi) (fun _ _ _ h => h) (Or.inl ⟨zw, ?_⟩) hHeld ?_ ?_
       rotate_left
       ·rintro w' ⟨s0, s1, s2, s3, s4⟩
        go_simp
        with_reducible rfl
       rotate_left
       ·simp only [Act.put, z4i, z4j, z4k, i64_w, i32_w]
        rfl
       refine one_ (i := 1) (N := some 15) #[z4g, z4g, z4h, z4h, z4h, z4h, z4h, z4h, z4h, z4h, z4h, z4h, z4h, z4h, z4h, z4h, z4h, z4h] rfl rfl (one_of HT_.out zi) zh (fun K hK => ?_)
       refine goes_ Tryz.func16 zi rfl #[.agg #[.string ((rd_T35 l0 x9_1).f0), .int .i64 ((rd_T35 l0 x9_1).f1.f0), .int .i64 ((rd_T35 l0 x9_1).f1.f1), .int .i64 ((rd_T35 l0 x9_1).f1.f2), .string ((rd_T35 l0 x9_1).f1.f3)]] zw rfl rfl zo ?_
       with_reducible refine (impl_NeedOk.calls k1 ((rd_T35 l0 x9_1).f0) ((rd_T35 l0 x9_1).f1.f0) ((rd_T35 l0 x9_1).f1.f1) ((rd_T35 l0 x9_1).f1.f2) ((rd_T35 l0 x9_1).f1.f3) false _ A6.out).mono ?_
       rintro e w32 ⟨rfl, hb⟩
       refine ⟨_, rfl, ?_⟩
       have n0_ := Aside0.mk (blk_below (g := gb147) (o := .cells #[.string ((rd_T35 l0 x9_1).f0), .int .i64 ((rd_T35 l0 x9_1).f1.f0), .int .i64 ((rd_T35 l0 x9_1).f1.f1), .int .i64 ((rd_T35 l0 x9_1).f1.f2), .string ((rd_T35 l0 x9_1).f1.f3)] 35 (0, 0)) z1c hb)
       have n1_ := Aside0.mk (below_step z1b hb)
       clear BK147
       clear HB
       have BK147 := n0_
       have HB := n1_
       clear n0_ n1_
       (try clear hb)
       (try clear hb2)
       (try clear hk)
       (try clear hi)
       refine hK.out _ _ ⟨(blk_cell BK147.out 0).trans rfl, (blk_cell BK147.out 1).trans rfl, (blk_cell BK147.out 2).trans rfl, (blk_cell BK147.out 3).trans rfl, (blk_cell BK147.out 4).trans rfl⟩ (fun hHeld => ?_)
       clear hK K
       refine norm_ (a' := ?_) ?_ ?_
       rotate_left
       ·show Act.put _ (some 15) _ = _
        simp only [Act.put, z4i, z4j, z4k, i64_w, i32_w]
        rfl
       refine pure_ (i := 2) (N := some 16) (v := ?_) (a' := ?_) #[z4g, z4g, z4g, z4h, z4h, z4h, z4h, z4h, z4h, z4h, z4h, z4h, z4h, z4h, z4h, z4h, z4h, z4h] rfl rfl (any_of HT_.out zi) (fun _ _ _ h => h) (Or.inl ⟨zw, ?_⟩) ?_ ?_
       rotate_left
       ·intro w'
        go_simp
        with_reducible rfl
       rotate_left
       ·simp only [Act.put, z4i, z4j, z4k, i64_w, i32_w]
        rfl
       refine pure_ (i := 3) (N := some 17) (v := ?_) (a' := ?_) #[z4g, z4g, z4g, z4g, z4h, z4h, z4h, z4h, z4h, z4h, z4h, z4h, z4h, z4h, z4h, z4h, z4h, z4h] rfl rfl (any_of HT_.out zi) (fun _ _ _ h => h) (Or.inl ⟨zw, ?_⟩) ?_ ?_
       rotate_left
       ·intro w'
        go_simp
        with_reducible rfl
       rotate_left
       ·simp only [Act.put, z4i, z4j, z4k, i64_w, i32_w]
        rfl
       refine pure_ (i := 4) (N := some 18) (v := undef) (a' := ?_) #[z4g, z4g, z4g, z4g, z4g, z4h, z4h, z4h, z4h, z4h, z4h, z4h, z4h, z4h, z4h, z4h, z4h, z4h] rfl rfl (any_of HT_.out zi) (fun _ _ _ h => h) (Or.inr ⟨zw, rfl⟩) ?_ ?_
       rotate_left
       ·simp only [Act.put, z4i, z4j, z4k, i64_w, i32_w]
        rfl
       refine pure_ (i := 5) (N := some 19) (v := undef) (a' := ?_) #[z4g, z4g, z4g, z4g, z4g, z4g, z4h, z4h, z4h, z4h, z4h, z4h, z4h, z4h, z4h, z4h, z4h, z4h] rfl rfl (any_of HT_.out zi) (fun _ _ _ h => h) (Or.inr ⟨zw, rfl⟩) ?_ ?_
       rotate_left
       ·simp only [Act.put, z4i, z4j, z4k, i64_w, i32_w]
        rfl
       refine pure_ (i := 6) (N := some 20) (v := undef) (a' := ?_) #[z4g, z4g, z4g, z4g, z4g, z4g, z4g, z4h, z4h, z4h, z4h, z4h, z4h, z4h, z4h, z4h, z4h, z4h] rfl rfl (any_of HT_.out zi) (fun _ _ _ h => h) (Or.inr ⟨zw, rfl⟩) ?_ ?_
       rotate_left
       ·simp only [Act.put, z4i, z4j, z4k, i64_w, i32_w]
        rfl
       refine pure_ (i := 7) (N := some 21) (v := undef) (a' := ?_) #[z4g, z4g, z4g, z4g, z4g, z4g, z4g, z4g, z4h, z4h, z4h, z4h, z4h, z4h, z4h, z4h, z4h, z4h] rfl rfl (any_of HT_.out zi) (fun _ _ _ h => h) (Or.inr ⟨zw, rfl⟩) ?_ ?_
       rotate_left
       ·simp only [Act.put, z4i, z4j, z4k, i64_w, i32_w]
        rfl
       refine pure_ (i := 8) (N := some 22) (v := undef) (a' := ?_) #[z4g, z4g, z4g, z4g, z4g, z4g, z4g, z4g, z4g, z4h, z4h, z4h, z4h, z4h, z4h, z4h, z4h, z4h] rfl rfl (any_of HT_.out zi) (fun _ _ _ h => h) (Or.inr ⟨zw, rfl⟩) ?_ ?_
       rotate_left
       ·simp only [Act.put, z4i, z4j, z4k, i64_w, i32_w]
        rfl
       refine pure_ (i := 9) (N := some 23) (v := undef) (a' := ?_) #[z4g, z4g, z4g, z4g, z4g, z4g, z4g, z4g, z4g, z4g, z4h, z4h, z4h, z4h, z4h, z4h, z4h, z4h] rfl rfl (any_of HT_.out zi) (fun _ _ _ h => h) (Or.inr ⟨zw, rfl⟩) ?_ ?_
       rotate_left
       ·simp only [Act.put, z4i, z4j, z4k, i64_w, i32_w]
        rfl
       refine pure_ (i := 10) (N := some 24) (v := undef) (a' := ?_) #[z4g, z4g, z4g, z4g, z4g, z4g, z4g, z4g, z4g, z4g, z4g, z4h, z4h, z4h, z4h, z4h, z4h, z4h] rfl rfl (any_of HT_.out zi) (fun _ _ _ h => h) (Or.inr ⟨zw, rfl⟩) ?_ ?_
       rotate_left
       ·simp only [Act.put, z4i, z4j, z4k, i64_w, i32_w]
        rfl
       refine pure_ (i := 11) (N := some 25) (v := undef) (a' := ?_) #[z4g, z4g, z4g, z4g, z4g, z4g, z4g, z4g, z4g, z4g, z4g, z4g, z4h, z4h, z4h, z4h, z4h, z4h] rfl rfl (any_of HT_.out zi) (fun _ _ _ h => h) (Or.inr ⟨zw, rfl⟩) ?_ ?_
       rotate_left
       ·simp only [Act.put, z4i, z4j, z4k, i64_w, i32_w]
        rfl
       refine pure_ (i := 12) (N := some 26) (v := undef) (a' := ?_) #[z4g, z4g, z4g, z4g, z4g, z4g, z4g, z4g, z4g, z4g, z4g, z4g, z4g, z4h, z4h, z4h, z4h, z4h] rfl rfl (any_of HT_.out zi) (fun _ _ _ h => h) (Or.inr ⟨zw, rfl⟩) ?_ ?_
       rotate_left
       ·simp only [Act.put, z4i, z4j, z4k, i64_w, i32_w]
        rfl
       refine pure_ (i := 13) (N := some 27) (v := undef) (a' := ?_) #[z4g, z4g, z4g, z4g, z4g, z4g, z4g, z4g, z4g, z4g, z4g, z4g, z4g, z4g, z4h, z4h, z4h, z4h] rfl rfl (any_of HT_.out zi) (fun _ _ _ h => h) (Or.inr ⟨zw, rfl⟩) ?_ ?_
       rotate_left
       ·simp only [Act.put, z4i, z4j, z4k, i64_w, i32_w]
        rfl
       refine pure_ (i := 14) (N := some 28) (v := undef) (a' := ?_) #[z4g, z4g, z4g, z4g, z4g, z4g, z4g, z4g, z4g, z4g, z4g, z4g, z4g, z4g, z4g, z4h, z4h, z4h] rfl rfl (any_of HT_.out zi) (fun _ _ _ h => h) (Or.inr ⟨zw, rfl⟩) ?_ ?_
       rotate_left
       ·simp only [Act.put, z4i, z4j, z4k, i64_w, i32_w]
        rfl
       refine pure_ (i := 15) (N := some 29) (v := undef) (a' := ?_) #[z4g, z4g, z4g, z4g, z4g, z4g, z4g, z4g, z4g, z4g, z4g, z4g, z4g, z4g, z4g, z4g, z4h, z4h] rfl rfl (any_of HT_.out zi) (fun _ _ _ h => h) (Or.inr ⟨zw, rfl⟩) ?_ ?_
       rotate_left
       ·simp only [Act.put, z4i, z4j, z4k, i64_w, i32_w]
        rfl
       refine pure_ (i := 16) (N := some 30) (v := undef) (a' := ?_) #[z4g, z4g, z4g, z4g, z4g, z4g, z4g, z4g, z4g, z4g, z4g, z4g, z4g, z4g, z4g, z4g, z4g, z4h] rfl rfl (any_of HT_.out zi) (fun _ _ _ h => h) (Or.inr ⟨zw, rfl⟩) ?_ ?_
       rotate_left
       ·simp only [Act.put, z4i, z4j, z4k, i64_w, i32_w]
        rfl
       refine pure_ (i := 17) (N := some 31) (v := ?_) (a' := ?_) #[z4g, z4g, z4g, z4g, z4g, z4g, z4g, z4g, z4g, z4g, z4g, z4g, z4g, z4g, z4g, z4g, z4g, z4g] rfl rfl (any_of HT_.out zi) (fun _ _ _ h => h) (Or.inl ⟨zw, ?_⟩) ?_ ?_
       rotate_left
       ·intro w'
        go_simp
        with_reducible rfl
       rotate_left
       ·simp only [Act.put, z4i, z4j, z4k, i64_w, i32_w]
        rfl
       refine done_ (done_of HT_.out zi) ?_
       try go_wp2
       go_ret
       exact ⟨zr, z1b⟩
     ·rw [if_neg c5] at H
      exact absurd H (by simp)
    ·rw [if_neg c4] at H
     exact absurd H (by simp)
   ·rw [if_neg c3] at H
    have c3b0 : decide (x9_1 < (l0.length : Int)) = false := decide_eq_false c3
    clear c3
    obtain rfl := Option.some.inj H
    go_wp2
    go_ret
    exact ⟨zr, zp⟩
end Go.Proofs.YtgdknepphkhnlaaGreatDoor.X

namespace Go.Proofs.YtgdknepphkhnlaaGreatDoor.X
open Go.RowKit Go.Proofs.YtgdknepphkhnlaaGreatDoorW.PrintWords Go.Proofs.YtgdknepphkhnlaaGreatDoorW.PrintLast Go.Proofs.YtgdknepphkhnlaaGreatDoorW.PrintMore
attribute [local go_sem] max2_int min2_int max_two min_two max_three min_three max_four min_four
set_option linter.unusedVariables false
set_option linter.unusedSimpArgs false
def impl_EntryOk.l0 : Nat → List (S35) → Int → Int → ByteArray → Int → Int → Int → ByteArray → List (S35) → Option (Bool)
 | 0, _, _, _, _, _, _, _, _, _ => none
 | k + 1, x6, x7, x8, x151000, x151001, x151002, x151003, x151004, x151005 => if x8 < x7 then (if 0 ≤ x8 then (if x8 < (x6.length : Int) then (if ((rd_T35 x6 x8).f0).toList = x151000.toList then (some false) else (impl_EntryOk.l0 k x6 x7 (wrap64 (x8 + 1)) x151000 x151001 x151002 x151003 x151004 x151005)) else (none)) else (none)) else ((impl_Fits.f k x151000 x151001 x151002 x151003 x151004).bind fun t153 => (if t153 = true then ((impl_ascending.f k x151005 8).bind fun t154 => (some t154)) else (some false)))
def impl_EntryOk.f (k : Nat) (a0_0 : ByteArray) (a0_1 : Int) (a0_2 : Int) (a0_3 : Int) (a0_4 : ByteArray) (l0_5 : List (S35)) : Option (Bool) := impl_EntryOk.l0 k l0_5 (l0_5.length : Int) 0 a0_0 a0_1 a0_2 a0_3 a0_4 l0_5
set_option maxHeartbeats 8000000 in
set_option maxRecDepth 100000 in
theorem impl_EntryOk.calls (k : Nat) (a0_0 : ByteArray) (a0_1 : Int) (a0_2 : Int) (a0_3 : Int) (a0_4 : ByteArray) (A0_5 : Option Addr) (c0_5 : Nat) (l0_5 : List (S35)) (r : Bool) (w : World) (hr0_5 : Kd.C k35 w A0_5 l0_5.length l0_5) (hc0_5 : l0_5.length ≤ c0_5) (h : impl_EntryOk.f k a0_0 a0_1 a0_2 a0_3 a0_4 l0_5 = some r) :
  Calls Tryz.prog 11 #[.agg #[.string a0_0, .int .i64 a0_1, .int .i64 a0_2, .int .i64 a0_3, .string a0_4, .slice A0_5 l0_5.length c0_5]] w fun e w' => e = .returned (.bool r) ∧ Below w.heap.size w w' := by
 have hu28 := Tryz.underlying28
 have hu35 := Tryz.underlying35
 have hu25 := Tryz.underlying25
 have HR0_5 := Aside0.mk hr0_5
 have HC0_5 := Aside0.mk hc0_5
 clear hr0_5 hc0_5
 have HB := Aside0.mk (Below.refl w.heap.size w)
 have H : (impl_EntryOk.l0 k l0_5 (l0_5.length : Int) 0 a0_0 a0_1 a0_2 a0_3 a0_4 l0_5) = some r := h
 clear h
 have H' := Aside0.mk H
 clear H
 go_enter Tryz.func11, Tryz.ntmps11
 go_wp2_with (first | ((with_reducible refine gate_dst (N := 1) rfl ?_); refine box_event zw (N := 1) zw (cs := #[.string a0_0, .int .i64 a0_1, .int .i64 a0_2, .int .i64 a0_3, .string a0_4, .slice A0_5 l0_5.length c0_5]) (t := 28) zx ?_; intro gb150 hg w2 hbox hb; have n0_ := Aside0.mk (below_step zp hb); have n1_ := Aside0.mk hbox; have n2_ := Aside0.mk ((z3s : w.heap.size ≤ gb150)); have n3_ := Aside0.mk ((z3s : w.heap.size ≤ gb150)); clear HB; have HB := n0_; have BK150 := n1_; have GW150 := n2_; have GE150 := n3_; clear n0_ n1_ n2_ n3_; clear hb hbox hg; obtain ⟨hcz3_0, hcz3_1, hcz3_2, hcz3_3, hcz3_4, hcz3_5, hfz3_0, hfz3_1, hfz3_2, hfz3_3, hfz3_4, hfz3_5⟩ := zf BK150.out))
 go_loopg [8] k (fun kq v8 w' => ∃ (x8_1 : Int), v8 = .int .i64 x8_1 ∧ Aside0 (impl_EntryOk.l0 kq l0_5 (l0_5.length : Int) x8_1 a0_0 a0_1 a0_2 a0_3 a0_4 l0_5 = some r) ∧ Aside0 (kq ≤ k) ∧ Aside0 (w'.heap[gb150]? = some (.cells #[.string a0_0, .int .i64 a0_1, .int .i64 a0_2, .int .i64 a0_3, .string a0_4, (.slice A0_5 l0_5.length c0_5)] 28 (0, 0))) ∧ Aside0 (Below w.heap.size w w'))
 case atStart => exact ⟨(0), zj, H', ⟨Nat.le_refl _⟩, ⟨z1d⟩, ⟨z1e⟩⟩
 case round =>
  clear H'
  try clear c1
  try clear p2
  try clear hcz3_0
  try clear hcz3_1
  try clear hcz3_2
  try clear hcz3_3
  try clear hcz3_4
  try clear hcz3_5
  try clear hfz3_0
  try clear hfz3_1
  try clear hfz3_2
  try clear hfz3_3
  try clear hfz3_4
  try clear hfz3_5
  obtain ⟨x8_1, rfl, HA, HK1, BK150, HB⟩ := hrel
  cases gk with
  | zero => exact absurd HA.out (by simp [impl_EntryOk.l0])
  | succ k1 =>
   have H := HA.out
   clear HA
   simp only [impl_EntryOk.l0] at H
   by_cases c4 : x8_1 < (l0_5.length : Int)
   ·rw [if_pos c4] at H
    have c4b0 : decide (x8_1 < (l0_5.length : Int)) = true := decide_eq_true c4
    clear c4
    by_cases c5 : 0 ≤ x8_1
    ·rw [if_pos c5] at H
     have c5b0 : decide (0 ≤ x8_1) = true := decide_eq_true c5
     clear c5
     by_cases c6 : x8_1 < (l0_5.length : Int)
     ·rw [if_pos c6] at H
      have c6b0 : decide (x8_1 < (l0_5.length : Int)) = true := decide_eq_true c6
      clear c6
      by_cases c7 : ((rd_T35 l0_5 x8_1).f0).toList = a0_0.toList
      ·rw [if_pos c7] at H
       have c7b0 : (((rd_T35 l0_5 x8_1).f0).toList == a0_0.toList) = true := beq_iff_eq.mpr c7
       have c7b1 : (((rd_T35 l0_5 x8_1).f0).toList != a0_0.toList) = false := bne_eq_false_iff_eq.mpr c7
       clear c7
       obtain rfl := Option.some.inj H
       have p151 : 0 ≤ (x8_1 : Int) := of_decide_eq_true zm
       have q151 : x8_1 < (l0_5.length : Int) := of_decide_eq_true zm
       obtain ⟨ad151, e151, hx151_0, hx151_1, hx151_2, hx151_3, hx151_4⟩ := at_T35 HR0_5.out x8_1 p151 q151
       cases e151
       replace hx151_0 := (HB.out.cell (World.block_lt_of_cell? w _ hx151_0)).trans hx151_0
       replace hx151_1 := (HB.out.cell (World.block_lt_of_cell? w _ hx151_1)).trans hx151_1
       replace hx151_2 := (HB.out.cell (World.block_lt_of_cell? w _ hx151_2)).trans hx151_2
       replace hx151_3 := (HB.out.cell (World.block_lt_of_cell? w _ hx151_3)).trans hx151_3
       replace hx151_4 := (HB.out.cell (World.block_lt_of_cell? w _ hx151_4)).trans hx151_4
       replace p151 := eq_true p151
       replace q151 := eq_true q151
       go_wp2_with (first | ((with_reducible refine gate_dst (N := 4) rfl ?_); refine box_event zw (N := 4) zw (cs := #[.string (⟨#[]⟩ : ByteArray), .int .i64 0, .int .i64 0, .int .i64 0, .string (⟨#[]⟩ : ByteArray)]) (t := 35) zx ?_; intro gb152 hg w8 hbox hb; have n0_ := Aside0.mk (blk_below (g := gb150) (o := .cells #[.string a0_0, .int .i64 a0_1, .int .i64 a0_2, .int .i64 a0_3, .string a0_4, .slice (some ad151) l0_5.length c0_5] 28 (0, 0)) z1d hb); have n1_ := Aside0.mk (below_step z1e hb); have n2_ := Aside0.mk hbox; have n3_ := Aside0.mk ((z3t : w.heap.size ≤ gb152)); have n4_ := Aside0.mk ((z3t : w.heap.size ≤ gb152)); have n5_ := Aside0.mk ((by rw [hg]; exact Nat.ne_of_lt (blk_lt (g := gb150) (o := .cells #[.string a0_0, .int .i64 a0_1, .int .i64 a0_2, .int .i64 a0_3, .string a0_4, .slice (some ad151) l0_5.length c0_5] 28 (0, 0)) z1d) : gb150 ≠ gb152)); have n6_ := Aside0.mk ((by rw [hg]; exact Nat.ne_of_gt (blk_lt (g := gb150) (o := .cells #[.string a0_0, .int .i64 a0_1, .int .i64 a0_2, .int .i64 a0_3, .string a0_4, .slice (some ad151) l0_5.length c0_5] 28 (0, 0)) z1d) : gb152 ≠ gb150)); clear BK150; clear HB; have BK150 := n0_; have HB := n1_; have BK152 := n2_; have GW152 := n3_; have GE152 := n4_; have NB150_152 := n5_; have NB152_150 := n6_; clear n0_ n1_ n2_ n3_ n4_ n5_ n6_; clear hb hbox hg; have hnb9 := NB152_150.out; have hnc9 := NB150_152.out; obtain ⟨hcz10_0, hcz10_1, hcz10_2, hcz10_3, hcz10_4, hfz10_0, hfz10_1, hfz10_2, hfz10_3, hfz10_4⟩ := ze BK152.out; obtain ⟨hcz11_0, hcz11_1, hcz11_2, hcz11_3, hcz11_4, hcz11_5, hfz11_0, hfz11_1, hfz11_2, hfz11_3, hfz11_4, hfz11_5⟩ := zf BK150.out))
       go_ret
       exact ⟨zr, by repeat (first | (with_reducible first | exact HB.out | apply below_alloc | apply pw_below_drewN | apply below_drew1 | refine below_set ?_ GE150.out | refine below_set ?_ GE152.out) | exact HB.out)⟩
      ·rw [if_neg c7] at H
       have c7b0 : (((rd_T35 l0_5 x8_1).f0).toList == a0_0.toList) = false := beq_eq_false_iff_ne.mpr c7
       have c7b1 : (((rd_T35 l0_5 x8_1).f0).toList != a0_0.toList) = true := bne_iff_ne.mpr c7
       have H' := Aside0.mk H
       clear H
       have p151 : 0 ≤ (x8_1 : Int) := of_decide_eq_true zm
       have q151 : x8_1 < (l0_5.length : Int) := of_decide_eq_true zm
       obtain ⟨ad151, e151, hx151_0, hx151_1, hx151_2, hx151_3, hx151_4⟩ := at_T35 HR0_5.out x8_1 p151 q151
       cases e151
       replace hx151_0 := (HB.out.cell (World.block_lt_of_cell? w _ hx151_0)).trans hx151_0
       replace hx151_1 := (HB.out.cell (World.block_lt_of_cell? w _ hx151_1)).trans hx151_1
       replace hx151_2 := (HB.out.cell (World.block_lt_of_cell? w _ hx151_2)).trans hx151_2
       replace hx151_3 := (HB.out.cell (World.block_lt_of_cell? w _ hx151_3)).trans hx151_3
       replace hx151_4 := (HB.out.cell (World.block_lt_of_cell? w _ hx151_4)).trans hx151_4
       replace p151 := eq_true p151
       replace q151 := eq_true q151
       go_wp2_with (first | ((with_reducible refine gate_dst (N := 4) rfl ?_); refine box_event zw (N := 4) zw (cs := #[.string (⟨#[]⟩ : ByteArray), .int .i64 0, .int .i64 0, .int .i64 0, .string (⟨#[]⟩ : ByteArray)]) (t := 35) zx ?_; intro gb152 hg w12 hbox hb; have n0_ := Aside0.mk (blk_below (g := gb150) (o := .cells #[.string a0_0, .int .i64 a0_1, .int .i64 a0_2, .int .i64 a0_3, .string a0_4, .slice (some ad151) l0_5.length c0_5] 28 (0, 0)) z1d hb); have n1_ := Aside0.mk (below_step z1e hb); have n2_ := Aside0.mk hbox; have n3_ := Aside0.mk ((z3t : w.heap.size ≤ gb152)); have n4_ := Aside0.mk ((z3t : w.heap.size ≤ gb152)); have n5_ := Aside0.mk ((by rw [hg]; exact Nat.ne_of_lt (blk_lt (g := gb150) (o := .cells #[.string a0_0, .int .i64 a0_1, .int .i64 a0_2, .int .i64 a0_3, .string a0_4, .slice (some ad151) l0_5.length c0_5] 28 (0, 0)) z1d) : gb150 ≠ gb152)); have n6_ := Aside0.mk ((by rw [hg]; exact Nat.ne_of_gt (blk_lt (g := gb150) (o := .cells #[.string a0_0, .int .i64 a0_1, .int .i64 a0_2, .int .i64 a0_3, .string a0_4, .slice (some ad151) l0_5.length c0_5] 28 (0, 0)) z1d) : gb152 ≠ gb150)); clear BK150; clear HB; have BK150 := n0_; have HB := n1_; have BK152 := n2_; have GW152 := n3_; have GE152 := n4_; have NB150_152 := n5_; have NB152_150 := n6_; clear n0_ n1_ n2_ n3_ n4_ n5_ n6_; clear hb hbox hg; have hnb13 := NB152_150.out; have hnc13 := NB150_152.out; obtain ⟨hcz14_0, hcz14_1, hcz14_2, hcz14_3, hcz14_4, hfz14_0, hfz14_1, hfz14_2, hfz14_3, hfz14_4⟩ := ze BK152.out; obtain ⟨hcz15_0, hcz15_1, hcz15_2, hcz15_3, hcz15_4, hcz15_5, hfz15_0, hfz15_1, hfz15_2, hfz15_3, hfz15_4, hfz15_5⟩ := zf BK150.out))
       go_roundg k1
       case measure => have := HK1.out; omega
       case rel => exact ⟨(wrap64 (x8_1 + 1)), zj, H', ⟨zn⟩, ⟨by (with_reducible repeat (first | refine blk_drewN ?_ _ | refine blk_drew ?_ | refine blk_alloc ?_ _)); refine blk_far ?_ NB150_152.out _; (with_reducible repeat (first | refine blk_drewN ?_ _ | refine blk_drew ?_ | refine blk_alloc ?_ _)); refine blk_far ?_ NB150_152.out _; (with_reducible repeat (first | refine blk_drewN ?_ _ | refine blk_drew ?_ | refine blk_alloc ?_ _)); refine blk_far ?_ NB150_152.out _; (with_reducible repeat (first | refine blk_drewN ?_ _ | refine blk_drew ?_ | refine blk_alloc ?_ _)); refine blk_far ?_ NB150_152.out _; (with_reducible repeat (first | refine blk_drewN ?_ _ | refine blk_drew ?_ | refine blk_alloc ?_ _)); refine blk_far ?_ NB150_152.out _; (with_reducible repeat (first | refine blk_drewN ?_ _ | refine blk_drew ?_ | refine blk_alloc ?_ _)); exact BK150.out⟩, ⟨by repeat (first | (with_reducible first | exact HB.out | apply below_alloc | apply pw_below_drewN | apply below_drew1 | refine below_set ?_ GE150.out | refine below_set ?_ GE152.out) | exact HB.out)⟩⟩
     ·rw [if_neg c6] at H
      exact absurd H (by simp)
    ·rw [if_neg c5] at H
     exact absurd H (by simp)
   ·rw [if_neg c4] at H
    have c4b0 : decide (x8_1 < (l0_5.length : Int)) = false := decide_eq_false c4
    clear c4
    replace H := Option.bind_eq_some_iff.mp H
    obtain ⟨t153, A160, H⟩ := H
    replace H : (if t153 = true then ((impl_ascending.f k1 l0_5 8).bind fun t154 => (some t154)) else (some false)) = some r := H
    have A16 := Aside0.mk A160
    clear A160
    by_cases c17 : t153 = true
    ·subst c17
     have H1 : ((impl_ascending.f k1 l0_5 8).bind fun t154 => (some t154)) = some r := by rw [if_pos rfl] at H; exact H
     clear H
     have H := H1
     clear H1
     replace H := Option.bind_eq_some_iff.mp H
     obtain ⟨t154, A180, H⟩ := H
     replace H : (some t154) = some r := H
     have A18 := Aside0.mk A180
     clear A180
     obtain rfl := Option.some.inj H
     obtain ⟨hcz19_0, hcz19_1, hcz19_2, hcz19_3, hcz19_4, hcz19_5, hfz19_0, hfz19_1, hfz19_2, hfz19_3, hfz19_4, hfz19_5⟩ := zf BK150.out
     go_wp2_with (first | ((with_reducible refine gate_callee (f := 35) rfl ?_); refine goesL_ (some 22) rfl rfl Tryz.func35 zi rfl #[.string a0_0, .agg #[.int .i64 a0_1, .int .i64 a0_2, .int .i64 a0_3, .string a0_4]] rfl zo ?_; (with_reducible refine (impl_Fits.calls k1 a0_0 a0_1 a0_2 a0_3 a0_4 true _ A16.out).mono ?_); rintro e w20 ⟨rfl, hb⟩; refine ⟨_, rfl, ?_⟩; have n0_ := Aside0.mk (blk_below (g := gb150) (o := .cells #[.string a0_0, .int .i64 a0_1, .int .i64 a0_2, .int .i64 a0_3, .string a0_4, .slice A0_5 l0_5.length c0_5] 28 (0, 0)) z1d hb); have n1_ := Aside0.mk (below_step z1e hb); clear BK150; clear HB; have BK150 := n0_; have HB := n1_; clear n0_ n1_; (try clear hb); (try clear hb2); (try clear hk); (try clear hi); obtain ⟨hcz21_0, hcz21_1, hcz21_2, hcz21_3, hcz21_4, hcz21_5, hfz21_0, hfz21_1, hfz21_2, hfz21_3, hfz21_4, hfz21_5⟩ := zf BK150.out) | (go_at_call 36; (with_reducible refine (impl_ascending.calls k1 _ _ l0_5 8 t154 _ ?side1 ?side2 A18.out).mono ?_); (case side1 => exact z1f); (case side2 => exact HC0_5.out); rintro e w22 ⟨rfl, hb⟩; have n0_ := Aside0.mk (blk_below (g := gb150) (o := .cells #[.string a0_0, .int .i64 a0_1, .int .i64 a0_2, .int .i64 a0_3, .string a0_4, .slice A0_5 l0_5.length c0_5] 28 (0, 0)) z1d hb); have n1_ := Aside0.mk (below_step z1e hb); clear BK150; clear HB; have BK150 := n0_; have HB := n1_; clear n0_ n1_; (try clear hb); (try clear hb2); (try clear hk); (try clear hi)))
     go_ret
     exact ⟨zr, z1e⟩
    ·replace c17 := Bool.eq_false_iff.mpr c17
     subst c17
     have H1 : (some false) = some r := by rw [if_neg (show ¬ (false = true) by decide)] at H; exact H
     clear H
     have H := H1
     clear H1
     obtain rfl := Option.some.inj H
     obtain ⟨hcz23_0, hcz23_1, hcz23_2, hcz23_3, hcz23_4, hcz23_5, hfz23_0, hfz23_1, hfz23_2, hfz23_3, hfz23_4, hfz23_5⟩ := zf BK150.out
     go_wp2_with (first | ((with_reducible refine gate_callee (f := 35) rfl ?_); refine goesL_ (some 22) rfl rfl Tryz.func35 zi rfl #[.string a0_0, .agg #[.int .i64 a0_1, .int .i64 a0_2, .int .i64 a0_3, .string a0_4]] rfl zo ?_; (with_reducible refine (impl_Fits.calls k1 a0_0 a0_1 a0_2 a0_3 a0_4 false _ A16.out).mono ?_); rintro e w24 ⟨rfl, hb⟩; refine ⟨_, rfl, ?_⟩; have n0_ := Aside0.mk (blk_below (g := gb150) (o := .cells #[.string a0_0, .int .i64 a0_1, .int .i64 a0_2, .int .i64 a0_3, .string a0_4, .slice A0_5 l0_5.length c0_5] 28 (0, 0)) z1d hb); have n1_ := Aside0.mk (below_step z1e hb); clear BK150; clear HB; have BK150 := n0_; have HB := n1_; clear n0_ n1_; (try clear hb); (try clear hb2); (try clear hk); (try clear hi)))
     go_ret
     exact ⟨zr, z1e⟩
end Go.Proofs.YtgdknepphkhnlaaGreatDoor.X
