/- The law FnRead, as a plain statement: what is read of a drawn text as an entry is right, and has that text; what is read as a name has that name. Conditions: those of the row's reading alone. -/
/- Part 3 of 13 of this claim's texts. -/
import Derived.Test.YtgdknepphkhnlaaGreatDoorCFnRead1
namespace Go.Proofs.YtgdknepphkhnlaaGreatDoor.X
open Go.RowKit Go.Proofs.YtgdknepphkhnlaaGreatDoorW.PrintWords Go.Proofs.YtgdknepphkhnlaaGreatDoorW.PrintLast Go.Proofs.YtgdknepphkhnlaaGreatDoorW.PrintMore
attribute [local go_sem] max2_int min2_int max_two min_two max_three min_three max_four min_four
set_option linter.unusedVariables false
set_option linter.unusedSimpArgs false
def impl_MajorOf.f (k : Nat) (a0 : ByteArray) : Option (Int) := (impl_PathOk.f k a0).bind fun t146 => (if t146 = true then ((impl_cutMajor.f k a0).bind fun bt147 => (some bt147.2)) else (some 0))
set_option maxHeartbeats 8000000 in
set_option maxRecDepth 100000 in
theorem impl_MajorOf.calls (k : Nat) (a0 : ByteArray) (r : Int) (w : World) (h : impl_MajorOf.f k a0 = some r) :
  Calls Tryz.prog 70 #[.string a0] w fun e w' => e = .returned (.int .i64 r) ∧ Below w.heap.size w w' := by
 have HB := zn (Below.refl w.heap.size w)
 have H := h
 unfold impl_MajorOf.f at H
 clear h
 obtain ⟨t146, A2, H⟩ := zm H
 try dsimp only at H
 by_cases c3 : t146 = true
 ·subst c3
  rw [if_pos rfl] at H
  obtain ⟨⟨t147, t148⟩, A4, H⟩ := zm H
  try dsimp only at H
  obtain rfl := Option.some.inj H
  go_enter Tryz.func70, Tryz.ntmps70
  go_wp2_with (first | ((with_reducible refine zi 95 rfl ?_); refine zj (some 6) Tryz.func95 #[.string a0] rfl ?_; (with_reducible refine (impl_PathOk.calls k a0 true _ A2.out).mono ?_); rintro e w5 ⟨rfl, hb⟩; refine ⟨_, rfl, ?_⟩; replace HB := zn (below_step z1r hb); (try clear hb)) | ((with_reducible refine zi 96 rfl ?_); refine zj (some 10) Tryz.func96 #[.string a0] rfl ?_; (with_reducible refine (impl_cutMajor.calls k a0 t147 t148 _ A4.out).mono ?_); rintro e w6 ⟨rfl, hb⟩; refine ⟨_, rfl, ?_⟩; replace HB := zn (below_step z1r hb); (try clear hb)))
  go_ret
  exact ⟨z1t, z1r⟩
 ·replace c3 := Bool.eq_false_iff.mpr c3
  subst c3
  rw [if_neg zk] at H
  obtain rfl := Option.some.inj H
  go_enter Tryz.func70, Tryz.ntmps70
  go_wp2_with (first | ((with_reducible refine zi 95 rfl ?_); refine zj (some 6) Tryz.func95 #[.string a0] rfl ?_; (with_reducible refine (impl_PathOk.calls k a0 false _ A2.out).mono ?_); rintro e w7 ⟨rfl, hb⟩; refine ⟨_, rfl, ?_⟩; replace HB := zn (below_step z1r hb); (try clear hb)))
  go_ret
  exact ⟨z1t, z1r⟩
def impl_partOk.l0 : Nat → ByteArray → Int → Option (Bool)
 | 0, _, _ => none
 | k + 1, x0, x3 => if x3 < (x0.size : Int) then (if 0 ≤ x3 then (if (bt x0 x3) ≥ 97 then (if (bt x0 x3) ≤ 122 then (impl_partOk.l0 k x0 (wrap64 (x3 + 1))) else (if (bt x0 x3) ≥ 65 then (if (bt x0 x3) ≤ 90 then (impl_partOk.l0 k x0 (wrap64 (x3 + 1))) else ((impl_isFigure.f (bt x0 x3)).bind fun t149 => (if t149 = true then (impl_partOk.l0 k x0 (wrap64 (x3 + 1))) else (if ((bt x0 x3) = 45) then (impl_partOk.l0 k x0 (wrap64 (x3 + 1))) else (some false))))) else ((impl_isFigure.f (bt x0 x3)).bind fun t150 => (if t150 = true then (impl_partOk.l0 k x0 (wrap64 (x3 + 1))) else (if ((bt x0 x3) = 45) then (impl_partOk.l0 k x0 (wrap64 (x3 + 1))) else (some false)))))) else (if (bt x0 x3) ≥ 65 then (if (bt x0 x3) ≤ 90 then (impl_partOk.l0 k x0 (wrap64 (x3 + 1))) else ((impl_isFigure.f (bt x0 x3)).bind fun t151 => (if t151 = true then (impl_partOk.l0 k x0 (wrap64 (x3 + 1))) else (if ((bt x0 x3) = 45) then (impl_partOk.l0 k x0 (wrap64 (x3 + 1))) else (some false))))) else ((impl_isFigure.f (bt x0 x3)).bind fun t152 => (if t152 = true then (impl_partOk.l0 k x0 (wrap64 (x3 + 1))) else (if ((bt x0 x3) = 45) then (impl_partOk.l0 k x0 (wrap64 (x3 + 1))) else (some false)))))) else (none)) else ((impl_inRange.f (x0.size : Int) 1 8).bind fun t153 => (if t153 = true then ((impl_isFigures.f k x0).bind fun t154 => (if t154 = true then ((impl_isNumber.f k x0).bind fun t155 => (some t155)) else (some true))) else (some false)))
def impl_partOk.f (k : Nat) (a0 : ByteArray) : Option (Bool) := impl_partOk.l0 k a0 0
set_option maxHeartbeats 8000000 in
set_option maxRecDepth 100000 in
theorem impl_partOk.calls (k : Nat) (a0 : ByteArray) (r : Bool) (w : World) (h : impl_partOk.f k a0 = some r) :
  Calls Tryz.prog 98 #[.string a0] w fun e w' => e = .returned (.bool r) ∧ Drawn0 w w' := by
 have H := h
 unfold impl_partOk.f at H
 clear h
 have H' := zn H
 clear H
 go_enter Tryz.func98, Tryz.ntmps98
 go_wp2
 go_loopg [3] k (fun kq v3 w' => ∃ (x3_1 : Int), v3 = .int .i64 x3_1 ∧ Aside0 (impl_partOk.l0 kq a0 x3_1 = some r) ∧ Aside0 (kq ≤ k) ∧ Drawn0 w w')
 case atStart => exact ⟨(0), z1n, H', ⟨Nat.le_refl _⟩, z1o⟩
 case round =>
  clear H'
  obtain ⟨x3_1, rfl, HA, HK1, ⟨m1, rfl⟩⟩ := hrel
  cases gk with
  | zero => exact absurd HA.out (by simp [impl_partOk.l0])
  | succ k1 =>
   have H := HA.out
   clear HA
   simp only [impl_partOk.l0] at H
   by_cases c2 : x3_1 < (a0.size : Int)
   ·rw [if_pos c2] at H
    have c2b0 := decide_eq_true c2
    clear c2
    by_cases c3 : 0 ≤ x3_1
    ·rw [if_pos c3] at H
     have c3b0 := decide_eq_true c3
     clear c3
     by_cases c5 : (bt a0 x3_1) ≥ 97
     ·rw [if_pos c5] at H
      have c5b0 := decide_eq_true c5
      clear c5
      by_cases c6 : (bt a0 x3_1) ≤ 122
      ·rw [if_pos c6] at H
       have c6b0 := decide_eq_true c6
       clear c6
       have H' := zn H
       clear H
       have p4 : 0 ≤ (x3_1 : Int) := of_decide_eq_true z1p
       have q4 : x3_1 < (a0.size : Int) := of_decide_eq_true z1p
       have hx4 := bt_at a0 x3_1
       replace p4 := eq_true p4
       replace q4 := eq_true q4
       go_wp2
       go_roundg k1
       case measure => have := HK1.out; omega
       case rel => exact ⟨(wrap64 (x3_1 + 1)), z1n, H', ⟨z1q⟩, z1o⟩
      ·rw [if_neg c6] at H
       have c6b0 := decide_eq_false c6
       clear c6
       by_cases c7 : (bt a0 x3_1) ≥ 65
       ·rw [if_pos c7] at H
        have c7b0 := decide_eq_true c7
        clear c7
        by_cases c8 : (bt a0 x3_1) ≤ 90
        ·rw [if_pos c8] at H
         have c8b0 := decide_eq_true c8
         clear c8
         have H' := zn H
         clear H
         have p4 : 0 ≤ (x3_1 : Int) := of_decide_eq_true z1p
         have q4 : x3_1 < (a0.size : Int) := of_decide_eq_true z1p
         have hx4 := bt_at a0 x3_1
         replace p4 := eq_true p4
         replace q4 := eq_true q4
         go_wp2
         go_roundg k1
         case measure => have := HK1.out; omega
         case rel => exact ⟨(wrap64 (x3_1 + 1)), z1n, H', ⟨z1q⟩, z1o⟩
        ·rw [if_neg c8] at H
         have c8b0 := decide_eq_false c8
         clear c8
         obtain ⟨t149, A9, H⟩ := zm H
         try dsimp only at H
         by_cases c10 : t149 = true
         ·subst c10
          rw [if_pos rfl] at H
          have H' := zn H
          clear H
          have p4 : 0 ≤ (x3_1 : Int) := of_decide_eq_true z1p
          have q4 : x3_1 < (a0.size : Int) := of_decide_eq_true z1p
          have hx4 := bt_at a0 x3_1
          replace p4 := eq_true p4
          replace q4 := eq_true q4
          go_wp2_with (first | (go_at_call 112; (with_reducible refine (impl_isFigure.calls (bt a0 x3_1) true _ A9.out).mono ?_); rintro e w' ⟨rfl, ⟨nd, rfl⟩⟩))
          go_roundg k1
          case measure => have := HK1.out; omega
          case rel => exact ⟨(wrap64 (x3_1 + 1)), z1n, H', ⟨z1q⟩, z1o⟩
         ·replace c10 := Bool.eq_false_iff.mpr c10
          subst c10
          rw [if_neg zk] at H
          by_cases c11 : ((bt a0 x3_1) = 45)
          ·rw [if_pos c11] at H
           have c11b0 := beq_iff_eq.mpr c11
           have c11b1 := bne_eq_false_iff_eq.mpr c11
           clear c11
           have H' := zn H
           clear H
           have p4 : 0 ≤ (x3_1 : Int) := of_decide_eq_true z1p
           have q4 : x3_1 < (a0.size : Int) := of_decide_eq_true z1p
           have hx4 := bt_at a0 x3_1
           replace p4 := eq_true p4
           replace q4 := eq_true q4
           go_wp2_with (first | (go_at_call 112; (with_reducible refine (impl_isFigure.calls (bt a0 x3_1) false _ A9.out).mono ?_); rintro e w' ⟨rfl, ⟨nd, rfl⟩⟩))
           go_roundg k1
           case measure => have := HK1.out; omega
           case rel => exact ⟨(wrap64 (x3_1 + 1)), z1n, H', ⟨z1q⟩, z1o⟩
          ·rw [if_neg c11] at H
           have c11b0 := beq_eq_false_iff_ne.mpr c11
           have c11b1 := bne_iff_ne.mpr c11
           obtain rfl := Option.some.inj H
           have p4 : 0 ≤ (x3_1 : Int) := of_decide_eq_true z1p
           have q4 : x3_1 < (a0.size : Int) := of_decide_eq_true z1p
           have hx4 := bt_at a0 x3_1
           replace p4 := eq_true p4
           replace q4 := eq_true q4
           go_wp2_with (first | (go_at_call 112; (with_reducible refine (impl_isFigure.calls (bt a0 x3_1) false _ A9.out).mono ?_); rintro e w' ⟨rfl, ⟨nd, rfl⟩⟩))
           go_ret
           exact ⟨z1n, z1o⟩
       ·rw [if_neg c7] at H
        have c7b0 := decide_eq_false c7
        clear c7
        obtain ⟨t150, A12, H⟩ := zm H
        try dsimp only at H
        by_cases c13 : t150 = true
        ·subst c13
         rw [if_pos rfl] at H
         have H' := zn H
         clear H
         have p4 : 0 ≤ (x3_1 : Int) := of_decide_eq_true z1p
         have q4 : x3_1 < (a0.size : Int) := of_decide_eq_true z1p
         have hx4 := bt_at a0 x3_1
         replace p4 := eq_true p4
         replace q4 := eq_true q4
         go_wp2_with (first | (go_at_call 112; (with_reducible refine (impl_isFigure.calls (bt a0 x3_1) true _ A12.out).mono ?_); rintro e w' ⟨rfl, ⟨nd, rfl⟩⟩))
         go_roundg k1
         case measure => have := HK1.out; omega
         case rel => exact ⟨(wrap64 (x3_1 + 1)), z1n, H', ⟨z1q⟩, z1o⟩
        ·replace c13 := Bool.eq_false_iff.mpr c13
         subst c13
         rw [if_neg zk] at H
         by_cases c14 : ((bt a0 x3_1) = 45)
         ·rw [if_pos c14] at H
          have c14b0 := beq_iff_eq.mpr c14
          have c14b1 := bne_eq_false_iff_eq.mpr c14
          clear c14
          have H' := zn H
          clear H
          have p4 : 0 ≤ (x3_1 : Int) := of_decide_eq_true z1p
          have q4 : x3_1 < (a0.size : Int) := of_decide_eq_true z1p
          have hx4 := bt_at a0 x3_1
          replace p4 := eq_true p4
          replace q4 := eq_true q4
          go_wp2_with (first | (go_at_call 112; (with_reducible refine (impl_isFigure.calls (bt a0 x3_1) false _ A12.out).mono ?_); rintro e w' ⟨rfl, ⟨nd, rfl⟩⟩))
          go_roundg k1
          case measure => have := HK1.out; omega
          case rel => exact ⟨(wrap64 (x3_1 + 1)), z1n, H', ⟨z1q⟩, z1o⟩
         ·rw [if_neg c14] at H
          have c14b0 := beq_eq_false_iff_ne.mpr c14
          have c14b1 := bne_iff_ne.mpr c14
          obtain rfl := Option.some.inj H
          have p4 : 0 ≤ (x3_1 : Int) := of_decide_eq_true z1p
          have q4 : x3_1 < (a0.size : Int) := of_decide_eq_true z1p
          have hx4 := bt_at a0 x3_1
          replace p4 := eq_true p4
          replace q4 := eq_true q4
          go_wp2_with (first | (go_at_call 112; (with_reducible refine (impl_isFigure.calls (bt a0 x3_1) false _ A12.out).mono ?_); rintro e w' ⟨rfl, ⟨nd, rfl⟩⟩))
          go_ret
          exact ⟨z1n, z1o⟩
     ·rw [if_neg c5] at H
      have c5b0 := decide_eq_false c5
      clear c5
      by_cases c15 : (bt a0 x3_1) ≥ 65
      ·rw [if_pos c15] at H
       have c15b0 := decide_eq_true c15
       clear c15
       by_cases c16 : (bt a0 x3_1) ≤ 90
       ·rw [if_pos c16] at H
        have c16b0 := decide_eq_true c16
        clear c16
        have H' := zn H
        clear H
        have p4 : 0 ≤ (x3_1 : Int) := of_decide_eq_true z1p
        have q4 : x3_1 < (a0.size : Int) := of_decide_eq_true z1p
        have hx4 := bt_at a0 x3_1
        replace p4 := eq_true p4
        replace q4 := eq_true q4
        go_wp2
        go_roundg k1
        case measure => have := HK1.out; omega
        case rel => exact ⟨(wrap64 (x3_1 + 1)), z1n, H', ⟨z1q⟩, z1o⟩
       ·rw [if_neg c16] at H
        have c16b0 := decide_eq_false c16
        clear c16
        obtain ⟨t151, A17, H⟩ := zm H
        try dsimp only at H
        by_cases c18 : t151 = true
        ·subst c18
         rw [if_pos rfl] at H
         have H' := zn H
         clear H
         have p4 : 0 ≤ (x3_1 : Int) := of_decide_eq_true z1p
         have q4 : x3_1 < (a0.size : Int) := of_decide_eq_true z1p
         have hx4 := bt_at a0 x3_1
         replace p4 := eq_true p4
         replace q4 := eq_true q4
         go_wp2_with (first | (go_at_call 112; (with_reducible refine (impl_isFigure.calls (bt a0 x3_1) true _ A17.out).mono ?_); rintro e w' ⟨rfl, ⟨nd, rfl⟩⟩))
         go_roundg k1
         case measure => have := HK1.out; omega
         case rel => exact ⟨(wrap64 (x3_1 + 1)), z1n, H', ⟨z1q⟩, z1o⟩
        ·replace c18 := Bool.eq_false_iff.mpr c18
         subst c18
         rw [if_neg zk] at H
         by_cases c19 : ((bt a0 x3_1) = 45)
         ·rw [if_pos c19] at H
          have c19b0 := beq_iff_eq.mpr c19
          have c19b1 := bne_eq_false_iff_eq.mpr c19
          clear c19
          have H' := zn H
          clear H
          have p4 : 0 ≤ (x3_1 : Int) := of_decide_eq_true z1p
          have q4 : x3_1 < (a0.size : Int) := of_decide_eq_true z1p
          have hx4 := bt_at a0 x3_1
          replace p4 := eq_true p4
          replace q4 := eq_true q4
          go_wp2_with (first | (go_at_call 112; (with_reducible refine (impl_isFigure.calls (bt a0 x3_1) false _ A17.out).mono ?_); rintro e w' ⟨rfl, ⟨nd, rfl⟩⟩))
          go_roundg k1
          case measure => have := HK1.out; omega
          case rel => exact ⟨(wrap64 (x3_1 + 1)), z1n, H', ⟨z1q⟩, z1o⟩
         ·rw [if_neg c19] at H
          have c19b0 := beq_eq_false_iff_ne.mpr c19
          have c19b1 := bne_iff_ne.mpr c19
          obtain rfl := Option.some.inj H
          have p4 : 0 ≤ (x3_1 : Int) := of_decide_eq_true z1p
          have q4 : x3_1 < (a0.size : Int) := of_decide_eq_true z1p
          have hx4 := bt_at a0 x3_1
          replace p4 := eq_true p4
          replace q4 := eq_true q4
          go_wp2_with (first | (go_at_call 112; (with_reducible refine (impl_isFigure.calls (bt a0 x3_1) false _ A17.out).mono ?_); rintro e w' ⟨rfl, ⟨nd, rfl⟩⟩))
          go_ret
          exact ⟨z1n, z1o⟩
      ·rw [if_neg c15] at H
       have c15b0 := decide_eq_false c15
       clear c15
       obtain ⟨t152, A20, H⟩ := zm H
       try dsimp only at H
       by_cases c21 : t152 = true
       ·subst c21
        rw [if_pos rfl] at H
        have H' := zn H
        clear H
        have p4 : 0 ≤ (x3_1 : Int) := of_decide_eq_true z1p
        have q4 : x3_1 < (a0.size : Int) := of_decide_eq_true z1p
        have hx4 := bt_at a0 x3_1
        replace p4 := eq_true p4
        replace q4 := eq_true q4
        go_wp2_with (first | (go_at_call 112; (with_reducible refine (impl_isFigure.calls (bt a0 x3_1) true _ A20.out).mono ?_); rintro e w' ⟨rfl, ⟨nd, rfl⟩⟩))
        go_roundg k1
        case measure => have := HK1.out; omega
        case rel => exact ⟨(wrap64 (x3_1 + 1)), z1n, H', ⟨z1q⟩, z1o⟩
       ·replace c21 := Bool.eq_false_iff.mpr c21
        subst c21
        rw [if_neg zk] at H
        by_cases c22 : ((bt a0 x3_1) = 45)
        ·rw [if_pos c22] at H
         have c22b0 := beq_iff_eq.mpr c22
         have c22b1 := bne_eq_false_iff_eq.mpr c22
         clear c22
         have H' := zn H
         clear H
         have p4 : 0 ≤ (x3_1 : Int) := of_decide_eq_true z1p
         have q4 : x3_1 < (a0.size : Int) := of_decide_eq_true z1p
         have hx4 := bt_at a0 x3_1
         replace p4 := eq_true p4
         replace q4 := eq_true q4
         go_wp2_with (first | (go_at_call 112; (with_reducible refine (impl_isFigure.calls (bt a0 x3_1) false _ A20.out).mono ?_); rintro e w' ⟨rfl, ⟨nd, rfl⟩⟩))
         go_roundg k1
         case measure => have := HK1.out; omega
         case rel => exact ⟨(wrap64 (x3_1 + 1)), z1n, H', ⟨z1q⟩, z1o⟩
        ·rw [if_neg c22] at H
         have c22b0 := beq_eq_false_iff_ne.mpr c22
         have c22b1 := bne_iff_ne.mpr c22
         obtain rfl := Option.some.inj H
         have p4 : 0 ≤ (x3_1 : Int) := of_decide_eq_true z1p
         have q4 : x3_1 < (a0.size : Int) := of_decide_eq_true z1p
         have hx4 := bt_at a0 x3_1
         replace p4 := eq_true p4
         replace q4 := eq_true q4
         go_wp2_with (first | (go_at_call 112; (with_reducible refine (impl_isFigure.calls (bt a0 x3_1) false _ A20.out).mono ?_); rintro e w' ⟨rfl, ⟨nd, rfl⟩⟩))
         go_ret
         exact ⟨z1n, z1o⟩
    ·rw [if_neg c3] at H
     exact absurd H (by simp)
   ·rw [if_neg c2] at H
    have c2b0 := decide_eq_false c2
    clear c2
    obtain ⟨t153, A23, H⟩ := zm H
    try dsimp only at H
    by_cases c24 : t153 = true
    ·subst c24
     rw [if_pos rfl] at H
     obtain ⟨t154, A25, H⟩ := zm H
     try dsimp only at H
     by_cases c26 : t154 = true
     ·subst c26
      rw [if_pos rfl] at H
      obtain ⟨t155, A27, H⟩ := zm H
      try dsimp only at H
      obtain rfl := Option.some.inj H
      go_wp2_with (first | ((with_reducible refine zi 97 rfl ?_); refine zj (some 39) Tryz.func97 #[.int .i64 (a0.size : Int), .int .i64 1, .int .i64 8] rfl ?_; (with_reducible refine (impl_inRange.calls (a0.size : Int) 1 8 true _ A23.out).mono ?_); rintro e w' ⟨rfl, ⟨nd, rfl⟩⟩; refine ⟨_, rfl, ?_⟩) | (go_at_call 113; (with_reducible refine (impl_isFigures.calls k1 a0 true _ A25.out).mono ?_); rintro e w' ⟨rfl, ⟨nd, rfl⟩⟩) | (go_at_call 103; (with_reducible refine (impl_isNumber.calls k1 a0 t155 _ A27.out).mono ?_); rintro e w' ⟨rfl, ⟨nd, rfl⟩⟩))
      go_ret
      exact ⟨z1n, z1o⟩
     ·replace c26 := Bool.eq_false_iff.mpr c26
      subst c26
      rw [if_neg zk] at H
      obtain rfl := Option.some.inj H
      go_wp2_with (first | ((with_reducible refine zi 97 rfl ?_); refine zj (some 39) Tryz.func97 #[.int .i64 (a0.size : Int), .int .i64 1, .int .i64 8] rfl ?_; (with_reducible refine (impl_inRange.calls (a0.size : Int) 1 8 true _ A23.out).mono ?_); rintro e w' ⟨rfl, ⟨nd, rfl⟩⟩; refine ⟨_, rfl, ?_⟩) | (go_at_call 113; (with_reducible refine (impl_isFigures.calls k1 a0 false _ A25.out).mono ?_); rintro e w' ⟨rfl, ⟨nd, rfl⟩⟩))
      go_ret
      exact ⟨z1n, z1o⟩
    ·replace c24 := Bool.eq_false_iff.mpr c24
     subst c24
     rw [if_neg zk] at H
     obtain rfl := Option.some.inj H
     go_wp2_with (first | ((with_reducible refine zi 97 rfl ?_); refine zj (some 39) Tryz.func97 #[.int .i64 (a0.size : Int), .int .i64 1, .int .i64 8] rfl ?_; (with_reducible refine (impl_inRange.calls (a0.size : Int) 1 8 false _ A23.out).mono ?_); rintro e w' ⟨rfl, ⟨nd, rfl⟩⟩; refine ⟨_, rfl, ?_⟩))
     go_ret
     exact ⟨z1n, z1o⟩
def impl_VersionOk.l0 : Nat → List ByteArray → Int → Option (Bool)
 | 0, _, _ => none
 | k + 1, l, i => if i < (l.length : Int) then (if 0 ≤ i then ((impl_partOk.f k (rdOf ByteArray.empty l i)).bind fun t => (if t = true then (impl_VersionOk.l0 k l (wrap64 (i + 1))) else (some false))) else (none)) else (some (decide ((l.length : Int) ≤ 4)))
def impl_VersionOk.f0 (k : Nat) (p : ByteArray) : Option (Bool) := if p.toList = ([] : List UInt8) then (some true) else ((strings_Split.f p (⟨#[46]⟩ : ByteArray)).bind fun l => (impl_VersionOk.l0 k l 0))
def impl_VersionOk.f1 (k : Nat) (c : Int) (p : ByteArray) : Option (Bool) := (impl_inRange.f c 0 1000000).bind fun t => (if t = true then (impl_VersionOk.f0 k p) else (some false))
def impl_VersionOk.f2 (k : Nat) (b c : Int) (p : ByteArray) : Option (Bool) := (impl_inRange.f b 0 1000000).bind fun t => (if t = true then (impl_VersionOk.f1 k c p) else (some false))
def impl_VersionOk.f (k : Nat) (a b c : Int) (p : ByteArray) : Option (Bool) := (impl_inRange.f a 0 1000000).bind fun t => (if t = true then (impl_VersionOk.f2 k b c p) else (some false))
theorem cell_drewN_ (w : World) (n : Nat) (a : Addr) : (w.drewN n).cell? a = w.cell? a := by
 induction n generalizing w with
 | zero => rfl
 | succ n ih => exact ih _
set_option maxHeartbeats 8000000 in
set_option maxRecDepth 100000 in
theorem impl_VersionOk.calls (k : Nat) (a0_0 : Int) (a0_1 : Int) (a0_2 : Int) (a0_3 : ByteArray) (r : Bool) (w : World) (h : impl_VersionOk.f k a0_0 a0_1 a0_2 a0_3 = some r) :
  Calls Tryz.prog 71 #[.agg #[.int .i64 a0_0, .int .i64 a0_1, .int .i64 a0_2, .string a0_3]] w fun e w' => e = .returned (.bool r) ∧ Below w.heap.size w w' := by
 have HB := zn (Below.refl w.heap.size w)
 have H' := zn h
 clear h
 have ix0 : ∀ W, (Instr.index 116 (.agg #[.int .i64 a0_0, .int .i64 a0_1, .int .i64 a0_2]) (.int .i64 0)).run Tryz.prog W = .ok (.int .i64 a0_0) W := fun W => by simp [Instr.index, run_underlying Tryz.underlying116, asIntOf, go_sem]
 have ix1 : ∀ W, (Instr.index 116 (.agg #[.int .i64 a0_0, .int .i64 a0_1, .int .i64 a0_2]) (.int .i64 1)).run Tryz.prog W = .ok (.int .i64 a0_1) W := fun W => by simp [Instr.index, run_underlying Tryz.underlying116, asIntOf, go_sem]
 have ix2 : ∀ W, (Instr.index 116 (.agg #[.int .i64 a0_0, .int .i64 a0_1, .int .i64 a0_2]) (.int .i64 2)).run Tryz.prog W = .ok (.int .i64 a0_2) W := fun W => by simp [Instr.index, run_underlying Tryz.underlying116, asIntOf, go_sem]
 have hu27 := Tryz.underlying25
 go_enter Tryz.func71, Tryz.ntmps71
 go_wp2
 obtain ⟨W1, hW1⟩ : ∃ W1, W1 = w.alloc (Obj.cells #[Value.int IntKind.i64 a0_0, Value.int IntKind.i64 a0_1, Value.int IntKind.i64 a0_2, Value.string a0_3] 25) := ⟨_, rfl⟩
 have hc3 : W1.cell? ⟨w.heap.size, 3, none⟩ = some (.string a0_3) := by rw [hW1]; exact (World.cell?_alloc_at (hn := rfl) ..).trans rfl
 have HB1 := zn (show Below w.heap.size w W1 by rw [hW1]; exact (Below.refl _ _).alloc (Nat.le_refl _) _)
 rw [← hW1]
 clear hW1 HB
 go_loopw [15] (fun v15 wr => ∃ (i : Nat), v15 = .int .i64 (i : Int) ∧ i ≤ 3 ∧ wr.cell? ⟨w.heap.size, 3, none⟩ = some (.string a0_3) ∧ Aside0 (Below w.heap.size w wr) ∧ Aside0 (i = 0 ∧ impl_VersionOk.f k a0_0 a0_1 a0_2 a0_3 = some r ∨ i = 1 ∧ impl_VersionOk.f2 k a0_1 a0_2 a0_3 = some r ∨ i = 2 ∧ impl_VersionOk.f1 k a0_2 a0_3 = some r ∨ i = 3 ∧ impl_VersionOk.f0 k a0_3 = some r))
  (fun v15 _ => 3 - (intOf v15).toNat)
 case atStart => exact ⟨0, rfl, z1k, hc3, HB1, ⟨.inl ⟨rfl, H'.out⟩⟩⟩
 case round =>
  clear H' hc3 HB1
  obtain ⟨i, rfl, hi, hc3, HB, HA⟩ := hrel
  rcases HA.out with ⟨rfl, h⟩ | ⟨rfl, h⟩ | ⟨rfl, h⟩ | ⟨rfl, h⟩
  ·obtain ⟨t, A1, h2⟩ := Option.bind_eq_some_iff.mp h
   have A10 := zn A1
   clear A1 HA h
   cases t with
   | true =>
    have HT := zn h2
    clear h2
    go_wp2_with (go_at_call 97; refine (impl_inRange.calls a0_0 0 1000000 true _ A10.out).mono ?_; rintro e w' ⟨rfl, ⟨nd, rfl⟩⟩)
    exact ⟨⟨1, rfl, z1k, (cell_drewN_ _ _ _).trans hc3, ⟨pw_below_drewN HB.out nd⟩, ⟨.inr (.inl ⟨rfl, HT.out⟩)⟩⟩, z1l⟩
   | false =>
    obtain rfl := Option.some.inj h2
    clear h2
    go_wp2_with (go_at_call 97; refine (impl_inRange.calls a0_0 0 1000000 false _ A10.out).mono ?_; rintro e w' ⟨rfl, ⟨nd, rfl⟩⟩)
    go_ret
    exact ⟨rfl, pw_below_drewN HB.out nd⟩
  ·obtain ⟨t, A1, h2⟩ := Option.bind_eq_some_iff.mp h
   have A10 := zn A1
   clear A1 HA h
   cases t with
   | true =>
    have HT := zn h2
    clear h2
    go_wp2_with (go_at_call 97; refine (impl_inRange.calls a0_1 0 1000000 true _ A10.out).mono ?_; rintro e w' ⟨rfl, ⟨nd, rfl⟩⟩)
    exact ⟨⟨2, rfl, z1k, (cell_drewN_ _ _ _).trans hc3, ⟨pw_below_drewN HB.out nd⟩, ⟨.inr (.inr (.inl ⟨rfl, HT.out⟩))⟩⟩, z1l⟩
   | false =>
    obtain rfl := Option.some.inj h2
    clear h2
    go_wp2_with (go_at_call 97; refine (impl_inRange.calls a0_1 0 1000000 false _ A10.out).mono ?_; rintro e w' ⟨rfl, ⟨nd, rfl⟩⟩)
    go_ret
    exact ⟨rfl, pw_below_drewN HB.out nd⟩
  ·obtain ⟨t, A1, h2⟩ := Option.bind_eq_some_iff.mp h
   have A10 := zn A1
   clear A1 HA h
   cases t with
   | true =>
    have HT := zn h2
    clear h2
    go_wp2_with (go_at_call 97; refine (impl_inRange.calls a0_2 0 1000000 true _ A10.out).mono ?_; rintro e w' ⟨rfl, ⟨nd, rfl⟩⟩)
    exact ⟨⟨3, rfl, z1k, (cell_drewN_ _ _ _).trans hc3, ⟨pw_below_drewN HB.out nd⟩, ⟨.inr (.inr (.inr ⟨rfl, HT.out⟩))⟩⟩, z1l⟩
   | false =>
    obtain rfl := Option.some.inj h2
    clear h2
    go_wp2_with (go_at_call 97; refine (impl_inRange.calls a0_2 0 1000000 false _ A10.out).mono ?_; rintro e w' ⟨rfl, ⟨nd, rfl⟩⟩)
    go_ret
    exact ⟨rfl, pw_below_drewN HB.out nd⟩
  ·clear HA ix0 ix1 ix2
   have hcn : ∀ n, (wr.drewN n).cell? ⟨w.heap.size, 3, none⟩ = some (.string a0_3) := fun n => (cell_drewN_ _ _ _).trans hc3
   unfold impl_VersionOk.f0 at h
   by_cases c4 : a0_3.toList = ([] : List UInt8)
   ·rw [if_pos c4] at h
    obtain rfl := Option.some.inj h
    clear h
    go_wp2
    go_ret
    exact ⟨rfl, HB.out⟩
   ·rw [if_neg c4] at h
    have c4b : (a0_3.toList == ([] : List UInt8)) = false := beq_eq_false_iff_ne.2 c4
    obtain ⟨l, A1, h2⟩ := Option.bind_eq_some_iff.mp h
    clear h
    have A2 := zn A1
    clear A1
    have H' := zn h2
    clear h2
    go_wp2_with (go_at_call 76; refine (strings_Split.calls a0_3 (⟨#[46]⟩ : ByteArray) l _ A2.out).mono ?_; rintro e w3 ⟨v122, rfl, ho0, hb⟩; have n_ := zo (Kd.R_lower ho0 (below_size z1r)) (below_step z1r hb); clear HB; obtain ⟨HO, HB⟩ := n_; (try clear hb); (try clear ho0); obtain ⟨Ao4, co4, eo4⟩ := Kd.R_slice HO.out; subst eo4)
    clear hc3 hcn c4
    go_loopg [30] k (fun kq v30 w' => ∃ (x_1 : Int), v30 = .int .i64 x_1 ∧ Aside0 (impl_VersionOk.l0 kq l x_1 = some r) ∧ Aside0 (kq ≤ k) ∧ Aside0 (Kd.R Kd.string 9 w' w.heap.size (fun _ => True) (.slice Ao4 l.length co4) l) ∧ Aside0 (Below w.heap.size w w'))
    case atStart => exact ⟨(0), z1n, H', ⟨Nat.le_refl _⟩, ⟨z1x⟩, ⟨z1r⟩⟩
    case round =>
     clear H' HO HB A2
     obtain ⟨x_1, rfl, HA, HK1, HO, HB⟩ := hrel
     cases gk with
     | zero => exact absurd HA.out (by simp [impl_VersionOk.l0])
     | succ k1 =>
      have H := HA.out
      clear HA
      simp only [impl_VersionOk.l0] at H
      by_cases c5 : x_1 < (l.length : Int)
      ·rw [if_pos c5] at H
       have c5b0 := decide_eq_true c5
       clear c5
       by_cases c6 : 0 ≤ x_1
       ·rw [if_pos c6] at H
        have c6b0 := decide_eq_true c6
        clear c6
        obtain ⟨t125, A8, H⟩ := zm H
        try dsimp only at H
        have p124 : 0 ≤ (x_1 : Int) := of_decide_eq_true z1p
        have q124 : x_1 < (l.length : Int) := of_decide_eq_true z1p
        obtain ⟨ad124, e124, hx124_0⟩ := Kd.at_string (Kd.R_reads' HO.out).2.2 x_1 p124 q124
        cases e124
        replace p124 := eq_true p124
        replace q124 := eq_true q124
        by_cases c9 : t125 = true
        ·subst c9
         have H1 : (impl_VersionOk.l0 k1 l (wrap64 (x_1 + 1))) = some r := by rw [if_pos rfl] at H; exact H
         clear H
         have H' := zn H1
         clear H1
         go_wp2_with (go_at_call 98; (with_reducible refine (impl_partOk.calls k1 (rdOf ByteArray.empty l x_1) true _ A8.out).mono ?_); rintro e w' ⟨rfl, ⟨nd, rfl⟩⟩)
         go_roundg k1
         case measure => have := HK1.out; omega
         case rel => exact ⟨(wrap64 (x_1 + 1)), z1n, H', ⟨z1q⟩, ⟨z1x⟩, ⟨z1r⟩⟩
        ·replace c9 := Bool.eq_false_iff.mpr c9
         subst c9
         have H1 : (some false) = some r := by rw [if_neg (show ¬ (false = true) by decide)] at H; exact H
         clear H
         obtain rfl := Option.some.inj H1
         clear H1
         go_wp2_with (go_at_call 98; (with_reducible refine (impl_partOk.calls k1 (rdOf ByteArray.empty l x_1) false _ A8.out).mono ?_); rintro e w' ⟨rfl, ⟨nd, rfl⟩⟩)
         go_ret
         exact ⟨z1n, z1r⟩
       ·rw [if_neg c6] at H
        exact absurd H (by simp)
      ·rw [if_neg c5] at H
       have c5b0 := decide_eq_false c5
       clear c5
       obtain rfl := Option.some.inj H
       clear H
       go_wp2
       go_ret
       exact ⟨z1n, z1r⟩
def impl_Fits.f (k : Nat) (a0 : ByteArray) (a1_0 : Int) (a1_1 : Int) (a1_2 : Int) (a1_3 : ByteArray) : Option (Bool) := (impl_MajorOf.f k a0).bind fun t157 => (if t157 > 0 then ((impl_VersionOk.f k a1_0 a1_1 a1_2 a1_3).bind fun t158 => (if t158 = true then (if a1_0 = t157 then (some true) else (if a1_0 = 0 then (some (t157 == 1)) else (some false))) else (some false))) else (some false))
set_option maxHeartbeats 8000000 in
set_option maxRecDepth 100000 in
theorem impl_Fits.calls (k : Nat) (a0 : ByteArray) (a1_0 : Int) (a1_1 : Int) (a1_2 : Int) (a1_3 : ByteArray) (r : Bool) (w : World) (h : impl_Fits.f k a0 a1_0 a1_1 a1_2 a1_3 = some r) :
  Calls Tryz.prog 35 #[.string a0, .agg #[.int .i64 a1_0, .int .i64 a1_1, .int .i64 a1_2, .string a1_3]] w fun e w' => e = .returned (.bool r) ∧ Below w.heap.size w w' := by
 have hu25 := Tryz.underlying25
 have HB := zn (Below.refl w.heap.size w)
 have H := h
 unfold impl_Fits.f at H
 clear h
 obtain ⟨t157, A3, H⟩ := zm H
 try dsimp only at H
 by_cases c4 : t157 > 0
 ·rw [if_pos c4] at H
  have c4b0 := decide_eq_true c4
  clear c4
  obtain ⟨t158, A5, H⟩ := zm H
  try dsimp only at H
  by_cases c6 : t158 = true
  ·subst c6
   rw [if_pos rfl] at H
   by_cases c7 : a1_0 = t157
   ·rw [if_pos c7] at H
    have c7b0 := beq_iff_eq.mpr c7
    have c7b1 := bne_eq_false_iff_eq.mpr c7
    clear c7
    obtain rfl := Option.some.inj H
    go_enter Tryz.func35, Tryz.ntmps35
    go_wp2_with (first | ((with_reducible refine zr 3 rfl ?_); refine zt 25 #[.int .i64 a1_0, .int .i64 a1_1, .int .i64 a1_2, .string a1_3] ?_; intro gb156 hg w8 hbox hb; have n_ := zv (below_step z1r hb) hbox (z8j : w.heap.size ≤ gb156) (z8j : w.heap.size ≤ gb156); clear HB; obtain ⟨HB, BK156, GW156, GE156⟩ := n_; clear hb hbox hg) | ((with_reducible refine zi 70 rfl ?_); refine zj (some 7) Tryz.func70 #[.string a0] rfl ?_; (with_reducible refine (impl_MajorOf.calls k a0 t157 _ A3.out).mono ?_); rintro e w9 ⟨rfl, hb⟩; refine ⟨_, rfl, ?_⟩; have n_ := zo (blk_below (zu BK156.out) hb) (below_step z1y hb); clear BK156 HB; obtain ⟨BK156, HB⟩ := n_; (try clear hb); obtain ⟨hcz10_0, hcz10_1, hcz10_2, hcz10_3, hfz10_0, hfz10_1, hfz10_2, hfz10_3⟩ := zf BK156.out) | (go_at_call 71; (with_reducible refine (impl_VersionOk.calls k a1_0 a1_1 a1_2 a1_3 true _ A5.out).mono ?_); rintro e w11 ⟨rfl, hb⟩; have n_ := zo (blk_below (zu BK156.out) hb) (below_step z1y hb); clear BK156 HB; obtain ⟨BK156, HB⟩ := n_; (try clear hb); obtain ⟨hcz12_0, hcz12_1, hcz12_2, hcz12_3, hfz12_0, hfz12_1, hfz12_2, hfz12_3⟩ := zf BK156.out))
    go_ret
    exact ⟨z1t, z1y⟩
   ·rw [if_neg c7] at H
    have c7b0 := beq_eq_false_iff_ne.mpr c7
    have c7b1 := bne_iff_ne.mpr c7
    by_cases c13 : a1_0 = 0
    ·rw [if_pos c13] at H
     have c13b0 := beq_iff_eq.mpr c13
     have c13b1 := bne_eq_false_iff_eq.mpr c13
     clear c13
     obtain rfl := Option.some.inj H
     go_enter Tryz.func35, Tryz.ntmps35
     go_wp2_with (first | ((with_reducible refine zr 3 rfl ?_); refine zt 25 #[.int .i64 a1_0, .int .i64 a1_1, .int .i64 a1_2, .string a1_3] ?_; intro gb156 hg w14 hbox hb; have n_ := zv (below_step z1r hb) hbox (z8j : w.heap.size ≤ gb156) (z8j : w.heap.size ≤ gb156); clear HB; obtain ⟨HB, BK156, GW156, GE156⟩ := n_; clear hb hbox hg) | ((with_reducible refine zi 70 rfl ?_); refine zj (some 7) Tryz.func70 #[.string a0] rfl ?_; (with_reducible refine (impl_MajorOf.calls k a0 t157 _ A3.out).mono ?_); rintro e w15 ⟨rfl, hb⟩; refine ⟨_, rfl, ?_⟩; have n_ := zo (blk_below (zu BK156.out) hb) (below_step z1y hb); clear BK156 HB; obtain ⟨BK156, HB⟩ := n_; (try clear hb); obtain ⟨hcz16_0, hcz16_1, hcz16_2, hcz16_3, hfz16_0, hfz16_1, hfz16_2, hfz16_3⟩ := zf BK156.out) | (go_at_call 71; (with_reducible refine (impl_VersionOk.calls k a1_0 a1_1 a1_2 a1_3 true _ A5.out).mono ?_); rintro e w17 ⟨rfl, hb⟩; have n_ := zo (blk_below (zu BK156.out) hb) (below_step z1y hb); clear BK156 HB; obtain ⟨BK156, HB⟩ := n_; (try clear hb); obtain ⟨hcz18_0, hcz18_1, hcz18_2, hcz18_3, hfz18_0, hfz18_1, hfz18_2, hfz18_3⟩ := zf BK156.out))
     go_ret
     exact ⟨z1t, z1y⟩
    ·rw [if_neg c13] at H
     have c13b0 := beq_eq_false_iff_ne.mpr c13
     have c13b1 := bne_iff_ne.mpr c13
     obtain rfl := Option.some.inj H
     go_enter Tryz.func35, Tryz.ntmps35
     go_wp2_with (first | ((with_reducible refine zr 3 rfl ?_); refine zt 25 #[.int .i64 a1_0, .int .i64 a1_1, .int .i64 a1_2, .string a1_3] ?_; intro gb156 hg w19 hbox hb; have n_ := zv (below_step z1r hb) hbox (z8j : w.heap.size ≤ gb156) (z8j : w.heap.size ≤ gb156); clear HB; obtain ⟨HB, BK156, GW156, GE156⟩ := n_; clear hb hbox hg) | ((with_reducible refine zi 70 rfl ?_); refine zj (some 7) Tryz.func70 #[.string a0] rfl ?_; (with_reducible refine (impl_MajorOf.calls k a0 t157 _ A3.out).mono ?_); rintro e w20 ⟨rfl, hb⟩; refine ⟨_, rfl, ?_⟩; have n_ := zo (blk_below (zu BK156.out) hb) (below_step z1y hb); clear BK156 HB; obtain ⟨BK156, HB⟩ := n_; (try clear hb); obtain ⟨hcz21_0, hcz21_1, hcz21_2, hcz21_3, hfz21_0, hfz21_1, hfz21_2, hfz21_3⟩ := zf BK156.out) | (go_at_call 71; (with_reducible refine (impl_VersionOk.calls k a1_0 a1_1 a1_2 a1_3 true _ A5.out).mono ?_); rintro e w22 ⟨rfl, hb⟩; have n_ := zo (blk_below (zu BK156.out) hb) (below_step z1y hb); clear BK156 HB; obtain ⟨BK156, HB⟩ := n_; (try clear hb); obtain ⟨hcz23_0, hcz23_1, hcz23_2, hcz23_3, hfz23_0, hfz23_1, hfz23_2, hfz23_3⟩ := zf BK156.out))
     go_ret
     exact ⟨z1t, z1y⟩
  ·replace c6 := Bool.eq_false_iff.mpr c6
   subst c6
   rw [if_neg zk] at H
   obtain rfl := Option.some.inj H
   go_enter Tryz.func35, Tryz.ntmps35
   go_wp2_with (first | ((with_reducible refine zr 3 rfl ?_); refine zt 25 #[.int .i64 a1_0, .int .i64 a1_1, .int .i64 a1_2, .string a1_3] ?_; intro gb156 hg w24 hbox hb; have n_ := zv (below_step z1r hb) hbox (z8j : w.heap.size ≤ gb156) (z8j : w.heap.size ≤ gb156); clear HB; obtain ⟨HB, BK156, GW156, GE156⟩ := n_; clear hb hbox hg) | ((with_reducible refine zi 70 rfl ?_); refine zj (some 7) Tryz.func70 #[.string a0] rfl ?_; (with_reducible refine (impl_MajorOf.calls k a0 t157 _ A3.out).mono ?_); rintro e w25 ⟨rfl, hb⟩; refine ⟨_, rfl, ?_⟩; have n_ := zo (blk_below (zu BK156.out) hb) (below_step z1y hb); clear BK156 HB; obtain ⟨BK156, HB⟩ := n_; (try clear hb); obtain ⟨hcz26_0, hcz26_1, hcz26_2, hcz26_3, hfz26_0, hfz26_1, hfz26_2, hfz26_3⟩ := zf BK156.out) | (go_at_call 71; (with_reducible refine (impl_VersionOk.calls k a1_0 a1_1 a1_2 a1_3 false _ A5.out).mono ?_); rintro e w27 ⟨rfl, hb⟩; have n_ := zo (blk_below (zu BK156.out) hb) (below_step z1y hb); clear BK156 HB; obtain ⟨BK156, HB⟩ := n_; (try clear hb)))
   go_ret
   exact ⟨z1t, z1y⟩
 ·rw [if_neg c4] at H
  have c4b0 := decide_eq_false c4
  clear c4
  obtain rfl := Option.some.inj H
  go_enter Tryz.func35, Tryz.ntmps35
  go_wp2_with (first | ((with_reducible refine zr 3 rfl ?_); refine zt 25 #[.int .i64 a1_0, .int .i64 a1_1, .int .i64 a1_2, .string a1_3] ?_; intro gb156 hg w28 hbox hb; have n_ := zv (below_step z1r hb) hbox (z8j : w.heap.size ≤ gb156) (z8j : w.heap.size ≤ gb156); clear HB; obtain ⟨HB, BK156, GW156, GE156⟩ := n_; clear hb hbox hg) | ((with_reducible refine zi 70 rfl ?_); refine zj (some 7) Tryz.func70 #[.string a0] rfl ?_; (with_reducible refine (impl_MajorOf.calls k a0 t157 _ A3.out).mono ?_); rintro e w29 ⟨rfl, hb⟩; refine ⟨_, rfl, ?_⟩; have n_ := zo (blk_below (zu BK156.out) hb) (below_step z1y hb); clear BK156 HB; obtain ⟨BK156, HB⟩ := n_; (try clear hb)))
  go_ret
  exact ⟨z1t, z1y⟩
def impl_NeedOk.f (k : Nat) (a0_0 : ByteArray) (a0_1 : Int) (a0_2 : Int) (a0_3 : Int) (a0_4 : ByteArray) : Option (Bool) := (impl_Fits.f k a0_0 a0_1 a0_2 a0_3 a0_4).bind fun t160 => (some t160)
set_option maxHeartbeats 8000000 in
set_option maxRecDepth 100000 in
theorem impl_NeedOk.calls (k : Nat) (a0_0 : ByteArray) (a0_1 : Int) (a0_2 : Int) (a0_3 : Int) (a0_4 : ByteArray) (r : Bool) (w : World) (h : impl_NeedOk.f k a0_0 a0_1 a0_2 a0_3 a0_4 = some r) :
  Calls Tryz.prog 16 #[.agg #[.string a0_0, .int .i64 a0_1, .int .i64 a0_2, .int .i64 a0_3, .string a0_4]] w fun e w' => e = .returned (.bool r) ∧ Below w.heap.size w w' := by
 have hu35 := Tryz.underlying35
 have hu25 := Tryz.underlying25
 have HB := zn (Below.refl w.heap.size w)
 have H := h
 unfold impl_NeedOk.f at H
 clear h
 obtain ⟨t160, A2, H⟩ := zm H
 try dsimp only at H
 obtain rfl := Option.some.inj H
 go_enter Tryz.func16, Tryz.ntmps16
 go_wp2_with (first | ((with_reducible refine zr 1 rfl ?_); refine zt 35 #[.string a0_0, .int .i64 a0_1, .int .i64 a0_2, .int .i64 a0_3, .string a0_4] ?_; intro gb159 hg w3 hbox hb; have n_ := zv (below_step z1r hb) hbox (z8j : w.heap.size ≤ gb159) (z8j : w.heap.size ≤ gb159); clear HB; obtain ⟨HB, BK159, GW159, GE159⟩ := n_; clear hb hbox hg; obtain ⟨hcz4_0, hcz4_1, hcz4_2, hcz4_3, hcz4_4, hfz4_0, hfz4_1, hfz4_2, hfz4_3, hfz4_4⟩ := zg BK159.out) | ((with_reducible refine zi 35 rfl ?_); refine zj (some 7) Tryz.func35 #[.string a0_0, .agg #[.int .i64 a0_1, .int .i64 a0_2, .int .i64 a0_3, .string a0_4]] rfl ?_; (with_reducible refine (impl_Fits.calls k a0_0 a0_1 a0_2 a0_3 a0_4 t160 _ A2.out).mono ?_); rintro e w5 ⟨rfl, hb⟩; refine ⟨_, rfl, ?_⟩; have n_ := zo (blk_below (zu BK159.out) hb) (below_step (by repeat (first | (with_reducible first | exact HB.out | apply below_alloc | apply pw_below_drewN | apply below_drew1 | refine below_set ?_ GE159.out) | exact HB.out)) hb); clear BK159 HB; obtain ⟨BK159, HB⟩ := n_; (try clear hb)))
 go_ret
 exact ⟨z1t, by repeat (first | (with_reducible first | exact HB.out | apply below_alloc | apply pw_below_drewN | apply below_drew1 | refine below_set ?_ GE159.out) | exact HB.out)⟩
def impl_ascending.l0 : Nat → List (S35) → Int → List (S35) → Int → Int → Option (Bool)
 | 0, _, _, _, _, _ => none
 | k + 1, x0, x1, x7, x8, x9 => if x9 < x8 then (if 0 ≤ x9 then (if x9 < (x7.length : Int) then ((impl_NeedOk.f k ((rd_T35 x7 x9).f0) ((rd_T35 x7 x9).f1.f0) ((rd_T35 x7 x9).f1.f1) ((rd_T35 x7 x9).f1.f2) ((rd_T35 x7 x9).f1.f3)).bind fun t163 => (if t163 = true then (if x9 > 0 then (if 0 ≤ (wrap64 (x9 - 1)) then (if (wrap64 (x9 - 1)) < (x0.length : Int) then (if ((Op.bytesLess (((rd_T35 x0 (wrap64 (x9 - 1))).f0).toList) (((rd_T35 x7 x9).f0).toList)) = true) then (impl_ascending.l0 k x0 x1 x7 x8 (wrap64 (x9 + 1))) else (some false)) else (none)) else (none)) else (impl_ascending.l0 k x0 x1 x7 x8 (wrap64 (x9 + 1)))) else (some false))) else (none)) else (none)) else (some (decide ((x0.length : Int) ≤ x1)))
def impl_ascending.f (k : Nat) (l0 : List (S35)) (a1 : Int) : Option (Bool) := impl_ascending.l0 k l0 a1 l0 (l0.length : Int) 0
def impl_ascending.T4 : Bool × List (List Nat × List Nat) := (true, [([], []), ([0], [0]), ([1], [1]), ([2, 1], [2]), ([3], [3]), ([4, 3], [3, 4]), ([5, 3, 3], [3, 5]), ([6], [6]), ([7, 6], [6, 7]), ([6], [6]), ([6], [6]), ([10, 6], [6, 10]), ([9, 11, 6], [6, 9, 11]), ([12, 6], [6, 12]), ([13, 6], [6, 13]), ([8, 14, 6], [6, 8, 14]), ([6, 15, 3], [3, 6, 15]), ([3, 16], [3, 16])])
def impl_ascending.B4 : List Nat := [0, 1, 3, 7, 15, 31, 63, 127, 255, 127, 127, 1151, 3711, 7807, 15999, 32767, 65535, 131071]
theorem impl_ascending.tab4 : rtab .any (opsOf Tryz.f36 4) = impl_ascending.T4 := by kernel_rfl
theorem impl_ascending.bits4 : waitsOk impl_ascending.T4.2 impl_ascending.B4 = true := by kernel_rfl
set_option maxHeartbeats 8000000 in
set_option maxRecDepth 100000 in
theorem impl_ascending.calls (k : Nat) (A0 : Option Addr) (c0 : Nat) (l0 : List (S35)) (a1 : Int) (r : Bool) (w : World) (hr0 : Kd.C k35 w A0 l0.length l0) (hc0 : l0.length ≤ c0) (h : impl_ascending.f k l0 a1 = some r) :
  Calls Tryz.prog 36 #[.slice A0 l0.length c0, .int .i64 a1] w fun e w' => e = .returned (.bool r) ∧ Below w.heap.size w w' := by
 have hu35 := Tryz.underlying35
 have HR0 := zn hr0
 have HC0 := zn hc0
 clear hr0 hc0
 have HB := zn (Below.refl w.heap.size w)
 have H := h
 unfold impl_ascending.f at H
 clear h
 have H' := zn H
 clear H
 go_enter Tryz.func36, Tryz.ntmps36
 go_wp2
 go_loopg [9] k (fun kq v9 w' => ∃ (x9_1 : Int), v9 = .int .i64 x9_1 ∧ Aside0 (impl_ascending.l0 kq l0 a1 l0 (l0.length : Int) x9_1 = some r) ∧ Aside0 (kq ≤ k) ∧ Aside0 (Below w.heap.size w w'))
 case atStart => exact ⟨(0), z1n, H', ⟨Nat.le_refl _⟩, ⟨z1r⟩⟩
 case round =>
  clear H'
  try clear p2
  obtain ⟨x9_1, rfl, HA, HK1, HB⟩ := hrel
  cases gk with
  | zero => exact absurd HA.out (by simp [impl_ascending.l0])
  | succ k1 =>
   have H := HA.out
   clear HA
   simp only [impl_ascending.l0] at H
   by_cases c3 : x9_1 < (l0.length : Int)
   ·rw [if_pos c3] at H
    have c3b0 := decide_eq_true c3
    clear c3
    by_cases c4 : 0 ≤ x9_1
    ·rw [if_pos c4] at H
     have c4b0 := decide_eq_true c4
     clear c4
     by_cases c5 : x9_1 < (l0.length : Int)
     ·rw [if_pos c5] at H
      have c5b0 := decide_eq_true c5
      clear c5
      obtain ⟨t163, A6, H⟩ := zm H
      try dsimp only at H
      by_cases c7 : t163 = true
      ·subst c7
       rw [if_pos rfl] at H
       by_cases c8 : x9_1 > 0
       ·rw [if_pos c8] at H
        have c8b0 := decide_eq_true c8
        clear c8
        obtain ⟨ji9, hji9⟩ : ∃ j_ : Int, (wrap64 (x9_1 - 1)) = j_ := ⟨_, rfl⟩
        replace H : (if 0 ≤ (ji9) then (if (ji9) < (l0.length : Int) then (if ((Op.bytesLess (((rd_T35 l0 (ji9)).f0).toList) (((rd_T35 l0 x9_1).f0).toList)) = true) then (impl_ascending.l0 k1 l0 a1 l0 (l0.length : Int) (wrap64 (x9_1 + 1))) else (some false)) else (none)) else (none)) = some r := by first | (rw [hji9] at H; exact H) | (simp only [hji9] at H ⊢; exact H)
        (try rw [hji9] at A6)
        have hji9w : (IntKind.i64.wrap (x9_1 - 1)) = ji9 := (i64_w _).trans hji9
        by_cases c10 : 0 ≤ (ji9)
        ·rw [if_pos c10] at H
         have c10b0 := decide_eq_true c10
         clear c10
         by_cases c11 : (ji9) < (l0.length : Int)
         ·rw [if_pos c11] at H
          have c11b0 := decide_eq_true c11
          clear c11
          by_cases c12 : ((Op.bytesLess (((rd_T35 l0 (ji9)).f0).toList) (((rd_T35 l0 x9_1).f0).toList)) = true)
          ·rw [if_pos c12] at H
           have c12b0 : (Op.bytesLess (((rd_T35 l0 (ji9)).f0).toList) (((rd_T35 l0 x9_1).f0).toList)) = true := c12
           have c12e : (Op.bytesLess (((rd_T35 l0 x9_1).f0).toList) (((rd_T35 l0 (ji9)).f0).toList) || ((rd_T35 l0 x9_1).f0).toList == ((rd_T35 l0 (ji9)).f0).toList) = false := Y.le_false c12b0
           clear c12
           have H' := zn H
           clear H
           have p161 : 0 ≤ (x9_1 : Int) := of_decide_eq_true z1p
           have q161 : x9_1 < (l0.length : Int) := of_decide_eq_true z1p
           obtain ⟨ad161, e161, hx161_0, hx161_1, hx161_2, hx161_3, hx161_4⟩ := at_T35 HR0.out x9_1 p161 q161
           cases e161
           replace hx161_0 := zz HB.out hx161_0
           replace hx161_1 := zz HB.out hx161_1
           replace hx161_2 := zz HB.out hx161_2
           replace hx161_3 := zz HB.out hx161_3
           replace hx161_4 := zz HB.out hx161_4
           replace p161 := eq_true p161
           replace q161 := eq_true q161
           try go_wp2_with (first | ((with_reducible refine zr 6 rfl ?_); refine zt 35 #[.string ⟨#[]⟩, .int .i64 0, .int .i64 0, .int .i64 0, .string ⟨#[]⟩] ?_; intro gb162 hg w13 hbox hb; have n_ := zv (below_step z1r hb) hbox (z8j : w.heap.size ≤ gb162) (z8j : w.heap.size ≤ gb162); clear HB; obtain ⟨HB, BK162, GW162, GE162⟩ := n_; clear hb hbox hg; obtain ⟨hcz14_0, hcz14_1, hcz14_2, hcz14_3, hcz14_4, hfz14_0, hfz14_1, hfz14_2, hfz14_3, hfz14_4⟩ := zg BK162.out))
           have n0_ : Aside0 ((((((w13.setCell ⟨gb162, 0, none⟩ (.string ((rd_T35 l0 x9_1).f0))).setCell ⟨gb162, 1, none⟩ (.int .i64 ((rd_T35 l0 x9_1).f1.f0))).setCell ⟨gb162, 2, none⟩ (.int .i64 ((rd_T35 l0 x9_1).f1.f1))).setCell ⟨gb162, 3, none⟩ (.int .i64 ((rd_T35 l0 x9_1).f1.f2))).setCell ⟨gb162, 4, none⟩ (.string ((rd_T35 l0 x9_1).f1.f3))).heap[gb162]? = some (.cells #[.string ((rd_T35 l0 x9_1).f0), .int .i64 ((rd_T35 l0 x9_1).f1.f0), .int .i64 ((rd_T35 l0 x9_1).f1.f1), .int .i64 ((rd_T35 l0 x9_1).f1.f2), .string ((rd_T35 l0 x9_1).f1.f3)] 35 (0, 0))) := ⟨z1z⟩
           have n1_ : Aside0 (Below w.heap.size w (((((w13.setCell ⟨gb162, 0, none⟩ (.string ((rd_T35 l0 x9_1).f0))).setCell ⟨gb162, 1, none⟩ (.int .i64 ((rd_T35 l0 x9_1).f1.f0))).setCell ⟨gb162, 2, none⟩ (.int .i64 ((rd_T35 l0 x9_1).f1.f1))).setCell ⟨gb162, 3, none⟩ (.int .i64 ((rd_T35 l0 x9_1).f1.f2))).setCell ⟨gb162, 4, none⟩ (.string ((rd_T35 l0 x9_1).f1.f3)))) := ⟨z2a⟩
           (try clear BK162)
           (try clear HB)
           generalize (((((w13.setCell ⟨gb162, 0, none⟩ (.string ((rd_T35 l0 x9_1).f0))).setCell ⟨gb162, 1, none⟩ (.int .i64 ((rd_T35 l0 x9_1).f1.f0))).setCell ⟨gb162, 2, none⟩ (.int .i64 ((rd_T35 l0 x9_1).f1.f1))).setCell ⟨gb162, 3, none⟩ (.int .i64 ((rd_T35 l0 x9_1).f1.f2))).setCell ⟨gb162, 4, none⟩ (.string ((rd_T35 l0 x9_1).f1.f3))) = w15 at n0_ n1_ ⊢
           have BK162 := n0_
           have HB := n1_
           clear n0_ n1_
           have n_ := zo (blk_drew BK162.out) (below_drew1 HB.out)
           clear BK162 HB
           obtain ⟨BK162, HB⟩ := n_
           have p164 : 0 ≤ ((ji9) : Int) := of_decide_eq_true z1p
           have q164 : (ji9) < (l0.length : Int) := of_decide_eq_true z1p
           obtain ⟨ad164, e164, hx164_0, hx164_1, hx164_2, hx164_3, hx164_4⟩ := at_T35 HR0.out (ji9) p164 q164
           have hw164_4 := hx164_4
           have hw164_3 := hx164_3
           have hw164_2 := hx164_2
           have hw164_1 := hx164_1
           have hw164_0 := hx164_0
           obtain rfl : ad161 = ad164 := (by injection e164)
           replace hx164_0 := zz HB.out hx164_0
           replace hx164_1 := zz HB.out hx164_1
           replace hx164_2 := zz HB.out hx164_2
           replace hx164_3 := zz HB.out hx164_3
           replace hx164_4 := zz HB.out hx164_4
           replace p164 := eq_true p164
           replace q164 := eq_true q164
           refine start_ (n := 18) (S := fun w' => w'.cell? ⟨gb162, 0, none⟩ = some (.string ((rd_T35 l0 x9_1).f0)) ∧ w'.cell? ⟨gb162, 1, none⟩ = some (.int .i64 ((rd_T35 l0 x9_1).f1.f0)) ∧ w'.cell? ⟨gb162, 2, none⟩ = some (.int .i64 ((rd_T35 l0 x9_1).f1.f1)) ∧ w'.cell? ⟨gb162, 3, none⟩ = some (.int .i64 ((rd_T35 l0 x9_1).f1.f2)) ∧ w'.cell? ⟨gb162, 4, none⟩ = some (.string ((rd_T35 l0 x9_1).f1.f3)) ∧ w'.cell? (ad161.add (((ji9)).toNat * 5)) = some (.string ((rd_T35 l0 (ji9)).f0)) ∧ w'.cell? ⟨(ad161.add (((ji9)).toNat * 5)).block, (ad161.add (((ji9)).toNat * 5)).off + 1, none⟩ = some (.int .i64 ((rd_T35 l0 (ji9)).f1.f0)) ∧ w'.cell? ⟨(ad161.add (((ji9)).toNat * 5)).block, (ad161.add (((ji9)).toNat * 5)).off + 2, none⟩ = some (.int .i64 ((rd_T35 l0 (ji9)).f1.f1)) ∧ w'.cell? ⟨(ad161.add (((ji9)).toNat * 5)).block, (ad161.add (((ji9)).toNat * 5)).off + 3, none⟩ = some (.int .i64 ((rd_T35 l0 (ji9)).f1.f2)) ∧ w'.cell? ⟨(ad161.add (((ji9)).toNat * 5)).block, (ad161.add (((ji9)).toNat * 5)).off + 4, none⟩ = some (.string ((rd_T35 l0 (ji9)).f1.f3))) (ds := []) #[z9d, z9d, z9d, z9d, z9d, z9d, z9d, z9d, z9d, z9d, z9d, z9d, z9d, z9d, z9d, z9d, z9d, z9d] z1m rfl rfl ⟨(blk_cell BK162.out 0).trans rfl, (blk_cell BK162.out 1).trans rfl, (blk_cell BK162.out 2).trans rfl, (blk_cell BK162.out 3).trans rfl, (blk_cell BK162.out 4).trans rfl, (zz HB.out hw164_0), (zz HB.out hw164_1), (zz HB.out hw164_2), (zz HB.out hw164_3), (zz HB.out hw164_4)⟩ (fun hHeld => ?_); refine with_tabW impl_ascending.tab4 impl_ascending.bits4 (fun HT_ HW_ => ?_)
           generalize w15.drew = w16 at BK162 HB hx164_0 hx164_1 hx164_2 hx164_3 hx164_4 hHeld ⊢
           refine zx 0 (some 14) #[z9c, z9d, z9d, z9d, z9d, z9d, z9d, z9d, z9d, z9d, z9d, z9d, z9d, z9d, z9d, z9d, z9d, z9d] rfl rfl (Or.inl ⟨z2b, z2c⟩) hHeld ?_
           refine one_ (i := 1) (N := some 15) #[z9c, z9c, z9d, z9d, z9d, z9d, z9d, z9d, z9d, z9d, z9d, z9d, z9d, z9d, z9d, z9d, z9d, z9d] rfl rfl (one_of HT_.out z1m) z1l (fun K hK => ?_)
           refine goes_ Tryz.func16 z1m rfl #[.agg #[.string ((rd_T35 l0 x9_1).f0), .int .i64 ((rd_T35 l0 x9_1).f1.f0), .int .i64 ((rd_T35 l0 x9_1).f1.f1), .int .i64 ((rd_T35 l0 x9_1).f1.f2), .string ((rd_T35 l0 x9_1).f1.f3)]] z2b rfl rfl z2d ?_
           with_reducible refine (impl_NeedOk.calls k1 ((rd_T35 l0 x9_1).f0) ((rd_T35 l0 x9_1).f1.f0) ((rd_T35 l0 x9_1).f1.f1) ((rd_T35 l0 x9_1).f1.f2) ((rd_T35 l0 x9_1).f1.f3) true _ A6.out).mono ?_
           rintro e w17 ⟨rfl, hb⟩
           refine ⟨_, rfl, ?_⟩
           have n_ := zo (blk_below (zu BK162.out) hb) (below_step z2a hb)
           clear BK162 HB
           obtain ⟨BK162, HB⟩ := n_
           (try clear hb)
           (try clear hb2)
           (try clear hk)
           (try clear hi)
           refine hK.out _ _ ⟨(blk_cell BK162.out 0).trans rfl, (blk_cell BK162.out 1).trans rfl, (blk_cell BK162.out 2).trans rfl, (blk_cell BK162.out 3).trans rfl, (blk_cell BK162.out 4).trans rfl, (zz HB.out hw164_0), (zz HB.out hw164_1), (zz HB.out hw164_2), (zz HB.out hw164_3), (zz HB.out hw164_4)⟩ (fun hHeld => ?_)
           clear hK K
           refine zy (some 15) rfl ?_
           refine zw 2 (some 16) #[z9c, z9c, z9c, z9d, z9d, z9d, z9d, z9d, z9d, z9d, z9d, z9d, z9d, z9d, z9d, z9d, z9d, z9d] rfl rfl ?_
           refine zw 3 (some 17) #[z9c, z9c, z9c, z9c, z9d, z9d, z9d, z9d, z9d, z9d, z9d, z9d, z9d, z9d, z9d, z9d, z9d, z9d] rfl rfl ?_
           refine zw 4 (some 18) #[z9c, z9c, z9c, z9c, z9c, z9d, z9d, z9d, z9d, z9d, z9d, z9d, z9d, z9d, z9d, z9d, z9d, z9d] rfl rfl ?_
           refine zw 5 (some 19) #[z9c, z9c, z9c, z9c, z9c, z9c, z9d, z9d, z9d, z9d, z9d, z9d, z9d, z9d, z9d, z9d, z9d, z9d] rfl rfl ?_
           refine zw 6 (some 20) #[z9c, z9c, z9c, z9c, z9c, z9c, z9c, z9d, z9d, z9d, z9d, z9d, z9d, z9d, z9d, z9d, z9d, z9d] rfl rfl ?_
           refine zw 7 (some 21) #[z9c, z9c, z9c, z9c, z9c, z9c, z9c, z9c, z9d, z9d, z9d, z9d, z9d, z9d, z9d, z9d, z9d, z9d] rfl rfl ?_
           refine zw 9 (some 23) #[z9c, z9c, z9c, z9c, z9c, z9c, z9c, z9c, z9d, z9c, z9d, z9d, z9d, z9d, z9d, z9d, z9d, z9d] rfl rfl ?_
           refine zw 10 (some 24) #[z9c, z9c, z9c, z9c, z9c, z9c, z9c, z9c, z9d, z9c, z9c, z9d, z9d, z9d, z9d, z9d, z9d, z9d] rfl rfl ?_
           refine zw 11 (some 25) #[z9c, z9c, z9c, z9c, z9c, z9c, z9c, z9c, z9d, z9c, z9c, z9c, z9d, z9d, z9d, z9d, z9d, z9d] rfl rfl ?_
           refine zw 12 (some 26) #[z9c, z9c, z9c, z9c, z9c, z9c, z9c, z9c, z9d, z9c, z9c, z9c, z9c, z9d, z9d, z9d, z9d, z9d] rfl rfl ?_
           refine zw 13 (some 27) #[z9c, z9c, z9c, z9c, z9c, z9c, z9c, z9c, z9d, z9c, z9c, z9c, z9c, z9c, z9d, z9d, z9d, z9d] rfl rfl ?_
           refine zx 8 (some 22) #[z9c, z9c, z9c, z9c, z9c, z9c, z9c, z9c, z9c, z9c, z9c, z9c, z9c, z9c, z9d, z9d, z9d, z9d] rfl rfl (Or.inl ⟨z2b, z2c⟩) hHeld ?_
           refine zx 14 (some 28) #[z9c, z9c, z9c, z9c, z9c, z9c, z9c, z9c, z9c, z9c, z9c, z9c, z9c, z9c, z9c, z9d, z9d, z9d] rfl rfl (Or.inl ⟨z2b, z2c⟩) hHeld ?_
           refine zw 15 (some 29) #[z9c, z9c, z9c, z9c, z9c, z9c, z9c, z9c, z9c, z9c, z9c, z9c, z9c, z9c, z9c, z9c, z9d, z9d] rfl rfl ?_
           refine zw 16 (some 30) #[z9c, z9c, z9c, z9c, z9c, z9c, z9c, z9c, z9c, z9c, z9c, z9c, z9c, z9c, z9c, z9c, z9c, z9d] rfl rfl ?_
           refine zw 17 (some 31) #[z9c, z9c, z9c, z9c, z9c, z9c, z9c, z9c, z9c, z9c, z9c, z9c, z9c, z9c, z9c, z9c, z9c, z9c] rfl rfl ?_
           refine done_ (done_of HT_.out z1m) ?_
           try go_wp2
           go_roundg k1
           case measure => have := HK1.out; omega
           case rel => exact ⟨(wrap64 (x9_1 + 1)), z1n, H', ⟨z1q⟩, ⟨z2a⟩⟩
          ·rw [if_neg c12] at H
           have c12b0 : (Op.bytesLess (((rd_T35 l0 (ji9)).f0).toList) (((rd_T35 l0 x9_1).f0).toList)) = false := by simpa using c12
           have c12e : (Op.bytesLess (((rd_T35 l0 x9_1).f0).toList) (((rd_T35 l0 (ji9)).f0).toList) || ((rd_T35 l0 x9_1).f0).toList == ((rd_T35 l0 (ji9)).f0).toList) = true := Y.le_true c12b0
           clear c12
           obtain rfl := Option.some.inj H
           have p161 : 0 ≤ (x9_1 : Int) := of_decide_eq_true z1p
           have q161 : x9_1 < (l0.length : Int) := of_decide_eq_true z1p
           obtain ⟨ad161, e161, hx161_0, hx161_1, hx161_2, hx161_3, hx161_4⟩ := at_T35 HR0.out x9_1 p161 q161
           cases e161
           replace hx161_0 := zz HB.out hx161_0
           replace hx161_1 := zz HB.out hx161_1
           replace hx161_2 := zz HB.out hx161_2
           replace hx161_3 := zz HB.out hx161_3
           replace hx161_4 := zz HB.out hx161_4
           replace p161 := eq_true p161
           replace q161 := eq_true q161
           try go_wp2_with (first | ((with_reducible refine zr 6 rfl ?_); refine zt 35 #[.string ⟨#[]⟩, .int .i64 0, .int .i64 0, .int .i64 0, .string ⟨#[]⟩] ?_; intro gb162 hg w18 hbox hb; have n_ := zv (below_step z1r hb) hbox (z8j : w.heap.size ≤ gb162) (z8j : w.heap.size ≤ gb162); clear HB; obtain ⟨HB, BK162, GW162, GE162⟩ := n_; clear hb hbox hg; obtain ⟨hcz19_0, hcz19_1, hcz19_2, hcz19_3, hcz19_4, hfz19_0, hfz19_1, hfz19_2, hfz19_3, hfz19_4⟩ := zg BK162.out))
           have n0_ : Aside0 ((((((w18.setCell ⟨gb162, 0, none⟩ (.string ((rd_T35 l0 x9_1).f0))).setCell ⟨gb162, 1, none⟩ (.int .i64 ((rd_T35 l0 x9_1).f1.f0))).setCell ⟨gb162, 2, none⟩ (.int .i64 ((rd_T35 l0 x9_1).f1.f1))).setCell ⟨gb162, 3, none⟩ (.int .i64 ((rd_T35 l0 x9_1).f1.f2))).setCell ⟨gb162, 4, none⟩ (.string ((rd_T35 l0 x9_1).f1.f3))).heap[gb162]? = some (.cells #[.string ((rd_T35 l0 x9_1).f0), .int .i64 ((rd_T35 l0 x9_1).f1.f0), .int .i64 ((rd_T35 l0 x9_1).f1.f1), .int .i64 ((rd_T35 l0 x9_1).f1.f2), .string ((rd_T35 l0 x9_1).f1.f3)] 35 (0, 0))) := ⟨z1z⟩
           have n1_ : Aside0 (Below w.heap.size w (((((w18.setCell ⟨gb162, 0, none⟩ (.string ((rd_T35 l0 x9_1).f0))).setCell ⟨gb162, 1, none⟩ (.int .i64 ((rd_T35 l0 x9_1).f1.f0))).setCell ⟨gb162, 2, none⟩ (.int .i64 ((rd_T35 l0 x9_1).f1.f1))).setCell ⟨gb162, 3, none⟩ (.int .i64 ((rd_T35 l0 x9_1).f1.f2))).setCell ⟨gb162, 4, none⟩ (.string ((rd_T35 l0 x9_1).f1.f3)))) := ⟨z2a⟩
           (try clear BK162)
           (try clear HB)
           generalize (((((w18.setCell ⟨gb162, 0, none⟩ (.string ((rd_T35 l0 x9_1).f0))).setCell ⟨gb162, 1, none⟩ (.int .i64 ((rd_T35 l0 x9_1).f1.f0))).setCell ⟨gb162, 2, none⟩ (.int .i64 ((rd_T35 l0 x9_1).f1.f1))).setCell ⟨gb162, 3, none⟩ (.int .i64 ((rd_T35 l0 x9_1).f1.f2))).setCell ⟨gb162, 4, none⟩ (.string ((rd_T35 l0 x9_1).f1.f3))) = w20 at n0_ n1_ ⊢
           have BK162 := n0_
           have HB := n1_
           clear n0_ n1_
           have n_ := zo (blk_drew BK162.out) (below_drew1 HB.out)
           clear BK162 HB
           obtain ⟨BK162, HB⟩ := n_
           have p164 : 0 ≤ ((ji9) : Int) := of_decide_eq_true z1p
           have q164 : (ji9) < (l0.length : Int) := of_decide_eq_true z1p
           obtain ⟨ad164, e164, hx164_0, hx164_1, hx164_2, hx164_3, hx164_4⟩ := at_T35 HR0.out (ji9) p164 q164
           have hw164_4 := hx164_4
           have hw164_3 := hx164_3
           have hw164_2 := hx164_2
           have hw164_1 := hx164_1
           have hw164_0 := hx164_0
           obtain rfl : ad161 = ad164 := (by injection e164)
           replace hx164_0 := zz HB.out hx164_0
           replace hx164_1 := zz HB.out hx164_1
           replace hx164_2 := zz HB.out hx164_2
           replace hx164_3 := zz HB.out hx164_3
           replace hx164_4 := zz HB.out hx164_4
           replace p164 := eq_true p164
           replace q164 := eq_true q164
           refine start_ (n := 18) (S := fun w' => w'.cell? ⟨gb162, 0, none⟩ = some (.string ((rd_T35 l0 x9_1).f0)) ∧ w'.cell? ⟨gb162, 1, none⟩ = some (.int .i64 ((rd_T35 l0 x9_1).f1.f0)) ∧ w'.cell? ⟨gb162, 2, none⟩ = some (.int .i64 ((rd_T35 l0 x9_1).f1.f1)) ∧ w'.cell? ⟨gb162, 3, none⟩ = some (.int .i64 ((rd_T35 l0 x9_1).f1.f2)) ∧ w'.cell? ⟨gb162, 4, none⟩ = some (.string ((rd_T35 l0 x9_1).f1.f3)) ∧ w'.cell? (ad161.add (((ji9)).toNat * 5)) = some (.string ((rd_T35 l0 (ji9)).f0)) ∧ w'.cell? ⟨(ad161.add (((ji9)).toNat * 5)).block, (ad161.add (((ji9)).toNat * 5)).off + 1, none⟩ = some (.int .i64 ((rd_T35 l0 (ji9)).f1.f0)) ∧ w'.cell? ⟨(ad161.add (((ji9)).toNat * 5)).block, (ad161.add (((ji9)).toNat * 5)).off + 2, none⟩ = some (.int .i64 ((rd_T35 l0 (ji9)).f1.f1)) ∧ w'.cell? ⟨(ad161.add (((ji9)).toNat * 5)).block, (ad161.add (((ji9)).toNat * 5)).off + 3, none⟩ = some (.int .i64 ((rd_T35 l0 (ji9)).f1.f2)) ∧ w'.cell? ⟨(ad161.add (((ji9)).toNat * 5)).block, (ad161.add (((ji9)).toNat * 5)).off + 4, none⟩ = some (.string ((rd_T35 l0 (ji9)).f1.f3))) (ds := []) #[z9d, z9d, z9d, z9d, z9d, z9d, z9d, z9d, z9d, z9d, z9d, z9d, z9d, z9d, z9d, z9d, z9d, z9d] z1m rfl rfl ⟨(blk_cell BK162.out 0).trans rfl, (blk_cell BK162.out 1).trans rfl, (blk_cell BK162.out 2).trans rfl, (blk_cell BK162.out 3).trans rfl, (blk_cell BK162.out 4).trans rfl, (zz HB.out hw164_0), (zz HB.out hw164_1), (zz HB.out hw164_2), (zz HB.out hw164_3), (zz HB.out hw164_4)⟩ (fun hHeld => ?_); refine with_tabW impl_ascending.tab4 impl_ascending.bits4 (fun HT_ HW_ => ?_)
           generalize w20.drew = w21 at BK162 HB hx164_0 hx164_1 hx164_2 hx164_3 hx164_4 hHeld ⊢
           refine zx 0 (some 14) #[z9c, z9d, z9d, z9d, z9d, z9d, z9d, z9d, z9d, z9d, z9d, z9d, z9d, z9d, z9d, z9d, z9d, z9d] rfl rfl (Or.inl ⟨z2b, z2c⟩) hHeld ?_
           refine one_ (i := 1) (N := some 15) #[z9c, z9c, z9d, z9d, z9d, z9d, z9d, z9d, z9d, z9d, z9d, z9d, z9d, z9d, z9d, z9d, z9d, z9d] rfl rfl (one_of HT_.out z1m) z1l (fun K hK => ?_)
           refine goes_ Tryz.func16 z1m rfl #[.agg #[.string ((rd_T35 l0 x9_1).f0), .int .i64 ((rd_T35 l0 x9_1).f1.f0), .int .i64 ((rd_T35 l0 x9_1).f1.f1), .int .i64 ((rd_T35 l0 x9_1).f1.f2), .string ((rd_T35 l0 x9_1).f1.f3)]] z2b rfl rfl z2d ?_
           with_reducible refine (impl_NeedOk.calls k1 ((rd_T35 l0 x9_1).f0) ((rd_T35 l0 x9_1).f1.f0) ((rd_T35 l0 x9_1).f1.f1) ((rd_T35 l0 x9_1).f1.f2) ((rd_T35 l0 x9_1).f1.f3) true _ A6.out).mono ?_
           rintro e w22 ⟨rfl, hb⟩
           refine ⟨_, rfl, ?_⟩
           have n_ := zo (blk_below (zu BK162.out) hb) (below_step z2a hb)
           clear BK162 HB
           obtain ⟨BK162, HB⟩ := n_
           (try clear hb)
           (try clear hb2)
           (try clear hk)
           (try clear hi)
           refine hK.out _ _ ⟨(blk_cell BK162.out 0).trans rfl, (blk_cell BK162.out 1).trans rfl, (blk_cell BK162.out 2).trans rfl, (blk_cell BK162.out 3).trans rfl, (blk_cell BK162.out 4).trans rfl, (zz HB.out hw164_0), (zz HB.out hw164_1), (zz HB.out hw164_2), (zz HB.out hw164_3), (zz HB.out hw164_4)⟩ (fun hHeld => ?_)
           clear hK K
           refine zy (some 15) rfl ?_
           refine zw 2 (some 16) #[z9c, z9c, z9c, z9d, z9d, z9d, z9d, z9d, z9d, z9d, z9d, z9d, z9d, z9d, z9d, z9d, z9d, z9d] rfl rfl ?_
           refine zw 3 (some 17) #[z9c, z9c, z9c, z9c, z9d, z9d, z9d, z9d, z9d, z9d, z9d, z9d, z9d, z9d, z9d, z9d, z9d, z9d] rfl rfl ?_
           refine zw 4 (some 18) #[z9c, z9c, z9c, z9c, z9c, z9d, z9d, z9d, z9d, z9d, z9d, z9d, z9d, z9d, z9d, z9d, z9d, z9d] rfl rfl ?_
           refine zw 5 (some 19) #[z9c, z9c, z9c, z9c, z9c, z9c, z9d, z9d, z9d, z9d, z9d, z9d, z9d, z9d, z9d, z9d, z9d, z9d] rfl rfl ?_
           refine zw 6 (some 20) #[z9c, z9c, z9c, z9c, z9c, z9c, z9c, z9d, z9d, z9d, z9d, z9d, z9d, z9d, z9d, z9d, z9d, z9d] rfl rfl ?_
           refine zw 7 (some 21) #[z9c, z9c, z9c, z9c, z9c, z9c, z9c, z9c, z9d, z9d, z9d, z9d, z9d, z9d, z9d, z9d, z9d, z9d] rfl rfl ?_
           refine zw 9 (some 23) #[z9c, z9c, z9c, z9c, z9c, z9c, z9c, z9c, z9d, z9c, z9d, z9d, z9d, z9d, z9d, z9d, z9d, z9d] rfl rfl ?_
           refine zw 10 (some 24) #[z9c, z9c, z9c, z9c, z9c, z9c, z9c, z9c, z9d, z9c, z9c, z9d, z9d, z9d, z9d, z9d, z9d, z9d] rfl rfl ?_
           refine zw 11 (some 25) #[z9c, z9c, z9c, z9c, z9c, z9c, z9c, z9c, z9d, z9c, z9c, z9c, z9d, z9d, z9d, z9d, z9d, z9d] rfl rfl ?_
           refine zw 12 (some 26) #[z9c, z9c, z9c, z9c, z9c, z9c, z9c, z9c, z9d, z9c, z9c, z9c, z9c, z9d, z9d, z9d, z9d, z9d] rfl rfl ?_
           refine zw 13 (some 27) #[z9c, z9c, z9c, z9c, z9c, z9c, z9c, z9c, z9d, z9c, z9c, z9c, z9c, z9c, z9d, z9d, z9d, z9d] rfl rfl ?_
           refine zx 8 (some 22) #[z9c, z9c, z9c, z9c, z9c, z9c, z9c, z9c, z9c, z9c, z9c, z9c, z9c, z9c, z9d, z9d, z9d, z9d] rfl rfl (Or.inl ⟨z2b, z2c⟩) hHeld ?_
           refine zx 14 (some 28) #[z9c, z9c, z9c, z9c, z9c, z9c, z9c, z9c, z9c, z9c, z9c, z9c, z9c, z9c, z9c, z9d, z9d, z9d] rfl rfl (Or.inl ⟨z2b, z2c⟩) hHeld ?_
           refine zw 15 (some 29) #[z9c, z9c, z9c, z9c, z9c, z9c, z9c, z9c, z9c, z9c, z9c, z9c, z9c, z9c, z9c, z9c, z9d, z9d] rfl rfl ?_
           refine zw 16 (some 30) #[z9c, z9c, z9c, z9c, z9c, z9c, z9c, z9c, z9c, z9c, z9c, z9c, z9c, z9c, z9c, z9c, z9c, z9d] rfl rfl ?_
           refine zw 17 (some 31) #[z9c, z9c, z9c, z9c, z9c, z9c, z9c, z9c, z9c, z9c, z9c, z9c, z9c, z9c, z9c, z9c, z9c, z9c] rfl rfl ?_
           refine done_ (done_of HT_.out z1m) ?_
           try go_wp2
           go_ret
           exact ⟨by first | rfl | (simp [errW_none, errW_some] <;> rfl) | (simp only [← hji9]; first | rfl | (simp [errW_none, errW_some] <;> rfl)) | (simp [*, errW_none, errW_some] <;> rfl), z2a⟩
         ·rw [if_neg c11] at H
          exact absurd H (by simp)
        ·rw [if_neg c10] at H
         exact absurd H (by simp)
       ·rw [if_neg c8] at H
        have c8b0 := decide_eq_false c8
        clear c8
        have H' := zn H
        clear H
        have p161 : 0 ≤ (x9_1 : Int) := of_decide_eq_true z1p
        have q161 : x9_1 < (l0.length : Int) := of_decide_eq_true z1p
        obtain ⟨ad161, e161, hx161_0, hx161_1, hx161_2, hx161_3, hx161_4⟩ := at_T35 HR0.out x9_1 p161 q161
        cases e161
        replace hx161_0 := zz HB.out hx161_0
        replace hx161_1 := zz HB.out hx161_1
        replace hx161_2 := zz HB.out hx161_2
        replace hx161_3 := zz HB.out hx161_3
        replace hx161_4 := zz HB.out hx161_4
        replace p161 := eq_true p161
        replace q161 := eq_true q161
        try go_wp2_with (first | ((with_reducible refine zr 6 rfl ?_); refine zt 35 #[.string ⟨#[]⟩, .int .i64 0, .int .i64 0, .int .i64 0, .string ⟨#[]⟩] ?_; intro gb162 hg w23 hbox hb; have n_ := zv (below_step z1r hb) hbox (z8j : w.heap.size ≤ gb162) (z8j : w.heap.size ≤ gb162); clear HB; obtain ⟨HB, BK162, GW162, GE162⟩ := n_; clear hb hbox hg; obtain ⟨hcz24_0, hcz24_1, hcz24_2, hcz24_3, hcz24_4, hfz24_0, hfz24_1, hfz24_2, hfz24_3, hfz24_4⟩ := zg BK162.out))
        have n0_ : Aside0 ((((((w23.setCell ⟨gb162, 0, none⟩ (.string ((rd_T35 l0 x9_1).f0))).setCell ⟨gb162, 1, none⟩ (.int .i64 ((rd_T35 l0 x9_1).f1.f0))).setCell ⟨gb162, 2, none⟩ (.int .i64 ((rd_T35 l0 x9_1).f1.f1))).setCell ⟨gb162, 3, none⟩ (.int .i64 ((rd_T35 l0 x9_1).f1.f2))).setCell ⟨gb162, 4, none⟩ (.string ((rd_T35 l0 x9_1).f1.f3))).heap[gb162]? = some (.cells #[.string ((rd_T35 l0 x9_1).f0), .int .i64 ((rd_T35 l0 x9_1).f1.f0), .int .i64 ((rd_T35 l0 x9_1).f1.f1), .int .i64 ((rd_T35 l0 x9_1).f1.f2), .string ((rd_T35 l0 x9_1).f1.f3)] 35 (0, 0))) := ⟨z1z⟩
        have n1_ : Aside0 (Below w.heap.size w (((((w23.setCell ⟨gb162, 0, none⟩ (.string ((rd_T35 l0 x9_1).f0))).setCell ⟨gb162, 1, none⟩ (.int .i64 ((rd_T35 l0 x9_1).f1.f0))).setCell ⟨gb162, 2, none⟩ (.int .i64 ((rd_T35 l0 x9_1).f1.f1))).setCell ⟨gb162, 3, none⟩ (.int .i64 ((rd_T35 l0 x9_1).f1.f2))).setCell ⟨gb162, 4, none⟩ (.string ((rd_T35 l0 x9_1).f1.f3)))) := ⟨z2a⟩
        (try clear BK162)
        (try clear HB)
        generalize (((((w23.setCell ⟨gb162, 0, none⟩ (.string ((rd_T35 l0 x9_1).f0))).setCell ⟨gb162, 1, none⟩ (.int .i64 ((rd_T35 l0 x9_1).f1.f0))).setCell ⟨gb162, 2, none⟩ (.int .i64 ((rd_T35 l0 x9_1).f1.f1))).setCell ⟨gb162, 3, none⟩ (.int .i64 ((rd_T35 l0 x9_1).f1.f2))).setCell ⟨gb162, 4, none⟩ (.string ((rd_T35 l0 x9_1).f1.f3))) = w25 at n0_ n1_ ⊢
        have BK162 := n0_
        have HB := n1_
        clear n0_ n1_
        have n_ := zo (blk_drew BK162.out) (below_drew1 HB.out)
        clear BK162 HB
        obtain ⟨BK162, HB⟩ := n_
        refine start_ (n := 18) (S := fun w' => w'.cell? ⟨gb162, 0, none⟩ = some (.string ((rd_T35 l0 x9_1).f0)) ∧ w'.cell? ⟨gb162, 1, none⟩ = some (.int .i64 ((rd_T35 l0 x9_1).f1.f0)) ∧ w'.cell? ⟨gb162, 2, none⟩ = some (.int .i64 ((rd_T35 l0 x9_1).f1.f1)) ∧ w'.cell? ⟨gb162, 3, none⟩ = some (.int .i64 ((rd_T35 l0 x9_1).f1.f2)) ∧ w'.cell? ⟨gb162, 4, none⟩ = some (.string ((rd_T35 l0 x9_1).f1.f3))) (ds := []) #[z9d, z9d, z9d, z9d, z9d, z9d, z9d, z9d, z9d, z9d, z9d, z9d, z9d, z9d, z9d, z9d, z9d, z9d] z1m rfl rfl ⟨(blk_cell BK162.out 0).trans rfl, (blk_cell BK162.out 1).trans rfl, (blk_cell BK162.out 2).trans rfl, (blk_cell BK162.out 3).trans rfl, (blk_cell BK162.out 4).trans rfl⟩ (fun hHeld => ?_); refine with_tabW impl_ascending.tab4 impl_ascending.bits4 (fun HT_ HW_ => ?_)
        generalize w25.drew = w26 at BK162 HB hHeld ⊢
        refine zx 0 (some 14) #[z9c, z9d, z9d, z9d, z9d, z9d, z9d, z9d, z9d, z9d, z9d, z9d, z9d, z9d, z9d, z9d, z9d, z9d] rfl rfl (Or.inl ⟨z2b, z2e⟩) hHeld ?_
        refine one_ (i := 1) (N := some 15) #[z9c, z9c, z9d, z9d, z9d, z9d, z9d, z9d, z9d, z9d, z9d, z9d, z9d, z9d, z9d, z9d, z9d, z9d] rfl rfl (one_of HT_.out z1m) z1l (fun K hK => ?_)
        refine goes_ Tryz.func16 z1m rfl #[.agg #[.string ((rd_T35 l0 x9_1).f0), .int .i64 ((rd_T35 l0 x9_1).f1.f0), .int .i64 ((rd_T35 l0 x9_1).f1.f1), .int .i64 ((rd_T35 l0 x9_1).f1.f2), .string ((rd_T35 l0 x9_1).f1.f3)]] z2b rfl rfl z2d ?_
        with_reducible refine (impl_NeedOk.calls k1 ((rd_T35 l0 x9_1).f0) ((rd_T35 l0 x9_1).f1.f0) ((rd_T35 l0 x9_1).f1.f1) ((rd_T35 l0 x9_1).f1.f2) ((rd_T35 l0 x9_1).f1.f3) true _ A6.out).mono ?_
        rintro e w27 ⟨rfl, hb⟩
        refine ⟨_, rfl, ?_⟩
        have n_ := zo (blk_below (zu BK162.out) hb) (below_step z2a hb)
        clear BK162 HB
        obtain ⟨BK162, HB⟩ := n_
        (try clear hb)
        (try clear hb2)
        (try clear hk)
        (try clear hi)
        refine hK.out _ _ ⟨(blk_cell BK162.out 0).trans rfl, (blk_cell BK162.out 1).trans rfl, (blk_cell BK162.out 2).trans rfl, (blk_cell BK162.out 3).trans rfl, (blk_cell BK162.out 4).trans rfl⟩ (fun hHeld => ?_)
        clear hK K
        refine zy (some 15) rfl ?_
        refine zw 2 (some 16) #[z9c, z9c, z9c, z9d, z9d, z9d, z9d, z9d, z9d, z9d, z9d, z9d, z9d, z9d, z9d, z9d, z9d, z9d] rfl rfl ?_
        refine zw 3 (some 17) #[z9c, z9c, z9c, z9c, z9d, z9d, z9d, z9d, z9d, z9d, z9d, z9d, z9d, z9d, z9d, z9d, z9d, z9d] rfl rfl ?_
        refine zw 4 (some 18) #[z9c, z9c, z9c, z9c, z9c, z9d, z9d, z9d, z9d, z9d, z9d, z9d, z9d, z9d, z9d, z9d, z9d, z9d] rfl rfl ?_
        refine zw 5 (some 19) #[z9c, z9c, z9c, z9c, z9c, z9c, z9d, z9d, z9d, z9d, z9d, z9d, z9d, z9d, z9d, z9d, z9d, z9d] rfl rfl ?_
        refine zw 6 (some 20) #[z9c, z9c, z9c, z9c, z9c, z9c, z9c, z9d, z9d, z9d, z9d, z9d, z9d, z9d, z9d, z9d, z9d, z9d] rfl rfl ?_
        refine pure_ (i := 7) (N := some 21) (v := undef) (a' := ?_) #[z9c, z9c, z9c, z9c, z9c, z9c, z9c, z9c, z9d, z9d, z9d, z9d, z9d, z9d, z9d, z9d, z9d, z9d] rfl rfl (any_of HT_.out z1m) (fun _ _ _ h => h) (Or.inr ⟨z2b, rfl⟩) ?_ ?_
        rotate_left
        ·simp only [Act.put, z9e, z9f, z9g, i64_w, i32_w]
         rfl
        refine pure_ (i := 8) (N := some 22) (v := undef) (a' := ?_) #[z9c, z9c, z9c, z9c, z9c, z9c, z9c, z9c, z9c, z9d, z9d, z9d, z9d, z9d, z9d, z9d, z9d, z9d] rfl rfl (any_of HT_.out z1m) (fun _ _ _ h => h) (Or.inr ⟨z2b, rfl⟩) ?_ ?_
        rotate_left
        ·simp only [Act.put, z9e, z9f, z9g, i64_w, i32_w]
         rfl
        refine pure_ (i := 9) (N := some 23) (v := undef) (a' := ?_) #[z9c, z9c, z9c, z9c, z9c, z9c, z9c, z9c, z9c, z9c, z9d, z9d, z9d, z9d, z9d, z9d, z9d, z9d] rfl rfl (any_of HT_.out z1m) (fun _ _ _ h => h) (Or.inr ⟨z2b, rfl⟩) ?_ ?_
        rotate_left
        ·simp only [Act.put, z9e, z9f, z9g, i64_w, i32_w]
         rfl
        refine pure_ (i := 10) (N := some 24) (v := undef) (a' := ?_) #[z9c, z9c, z9c, z9c, z9c, z9c, z9c, z9c, z9c, z9c, z9c, z9d, z9d, z9d, z9d, z9d, z9d, z9d] rfl rfl (any_of HT_.out z1m) (fun _ _ _ h => h) (Or.inr ⟨z2b, rfl⟩) ?_ ?_
        rotate_left
        ·simp only [Act.put, z9e, z9f, z9g, i64_w, i32_w]
         rfl
        refine pure_ (i := 11) (N := some 25) (v := undef) (a' := ?_) #[z9c, z9c, z9c, z9c, z9c, z9c, z9c, z9c, z9c, z9c, z9c, z9c, z9d, z9d, z9d, z9d, z9d, z9d] rfl rfl (any_of HT_.out z1m) (fun _ _ _ h => h) (Or.inr ⟨z2b, rfl⟩) ?_ ?_
        rotate_left
        ·simp only [Act.put, z9e, z9f, z9g, i64_w, i32_w]
         rfl
        refine pure_ (i := 12) (N := some 26) (v := undef) (a' := ?_) #[z9c, z9c, z9c, z9c, z9c, z9c, z9c, z9c, z9c, z9c, z9c, z9c, z9c, z9d, z9d, z9d, z9d, z9d] rfl rfl (any_of HT_.out z1m) (fun _ _ _ h => h) (Or.inr ⟨z2b, rfl⟩) ?_ ?_
        rotate_left
        ·simp only [Act.put, z9e, z9f, z9g, i64_w, i32_w]
         rfl
        refine pure_ (i := 13) (N := some 27) (v := undef) (a' := ?_) #[z9c, z9c, z9c, z9c, z9c, z9c, z9c, z9c, z9c, z9c, z9c, z9c, z9c, z9c, z9d, z9d, z9d, z9d] rfl rfl (any_of HT_.out z1m) (fun _ _ _ h => h) (Or.inr ⟨z2b, rfl⟩) ?_ ?_
        rotate_left
        ·simp only [Act.put, z9e, z9f, z9g, i64_w, i32_w]
         rfl
        refine pure_ (i := 14) (N := some 28) (v := undef) (a' := ?_) #[z9c, z9c, z9c, z9c, z9c, z9c, z9c, z9c, z9c, z9c, z9c, z9c, z9c, z9c, z9c, z9d, z9d, z9d] rfl rfl (any_of HT_.out z1m) (fun _ _ _ h => h) (Or.inr ⟨z2b, rfl⟩) ?_ ?_
        rotate_left
        ·simp only [Act.put, z9e, z9f, z9g, i64_w, i32_w]
         rfl
        refine pure_ (i := 15) (N := some 29) (v := undef) (a' := ?_) #[z9c, z9c, z9c, z9c, z9c, z9c, z9c, z9c, z9c, z9c, z9c, z9c, z9c, z9c, z9c, z9c, z9d, z9d] rfl rfl (any_of HT_.out z1m) (fun _ _ _ h => h) (Or.inr ⟨z2b, rfl⟩) ?_ ?_
        rotate_left
        ·simp only [Act.put, z9e, z9f, z9g, i64_w, i32_w]
         rfl
        refine zw 16 (some 30) #[z9c, z9c, z9c, z9c, z9c, z9c, z9c, z9c, z9c, z9c, z9c, z9c, z9c, z9c, z9c, z9c, z9c, z9d] rfl rfl ?_
        refine zw 17 (some 31) #[z9c, z9c, z9c, z9c, z9c, z9c, z9c, z9c, z9c, z9c, z9c, z9c, z9c, z9c, z9c, z9c, z9c, z9c] rfl rfl ?_
        refine done_ (done_of HT_.out z1m) ?_
        try go_wp2
        go_roundg k1
        case measure => have := HK1.out; omega
        case rel => exact ⟨(wrap64 (x9_1 + 1)), z1n, H', ⟨z1q⟩, ⟨z2a⟩⟩
      ·replace c7 := Bool.eq_false_iff.mpr c7
       subst c7
       rw [if_neg zk] at H
       obtain rfl := Option.some.inj H
       have p161 : 0 ≤ (x9_1 : Int) := of_decide_eq_true z1p
       have q161 : x9_1 < (l0.length : Int) := of_decide_eq_true z1p
       obtain ⟨ad161, e161, hx161_0, hx161_1, hx161_2, hx161_3, hx161_4⟩ := at_T35 HR0.out x9_1 p161 q161
       cases e161
       replace hx161_0 := zz HB.out hx161_0
       replace hx161_1 := zz HB.out hx161_1
       replace hx161_2 := zz HB.out hx161_2
       replace hx161_3 := zz HB.out hx161_3
       replace hx161_4 := zz HB.out hx161_4
       replace p161 := eq_true p161
       replace q161 := eq_true q161
       try go_wp2_with (first | ((with_reducible refine zr 6 rfl ?_); refine zt 35 #[.string ⟨#[]⟩, .int .i64 0, .int .i64 0, .int .i64 0, .string ⟨#[]⟩] ?_; intro gb162 hg w28 hbox hb; have n_ := zv (below_step z1r hb) hbox (z8j : w.heap.size ≤ gb162) (z8j : w.heap.size ≤ gb162); clear HB; obtain ⟨HB, BK162, GW162, GE162⟩ := n_; clear hb hbox hg; obtain ⟨hcz29_0, hcz29_1, hcz29_2, hcz29_3, hcz29_4, hfz29_0, hfz29_1, hfz29_2, hfz29_3, hfz29_4⟩ := zg BK162.out))
       have n0_ : Aside0 ((((((w28.setCell ⟨gb162, 0, none⟩ (.string ((rd_T35 l0 x9_1).f0))).setCell ⟨gb162, 1, none⟩ (.int .i64 ((rd_T35 l0 x9_1).f1.f0))).setCell ⟨gb162, 2, none⟩ (.int .i64 ((rd_T35 l0 x9_1).f1.f1))).setCell ⟨gb162, 3, none⟩ (.int .i64 ((rd_T35 l0 x9_1).f1.f2))).setCell ⟨gb162, 4, none⟩ (.string ((rd_T35 l0 x9_1).f1.f3))).heap[gb162]? = some (.cells #[.string ((rd_T35 l0 x9_1).f0), .int .i64 ((rd_T35 l0 x9_1).f1.f0), .int .i64 ((rd_T35 l0 x9_1).f1.f1), .int .i64 ((rd_T35 l0 x9_1).f1.f2), .string ((rd_T35 l0 x9_1).f1.f3)] 35 (0, 0))) := ⟨z1z⟩
       have n1_ : Aside0 (Below w.heap.size w (((((w28.setCell ⟨gb162, 0, none⟩ (.string ((rd_T35 l0 x9_1).f0))).setCell ⟨gb162, 1, none⟩ (.int .i64 ((rd_T35 l0 x9_1).f1.f0))).setCell ⟨gb162, 2, none⟩ (.int .i64 ((rd_T35 l0 x9_1).f1.f1))).setCell ⟨gb162, 3, none⟩ (.int .i64 ((rd_T35 l0 x9_1).f1.f2))).setCell ⟨gb162, 4, none⟩ (.string ((rd_T35 l0 x9_1).f1.f3)))) := ⟨z2a⟩
       (try clear BK162)
       (try clear HB)
       generalize (((((w28.setCell ⟨gb162, 0, none⟩ (.string ((rd_T35 l0 x9_1).f0))).setCell ⟨gb162, 1, none⟩ (.int .i64 ((rd_T35 l0 x9_1).f1.f0))).setCell ⟨gb162, 2, none⟩ (.int .i64 ((rd_T35 l0 x9_1).f1.f1))).setCell ⟨gb162, 3, none⟩ (.int .i64 ((rd_T35 l0 x9_1).f1.f2))).setCell ⟨gb162, 4, none⟩ (.string ((rd_T35 l0 x9_1).f1.f3))) = w30 at n0_ n1_ ⊢
       have BK162 := n0_
       have HB := n1_
       clear n0_ n1_
       have n_ := zo (blk_drew BK162.out) (below_drew1 HB.out)
       clear BK162 HB
       obtain ⟨BK162, HB⟩ := n_
       refine start_ (n := 18) (S := fun w' => w'.cell? ⟨gb162, 0, none⟩ = some (.string ((rd_T35 l0 x9_1).f0)) ∧ w'.cell? ⟨gb162, 1, none⟩ = some (.int .i64 ((rd_T35 l0 x9_1).f1.f0)) ∧ w'.cell? ⟨gb162, 2, none⟩ = some (.int .i64 ((rd_T35 l0 x9_1).f1.f1)) ∧ w'.cell? ⟨gb162, 3, none⟩ = some (.int .i64 ((rd_T35 l0 x9_1).f1.f2)) ∧ w'.cell? ⟨gb162, 4, none⟩ = some (.string ((rd_T35 l0 x9_1).f1.f3))) (ds := []) #[z9d, z9d, z9d, z9d, z9d, z9d, z9d, z9d, z9d, z9d, z9d, z9d, z9d, z9d, z9d, z9d, z9d, z9d] z1m rfl rfl ⟨(blk_cell BK162.out 0).trans rfl, (blk_cell BK162.out 1).trans rfl, (blk_cell BK162.out 2).trans rfl, (blk_cell BK162.out 3).trans rfl, (blk_cell BK162.out 4).trans rfl⟩ (fun hHeld => ?_); refine with_tabW impl_ascending.tab4 impl_ascending.bits4 (fun HT_ HW_ => ?_)
       generalize w30.drew = w31 at BK162 HB hHeld ⊢
       refine zx 0 (some 14) #[z9c, z9d, z9d, z9d, z9d, z9d, z9d, z9d, z9d, z9d, z9d, z9d, z9d, z9d, z9d, z9d, z9d, z9d] rfl rfl (Or.inl ⟨z2b, z2e⟩) hHeld ?_
       refine one_ (i := 1) (N := some 15) #[z9c, z9c, z9d, z9d, z9d, z9d, z9d, z9d, z9d, z9d, z9d, z9d, z9d, z9d, z9d, z9d, z9d, z9d] rfl rfl (one_of HT_.out z1m) z1l (fun K hK => ?_)
       refine goes_ Tryz.func16 z1m rfl #[.agg #[.string ((rd_T35 l0 x9_1).f0), .int .i64 ((rd_T35 l0 x9_1).f1.f0), .int .i64 ((rd_T35 l0 x9_1).f1.f1), .int .i64 ((rd_T35 l0 x9_1).f1.f2), .string ((rd_T35 l0 x9_1).f1.f3)]] z2b rfl rfl z2d ?_
       with_reducible refine (impl_NeedOk.calls k1 ((rd_T35 l0 x9_1).f0) ((rd_T35 l0 x9_1).f1.f0) ((rd_T35 l0 x9_1).f1.f1) ((rd_T35 l0 x9_1).f1.f2) ((rd_T35 l0 x9_1).f1.f3) false _ A6.out).mono ?_
       rintro e w32 ⟨rfl, hb⟩
       refine ⟨_, rfl, ?_⟩
       have n_ := zo (blk_below (zu BK162.out) hb) (below_step z2a hb)
       clear BK162 HB
       obtain ⟨BK162, HB⟩ := n_
       (try clear hb)
       (try clear hb2)
       (try clear hk)
       (try clear hi)
       refine hK.out _ _ ⟨(blk_cell BK162.out 0).trans rfl, (blk_cell BK162.out 1).trans rfl, (blk_cell BK162.out 2).trans rfl, (blk_cell BK162.out 3).trans rfl, (blk_cell BK162.out 4).trans rfl⟩ (fun hHeld => ?_)
       clear hK K
       refine zy (some 15) rfl ?_
       refine zw 2 (some 16) #[z9c, z9c, z9c, z9d, z9d, z9d, z9d, z9d, z9d, z9d, z9d, z9d, z9d, z9d, z9d, z9d, z9d, z9d] rfl rfl ?_
       refine zw 3 (some 17) #[z9c, z9c, z9c, z9c, z9d, z9d, z9d, z9d, z9d, z9d, z9d, z9d, z9d, z9d, z9d, z9d, z9d, z9d] rfl rfl ?_
       refine pure_ (i := 4) (N := some 18) (v := undef) (a' := ?_) #[z9c, z9c, z9c, z9c, z9c, z9d, z9d, z9d, z9d, z9d, z9d, z9d, z9d, z9d, z9d, z9d, z9d, z9d] rfl rfl (any_of HT_.out z1m) (fun _ _ _ h => h) (Or.inr ⟨z2b, rfl⟩) ?_ ?_
       rotate_left
       ·simp only [Act.put, z9e, z9f, z9g, i64_w, i32_w]
        rfl
       refine pure_ (i := 5) (N := some 19) (v := undef) (a' := ?_) #[z9c, z9c, z9c, z9c, z9c, z9c, z9d, z9d, z9d, z9d, z9d, z9d, z9d, z9d, z9d, z9d, z9d, z9d] rfl rfl (any_of HT_.out z1m) (fun _ _ _ h => h) (Or.inr ⟨z2b, rfl⟩) ?_ ?_
       rotate_left
       ·simp only [Act.put, z9e, z9f, z9g, i64_w, i32_w]
        rfl
       refine pure_ (i := 6) (N := some 20) (v := undef) (a' := ?_) #[z9c, z9c, z9c, z9c, z9c, z9c, z9c, z9d, z9d, z9d, z9d, z9d, z9d, z9d, z9d, z9d, z9d, z9d] rfl rfl (any_of HT_.out z1m) (fun _ _ _ h => h) (Or.inr ⟨z2b, rfl⟩) ?_ ?_
       rotate_left
       ·simp only [Act.put, z9e, z9f, z9g, i64_w, i32_w]
        rfl
       refine pure_ (i := 7) (N := some 21) (v := undef) (a' := ?_) #[z9c, z9c, z9c, z9c, z9c, z9c, z9c, z9c, z9d, z9d, z9d, z9d, z9d, z9d, z9d, z9d, z9d, z9d] rfl rfl (any_of HT_.out z1m) (fun _ _ _ h => h) (Or.inr ⟨z2b, rfl⟩) ?_ ?_
       rotate_left
       ·simp only [Act.put, z9e, z9f, z9g, i64_w, i32_w]
        rfl
       refine pure_ (i := 8) (N := some 22) (v := undef) (a' := ?_) #[z9c, z9c, z9c, z9c, z9c, z9c, z9c, z9c, z9c, z9d, z9d, z9d, z9d, z9d, z9d, z9d, z9d, z9d] rfl rfl (any_of HT_.out z1m) (fun _ _ _ h => h) (Or.inr ⟨z2b, rfl⟩) ?_ ?_
       rotate_left
       ·simp only [Act.put, z9e, z9f, z9g, i64_w, i32_w]
        rfl
       refine pure_ (i := 9) (N := some 23) (v := undef) (a' := ?_) #[z9c, z9c, z9c, z9c, z9c, z9c, z9c, z9c, z9c, z9c, z9d, z9d, z9d, z9d, z9d, z9d, z9d, z9d] rfl rfl (any_of HT_.out z1m) (fun _ _ _ h => h) (Or.inr ⟨z2b, rfl⟩) ?_ ?_
       rotate_left
       ·simp only [Act.put, z9e, z9f, z9g, i64_w, i32_w]
        rfl
       refine pure_ (i := 10) (N := some 24) (v := undef) (a' := ?_) #[z9c, z9c, z9c, z9c, z9c, z9c, z9c, z9c, z9c, z9c, z9c, z9d, z9d, z9d, z9d, z9d, z9d, z9d] rfl rfl (any_of HT_.out z1m) (fun _ _ _ h => h) (Or.inr ⟨z2b, rfl⟩) ?_ ?_
       rotate_left
       ·simp only [Act.put, z9e, z9f, z9g, i64_w, i32_w]
        rfl
       refine pure_ (i := 11) (N := some 25) (v := undef) (a' := ?_) #[z9c, z9c, z9c, z9c, z9c, z9c, z9c, z9c, z9c, z9c, z9c, z9c, z9d, z9d, z9d, z9d, z9d, z9d] rfl rfl (any_of HT_.out z1m) (fun _ _ _ h => h) (Or.inr ⟨z2b, rfl⟩) ?_ ?_
       rotate_left
       ·simp only [Act.put, z9e, z9f, z9g, i64_w, i32_w]
        rfl
       refine pure_ (i := 12) (N := some 26) (v := undef) (a' := ?_) #[z9c, z9c, z9c, z9c, z9c, z9c, z9c, z9c, z9c, z9c, z9c, z9c, z9c, z9d, z9d, z9d, z9d, z9d] rfl rfl (any_of HT_.out z1m) (fun _ _ _ h => h) (Or.inr ⟨z2b, rfl⟩) ?_ ?_
       rotate_left
       ·simp only [Act.put, z9e, z9f, z9g, i64_w, i32_w]
        rfl
       refine pure_ (i := 13) (N := some 27) (v := undef) (a' := ?_) #[z9c, z9c, z9c, z9c, z9c, z9c, z9c, z9c, z9c, z9c, z9c, z9c, z9c, z9c, z9d, z9d, z9d, z9d] rfl rfl (any_of HT_.out z1m) (fun _ _ _ h => h) (Or.inr ⟨z2b, rfl⟩) ?_ ?_
       rotate_left
       ·simp only [Act.put, z9e, z9f, z9g, i64_w, i32_w]
        rfl
       refine pure_ (i := 14) (N := some 28) (v := undef) (a' := ?_) #[z9c, z9c, z9c, z9c, z9c, z9c, z9c, z9c, z9c, z9c, z9c, z9c, z9c, z9c, z9c, z9d, z9d, z9d] rfl rfl (any_of HT_.out z1m) (fun _ _ _ h => h) (Or.inr ⟨z2b, rfl⟩) ?_ ?_
       rotate_left
       ·simp only [Act.put, z9e, z9f, z9g, i64_w, i32_w]
        rfl
       refine pure_ (i := 15) (N := some 29) (v := undef) (a' := ?_) #[z9c, z9c, z9c, z9c, z9c, z9c, z9c, z9c, z9c, z9c, z9c, z9c, z9c, z9c, z9c, z9c, z9d, z9d] rfl rfl (any_of HT_.out z1m) (fun _ _ _ h => h) (Or.inr ⟨z2b, rfl⟩) ?_ ?_
       rotate_left
       ·simp only [Act.put, z9e, z9f, z9g, i64_w, i32_w]
        rfl
       refine pure_ (i := 16) (N := some 30) (v := undef) (a' := ?_) #[z9c, z9c, z9c, z9c, z9c, z9c, z9c, z9c, z9c, z9c, z9c, z9c, z9c, z9c, z9c, z9c, z9c, z9d] rfl rfl (any_of HT_.out z1m) (fun _ _ _ h => h) (Or.inr ⟨z2b, rfl⟩) ?_ ?_
       rotate_left
       ·simp only [Act.put, z9e, z9f, z9g, i64_w, i32_w]
        rfl
       refine zw 17 (some 31) #[z9c, z9c, z9c, z9c, z9c, z9c, z9c, z9c, z9c, z9c, z9c, z9c, z9c, z9c, z9c, z9c, z9c, z9c] rfl rfl ?_
       refine done_ (done_of HT_.out z1m) ?_
       try go_wp2
       go_ret
       exact ⟨z1t, z2a⟩
     ·rw [if_neg c5] at H
      exact absurd H (by simp)
    ·rw [if_neg c4] at H
     exact absurd H (by simp)
   ·rw [if_neg c3] at H
    have c3b0 := decide_eq_false c3
    clear c3
    obtain rfl := Option.some.inj H
    go_wp2
    go_ret
    exact ⟨z1t, z1r⟩
def impl_EntryOk.l0 : Nat → List (S35) → Int → Int → ByteArray → Int → Int → Int → ByteArray → List (S35) → Option (Bool)
 | 0, _, _, _, _, _, _, _, _, _ => none
 | k + 1, x6, x7, x8, x166000, x166001, x166002, x166003, x166004, x166005 => if x8 < x7 then (if 0 ≤ x8 then (if x8 < (x6.length : Int) then (if ((rd_T35 x6 x8).f0).toList = x166000.toList then (some false) else (impl_EntryOk.l0 k x6 x7 (wrap64 (x8 + 1)) x166000 x166001 x166002 x166003 x166004 x166005)) else (none)) else (none)) else ((impl_Fits.f k x166000 x166001 x166002 x166003 x166004).bind fun t168 => (if t168 = true then ((impl_ascending.f k x166005 8).bind fun t169 => (some t169)) else (some false)))
def impl_EntryOk.f (k : Nat) (a0_0 : ByteArray) (a0_1 : Int) (a0_2 : Int) (a0_3 : Int) (a0_4 : ByteArray) (l0_5 : List (S35)) : Option (Bool) := impl_EntryOk.l0 k l0_5 (l0_5.length : Int) 0 a0_0 a0_1 a0_2 a0_3 a0_4 l0_5
set_option maxHeartbeats 8000000 in
set_option maxRecDepth 100000 in
theorem impl_EntryOk.calls (k : Nat) (a0_0 : ByteArray) (a0_1 : Int) (a0_2 : Int) (a0_3 : Int) (a0_4 : ByteArray) (A0_5 : Option Addr) (c0_5 : Nat) (l0_5 : List (S35)) (r : Bool) (w : World) (hr0_5 : Kd.C k35 w A0_5 l0_5.length l0_5) (hc0_5 : l0_5.length ≤ c0_5) (h : impl_EntryOk.f k a0_0 a0_1 a0_2 a0_3 a0_4 l0_5 = some r) :
  Calls Tryz.prog 11 #[.agg #[.string a0_0, .int .i64 a0_1, .int .i64 a0_2, .int .i64 a0_3, .string a0_4, .slice A0_5 l0_5.length c0_5]] w fun e w' => e = .returned (.bool r) ∧ Below w.heap.size w w' := by
 have hu28 := Tryz.underlying28
 have hu35 := Tryz.underlying35
 have hu25 := Tryz.underlying25
 have HR0_5 := zn hr0_5
 have HC0_5 := zn hc0_5
 clear hr0_5 hc0_5
 have HB := zn (Below.refl w.heap.size w)
 have H := h
 unfold impl_EntryOk.f at H
 clear h
 have H' := zn H
 clear H
 go_enter Tryz.func11, Tryz.ntmps11
 go_wp2_with (first | ((with_reducible refine zr 1 rfl ?_); refine zt 28 #[.string a0_0, .int .i64 a0_1, .int .i64 a0_2, .int .i64 a0_3, .string a0_4, .slice A0_5 l0_5.length c0_5] ?_; intro gb165 hg w2 hbox hb; have n_ := zv (below_step z1r hb) hbox (z8j : w.heap.size ≤ gb165) (z8j : w.heap.size ≤ gb165); clear HB; obtain ⟨HB, BK165, GW165, GE165⟩ := n_; clear hb hbox hg; obtain ⟨hcz3_0, hcz3_1, hcz3_2, hcz3_3, hcz3_4, hcz3_5, hfz3_0, hfz3_1, hfz3_2, hfz3_3, hfz3_4, hfz3_5⟩ := zh BK165.out))
 go_loopg [8] k (fun kq v8 w' => ∃ (x8_1 : Int), v8 = .int .i64 x8_1 ∧ Aside0 (impl_EntryOk.l0 kq l0_5 (l0_5.length : Int) x8_1 a0_0 a0_1 a0_2 a0_3 a0_4 l0_5 = some r) ∧ Aside0 (kq ≤ k) ∧ Aside0 (w'.heap[gb165]? = some (.cells #[.string a0_0, .int .i64 a0_1, .int .i64 a0_2, .int .i64 a0_3, .string a0_4, (.slice A0_5 l0_5.length c0_5)] 28 (0, 0))) ∧ Aside0 (Below w.heap.size w w'))
 case atStart => exact ⟨(0), z1n, H', ⟨Nat.le_refl _⟩, ⟨by (repeat refine z1a ?_); exact BK165.out⟩, ⟨z2f⟩⟩
 case round =>
  clear H'
  try clear c1
  try clear p2
  try clear hcz3_0
  try clear hcz3_1
  try clear hcz3_2
  try clear hcz3_3
  try clear hcz3_4
  try clear hcz3_5
  try clear hfz3_0
  try clear hfz3_1
  try clear hfz3_2
  try clear hfz3_3
  try clear hfz3_4
  try clear hfz3_5
  obtain ⟨x8_1, rfl, HA, HK1, BK165, HB⟩ := hrel
  cases gk with
  | zero => exact absurd HA.out (by simp [impl_EntryOk.l0])
  | succ k1 =>
   have H := HA.out
   clear HA
   simp only [impl_EntryOk.l0] at H
   by_cases c4 : x8_1 < (l0_5.length : Int)
   ·rw [if_pos c4] at H
    have c4b0 := decide_eq_true c4
    clear c4
    by_cases c5 : 0 ≤ x8_1
    ·rw [if_pos c5] at H
     have c5b0 := decide_eq_true c5
     clear c5
     by_cases c6 : x8_1 < (l0_5.length : Int)
     ·rw [if_pos c6] at H
      have c6b0 := decide_eq_true c6
      clear c6
      by_cases c7 : ((rd_T35 l0_5 x8_1).f0).toList = a0_0.toList
      ·rw [if_pos c7] at H
       have c7b0 := beq_iff_eq.mpr c7
       have c7b1 := bne_eq_false_iff_eq.mpr c7
       clear c7
       obtain rfl := Option.some.inj H
       have p166 : 0 ≤ (x8_1 : Int) := of_decide_eq_true z1p
       have q166 : x8_1 < (l0_5.length : Int) := of_decide_eq_true z1p
       obtain ⟨ad166, e166, hx166_0, hx166_1, hx166_2, hx166_3, hx166_4⟩ := at_T35 HR0_5.out x8_1 p166 q166
       cases e166
       replace hx166_0 := zz HB.out hx166_0
       replace hx166_1 := zz HB.out hx166_1
       replace hx166_2 := zz HB.out hx166_2
       replace hx166_3 := zz HB.out hx166_3
       replace hx166_4 := zz HB.out hx166_4
       replace p166 := eq_true p166
       replace q166 := eq_true q166
       go_wp2_with (first | ((with_reducible refine zr 4 rfl ?_); refine zt 35 #[.string ⟨#[]⟩, .int .i64 0, .int .i64 0, .int .i64 0, .string ⟨#[]⟩] ?_; intro gb167 hg w8 hbox hb; have n_ := z1b (blk_below (zu BK165.out) hb) (below_step z2f hb) hbox (z8k : w.heap.size ≤ gb167) (z8k : w.heap.size ≤ gb167) ((by rw [hg]; exact Nat.ne_of_lt (blk_lt (zu BK165.out)) : gb165 ≠ gb167)) ((by rw [hg]; exact Nat.ne_of_gt (blk_lt (zu BK165.out)) : gb167 ≠ gb165)); clear BK165 HB; obtain ⟨BK165, HB, BK167, GW167, GE167, NB165_167, NB167_165⟩ := n_; clear hb hbox hg; have hnb9 := NB167_165.out; have hnc9 := NB165_167.out; obtain ⟨hcz10_0, hcz10_1, hcz10_2, hcz10_3, hcz10_4, hfz10_0, hfz10_1, hfz10_2, hfz10_3, hfz10_4⟩ := zg BK167.out; obtain ⟨hcz11_0, hcz11_1, hcz11_2, hcz11_3, hcz11_4, hcz11_5, hfz11_0, hfz11_1, hfz11_2, hfz11_3, hfz11_4, hfz11_5⟩ := zh BK165.out))
       go_ret
       exact ⟨z1t, by repeat (first | (with_reducible first | exact HB.out | apply below_alloc | apply pw_below_drewN | apply below_drew1 | refine below_set ?_ GE165.out | refine below_set ?_ GE167.out) | exact HB.out)⟩
      ·rw [if_neg c7] at H
       have c7b0 := beq_eq_false_iff_ne.mpr c7
       have c7b1 := bne_iff_ne.mpr c7
       have H' := zn H
       clear H
       have p166 : 0 ≤ (x8_1 : Int) := of_decide_eq_true z1p
       have q166 : x8_1 < (l0_5.length : Int) := of_decide_eq_true z1p
       obtain ⟨ad166, e166, hx166_0, hx166_1, hx166_2, hx166_3, hx166_4⟩ := at_T35 HR0_5.out x8_1 p166 q166
       cases e166
       replace hx166_0 := zz HB.out hx166_0
       replace hx166_1 := zz HB.out hx166_1
       replace hx166_2 := zz HB.out hx166_2
       replace hx166_3 := zz HB.out hx166_3
       replace hx166_4 := zz HB.out hx166_4
       replace p166 := eq_true p166
       replace q166 := eq_true q166
       go_wp2_with (first | ((with_reducible refine zr 4 rfl ?_); refine zt 35 #[.string ⟨#[]⟩, .int .i64 0, .int .i64 0, .int .i64 0, .string ⟨#[]⟩] ?_; intro gb167 hg w12 hbox hb; have n_ := z1b (blk_below (zu BK165.out) hb) (below_step z2f hb) hbox (z8k : w.heap.size ≤ gb167) (z8k : w.heap.size ≤ gb167) ((by rw [hg]; exact Nat.ne_of_lt (blk_lt (zu BK165.out)) : gb165 ≠ gb167)) ((by rw [hg]; exact Nat.ne_of_gt (blk_lt (zu BK165.out)) : gb167 ≠ gb165)); clear BK165 HB; obtain ⟨BK165, HB, BK167, GW167, GE167, NB165_167, NB167_165⟩ := n_; clear hb hbox hg; have hnb13 := NB167_165.out; have hnc13 := NB165_167.out; obtain ⟨hcz14_0, hcz14_1, hcz14_2, hcz14_3, hcz14_4, hfz14_0, hfz14_1, hfz14_2, hfz14_3, hfz14_4⟩ := zg BK167.out; obtain ⟨hcz15_0, hcz15_1, hcz15_2, hcz15_3, hcz15_4, hcz15_5, hfz15_0, hfz15_1, hfz15_2, hfz15_3, hfz15_4, hfz15_5⟩ := zh BK165.out))
       go_roundg k1
       case measure => have := HK1.out; omega
       case rel => exact ⟨(wrap64 (x8_1 + 1)), z1n, H', ⟨z1q⟩, ⟨by (repeat (first | refine z1a ?_ | refine blk_far ?_ NB165_167.out _)); exact BK165.out⟩, ⟨by repeat (first | (with_reducible first | exact HB.out | apply below_alloc | apply pw_below_drewN | apply below_drew1 | refine below_set ?_ GE165.out | refine below_set ?_ GE167.out) | exact HB.out)⟩⟩
     ·rw [if_neg c6] at H
      exact absurd H (by simp)
    ·rw [if_neg c5] at H
     exact absurd H (by simp)
   ·rw [if_neg c4] at H
    have c4b0 := decide_eq_false c4
    clear c4
    obtain ⟨t168, A16, H⟩ := zm H
    try dsimp only at H
    by_cases c17 : t168 = true
    ·subst c17
     rw [if_pos rfl] at H
     obtain ⟨t169, A18, H⟩ := zm H
     try dsimp only at H
     obtain rfl := Option.some.inj H
     obtain ⟨hcz19_0, hcz19_1, hcz19_2, hcz19_3, hcz19_4, hcz19_5, hfz19_0, hfz19_1, hfz19_2, hfz19_3, hfz19_4, hfz19_5⟩ := zh BK165.out
     go_wp2_with (first | ((with_reducible refine zi 35 rfl ?_); refine zj (some 22) Tryz.func35 #[.string a0_0, .agg #[.int .i64 a0_1, .int .i64 a0_2, .int .i64 a0_3, .string a0_4]] rfl ?_; (with_reducible refine (impl_Fits.calls k1 a0_0 a0_1 a0_2 a0_3 a0_4 true _ A16.out).mono ?_); rintro e w20 ⟨rfl, hb⟩; refine ⟨_, rfl, ?_⟩; have n_ := zo (blk_below (zu BK165.out) hb) (below_step z2f hb); clear BK165 HB; obtain ⟨BK165, HB⟩ := n_; (try clear hb); obtain ⟨hcz21_0, hcz21_1, hcz21_2, hcz21_3, hcz21_4, hcz21_5, hfz21_0, hfz21_1, hfz21_2, hfz21_3, hfz21_4, hfz21_5⟩ := zh BK165.out) | (go_at_call 36; (with_reducible refine (impl_ascending.calls k1 _ _ l0_5 8 t169 _ ?side1 ?side2 A18.out).mono ?_); (case side1 => exact z2g); (case side2 => exact HC0_5.out); rintro e w22 ⟨rfl, hb⟩; have n_ := zo (blk_below (zu BK165.out) hb) (below_step z2f hb); clear BK165 HB; obtain ⟨BK165, HB⟩ := n_; (try clear hb)))
     go_ret
     exact ⟨z1t, z2f⟩
    ·replace c17 := Bool.eq_false_iff.mpr c17
     subst c17
     rw [if_neg zk] at H
     obtain rfl := Option.some.inj H
     obtain ⟨hcz23_0, hcz23_1, hcz23_2, hcz23_3, hcz23_4, hcz23_5, hfz23_0, hfz23_1, hfz23_2, hfz23_3, hfz23_4, hfz23_5⟩ := zh BK165.out
     go_wp2_with (first | ((with_reducible refine zi 35 rfl ?_); refine zj (some 22) Tryz.func35 #[.string a0_0, .agg #[.int .i64 a0_1, .int .i64 a0_2, .int .i64 a0_3, .string a0_4]] rfl ?_; (with_reducible refine (impl_Fits.calls k1 a0_0 a0_1 a0_2 a0_3 a0_4 false _ A16.out).mono ?_); rintro e w24 ⟨rfl, hb⟩; refine ⟨_, rfl, ?_⟩; have n_ := zo (blk_below (zu BK165.out) hb) (below_step z2f hb); clear BK165 HB; obtain ⟨BK165, HB⟩ := n_; (try clear hb)))
     go_ret
     exact ⟨z1t, z2f⟩
def impl_VersionText.f (k : Nat) (a0_0 : Int) (a0_1 : Int) (a0_2 : Int) (a0_3 : ByteArray) : Option (ByteArray) := (impl_VersionOk.f k a0_0 a0_1 a0_2 a0_3).bind fun t171 => (if t171 = true then ((strconv_Itoa.f a0_0).bind fun t172 => (if 1 + t172.size ≤ 9223372036854775807 then (if ((⟨#[118]⟩ : ByteArray) ++ t172).size + 1 ≤ 9223372036854775807 then ((strconv_Itoa.f a0_1).bind fun t173 => (if (((⟨#[118]⟩ : ByteArray) ++ t172) ++ (⟨#[46]⟩ : ByteArray)).size + t173.size ≤ 9223372036854775807 then (if ((((⟨#[118]⟩ : ByteArray) ++ t172) ++ (⟨#[46]⟩ : ByteArray)) ++ t173).size + 1 ≤ 9223372036854775807 then ((strconv_Itoa.f a0_2).bind fun t174 => (if (((((⟨#[118]⟩ : ByteArray) ++ t172) ++ (⟨#[46]⟩ : ByteArray)) ++ t173) ++ (⟨#[46]⟩ : ByteArray)).size + t174.size ≤ 9223372036854775807 then (if a0_3.toList = ([] : List UInt8) then (some ((((((⟨#[118]⟩ : ByteArray) ++ t172) ++ (⟨#[46]⟩ : ByteArray)) ++ t173) ++ (⟨#[46]⟩ : ByteArray)) ++ t174)) else (if 1 + a0_3.size ≤ 9223372036854775807 then (if ((((((⟨#[118]⟩ : ByteArray) ++ t172) ++ (⟨#[46]⟩ : ByteArray)) ++ t173) ++ (⟨#[46]⟩ : ByteArray)) ++ t174).size + ((⟨#[45]⟩ : ByteArray) ++ a0_3).size ≤ 9223372036854775807 then (some (((((((⟨#[118]⟩ : ByteArray) ++ t172) ++ (⟨#[46]⟩ : ByteArray)) ++ t173) ++ (⟨#[46]⟩ : ByteArray)) ++ t174) ++ ((⟨#[45]⟩ : ByteArray) ++ a0_3))) else (none)) else (none))) else (none))) else (none)) else (none))) else (none)) else (none))) else (some (⟨#[]⟩ : ByteArray)))
def impl_VersionText.T3 : Bool × List (List Nat × List Nat) := (true, [([], []), ([0], [0]), ([1], [1]), ([2], [2]), ([3], [3]), ([], []), ([5], [5]), ([6, 2], [6]), ([4, 7], [4, 7]), ([8], [8]), ([], []), ([10], [10]), ([11, 7], [11]), ([9, 12], [9, 12]), ([13, 12, 0, 1, 2, 3, 4, 5, 6, 7, 8, 9, 10, 11, 12, 13], [13])])
def impl_VersionText.B3 : List Nat := [0, 1, 3, 7, 15, 0, 32, 103, 255, 511, 0, 1024, 3303, 8191, 16383]
theorem impl_VersionText.tab3 : rtab .any (opsOf Tryz.f41 3) = impl_VersionText.T3 := by kernel_rfl
theorem impl_VersionText.bits3 : waitsOk impl_VersionText.T3.2 impl_VersionText.B3 = true := by kernel_rfl
set_option maxHeartbeats 8000000 in
set_option maxRecDepth 100000 in
theorem impl_VersionText.calls (k : Nat) (a0_0 : Int) (a0_1 : Int) (a0_2 : Int) (a0_3 : ByteArray) (r : ByteArray) (w : World) (hG_ : GlobI w) (h : impl_VersionText.f k a0_0 a0_1 a0_2 a0_3 = some r) :
  Calls Tryz.prog 41 #[.agg #[.int .i64 a0_0, .int .i64 a0_1, .int .i64 a0_2, .string a0_3]] w fun e w' => e = .returned (.string r) ∧ Below w.heap.size w w' := by
 have HG_ := zn hG_
 clear hG_
 have hu25 := Tryz.underlying25
 have HB := zn (Below.refl w.heap.size w)
 have H := h
 unfold impl_VersionText.f at H
 clear h
 obtain ⟨t171, A2, H⟩ := zm H
 try dsimp only at H
 by_cases c3 : t171 = true
 ·subst c3
  rw [if_pos rfl] at H
  obtain ⟨t172, A4, H⟩ := zm H
  try dsimp only at H
  by_cases c5 : 1 + t172.size ≤ 9223372036854775807
  ·rw [if_pos c5] at H
   have c5b0 := eq_true c5
   have c5b1 := decide_eq_true c5
   try have c5b2 : (9223372036854775807 < 1 + t172.size) = False := eq_false (Nat.not_lt.2 c5)
   by_cases c6 : ((⟨#[118]⟩ : ByteArray) ++ t172).size + 1 ≤ 9223372036854775807
   ·rw [if_pos c6] at H
    have c6s0 : (9223372036854775807 < 1 + t172.size + 1) = False := eq_false (Nat.not_lt.2 (by have h_ := c6; simp only [ByteArray.size_append] at h_; exact h_))
    have c6b0 := eq_true c6
    have c6b1 := decide_eq_true c6
    try have c6b2 : (9223372036854775807 < ((⟨#[118]⟩ : ByteArray) ++ t172).size + 1) = False := eq_false (Nat.not_lt.2 c6)
    obtain ⟨t173, A7, H⟩ := zm H
    try dsimp only at H
    by_cases c8 : (((⟨#[118]⟩ : ByteArray) ++ t172) ++ (⟨#[46]⟩ : ByteArray)).size + t173.size ≤ 9223372036854775807
    ·rw [if_pos c8] at H
     have c8s0 : (9223372036854775807 < 1 + t172.size + 1 + t173.size) = False := eq_false (Nat.not_lt.2 (by have h_ := c8; simp only [ByteArray.size_append] at h_; exact h_))
     have c8b0 := eq_true c8
     have c8b1 := decide_eq_true c8
     try have c8b2 : (9223372036854775807 < (((⟨#[118]⟩ : ByteArray) ++ t172) ++ (⟨#[46]⟩ : ByteArray)).size + t173.size) = False := eq_false (Nat.not_lt.2 c8)
     by_cases c9 : ((((⟨#[118]⟩ : ByteArray) ++ t172) ++ (⟨#[46]⟩ : ByteArray)) ++ t173).size + 1 ≤ 9223372036854775807
     ·rw [if_pos c9] at H
      have c9s0 : (9223372036854775807 < 1 + t172.size + 1 + t173.size + 1) = False := eq_false (Nat.not_lt.2 (by have h_ := c9; simp only [ByteArray.size_append] at h_; exact h_))
      have c9b0 := eq_true c9
      have c9b1 := decide_eq_true c9
      try have c9b2 : (9223372036854775807 < ((((⟨#[118]⟩ : ByteArray) ++ t172) ++ (⟨#[46]⟩ : ByteArray)) ++ t173).size + 1) = False := eq_false (Nat.not_lt.2 c9)
      obtain ⟨t174, A10, H⟩ := zm H
      try dsimp only at H
      by_cases c11 : (((((⟨#[118]⟩ : ByteArray) ++ t172) ++ (⟨#[46]⟩ : ByteArray)) ++ t173) ++ (⟨#[46]⟩ : ByteArray)).size + t174.size ≤ 9223372036854775807
      ·rw [if_pos c11] at H
       have c11s0 : (9223372036854775807 < 1 + t172.size + 1 + t173.size + 1 + t174.size) = False := eq_false (Nat.not_lt.2 (by have h_ := c11; simp only [ByteArray.size_append] at h_; exact h_))
       have c11b0 := eq_true c11
       have c11b1 := decide_eq_true c11
       try have c11b2 : (9223372036854775807 < (((((⟨#[118]⟩ : ByteArray) ++ t172) ++ (⟨#[46]⟩ : ByteArray)) ++ t173) ++ (⟨#[46]⟩ : ByteArray)).size + t174.size) = False := eq_false (Nat.not_lt.2 c11)
       by_cases c12 : a0_3.toList = ([] : List UInt8)
       ·rw [if_pos c12] at H
        have c12b0 := beq_iff_eq.mpr c12
        have c12b1 := bne_eq_false_iff_eq.mpr c12
        clear c12
        obtain rfl := Option.some.inj H
        go_enter Tryz.func41, Tryz.ntmps41
        try go_wp2_with (first | ((with_reducible refine zr 1 rfl ?_); refine zt 25 #[.int .i64 a0_0, .int .i64 a0_1, .int .i64 a0_2, .string a0_3] ?_; intro gb170 hg w13 hbox hb; have n_ := zv (below_step z1r hb) hbox (z8j : w.heap.size ≤ gb170) (z8j : w.heap.size ≤ gb170); clear HB; obtain ⟨HB, BK170, GW170, GE170⟩ := n_; clear hb hbox hg; obtain ⟨hcz14_0, hcz14_1, hcz14_2, hcz14_3, hfz14_0, hfz14_1, hfz14_2, hfz14_3⟩ := zf BK170.out) | ((with_reducible refine zi 71 rfl ?_); refine zj (some 5) Tryz.func71 #[.agg #[.int .i64 a0_0, .int .i64 a0_1, .int .i64 a0_2, .string a0_3]] rfl ?_; (with_reducible refine (impl_VersionOk.calls k a0_0 a0_1 a0_2 a0_3 true _ A2.out).mono ?_); rintro e w15 ⟨rfl, hb⟩; refine ⟨_, rfl, ?_⟩; have n_ := zo (blk_below (zu BK170.out) hb) (below_step z2h hb); clear BK170 HB; obtain ⟨BK170, HB⟩ := n_; (try clear hb)))
        have n_ := zo (blk_drew BK170.out) (below_drew1 HB.out)
        clear BK170 HB
        obtain ⟨BK170, HB⟩ := n_
        refine start_ (n := 15) (S := fun w' => w'.cell? ⟨gb170, 0, none⟩ = some (.int .i64 a0_0) ∧ w'.cell? ⟨gb170, 1, none⟩ = some (.int .i64 a0_1) ∧ w'.cell? ⟨gb170, 2, none⟩ = some (.int .i64 a0_2) ∧ w'.cell? ⟨gb170, 3, none⟩ = some (.string a0_3)) (ds := []) #[z9d, z9d, z9d, z9d, z9d, z9d, z9d, z9d, z9d, z9d, z9d, z9d, z9d, z9d, z9d] z1m rfl rfl ⟨(blk_cell BK170.out 0).trans rfl, (blk_cell BK170.out 1).trans rfl, (blk_cell BK170.out 2).trans rfl, (blk_cell BK170.out 3).trans rfl⟩ (fun hHeld => ?_); refine with_tabW impl_VersionText.tab3 impl_VersionText.bits3 (fun HT_ HW_ => ?_)
        generalize w15.drew = w16 at BK170 HB hHeld ⊢
        refine zw 0 (some 7) #[z9c, z9d, z9d, z9d, z9d, z9d, z9d, z9d, z9d, z9d, z9d, z9d, z9d, z9d, z9d] rfl rfl ?_
        refine zw 5 (some 12) #[z9c, z9d, z9d, z9d, z9d, z9c, z9d, z9d, z9d, z9d, z9d, z9d, z9d, z9d, z9d] rfl rfl ?_
        refine zw 10 (some 17) #[z9c, z9d, z9d, z9d, z9d, z9c, z9d, z9d, z9d, z9d, z9c, z9d, z9d, z9d, z9d] rfl rfl ?_
        refine zx 1 (some 8) #[z9c, z9c, z9d, z9d, z9d, z9c, z9d, z9d, z9d, z9d, z9c, z9d, z9d, z9d, z9d] rfl rfl (Or.inl ⟨z2b, z2i⟩) hHeld ?_
        refine zx 6 (some 13) #[z9c, z9c, z9d, z9d, z9d, z9c, z9c, z9d, z9d, z9d, z9c, z9d, z9d, z9d, z9d] rfl rfl (Or.inl ⟨z2b, z2i⟩) hHeld ?_
        refine zx 11 (some 18) #[z9c, z9c, z9d, z9d, z9d, z9c, z9c, z9d, z9d, z9d, z9c, z9c, z9d, z9d, z9d] rfl rfl (Or.inl ⟨z2b, z2i⟩) hHeld ?_
        refine one_ (i := 2) (N := some 9) #[z9c, z9c, z9c, z9d, z9d, z9c, z9c, z9d, z9d, z9d, z9c, z9c, z9d, z9d, z9d] rfl rfl (one_of HT_.out z1m) z1l (fun K hK => ?_)
        refine goes_ Tryz.func78 z1m rfl #[.int .i64 a0_0] z2b rfl rfl z2d ?_
        with_reducible refine (strconv_Itoa.calls (hG_ := globI_on HG_.out z2j) a0_0 t172 _ A4.out).mono ?_
        rintro e w17 ⟨rfl, hb⟩
        refine ⟨_, rfl, ?_⟩
        have n_ := zo (blk_below (zu BK170.out) hb) (below_step z2h hb)
        clear BK170 HB
        obtain ⟨BK170, HB⟩ := n_
        (try clear hb)
        (try clear hb2)
        (try clear hk)
        (try clear hi)
        refine hK.out _ _ ⟨(blk_cell BK170.out 0).trans rfl, (blk_cell BK170.out 1).trans rfl, (blk_cell BK170.out 2).trans rfl, (blk_cell BK170.out 3).trans rfl⟩ (fun hHeld => ?_)
        clear hK K
        refine zy (some 9) rfl ?_
        refine zw 3 (some 10) #[z9c, z9c, z9c, z9c, z9d, z9c, z9c, z9d, z9d, z9d, z9c, z9c, z9d, z9d, z9d] rfl rfl ?_
        refine zw 4 (some 11) #[z9c, z9c, z9c, z9c, z9c, z9c, z9c, z9d, z9d, z9d, z9c, z9c, z9d, z9d, z9d] rfl rfl ?_
        refine one_ (i := 7) (N := some 14) #[z9c, z9c, z9c, z9c, z9c, z9c, z9c, z9c, z9d, z9d, z9c, z9c, z9d, z9d, z9d] rfl rfl (one_of HT_.out z1m) z1l (fun K hK => ?_)
        refine goes_ Tryz.func78 z1m rfl #[.int .i64 a0_1] z2b rfl rfl z2d ?_
        with_reducible refine (strconv_Itoa.calls (hG_ := globI_on HG_.out z2j) a0_1 t173 _ A7.out).mono ?_
        rintro e w18 ⟨rfl, hb⟩
        refine ⟨_, rfl, ?_⟩
        have n_ := zo (blk_below (zu BK170.out) hb) (below_step z2h hb)
        clear BK170 HB
        obtain ⟨BK170, HB⟩ := n_
        (try clear hb)
        (try clear hb2)
        (try clear hk)
        (try clear hi)
        refine hK.out _ _ ⟨(blk_cell BK170.out 0).trans rfl, (blk_cell BK170.out 1).trans rfl, (blk_cell BK170.out 2).trans rfl, (blk_cell BK170.out 3).trans rfl⟩ (fun hHeld => ?_)
        clear hK K
        refine zy (some 14) rfl ?_
        refine zw 8 (some 15) #[z9c, z9c, z9c, z9c, z9c, z9c, z9c, z9c, z9c, z9d, z9c, z9c, z9d, z9d, z9d] rfl rfl ?_
        refine zw 9 (some 16) #[z9c, z9c, z9c, z9c, z9c, z9c, z9c, z9c, z9c, z9c, z9c, z9c, z9d, z9d, z9d] rfl rfl ?_
        refine one_ (i := 12) (N := some 19) #[z9c, z9c, z9c, z9c, z9c, z9c, z9c, z9c, z9c, z9c, z9c, z9c, z9c, z9d, z9d] rfl rfl (one_of HT_.out z1m) z1l (fun K hK => ?_)
        refine goes_ Tryz.func78 z1m rfl #[.int .i64 a0_2] z2b rfl rfl z2d ?_
        with_reducible refine (strconv_Itoa.calls (hG_ := globI_on HG_.out z2j) a0_2 t174 _ A10.out).mono ?_
        rintro e w19 ⟨rfl, hb⟩
        refine ⟨_, rfl, ?_⟩
        have n_ := zo (blk_below (zu BK170.out) hb) (below_step z2h hb)
        clear BK170 HB
        obtain ⟨BK170, HB⟩ := n_
        (try clear hb)
        (try clear hb2)
        (try clear hk)
        (try clear hi)
        refine hK.out _ _ ⟨(blk_cell BK170.out 0).trans rfl, (blk_cell BK170.out 1).trans rfl, (blk_cell BK170.out 2).trans rfl, (blk_cell BK170.out 3).trans rfl⟩ (fun hHeld => ?_)
        clear hK K
        refine zy (some 19) rfl ?_
        refine zw 13 (some 20) #[z9c, z9c, z9c, z9c, z9c, z9c, z9c, z9c, z9c, z9c, z9c, z9c, z9c, z9c, z9d] rfl rfl ?_
        refine zw 14 (some 3) #[z9c, z9c, z9c, z9c, z9c, z9c, z9c, z9c, z9c, z9c, z9c, z9c, z9c, z9c, z9c] rfl rfl ?_
        refine done_ (done_of HT_.out z1m) ?_
        obtain ⟨hcz20_0, hcz20_1, hcz20_2, hcz20_3, hfz20_0, hfz20_1, hfz20_2, hfz20_3⟩ := zf BK170.out
        try go_wp2
        go_ret
        exact ⟨z1t, z2h⟩
       ·rw [if_neg c12] at H
        have c12b0 := beq_eq_false_iff_ne.mpr c12
        have c12b1 := bne_iff_ne.mpr c12
        by_cases c21 : 1 + a0_3.size ≤ 9223372036854775807
        ·rw [if_pos c21] at H
         have c21b0 := eq_true c21
         have c21b1 := decide_eq_true c21
         try have c21b2 : (9223372036854775807 < 1 + a0_3.size) = False := eq_false (Nat.not_lt.2 c21)
         by_cases c22 : ((((((⟨#[118]⟩ : ByteArray) ++ t172) ++ (⟨#[46]⟩ : ByteArray)) ++ t173) ++ (⟨#[46]⟩ : ByteArray)) ++ t174).size + ((⟨#[45]⟩ : ByteArray) ++ a0_3).size ≤ 9223372036854775807
         ·rw [if_pos c22] at H
          have c22s0 : (9223372036854775807 < 1 + t172.size + 1 + t173.size + 1 + t174.size + (1 + a0_3.size)) = False := eq_false (Nat.not_lt.2 (by have h_ := c22; simp only [ByteArray.size_append] at h_; exact h_))
          have c22b0 := eq_true c22
          have c22b1 := decide_eq_true c22
          try have c22b2 : (9223372036854775807 < ((((((⟨#[118]⟩ : ByteArray) ++ t172) ++ (⟨#[46]⟩ : ByteArray)) ++ t173) ++ (⟨#[46]⟩ : ByteArray)) ++ t174).size + ((⟨#[45]⟩ : ByteArray) ++ a0_3).size) = False := eq_false (Nat.not_lt.2 c22)
          obtain rfl := Option.some.inj H
          go_enter Tryz.func41, Tryz.ntmps41
          try go_wp2_with (first | ((with_reducible refine zr 1 rfl ?_); refine zt 25 #[.int .i64 a0_0, .int .i64 a0_1, .int .i64 a0_2, .string a0_3] ?_; intro gb170 hg w23 hbox hb; have n_ := zv (below_step z1r hb) hbox (z8j : w.heap.size ≤ gb170) (z8j : w.heap.size ≤ gb170); clear HB; obtain ⟨HB, BK170, GW170, GE170⟩ := n_; clear hb hbox hg; obtain ⟨hcz24_0, hcz24_1, hcz24_2, hcz24_3, hfz24_0, hfz24_1, hfz24_2, hfz24_3⟩ := zf BK170.out) | ((with_reducible refine zi 71 rfl ?_); refine zj (some 5) Tryz.func71 #[.agg #[.int .i64 a0_0, .int .i64 a0_1, .int .i64 a0_2, .string a0_3]] rfl ?_; (with_reducible refine (impl_VersionOk.calls k a0_0 a0_1 a0_2 a0_3 true _ A2.out).mono ?_); rintro e w25 ⟨rfl, hb⟩; refine ⟨_, rfl, ?_⟩; have n_ := zo (blk_below (zu BK170.out) hb) (below_step z2h hb); clear BK170 HB; obtain ⟨BK170, HB⟩ := n_; (try clear hb)))
          have n_ := zo (blk_drew BK170.out) (below_drew1 HB.out)
          clear BK170 HB
          obtain ⟨BK170, HB⟩ := n_
          refine start_ (n := 15) (S := fun w' => w'.cell? ⟨gb170, 0, none⟩ = some (.int .i64 a0_0) ∧ w'.cell? ⟨gb170, 1, none⟩ = some (.int .i64 a0_1) ∧ w'.cell? ⟨gb170, 2, none⟩ = some (.int .i64 a0_2) ∧ w'.cell? ⟨gb170, 3, none⟩ = some (.string a0_3)) (ds := []) #[z9d, z9d, z9d, z9d, z9d, z9d, z9d, z9d, z9d, z9d, z9d, z9d, z9d, z9d, z9d] z1m rfl rfl ⟨(blk_cell BK170.out 0).trans rfl, (blk_cell BK170.out 1).trans rfl, (blk_cell BK170.out 2).trans rfl, (blk_cell BK170.out 3).trans rfl⟩ (fun hHeld => ?_); refine with_tabW impl_VersionText.tab3 impl_VersionText.bits3 (fun HT_ HW_ => ?_)
          generalize w25.drew = w26 at BK170 HB hHeld ⊢
          refine zw 0 (some 7) #[z9c, z9d, z9d, z9d, z9d, z9d, z9d, z9d, z9d, z9d, z9d, z9d, z9d, z9d, z9d] rfl rfl ?_
          refine zw 5 (some 12) #[z9c, z9d, z9d, z9d, z9d, z9c, z9d, z9d, z9d, z9d, z9d, z9d, z9d, z9d, z9d] rfl rfl ?_
          refine zw 10 (some 17) #[z9c, z9d, z9d, z9d, z9d, z9c, z9d, z9d, z9d, z9d, z9c, z9d, z9d, z9d, z9d] rfl rfl ?_
          refine zx 1 (some 8) #[z9c, z9c, z9d, z9d, z9d, z9c, z9d, z9d, z9d, z9d, z9c, z9d, z9d, z9d, z9d] rfl rfl (Or.inl ⟨z2b, z2i⟩) hHeld ?_
          refine zx 6 (some 13) #[z9c, z9c, z9d, z9d, z9d, z9c, z9c, z9d, z9d, z9d, z9c, z9d, z9d, z9d, z9d] rfl rfl (Or.inl ⟨z2b, z2i⟩) hHeld ?_
          refine zx 11 (some 18) #[z9c, z9c, z9d, z9d, z9d, z9c, z9c, z9d, z9d, z9d, z9c, z9c, z9d, z9d, z9d] rfl rfl (Or.inl ⟨z2b, z2i⟩) hHeld ?_
          refine one_ (i := 2) (N := some 9) #[z9c, z9c, z9c, z9d, z9d, z9c, z9c, z9d, z9d, z9d, z9c, z9c, z9d, z9d, z9d] rfl rfl (one_of HT_.out z1m) z1l (fun K hK => ?_)
          refine goes_ Tryz.func78 z1m rfl #[.int .i64 a0_0] z2b rfl rfl z2d ?_
          with_reducible refine (strconv_Itoa.calls (hG_ := globI_on HG_.out z2j) a0_0 t172 _ A4.out).mono ?_
          rintro e w27 ⟨rfl, hb⟩
          refine ⟨_, rfl, ?_⟩
          have n_ := zo (blk_below (zu BK170.out) hb) (below_step z2h hb)
          clear BK170 HB
          obtain ⟨BK170, HB⟩ := n_
          (try clear hb)
          (try clear hb2)
          (try clear hk)
          (try clear hi)
          refine hK.out _ _ ⟨(blk_cell BK170.out 0).trans rfl, (blk_cell BK170.out 1).trans rfl, (blk_cell BK170.out 2).trans rfl, (blk_cell BK170.out 3).trans rfl⟩ (fun hHeld => ?_)
          clear hK K
          refine zy (some 9) rfl ?_
          refine zw 3 (some 10) #[z9c, z9c, z9c, z9c, z9d, z9c, z9c, z9d, z9d, z9d, z9c, z9c, z9d, z9d, z9d] rfl rfl ?_
          refine zw 4 (some 11) #[z9c, z9c, z9c, z9c, z9c, z9c, z9c, z9d, z9d, z9d, z9c, z9c, z9d, z9d, z9d] rfl rfl ?_
          refine one_ (i := 7) (N := some 14) #[z9c, z9c, z9c, z9c, z9c, z9c, z9c, z9c, z9d, z9d, z9c, z9c, z9d, z9d, z9d] rfl rfl (one_of HT_.out z1m) z1l (fun K hK => ?_)
          refine goes_ Tryz.func78 z1m rfl #[.int .i64 a0_1] z2b rfl rfl z2d ?_
          with_reducible refine (strconv_Itoa.calls (hG_ := globI_on HG_.out z2j) a0_1 t173 _ A7.out).mono ?_
          rintro e w28 ⟨rfl, hb⟩
          refine ⟨_, rfl, ?_⟩
          have n_ := zo (blk_below (zu BK170.out) hb) (below_step z2h hb)
          clear BK170 HB
          obtain ⟨BK170, HB⟩ := n_
          (try clear hb)
          (try clear hb2)
          (try clear hk)
          (try clear hi)
          refine hK.out _ _ ⟨(blk_cell BK170.out 0).trans rfl, (blk_cell BK170.out 1).trans rfl, (blk_cell BK170.out 2).trans rfl, (blk_cell BK170.out 3).trans rfl⟩ (fun hHeld => ?_)
          clear hK K
          refine zy (some 14) rfl ?_
          refine zw 8 (some 15) #[z9c, z9c, z9c, z9c, z9c, z9c, z9c, z9c, z9c, z9d, z9c, z9c, z9d, z9d, z9d] rfl rfl ?_
          refine zw 9 (some 16) #[z9c, z9c, z9c, z9c, z9c, z9c, z9c, z9c, z9c, z9c, z9c, z9c, z9d, z9d, z9d] rfl rfl ?_
          refine one_ (i := 12) (N := some 19) #[z9c, z9c, z9c, z9c, z9c, z9c, z9c, z9c, z9c, z9c, z9c, z9c, z9c, z9d, z9d] rfl rfl (one_of HT_.out z1m) z1l (fun K hK => ?_)
          refine goes_ Tryz.func78 z1m rfl #[.int .i64 a0_2] z2b rfl rfl z2d ?_
          with_reducible refine (strconv_Itoa.calls (hG_ := globI_on HG_.out z2j) a0_2 t174 _ A10.out).mono ?_
          rintro e w29 ⟨rfl, hb⟩
          refine ⟨_, rfl, ?_⟩
          have n_ := zo (blk_below (zu BK170.out) hb) (below_step z2h hb)
          clear BK170 HB
          obtain ⟨BK170, HB⟩ := n_
          (try clear hb)
          (try clear hb2)
          (try clear hk)
          (try clear hi)
          refine hK.out _ _ ⟨(blk_cell BK170.out 0).trans rfl, (blk_cell BK170.out 1).trans rfl, (blk_cell BK170.out 2).trans rfl, (blk_cell BK170.out 3).trans rfl⟩ (fun hHeld => ?_)
          clear hK K
          refine zy (some 19) rfl ?_
          refine zw 13 (some 20) #[z9c, z9c, z9c, z9c, z9c, z9c, z9c, z9c, z9c, z9c, z9c, z9c, z9c, z9c, z9d] rfl rfl ?_
          refine zw 14 (some 3) #[z9c, z9c, z9c, z9c, z9c, z9c, z9c, z9c, z9c, z9c, z9c, z9c, z9c, z9c, z9c] rfl rfl ?_
          refine done_ (done_of HT_.out z1m) ?_
          obtain ⟨hcz30_0, hcz30_1, hcz30_2, hcz30_3, hfz30_0, hfz30_1, hfz30_2, hfz30_3⟩ := zf BK170.out
          try go_wp2
          go_ret
          exact ⟨z1t, z2h⟩
         ·rw [if_neg c22] at H
          exact absurd H (by simp)
        ·rw [if_neg c21] at H
         exact absurd H (by simp)
      ·rw [if_neg c11] at H
       exact absurd H (by simp)
     ·rw [if_neg c9] at H
      exact absurd H (by simp)
    ·rw [if_neg c8] at H
     exact absurd H (by simp)
   ·rw [if_neg c6] at H
    exact absurd H (by simp)
  ·rw [if_neg c5] at H
   exact absurd H (by simp)
 ·replace c3 := Bool.eq_false_iff.mpr c3
  subst c3
  rw [if_neg zk] at H
  obtain rfl := Option.some.inj H
  go_enter Tryz.func41, Tryz.ntmps41
  go_wp2_with (first | ((with_reducible refine zr 1 rfl ?_); refine zt 25 #[.int .i64 a0_0, .int .i64 a0_1, .int .i64 a0_2, .string a0_3] ?_; intro gb170 hg w31 hbox hb; have n_ := zv (below_step z1r hb) hbox (z8j : w.heap.size ≤ gb170) (z8j : w.heap.size ≤ gb170); clear HB; obtain ⟨HB, BK170, GW170, GE170⟩ := n_; clear hb hbox hg; obtain ⟨hcz32_0, hcz32_1, hcz32_2, hcz32_3, hfz32_0, hfz32_1, hfz32_2, hfz32_3⟩ := zf BK170.out) | ((with_reducible refine zi 71 rfl ?_); refine zj (some 5) Tryz.func71 #[.agg #[.int .i64 a0_0, .int .i64 a0_1, .int .i64 a0_2, .string a0_3]] rfl ?_; (with_reducible refine (impl_VersionOk.calls k a0_0 a0_1 a0_2 a0_3 false _ A2.out).mono ?_); rintro e w33 ⟨rfl, hb⟩; refine ⟨_, rfl, ?_⟩; have n_ := zo (blk_below (zu BK170.out) hb) (below_step z2h hb); clear BK170 HB; obtain ⟨BK170, HB⟩ := n_; (try clear hb)))
  go_ret
  exact ⟨z1t, z2h⟩
def impl_EntryName.f (k : Nat) (a0 : ByteArray) (a1_0 : Int) (a1_1 : Int) (a1_2 : Int) (a1_3 : ByteArray) : Option (ByteArray) := (impl_Fits.f k a0 a1_0 a1_1 a1_2 a1_3).bind fun t176 => (if t176 = true then (if a0.size + 1 ≤ 9223372036854775807 then ((impl_VersionText.f k a1_0 a1_1 a1_2 a1_3).bind fun t177 => (if (a0 ++ (⟨#[64]⟩ : ByteArray)).size + t177.size ≤ 9223372036854775807 then (some ((a0 ++ (⟨#[64]⟩ : ByteArray)) ++ t177)) else (none))) else (none)) else (some (⟨#[]⟩ : ByteArray)))
set_option maxHeartbeats 8000000 in
set_option maxRecDepth 100000 in
theorem impl_EntryName.calls (k : Nat) (a0 : ByteArray) (a1_0 : Int) (a1_1 : Int) (a1_2 : Int) (a1_3 : ByteArray) (r : ByteArray) (w : World) (hG_ : GlobI w) (h : impl_EntryName.f k a0 a1_0 a1_1 a1_2 a1_3 = some r) :
  Calls Tryz.prog 14 #[.string a0, .agg #[.int .i64 a1_0, .int .i64 a1_1, .int .i64 a1_2, .string a1_3]] w fun e w' => e = .returned (.string r) ∧ Below w.heap.size w w' := by
 have HG_ := zn hG_
 clear hG_
 have hu25 := Tryz.underlying25
 have HB := zn (Below.refl w.heap.size w)
 have H := h
 unfold impl_EntryName.f at H
 clear h
 obtain ⟨t176, A3, H⟩ := zm H
 try dsimp only at H
 by_cases c4 : t176 = true
 ·subst c4
  rw [if_pos rfl] at H
  by_cases c5 : a0.size + 1 ≤ 9223372036854775807
  ·rw [if_pos c5] at H
   have c5b0 := eq_true c5
   have c5b1 := decide_eq_true c5
   try have c5b2 : (9223372036854775807 < a0.size + 1) = False := eq_false (Nat.not_lt.2 c5)
   obtain ⟨t177, A6, H⟩ := zm H
   try dsimp only at H
   by_cases c7 : (a0 ++ (⟨#[64]⟩ : ByteArray)).size + t177.size ≤ 9223372036854775807
   ·rw [if_pos c7] at H
    have c7s0 : (9223372036854775807 < a0.size + 1 + t177.size) = False := eq_false (Nat.not_lt.2 (by have h_ := c7; simp only [ByteArray.size_append] at h_; exact h_))
    have c7b0 := eq_true c7
    have c7b1 := decide_eq_true c7
    try have c7b2 : (9223372036854775807 < (a0 ++ (⟨#[64]⟩ : ByteArray)).size + t177.size) = False := eq_false (Nat.not_lt.2 c7)
    obtain rfl := Option.some.inj H
    go_enter Tryz.func14, Tryz.ntmps14
    go_wp2_with (first | ((with_reducible refine zr 3 rfl ?_); refine zt 25 #[.int .i64 a1_0, .int .i64 a1_1, .int .i64 a1_2, .string a1_3] ?_; intro gb175 hg w8 hbox hb; have n_ := zv (below_step z1r hb) hbox (z8j : w.heap.size ≤ gb175) (z8j : w.heap.size ≤ gb175); clear HB; obtain ⟨HB, BK175, GW175, GE175⟩ := n_; clear hb hbox hg; obtain ⟨hcz9_0, hcz9_1, hcz9_2, hcz9_3, hfz9_0, hfz9_1, hfz9_2, hfz9_3⟩ := zf BK175.out) | ((with_reducible refine zi 35 rfl ?_); refine zj (some 7) Tryz.func35 #[.string a0, .agg #[.int .i64 a1_0, .int .i64 a1_1, .int .i64 a1_2, .string a1_3]] rfl ?_; (with_reducible refine (impl_Fits.calls k a0 a1_0 a1_1 a1_2 a1_3 true _ A3.out).mono ?_); rintro e w10 ⟨rfl, hb⟩; refine ⟨_, rfl, ?_⟩; have n_ := zo (blk_below (zu BK175.out) hb) (below_step z2k hb); clear BK175 HB; obtain ⟨BK175, HB⟩ := n_; (try clear hb); obtain ⟨hcz11_0, hcz11_1, hcz11_2, hcz11_3, hfz11_0, hfz11_1, hfz11_2, hfz11_3⟩ := zf BK175.out) | ((with_reducible refine zi 41 rfl ?_); refine zj (some 12) Tryz.func41 #[.agg #[.int .i64 a1_0, .int .i64 a1_1, .int .i64 a1_2, .string a1_3]] rfl ?_; (with_reducible refine (impl_VersionText.calls (hG_ := globI_on HG_.out z2j) k a1_0 a1_1 a1_2 a1_3 t177 _ A6.out).mono ?_); rintro e w12 ⟨rfl, hb⟩; refine ⟨_, rfl, ?_⟩; have n_ := zo (blk_below (zu BK175.out) hb) (below_step z2k hb); clear BK175 HB; obtain ⟨BK175, HB⟩ := n_; (try clear hb)))
    go_ret
    exact ⟨z1t, z2k⟩
   ·rw [if_neg c7] at H
    exact absurd H (by simp)
  ·rw [if_neg c5] at H
   exact absurd H (by simp)
 ·replace c4 := Bool.eq_false_iff.mpr c4
  subst c4
  rw [if_neg zk] at H
  obtain rfl := Option.some.inj H
  go_enter Tryz.func14, Tryz.ntmps14
  go_wp2_with (first | ((with_reducible refine zr 3 rfl ?_); refine zt 25 #[.int .i64 a1_0, .int .i64 a1_1, .int .i64 a1_2, .string a1_3] ?_; intro gb175 hg w13 hbox hb; have n_ := zv (below_step z1r hb) hbox (z8j : w.heap.size ≤ gb175) (z8j : w.heap.size ≤ gb175); clear HB; obtain ⟨HB, BK175, GW175, GE175⟩ := n_; clear hb hbox hg; obtain ⟨hcz14_0, hcz14_1, hcz14_2, hcz14_3, hfz14_0, hfz14_1, hfz14_2, hfz14_3⟩ := zf BK175.out) | ((with_reducible refine zi 35 rfl ?_); refine zj (some 7) Tryz.func35 #[.string a0, .agg #[.int .i64 a1_0, .int .i64 a1_1, .int .i64 a1_2, .string a1_3]] rfl ?_; (with_reducible refine (impl_Fits.calls k a0 a1_0 a1_1 a1_2 a1_3 false _ A3.out).mono ?_); rintro e w15 ⟨rfl, hb⟩; refine ⟨_, rfl, ?_⟩; have n_ := zo (blk_below (zu BK175.out) hb) (below_step z2k hb); clear BK175 HB; obtain ⟨BK175, HB⟩ := n_; (try clear hb)))
  go_ret
  exact ⟨z1t, z2k⟩
def impl_nameOf.f (k : Nat) (a0_0 : ByteArray) (a0_1 : Int) (a0_2 : Int) (a0_3 : Int) (a0_4 : ByteArray) : Option (ByteArray) := (impl_EntryName.f k a0_0 a0_1 a0_2 a0_3 a0_4).bind fun t179 => (some t179)
set_option maxHeartbeats 8000000 in
set_option maxRecDepth 100000 in
theorem impl_nameOf.calls (k : Nat) (a0_0 : ByteArray) (a0_1 : Int) (a0_2 : Int) (a0_3 : Int) (a0_4 : ByteArray) (r : ByteArray) (w : World) (hG_ : GlobI w) (h : impl_nameOf.f k a0_0 a0_1 a0_2 a0_3 a0_4 = some r) :
  Calls Tryz.prog 30 #[.agg #[.string a0_0, .int .i64 a0_1, .int .i64 a0_2, .int .i64 a0_3, .string a0_4]] w fun e w' => e = .returned (.string r) ∧ Below w.heap.size w w' := by
 have HG_ := zn hG_
 clear hG_
 have hu35 := Tryz.underlying35
 have hu25 := Tryz.underlying25
 have HB := zn (Below.refl w.heap.size w)
 have H := h
 unfold impl_nameOf.f at H
 clear h
 obtain ⟨t179, A2, H⟩ := zm H
 try dsimp only at H
 obtain rfl := Option.some.inj H
 go_enter Tryz.func30, Tryz.ntmps30
 go_wp2_with (first | ((with_reducible refine zr 1 rfl ?_); refine zt 35 #[.string a0_0, .int .i64 a0_1, .int .i64 a0_2, .int .i64 a0_3, .string a0_4] ?_; intro gb178 hg w3 hbox hb; have n_ := zv (below_step z1r hb) hbox (z8j : w.heap.size ≤ gb178) (z8j : w.heap.size ≤ gb178); clear HB; obtain ⟨HB, BK178, GW178, GE178⟩ := n_; clear hb hbox hg; obtain ⟨hcz4_0, hcz4_1, hcz4_2, hcz4_3, hcz4_4, hfz4_0, hfz4_1, hfz4_2, hfz4_3, hfz4_4⟩ := zg BK178.out) | ((with_reducible refine zi 14 rfl ?_); refine zj (some 7) Tryz.func14 #[.string a0_0, .agg #[.int .i64 a0_1, .int .i64 a0_2, .int .i64 a0_3, .string a0_4]] rfl ?_; (with_reducible refine (impl_EntryName.calls (hG_ := globI_on HG_.out z2j) k a0_0 a0_1 a0_2 a0_3 a0_4 t179 _ A2.out).mono ?_); rintro e w5 ⟨rfl, hb⟩; refine ⟨_, rfl, ?_⟩; have n_ := zo (blk_below (zu BK178.out) hb) (below_step (by repeat (first | (with_reducible first | exact HB.out | apply below_alloc | apply pw_below_drewN | apply below_drew1 | refine below_set ?_ GE178.out) | exact HB.out)) hb); clear BK178 HB; obtain ⟨BK178, HB⟩ := n_; (try clear hb)))
 go_ret
 exact ⟨z1t, by repeat (first | (with_reducible first | exact HB.out | apply below_alloc | apply pw_below_drewN | apply below_drew1 | refine below_set ?_ GE178.out) | exact HB.out)⟩
def impl_putNum.l0 : Nat → List Int → Int → Option (List Int)
 | 0, _, _ => none
 | k + 1, x0, x1 => if x1 > 127 then (if x0.length < 140737488355328 then (impl_putNum.l0 k (x0 ++ [(Go.bits .or .i64 128 (Go.bits .and .i64 x1 127)) % 256]) (x1 / 128)) else (none)) else (if x0.length < 140737488355328 then (some (x0 ++ [(x1) % 256])) else (none))
def impl_putNum.f (k : Nat) (l0 : List Int) (a1 : Int) : Option (List Int) := impl_putNum.l0 k l0 (mx 0 (mn a1 1000000000))
set_option maxHeartbeats 8000000 in
set_option maxRecDepth 100000 in
theorem impl_putNum.calls (k : Nat) (P0_ : Nat → Prop) (u9000_ : Value) (l0 : List Int) (a1 : Int) (r : List Int) (w0 w : World) (hB : Below w0.heap.size w0 w) (ho0 : Kd.R (Kd.int .u8) 5 w w0.heap.size P0_ u9000_ l0) (h : impl_putNum.f k l0 a1 = some r) :
  Calls Tryz.prog 66 #[u9000_, .int .i64 a1] w fun e w' => ∃ v0_ : Value, e = .returned (v0_) ∧ Kd.R (Kd.int .u8) 5 w' w0.heap.size (fun k_ => (P0_ k_ ∨ w.heap.size ≤ k_)) v0_ r ∧ Below w0.heap.size w0 w' ∧ Kept w w' (fun k_ => P0_ k_) := by
 have HO0 := zn (show Kd.R (Kd.int .u8) 5 w w0.heap.size (fun k_ => (P0_ k_ ∨ w.heap.size ≤ k_)) u9000_ l0 from Kd.R_mono ho0 (fun k_ hk => (.inl hk)))
 have HK := zn (Kept.refl w (fun k_ => P0_ k_))
 have HW0 := zn hB.size
 have HB := zn hB
 clear hB
 have H := h
 unfold impl_putNum.f at H
 clear h
 obtain ⟨ji3, hji3⟩ : ∃ j_ : Int, (mn a1 1000000000) = j_ := ⟨_, rfl⟩
 replace H : (impl_putNum.l0 k l0 (mx 0 (ji3))) = some r := by first | (rw [hji3] at H; exact H) | (simp only [hji3] at H ⊢; exact H)
 (try (have hji3h : ji3 ≤ 1000000000 := by (rw [← hji3]; unfold mn; (repeat' split) <;> omega)))
 (try (have hji3g : ji3 ≤ 64 := by omega))
 have hji3_ : (if 1000000000 < a1 then 1000000000 else a1) = ji3 := hji3
 obtain ⟨ji4, hji4⟩ : ∃ j_ : Int, (mx 0 (ji3)) = j_ := ⟨_, rfl⟩
 replace H : (impl_putNum.l0 k l0 ji4) = some r := by first | (rw [hji4] at H; exact H) | (simp only [hji4] at H ⊢; exact H)
 have hji4_ : (if 0 < (ji3) then (ji3) else 0) = ji4 := hji4
 have H' := zn H
 clear H
 go_enter Tryz.func66, Tryz.ntmps66
 go_wp2
 go_loopg [0, 1] k (fun kq v0 v1 w' => ∃ (x0_1 : List Int) (x1_1 : Int), v1 = .int .i64 x1_1 ∧ Aside0 (impl_putNum.l0 kq x0_1 x1_1 = some r) ∧ Aside0 (kq ≤ k) ∧ Aside0 (Kd.R (Kd.int .u8) 5 w' w0.heap.size (fun k_ => (P0_ k_ ∨ w.heap.size ≤ k_)) v0 x0_1) ∧ Aside0 (Kept w w' (fun k_ => P0_ k_)) ∧ Aside0 (Below w0.heap.size w0 w'))
 case atStart => exact ⟨(l0), (ji4), (by first | rfl | (simp; done) | (simp only [← hji4] <;> (first | rfl | simp)) | (simp [*]; done)), H', ⟨Nat.le_refl _⟩, ⟨by (with_reducible repeat (first | apply Kd.R_alloc | apply Kd.R_drewN | apply Kd.R_drew)); exact HO0.out⟩, ⟨z2l⟩, ⟨z1r⟩⟩
 case round =>
  clear H'
  try clear p2
  obtain ⟨x0_1, x1_1, rfl, HA, HK1, HO_0, HK, HB⟩ := hrel
  cases gk with
  | zero => exact absurd HA.out (by simp [impl_putNum.l0])
  | succ k1 =>
   have H := HA.out
   clear HA
   simp only [impl_putNum.l0] at H
   by_cases c5 : x1_1 > 127
   ·rw [if_pos c5] at H
    have c5b0 := decide_eq_true c5
    clear c5
    by_cases c6 : x0_1.length < 140737488355328
    ·rw [if_pos c6] at H
     have LMc6 := zn c6
     clear c6
     obtain ⟨y180, hy180⟩ : ∃ y_ : List Int, y_ = (x0_1 ++ [(Go.bits .or .i64 128 (Go.bits .and .i64 x1_1 127)) % 256]) := ⟨_, rfl⟩
     replace H : (impl_putNum.l0 k1 y180 (x1_1 / 128)) = some r := by first | (rw [hy180]; with_reducible exact H) | (have H2_ := (Option.bind_some _ _).symm.trans H; rw [hy180]; with_reducible exact H2_) | (have H2_ := (Option.bind_some _ _).symm.trans H; with_reducible exact H2_) | with_reducible exact H | (rw [hy180]; exact H) | exact H
     have Ny180 := zn hy180
     clear hy180
     have H' := zn H
     clear H
     go_wp2_with (first | ((with_reducible refine gate_builtin (b := .append) (xs := #[.tmp 10, .tmp 15]) rfl ?_); at_builtin; refine Kd.R_append (Kd.int .u8) (w0 := w0) w0.heap.size rfl (.tmp 10) (.tmp 15) 22 5 (.int .u8 0) 1 rfl Tryz.underlying22 info5 rfl z1l z1k u0 x0_1 ((Go.bits .or .i64 128 (Go.bits .and .i64 x1_1 127)) % 256) [.int .u8 ((Go.bits .or .i64 128 (Go.bits .and .i64 x1_1 127)) % 256)] (fun k_ => (P0_ k_ ∨ w.heap.size ≤ k_)) (fun _ => False) rfl rfl ?aP (fun _ hk => hk.elim) ?aF ?aO ?aB ?aS ?aL ?_; (case aP => exact rfl); (case aB => exact z1r); (case aF => exact (fun k_ hk => (.inr (Nat.le_trans z2m hk)))); (case aO => exact z2n); (case aS => exact (below_size z1r)); (case aL => have := LMc6.out; omega); intro v181 w7 ho hb hg hat; rw [← Ny180.out] at ho; have n_ := z1c hb (Kept.of_grown (S := (fun k_ => P0_ k_)) hg z2l (fun k_ e_ => (HO_0.out.1 k_ e_))) ho; clear HB HK HO_0; obtain ⟨HB, HK, HO182⟩ := n_; clear ho hb hg hat))
     go_roundg k1
     case measure => have := HK1.out; omega
     case rel => exact ⟨(y180), (x1_1 / 128), z1n, H', ⟨z1q⟩, ⟨by (with_reducible repeat (first | apply Kd.R_alloc | apply Kd.R_drewN | apply Kd.R_drew)); exact HO182.out⟩, ⟨z2l⟩, ⟨z1r⟩⟩
    ·rw [if_neg c6] at H
     exact absurd H (by simp)
   ·rw [if_neg c5] at H
    have c5b0 := decide_eq_false c5
    clear c5
    by_cases c8 : x0_1.length < 140737488355328
    ·rw [if_pos c8] at H
     have LMc8 := zn c8
     clear c8
     obtain ⟨y183, hy183⟩ : ∃ y_ : List Int, y_ = (x0_1 ++ [(x1_1) % 256]) := ⟨_, rfl⟩
     replace H : (some y183) = some r := by first | (rw [hy183]; with_reducible exact H) | (have H2_ := (Option.bind_some _ _).symm.trans H; rw [hy183]; with_reducible exact H2_) | (have H2_ := (Option.bind_some _ _).symm.trans H; with_reducible exact H2_) | with_reducible exact H | (rw [hy183]; exact H) | exact H
     have Ny183 := zn hy183
     clear hy183
     obtain rfl := Option.some.inj H
     go_wp2_with (first | ((with_reducible refine gate_builtin (b := .append) (xs := #[.tmp 19, .tmp 22]) rfl ?_); at_builtin; refine Kd.R_append (Kd.int .u8) (w0 := w0) w0.heap.size rfl (.tmp 19) (.tmp 22) 22 5 (.int .u8 0) 1 rfl Tryz.underlying22 info5 rfl z1l z1k u0 x0_1 ((x1_1) % 256) [.int .u8 ((x1_1) % 256)] (fun k_ => (P0_ k_ ∨ w.heap.size ≤ k_)) (fun _ => False) rfl rfl ?aP (fun _ hk => hk.elim) ?aF ?aO ?aB ?aS ?aL ?_; (case aP => exact rfl); (case aB => exact z1r); (case aF => exact (fun k_ hk => (.inr (Nat.le_trans z2m hk)))); (case aO => exact z2n); (case aS => exact (below_size z1r)); (case aL => have := LMc8.out; omega); intro v184 w9 ho hb hg hat; rw [← Ny183.out] at ho; have n_ := z1c hb (Kept.of_grown (S := (fun k_ => P0_ k_)) hg z2l (fun k_ e_ => (HO_0.out.1 k_ e_))) ho; clear HB HK HO_0; obtain ⟨HB, HK, HO185⟩ := n_; clear ho hb hg hat))
     go_ret
     exact ⟨_, by first | rfl | (simp [errW_none, errW_some] <;> rfl) | (simp only [← hji3, ← hji4]; first | rfl | (simp [errW_none, errW_some] <;> rfl)) | (simp [*, errW_none, errW_some] <;> rfl), by (with_reducible repeat (first | apply Kd.R_alloc | apply Kd.R_drewN | apply Kd.R_drew)); exact HO185.out, z1r, z2l⟩
    ·rw [if_neg c8] at H
     exact absurd H (by simp)
def impl_putText.f (k : Nat) (l0 : List Int) (a1 : ByteArray) : Option (List Int) := (impl_putNum.f k l0 (a1.size : Int)).bind fun t186 => (if t186.length + a1.size < 140737488355328 then (some (t186 ++ bytesOf a1)) else (none))
set_option maxHeartbeats 8000000 in
set_option maxRecDepth 100000 in
theorem impl_putText.calls (k : Nat) (P0_ : Nat → Prop) (u9000_ : Value) (l0 : List Int) (a1 : ByteArray) (r : List Int) (w0 w : World) (hB : Below w0.heap.size w0 w) (ho0 : Kd.R (Kd.int .u8) 5 w w0.heap.size P0_ u9000_ l0) (h : impl_putText.f k l0 a1 = some r) :
  Calls Tryz.prog 32 #[u9000_, .string a1] w fun e w' => ∃ v0_ : Value, e = .returned (v0_) ∧ Kd.R (Kd.int .u8) 5 w' w0.heap.size (fun k_ => (P0_ k_ ∨ w.heap.size ≤ k_)) v0_ r ∧ Below w0.heap.size w0 w' ∧ Kept w w' (fun k_ => P0_ k_) := by
 have HO0 := zn (show Kd.R (Kd.int .u8) 5 w w0.heap.size (fun k_ => (P0_ k_ ∨ w.heap.size ≤ k_)) u9000_ l0 from Kd.R_mono ho0 (fun k_ hk => (.inl hk)))
 have HK := zn (Kept.refl w (fun k_ => P0_ k_))
 have HW0 := zn hB.size
 have HB := zn hB
 clear hB
 have H := h
 unfold impl_putText.f at H
 clear h
 obtain ⟨t186, A3, H⟩ := zm H
 try dsimp only at H
 by_cases c4 : t186.length + a1.size < 140737488355328
 ·rw [if_pos c4] at H
  have LMc4 := zn c4
  clear c4
  obtain ⟨y189, hy189⟩ : ∃ y_ : List Int, y_ = (t186 ++ bytesOf a1) := ⟨_, rfl⟩
  replace H : (some y189) = some r := by first | (rw [hy189]; with_reducible exact H) | (have H2_ := (Option.bind_some _ _).symm.trans H; rw [hy189]; with_reducible exact H2_) | (have H2_ := (Option.bind_some _ _).symm.trans H; with_reducible exact H2_) | with_reducible exact H | (rw [hy189]; exact H) | exact H
  have Ny189 := zn hy189
  clear hy189
  obtain rfl := Option.some.inj H
  obtain ⟨Ao5, co5, eo5⟩ := Kd.R_slice HO0.out
  subst eo5
  go_enter Tryz.func32, Tryz.ntmps32
  go_wp2_with (first | ((with_reducible refine zi 66 rfl ?_); refine zj (some 8) Tryz.func66 #[.slice Ao5 l0.length co5, .int .i64 (a1.size : Int)] rfl ?_; (with_reducible refine (impl_putNum.calls k (fun k_ => some k_ = (.slice Ao5 l0.length co5 : Value).ownBlock) (.slice Ao5 l0.length co5) l0 (a1.size : Int) t186 w0 _ ?side1 ?side2 A3.out).mono ?_); (case side1 => exact z1r); (case side2 => exact Kd.R_tight rfl HO0.out); rintro e w6 ⟨v187, rfl, ho0, hb, hkp⟩; refine ⟨_, rfl, ?_⟩; have n_ := z1c (Kd.R_mono (ok' := fun k_ => (P0_ k_ ∨ w.heap.size ≤ k_)) ho0 (fun k_ hk_ => Or.elim hk_ (fun hs_ => (HO0.out.1 k_ (hs_).symm)) (fun hn_ => (.inr (Nat.le_trans z2m hn_))))) (Kept.then_ (S := (fun k_ => P0_ k_)) z2l hkp (fun k_ hs_ => (fun e_ => (HO0.out.1 k_ e_.symm)) hs_)) hb; clear HK HB HO0; obtain ⟨HO188, HK, HB⟩ := n_; (try clear hb); (try clear hkp); (try clear ho0)) | (at_builtin; refine Y.R_append_str (w0 := w0) w0.heap.size rfl (.tmp 8) _ 22 9 5 rfl Tryz.underlying22 Tryz.underlying9 info5 v187 t186 a1 (fun k_ => (P0_ k_ ∨ w.heap.size ≤ k_)) rfl rfl ?aF ?aO ?aB ?aS ?aL ?_; (case aB => exact z1r); (case aF => exact (fun k_ hk => (.inr (Nat.le_trans z2m hk)))); (case aO => exact (by (with_reducible repeat (first | apply Kd.R_alloc | apply Kd.R_drewN | apply Kd.R_drew)); exact HO188.out)); (case aS => exact (below_size z1r)); (case aL => have := LMc4.out; omega); intro v190 w7 ho hb hg hat; rw [← Ny189.out] at ho; have n_ := z1c hb (Kept.of_grown (S := (fun k_ => P0_ k_)) hg z2l (fun k_ e_ => (HO188.out.1 k_ e_))) ho; clear HB HK HO188; obtain ⟨HB, HK, HO191⟩ := n_; clear ho hb hg hat))
  go_ret
  exact ⟨_, z1t, by (with_reducible repeat (first | apply Kd.R_alloc | apply Kd.R_drewN | apply Kd.R_drew)); exact HO191.out, z1r, z2l⟩
 ·rw [if_neg c4] at H
  exact absurd H (by simp)
end Go.Proofs.YtgdknepphkhnlaaGreatDoor.X
