/- The law FnExactGetEntry, as a plain statement: the program's GetEntry answers as the reference's, and shares no memory with another call's answer. Conditions: those of the row's reading alone. -/
/- Part 3 of 13 of this claim's texts. -/
import Derived.BigQuiet
import Derived.Test.YtgdknepphkhnlaaGreatDoorCFnExactGetEntry1
namespace Go.Proofs.YtgdknepphkhnlaaGreatDoor.X
open Go.RowKit Go.Proofs.YtgdknepphkhnlaaGreatDoorW.PrintWords Go.Proofs.YtgdknepphkhnlaaGreatDoorW.PrintLast Go.Proofs.YtgdknepphkhnlaaGreatDoorW.PrintMore
attribute [local go_sem] max2_int min2_int max_two min_two max_three min_three max_four min_four
set_option linter.unusedVariables false
set_option linter.unusedSimpArgs false
def impl_pathPartOk.l0 : Nat → ByteArray → Int → Option (Bool)
 | 0, _, _ => none
 | k + 1, x0, x3 => if x3 < (x0.size : Int) then (if 0 ≤ x3 then (if (bt x0 x3) ≥ 97 then (if (bt x0 x3) ≤ 122 then (impl_pathPartOk.l0 k x0 (wrap64 (x3 + 1))) else ((impl_isFigure.f (bt x0 x3)).bind fun t101 => (if t101 = true then (impl_pathPartOk.l0 k x0 (wrap64 (x3 + 1))) else (if x3 = 0 then (some false) else (if (bt x0 x3) = 45 then (impl_pathPartOk.l0 k x0 (wrap64 (x3 + 1))) else (if (bt x0 x3) = 46 then (impl_pathPartOk.l0 k x0 (wrap64 (x3 + 1))) else (if (bt x0 x3) = 95 then (impl_pathPartOk.l0 k x0 (wrap64 (x3 + 1))) else (some false)))))))) else ((impl_isFigure.f (bt x0 x3)).bind fun t102 => (if t102 = true then (impl_pathPartOk.l0 k x0 (wrap64 (x3 + 1))) else (if x3 = 0 then (some false) else (if (bt x0 x3) = 45 then (impl_pathPartOk.l0 k x0 (wrap64 (x3 + 1))) else (if (bt x0 x3) = 46 then (impl_pathPartOk.l0 k x0 (wrap64 (x3 + 1))) else (if (bt x0 x3) = 95 then (impl_pathPartOk.l0 k x0 (wrap64 (x3 + 1))) else (some false)))))))) else (none)) else ((impl_inRange.f (x0.size : Int) 1 20).bind fun t103 => (some t103))
def impl_pathPartOk.f (k : Nat) (a0 : ByteArray) : Option (Bool) := impl_pathPartOk.l0 k a0 0
set_option maxHeartbeats 8000000 in
set_option maxRecDepth 100000 in
theorem impl_pathPartOk.calls (k : Nat) (a0 : ByteArray) (r : Bool) (w : World) (h : impl_pathPartOk.f k a0 = some r) :
  Calls Tryz.prog 110 #[.string a0] w fun e w' => e = .returned (.bool r) ∧ Drawn0 w w' := by
 have H := h
 unfold impl_pathPartOk.f at H
 clear h
 have H' := zi H
 clear H
 go_enter Tryz.func110, Tryz.ntmps110
 go_wp2
 go_loopg [3] k (fun kq v3 w' => ∃ (x3_1 : Int), v3 = .int .i64 x3_1 ∧ Aside0 (impl_pathPartOk.l0 kq a0 x3_1 = some r) ∧ Aside0 (kq ≤ k) ∧ Drawn0 w w')
 case atStart => exact ⟨(0), z1d, H', ⟨Nat.le_refl _⟩, z1n⟩
 case round =>
  clear H'
  try clear c1
  obtain ⟨x3_1, rfl, HA, HK1, ⟨m1, rfl⟩⟩ := hrel
  cases gk with
  | zero => exact absurd HA.out (by simp [impl_pathPartOk.l0])
  | succ k1 =>
   have H := HA.out
   clear HA
   simp only [impl_pathPartOk.l0] at H
   by_cases c2 : x3_1 < (a0.size : Int)
   ·rw [if_pos c2] at H
    have c2b0 := decide_eq_true c2
    clear c2
    by_cases c3 : 0 ≤ x3_1
    ·rw [if_pos c3] at H
     have c3b0 := decide_eq_true c3
     clear c3
     by_cases c5 : (bt a0 x3_1) ≥ 97
     ·rw [if_pos c5] at H
      have c5b0 := decide_eq_true c5
      clear c5
      by_cases c6 : (bt a0 x3_1) ≤ 122
      ·rw [if_pos c6] at H
       have c6b0 := decide_eq_true c6
       clear c6
       have H' := zi H
       clear H
       have p4 : 0 ≤ (x3_1 : Int) := of_decide_eq_true z1e
       have q4 : x3_1 < (a0.size : Int) := of_decide_eq_true z1e
       have hx4 := bt_at a0 x3_1
       replace p4 := eq_true p4
       replace q4 := eq_true q4
       go_wp2
       go_roundg k1
       case measure => have := HK1.out; omega
       case rel => exact ⟨(wrap64 (x3_1 + 1)), z1d, H', ⟨z1h⟩, z1n⟩
      ·rw [if_neg c6] at H
       have c6b0 := decide_eq_false c6
       clear c6
       replace H := Option.bind_eq_some_iff.mp H
       obtain ⟨t101, A70, H⟩ := H
       try dsimp only at H
       have A7 := zi A70
       clear A70
       by_cases c8 : t101 = true
       ·subst c8
        rw [if_pos rfl] at H
        have H' := zi H
        clear H
        have p4 : 0 ≤ (x3_1 : Int) := of_decide_eq_true z1e
        have q4 : x3_1 < (a0.size : Int) := of_decide_eq_true z1e
        have hx4 := bt_at a0 x3_1
        replace p4 := eq_true p4
        replace q4 := eq_true q4
        go_wp2_with (first | (go_at_call 112; (with_reducible refine (impl_isFigure.calls (bt a0 x3_1) true _ A7.out).mono ?_); rintro e w' ⟨rfl, ⟨nd, rfl⟩⟩))
        go_roundg k1
        case measure => have := HK1.out; omega
        case rel => exact ⟨(wrap64 (x3_1 + 1)), z1d, H', ⟨z1h⟩, z1n⟩
       ·replace c8 := Bool.eq_false_iff.mpr c8
        subst c8
        rw [if_neg zj] at H
        by_cases c9 : x3_1 = 0
        ·rw [if_pos c9] at H
         have c9b0 : (x3_1 == 0) = true := beq_iff_eq.mpr c9
         have c9b1 : (x3_1 != 0) = false := bne_eq_false_iff_eq.mpr c9
         clear c9
         obtain rfl := Option.some.inj H
         have p4 : 0 ≤ (x3_1 : Int) := of_decide_eq_true z1e
         have q4 : x3_1 < (a0.size : Int) := of_decide_eq_true z1e
         have hx4 := bt_at a0 x3_1
         replace p4 := eq_true p4
         replace q4 := eq_true q4
         go_wp2_with (first | (go_at_call 112; (with_reducible refine (impl_isFigure.calls (bt a0 x3_1) false _ A7.out).mono ?_); rintro e w' ⟨rfl, ⟨nd, rfl⟩⟩))
         go_ret
         exact ⟨z1d, z1n⟩
        ·rw [if_neg c9] at H
         have c9b0 : (x3_1 == 0) = false := beq_eq_false_iff_ne.mpr c9
         have c9b1 : (x3_1 != 0) = true := bne_iff_ne.mpr c9
         by_cases c10 : (bt a0 x3_1) = 45
         ·rw [if_pos c10] at H
          have c10b0 : ((bt a0 x3_1) == 45) = true := beq_iff_eq.mpr c10
          have c10b1 : ((bt a0 x3_1) != 45) = false := bne_eq_false_iff_eq.mpr c10
          clear c10
          have H' := zi H
          clear H
          have p4 : 0 ≤ (x3_1 : Int) := of_decide_eq_true z1e
          have q4 : x3_1 < (a0.size : Int) := of_decide_eq_true z1e
          have hx4 := bt_at a0 x3_1
          replace p4 := eq_true p4
          replace q4 := eq_true q4
          go_wp2_with (first | (go_at_call 112; (with_reducible refine (impl_isFigure.calls (bt a0 x3_1) false _ A7.out).mono ?_); rintro e w' ⟨rfl, ⟨nd, rfl⟩⟩))
          go_roundg k1
          case measure => have := HK1.out; omega
          case rel => exact ⟨(wrap64 (x3_1 + 1)), z1d, H', ⟨z1h⟩, z1n⟩
         ·rw [if_neg c10] at H
          have c10b0 : ((bt a0 x3_1) == 45) = false := beq_eq_false_iff_ne.mpr c10
          have c10b1 : ((bt a0 x3_1) != 45) = true := bne_iff_ne.mpr c10
          by_cases c11 : (bt a0 x3_1) = 46
          ·rw [if_pos c11] at H
           have c11b0 : ((bt a0 x3_1) == 46) = true := beq_iff_eq.mpr c11
           have c11b1 : ((bt a0 x3_1) != 46) = false := bne_eq_false_iff_eq.mpr c11
           clear c11
           have H' := zi H
           clear H
           have p4 : 0 ≤ (x3_1 : Int) := of_decide_eq_true z1e
           have q4 : x3_1 < (a0.size : Int) := of_decide_eq_true z1e
           have hx4 := bt_at a0 x3_1
           replace p4 := eq_true p4
           replace q4 := eq_true q4
           go_wp2_with (first | (go_at_call 112; (with_reducible refine (impl_isFigure.calls (bt a0 x3_1) false _ A7.out).mono ?_); rintro e w' ⟨rfl, ⟨nd, rfl⟩⟩))
           go_roundg k1
           case measure => have := HK1.out; omega
           case rel => exact ⟨(wrap64 (x3_1 + 1)), z1d, H', ⟨z1h⟩, z1n⟩
          ·rw [if_neg c11] at H
           have c11b0 : ((bt a0 x3_1) == 46) = false := beq_eq_false_iff_ne.mpr c11
           have c11b1 : ((bt a0 x3_1) != 46) = true := bne_iff_ne.mpr c11
           by_cases c12 : (bt a0 x3_1) = 95
           ·rw [if_pos c12] at H
            have c12b0 : ((bt a0 x3_1) == 95) = true := beq_iff_eq.mpr c12
            have c12b1 : ((bt a0 x3_1) != 95) = false := bne_eq_false_iff_eq.mpr c12
            clear c12
            have H' := zi H
            clear H
            have p4 : 0 ≤ (x3_1 : Int) := of_decide_eq_true z1e
            have q4 : x3_1 < (a0.size : Int) := of_decide_eq_true z1e
            have hx4 := bt_at a0 x3_1
            replace p4 := eq_true p4
            replace q4 := eq_true q4
            go_wp2_with (first | (go_at_call 112; (with_reducible refine (impl_isFigure.calls (bt a0 x3_1) false _ A7.out).mono ?_); rintro e w' ⟨rfl, ⟨nd, rfl⟩⟩))
            go_roundg k1
            case measure => have := HK1.out; omega
            case rel => exact ⟨(wrap64 (x3_1 + 1)), z1d, H', ⟨z1h⟩, z1n⟩
           ·rw [if_neg c12] at H
            have c12b0 : ((bt a0 x3_1) == 95) = false := beq_eq_false_iff_ne.mpr c12
            have c12b1 : ((bt a0 x3_1) != 95) = true := bne_iff_ne.mpr c12
            obtain rfl := Option.some.inj H
            have p4 : 0 ≤ (x3_1 : Int) := of_decide_eq_true z1e
            have q4 : x3_1 < (a0.size : Int) := of_decide_eq_true z1e
            have hx4 := bt_at a0 x3_1
            replace p4 := eq_true p4
            replace q4 := eq_true q4
            go_wp2_with (first | (go_at_call 112; (with_reducible refine (impl_isFigure.calls (bt a0 x3_1) false _ A7.out).mono ?_); rintro e w' ⟨rfl, ⟨nd, rfl⟩⟩))
            go_ret
            exact ⟨z1d, z1n⟩
     ·rw [if_neg c5] at H
      have c5b0 := decide_eq_false c5
      clear c5
      replace H := Option.bind_eq_some_iff.mp H
      obtain ⟨t102, A130, H⟩ := H
      try dsimp only at H
      have A13 := zi A130
      clear A130
      by_cases c14 : t102 = true
      ·subst c14
       rw [if_pos rfl] at H
       have H' := zi H
       clear H
       have p4 : 0 ≤ (x3_1 : Int) := of_decide_eq_true z1e
       have q4 : x3_1 < (a0.size : Int) := of_decide_eq_true z1e
       have hx4 := bt_at a0 x3_1
       replace p4 := eq_true p4
       replace q4 := eq_true q4
       go_wp2_with (first | (go_at_call 112; (with_reducible refine (impl_isFigure.calls (bt a0 x3_1) true _ A13.out).mono ?_); rintro e w' ⟨rfl, ⟨nd, rfl⟩⟩))
       go_roundg k1
       case measure => have := HK1.out; omega
       case rel => exact ⟨(wrap64 (x3_1 + 1)), z1d, H', ⟨z1h⟩, z1n⟩
      ·replace c14 := Bool.eq_false_iff.mpr c14
       subst c14
       rw [if_neg zj] at H
       by_cases c15 : x3_1 = 0
       ·rw [if_pos c15] at H
        have c15b0 : (x3_1 == 0) = true := beq_iff_eq.mpr c15
        have c15b1 : (x3_1 != 0) = false := bne_eq_false_iff_eq.mpr c15
        clear c15
        obtain rfl := Option.some.inj H
        have p4 : 0 ≤ (x3_1 : Int) := of_decide_eq_true z1e
        have q4 : x3_1 < (a0.size : Int) := of_decide_eq_true z1e
        have hx4 := bt_at a0 x3_1
        replace p4 := eq_true p4
        replace q4 := eq_true q4
        go_wp2_with (first | (go_at_call 112; (with_reducible refine (impl_isFigure.calls (bt a0 x3_1) false _ A13.out).mono ?_); rintro e w' ⟨rfl, ⟨nd, rfl⟩⟩))
        go_ret
        exact ⟨z1d, z1n⟩
       ·rw [if_neg c15] at H
        have c15b0 : (x3_1 == 0) = false := beq_eq_false_iff_ne.mpr c15
        have c15b1 : (x3_1 != 0) = true := bne_iff_ne.mpr c15
        by_cases c16 : (bt a0 x3_1) = 45
        ·rw [if_pos c16] at H
         have c16b0 : ((bt a0 x3_1) == 45) = true := beq_iff_eq.mpr c16
         have c16b1 : ((bt a0 x3_1) != 45) = false := bne_eq_false_iff_eq.mpr c16
         clear c16
         have H' := zi H
         clear H
         have p4 : 0 ≤ (x3_1 : Int) := of_decide_eq_true z1e
         have q4 : x3_1 < (a0.size : Int) := of_decide_eq_true z1e
         have hx4 := bt_at a0 x3_1
         replace p4 := eq_true p4
         replace q4 := eq_true q4
         go_wp2_with (first | (go_at_call 112; (with_reducible refine (impl_isFigure.calls (bt a0 x3_1) false _ A13.out).mono ?_); rintro e w' ⟨rfl, ⟨nd, rfl⟩⟩))
         go_roundg k1
         case measure => have := HK1.out; omega
         case rel => exact ⟨(wrap64 (x3_1 + 1)), z1d, H', ⟨z1h⟩, z1n⟩
        ·rw [if_neg c16] at H
         have c16b0 : ((bt a0 x3_1) == 45) = false := beq_eq_false_iff_ne.mpr c16
         have c16b1 : ((bt a0 x3_1) != 45) = true := bne_iff_ne.mpr c16
         by_cases c17 : (bt a0 x3_1) = 46
         ·rw [if_pos c17] at H
          have c17b0 : ((bt a0 x3_1) == 46) = true := beq_iff_eq.mpr c17
          have c17b1 : ((bt a0 x3_1) != 46) = false := bne_eq_false_iff_eq.mpr c17
          clear c17
          have H' := zi H
          clear H
          have p4 : 0 ≤ (x3_1 : Int) := of_decide_eq_true z1e
          have q4 : x3_1 < (a0.size : Int) := of_decide_eq_true z1e
          have hx4 := bt_at a0 x3_1
          replace p4 := eq_true p4
          replace q4 := eq_true q4
          go_wp2_with (first | (go_at_call 112; (with_reducible refine (impl_isFigure.calls (bt a0 x3_1) false _ A13.out).mono ?_); rintro e w' ⟨rfl, ⟨nd, rfl⟩⟩))
          go_roundg k1
          case measure => have := HK1.out; omega
          case rel => exact ⟨(wrap64 (x3_1 + 1)), z1d, H', ⟨z1h⟩, z1n⟩
         ·rw [if_neg c17] at H
          have c17b0 : ((bt a0 x3_1) == 46) = false := beq_eq_false_iff_ne.mpr c17
          have c17b1 : ((bt a0 x3_1) != 46) = true := bne_iff_ne.mpr c17
          by_cases c18 : (bt a0 x3_1) = 95
          ·rw [if_pos c18] at H
           have c18b0 : ((bt a0 x3_1) == 95) = true := beq_iff_eq.mpr c18
           have c18b1 : ((bt a0 x3_1) != 95) = false := bne_eq_false_iff_eq.mpr c18
           clear c18
           have H' := zi H
           clear H
           have p4 : 0 ≤ (x3_1 : Int) := of_decide_eq_true z1e
           have q4 : x3_1 < (a0.size : Int) := of_decide_eq_true z1e
           have hx4 := bt_at a0 x3_1
           replace p4 := eq_true p4
           replace q4 := eq_true q4
           go_wp2_with (first | (go_at_call 112; (with_reducible refine (impl_isFigure.calls (bt a0 x3_1) false _ A13.out).mono ?_); rintro e w' ⟨rfl, ⟨nd, rfl⟩⟩))
           go_roundg k1
           case measure => have := HK1.out; omega
           case rel => exact ⟨(wrap64 (x3_1 + 1)), z1d, H', ⟨z1h⟩, z1n⟩
          ·rw [if_neg c18] at H
           have c18b0 : ((bt a0 x3_1) == 95) = false := beq_eq_false_iff_ne.mpr c18
           have c18b1 : ((bt a0 x3_1) != 95) = true := bne_iff_ne.mpr c18
           obtain rfl := Option.some.inj H
           have p4 : 0 ≤ (x3_1 : Int) := of_decide_eq_true z1e
           have q4 : x3_1 < (a0.size : Int) := of_decide_eq_true z1e
           have hx4 := bt_at a0 x3_1
           replace p4 := eq_true p4
           replace q4 := eq_true q4
           go_wp2_with (first | (go_at_call 112; (with_reducible refine (impl_isFigure.calls (bt a0 x3_1) false _ A13.out).mono ?_); rintro e w' ⟨rfl, ⟨nd, rfl⟩⟩))
           go_ret
           exact ⟨z1d, z1n⟩
    ·rw [if_neg c3] at H
     exact absurd H (by simp)
   ·rw [if_neg c2] at H
    have c2b0 := decide_eq_false c2
    clear c2
    replace H := Option.bind_eq_some_iff.mp H
    obtain ⟨t103, A190, H⟩ := H
    try dsimp only at H
    have A19 := zi A190
    clear A190
    obtain rfl := Option.some.inj H
    go_wp2_with (first | ((with_reducible refine gate_callee (f := 97) rfl ?_); refine goesL_ (some 45) rfl rfl Tryz.func97 z1a rfl #[.int .i64 (a0.size : Int), .int .i64 1, .int .i64 20] rfl z1b ?_; (with_reducible refine (impl_inRange.calls (a0.size : Int) 1 20 t103 _ A19.out).mono ?_); rintro e w' ⟨rfl, ⟨nd, rfl⟩⟩; refine ⟨_, rfl, ?_⟩))
    go_ret
    exact ⟨z1d, z1n⟩
def impl_PathOk.l0 : Nat → ByteArray → List ByteArray → List ByteArray → Int → Int → Option (Bool)
 | 0, _, _, _, _, _ => none
 | k + 1, x0, x3, x8, x9, x10 => if x10 < x9 then (if 0 ≤ x10 then (if x10 < (x8.length : Int) then ((impl_pathPartOk.f k (rdOf ByteArray.empty x8 x10)).bind fun t108 => (if t108 = true then (impl_PathOk.l0 k x0 x3 x8 x9 (wrap64 (x10 + 1))) else (some false))) else (none)) else (none)) else (if (x3.length : Int) ≤ 6 then (some (decide ((x0.size : Int) ≤ 60))) else (some false))
def impl_PathOk.f (k : Nat) (a0 : ByteArray) : Option (Bool) := (strings_Split.f a0 (⟨#[47]⟩ : ByteArray)).bind fun t104 => (impl_PathOk.l0 k a0 t104 t104 (t104.length : Int) 0)
set_option maxHeartbeats 8000000 in
set_option maxRecDepth 100000 in
theorem impl_PathOk.calls (k : Nat) (a0 : ByteArray) (r : Bool) (w : World) (h : impl_PathOk.f k a0 = some r) :
  Calls Tryz.prog 95 #[.string a0] w fun e w' => e = .returned (.bool r) ∧ Below w.heap.size w w' := by
 have HB := zi (Below.refl w.heap.size w)
 have H := h
 unfold impl_PathOk.f at H
 clear h
 replace H := Option.bind_eq_some_iff.mp H
 obtain ⟨t104, A20, H⟩ := H
 try dsimp only at H
 have A2 := zi A20
 clear A20
 have H' := zi H
 clear H
 go_enter Tryz.func95, Tryz.ntmps95
 go_wp2_with (first | ((with_reducible refine gate_callee (f := 76) rfl ?_); refine goesL_ (some 7) rfl rfl Tryz.func76 z1a rfl #[.string a0, .string (⟨#[47]⟩ : ByteArray)] rfl z1b ?_; (with_reducible refine (strings_Split.calls a0 (⟨#[47]⟩ : ByteArray) t104 _ A2.out).mono ?_); rintro e w3 ⟨v105, rfl, ho0, hb⟩; refine ⟨_, rfl, ?_⟩; have n0_ := zi (Kd.R_lower ho0 (below_size zt)); have n1_ := zi (below_step zt hb); clear HB; have HO106 := n0_; have HB := n1_; clear n0_ n1_; (try clear hb); (try clear hb2); (try clear hk); (try clear hi); (try clear ho0); obtain ⟨Ao4, co4, eo4⟩ := Kd.R_slice HO106.out; subst eo4))
 go_loopg [10] k (fun kq v10 w' => ∃ (x10_1 : Int), v10 = .int .i64 x10_1 ∧ Aside0 (impl_PathOk.l0 kq a0 t104 t104 (t104.length : Int) x10_1 = some r) ∧ Aside0 (kq ≤ k) ∧ Aside0 (Kd.R Kd.string 9 w' w.heap.size (fun _ => True) (.slice Ao4 t104.length co4) t104) ∧ Aside0 (Kd.R Kd.string 9 w' w.heap.size (fun _ => True) (.slice Ao4 t104.length co4) t104) ∧ Aside0 (Below w.heap.size w w'))
 case atStart => exact ⟨(0), z1d, H', ⟨Nat.le_refl _⟩, ⟨by (with_reducible repeat (first | apply Kd.R_alloc | apply Kd.R_drewN | apply Kd.R_drew)); exact HO106.out⟩, ⟨by (with_reducible repeat (first | apply Kd.R_alloc | apply Kd.R_drewN | apply Kd.R_drew)); exact HO106.out⟩, ⟨zt⟩⟩
 case round =>
  clear H'
  try clear p2
  obtain ⟨x10_1, rfl, HA, HK1, HO_3, HO_8, HB⟩ := hrel
  cases gk with
  | zero => exact absurd HA.out (by simp [impl_PathOk.l0])
  | succ k1 =>
   have H := HA.out
   clear HA
   simp only [impl_PathOk.l0] at H
   by_cases c5 : x10_1 < (t104.length : Int)
   ·rw [if_pos c5] at H
    have c5b0 := decide_eq_true c5
    clear c5
    by_cases c6 : 0 ≤ x10_1
    ·rw [if_pos c6] at H
     have c6b0 := decide_eq_true c6
     clear c6
     by_cases c7 : x10_1 < (t104.length : Int)
     ·rw [if_pos c7] at H
      have c7b0 := decide_eq_true c7
      clear c7
      replace H := Option.bind_eq_some_iff.mp H
      obtain ⟨t108, A80, H⟩ := H
      try dsimp only at H
      have A8 := zi A80
      clear A80
      by_cases c9 : t108 = true
      ·subst c9
       rw [if_pos rfl] at H
       have H' := zi H
       clear H
       have p107 : 0 ≤ (x10_1 : Int) := of_decide_eq_true z1e
       have q107 : x10_1 < (t104.length : Int) := of_decide_eq_true z1e
       obtain ⟨ad107, e107, hx107_0⟩ := Kd.at_string (Kd.R_reads' HO_8.out).2.2 x10_1 p107 q107
       cases e107
       replace p107 := eq_true p107
       replace q107 := eq_true q107
       go_wp2_with (first | ((with_reducible refine gate_callee (f := 110) rfl ?_); refine goesL_ (some 15) rfl rfl Tryz.func110 z1a rfl #[.string (rdOf ByteArray.empty t104 x10_1)] rfl z1b ?_; (with_reducible refine (impl_pathPartOk.calls k1 (rdOf ByteArray.empty t104 x10_1) true _ A8.out).mono ?_); rintro e w' ⟨rfl, ⟨nd, rfl⟩⟩; refine ⟨_, rfl, ?_⟩))
       go_roundg k1
       case measure => have := HK1.out; omega
       case rel => exact ⟨(wrap64 (x10_1 + 1)), z1d, H', ⟨z1h⟩, ⟨z1o⟩, ⟨by (with_reducible repeat (first | apply Kd.R_alloc | apply Kd.R_drewN | apply Kd.R_drew)); exact HO_8.out⟩, ⟨zt⟩⟩
      ·replace c9 := Bool.eq_false_iff.mpr c9
       subst c9
       rw [if_neg zj] at H
       obtain rfl := Option.some.inj H
       have p107 : 0 ≤ (x10_1 : Int) := of_decide_eq_true z1e
       have q107 : x10_1 < (t104.length : Int) := of_decide_eq_true z1e
       obtain ⟨ad107, e107, hx107_0⟩ := Kd.at_string (Kd.R_reads' HO_8.out).2.2 x10_1 p107 q107
       cases e107
       replace p107 := eq_true p107
       replace q107 := eq_true q107
       go_wp2_with (first | ((with_reducible refine gate_callee (f := 110) rfl ?_); refine goesL_ (some 15) rfl rfl Tryz.func110 z1a rfl #[.string (rdOf ByteArray.empty t104 x10_1)] rfl z1b ?_; (with_reducible refine (impl_pathPartOk.calls k1 (rdOf ByteArray.empty t104 x10_1) false _ A8.out).mono ?_); rintro e w' ⟨rfl, ⟨nd, rfl⟩⟩; refine ⟨_, rfl, ?_⟩))
       go_ret
       exact ⟨zw, zt⟩
     ·rw [if_neg c7] at H
      exact absurd H (by simp)
    ·rw [if_neg c6] at H
     exact absurd H (by simp)
   ·rw [if_neg c5] at H
    have c5b0 := decide_eq_false c5
    clear c5
    by_cases c10 : (t104.length : Int) ≤ 6
    ·rw [if_pos c10] at H
     have c10b0 := decide_eq_true c10
     have c10b1 : decide (t104.length ≤ 6) = true := decide_eq_true zq
     clear c10
     obtain rfl := Option.some.inj H
     go_wp2
     go_ret
     exact ⟨zw, zt⟩
    ·rw [if_neg c10] at H
     have c10b0 := decide_eq_false c10
     have c10b1 : decide (t104.length ≤ 6) = false := decide_eq_false zq
     clear c10
     obtain rfl := Option.some.inj H
     go_wp2
     go_ret
     exact ⟨zw, zt⟩
def impl_isFigures.l0 : Nat → ByteArray → Int → Option (Bool)
 | 0, _, _ => none
 | k + 1, x0, x3 => if x3 < (x0.size : Int) then (if 0 ≤ x3 then ((impl_isFigure.f (bt x0 x3)).bind fun t109 => (if t109 = true then (impl_isFigures.l0 k x0 (wrap64 (x3 + 1))) else (some false))) else (none)) else (some (x0.toList != ([] : List UInt8)))
def impl_isFigures.f (k : Nat) (a0 : ByteArray) : Option (Bool) := impl_isFigures.l0 k a0 0
set_option maxHeartbeats 8000000 in
set_option maxRecDepth 100000 in
theorem impl_isFigures.calls (k : Nat) (a0 : ByteArray) (r : Bool) (w : World) (h : impl_isFigures.f k a0 = some r) :
  Calls Tryz.prog 113 #[.string a0] w fun e w' => e = .returned (.bool r) ∧ Drawn0 w w' := by
 have H := h
 unfold impl_isFigures.f at H
 clear h
 have H' := zi H
 clear H
 go_enter Tryz.func113, Tryz.ntmps113
 go_wp2
 go_loopg [3] k (fun kq v3 w' => ∃ (x3_1 : Int), v3 = .int .i64 x3_1 ∧ Aside0 (impl_isFigures.l0 kq a0 x3_1 = some r) ∧ Aside0 (kq ≤ k) ∧ Drawn0 w w')
 case atStart => exact ⟨(0), z1d, H', ⟨Nat.le_refl _⟩, z1n⟩
 case round =>
  clear H'
  try clear c1
  obtain ⟨x3_1, rfl, HA, HK1, ⟨m1, rfl⟩⟩ := hrel
  cases gk with
  | zero => exact absurd HA.out (by simp [impl_isFigures.l0])
  | succ k1 =>
   have H := HA.out
   clear HA
   simp only [impl_isFigures.l0] at H
   by_cases c2 : x3_1 < (a0.size : Int)
   ·rw [if_pos c2] at H
    have c2b0 := decide_eq_true c2
    clear c2
    by_cases c3 : 0 ≤ x3_1
    ·rw [if_pos c3] at H
     have c3b0 := decide_eq_true c3
     clear c3
     replace H := Option.bind_eq_some_iff.mp H
     obtain ⟨t109, A50, H⟩ := H
     try dsimp only at H
     have A5 := zi A50
     clear A50
     by_cases c6 : t109 = true
     ·subst c6
      rw [if_pos rfl] at H
      have H' := zi H
      clear H
      have p4 : 0 ≤ (x3_1 : Int) := of_decide_eq_true z1e
      have q4 : x3_1 < (a0.size : Int) := of_decide_eq_true z1e
      have hx4 := bt_at a0 x3_1
      replace p4 := eq_true p4
      replace q4 := eq_true q4
      go_wp2_with (first | ((with_reducible refine gate_callee (f := 112) rfl ?_); refine goesL_ (some 13) rfl rfl Tryz.func112 z1a rfl #[.int .u8 (bt a0 x3_1)] rfl z1b ?_; (with_reducible refine (impl_isFigure.calls (bt a0 x3_1) true _ A5.out).mono ?_); rintro e w' ⟨rfl, ⟨nd, rfl⟩⟩; refine ⟨_, rfl, ?_⟩))
      go_roundg k1
      case measure => have := HK1.out; omega
      case rel => exact ⟨(wrap64 (x3_1 + 1)), z1d, H', ⟨z1h⟩, z1n⟩
     ·replace c6 := Bool.eq_false_iff.mpr c6
      subst c6
      rw [if_neg zj] at H
      obtain rfl := Option.some.inj H
      have p4 : 0 ≤ (x3_1 : Int) := of_decide_eq_true z1e
      have q4 : x3_1 < (a0.size : Int) := of_decide_eq_true z1e
      have hx4 := bt_at a0 x3_1
      replace p4 := eq_true p4
      replace q4 := eq_true q4
      go_wp2_with (first | ((with_reducible refine gate_callee (f := 112) rfl ?_); refine goesL_ (some 13) rfl rfl Tryz.func112 z1a rfl #[.int .u8 (bt a0 x3_1)] rfl z1b ?_; (with_reducible refine (impl_isFigure.calls (bt a0 x3_1) false _ A5.out).mono ?_); rintro e w' ⟨rfl, ⟨nd, rfl⟩⟩; refine ⟨_, rfl, ?_⟩))
      go_ret
      exact ⟨z1p, z1n⟩
    ·rw [if_neg c3] at H
     exact absurd H (by simp)
   ·rw [if_neg c2] at H
    have c2b0 := decide_eq_false c2
    clear c2
    obtain rfl := Option.some.inj H
    go_wp2
    go_ret
    exact ⟨z1p, z1n⟩
def impl_isNumber.f (k : Nat) (a0 : ByteArray) : Option (Bool) := (impl_isFigures.f k a0).bind fun t110 => (if t110 = true then (if a0.toList = ([48] : List UInt8) then (some true) else (if 0 < (a0.size : Int) then (some ((bt a0 0) != 48)) else (none))) else (some false))
set_option maxHeartbeats 8000000 in
set_option maxRecDepth 100000 in
theorem impl_isNumber.calls (k : Nat) (a0 : ByteArray) (r : Bool) (w : World) (h : impl_isNumber.f k a0 = some r) :
  Calls Tryz.prog 103 #[.string a0] w fun e w' => e = .returned (.bool r) ∧ Drawn0 w w' := by
 have H := h
 unfold impl_isNumber.f at H
 clear h
 replace H := Option.bind_eq_some_iff.mp H
 obtain ⟨t110, A20, H⟩ := H
 try dsimp only at H
 have A2 := zi A20
 clear A20
 by_cases c3 : t110 = true
 ·subst c3
  rw [if_pos rfl] at H
  by_cases c4 : a0.toList = ([48] : List UInt8)
  ·rw [if_pos c4] at H
   have c4b0 : (a0.toList == ([48] : List UInt8)) = true := beq_iff_eq.mpr c4
   have c4b1 : (a0.toList != ([48] : List UInt8)) = false := bne_eq_false_iff_eq.mpr c4
   clear c4
   obtain rfl := Option.some.inj H
   go_enter Tryz.func103, Tryz.ntmps103
   go_wp2_with (first | ((with_reducible refine gate_callee (f := 113) rfl ?_); refine goesL_ (some 4) rfl rfl Tryz.func113 z1a rfl #[.string a0] rfl z1b ?_; (with_reducible refine (impl_isFigures.calls k a0 true _ A2.out).mono ?_); rintro e w' ⟨rfl, ⟨nd, rfl⟩⟩; refine ⟨_, rfl, ?_⟩))
   go_ret
   exact ⟨z1d, z1n⟩
  ·rw [if_neg c4] at H
   have c4b0 : (a0.toList == ([48] : List UInt8)) = false := beq_eq_false_iff_ne.mpr c4
   have c4b1 : (a0.toList != ([48] : List UInt8)) = true := bne_iff_ne.mpr c4
   by_cases c5 : 0 < (a0.size : Int)
   ·rw [if_pos c5] at H
    have c5b0 := decide_eq_true c5
    have c5b1 : decide (0 < a0.size) = true := decide_eq_true zq
    clear c5
    obtain rfl := Option.some.inj H
    go_enter Tryz.func103, Tryz.ntmps103
    go_wp2_with (first | ((with_reducible refine gate_callee (f := 113) rfl ?_); refine goesL_ (some 4) rfl rfl Tryz.func113 z1a rfl #[.string a0] rfl z1b ?_; (with_reducible refine (impl_isFigures.calls k a0 true _ A2.out).mono ?_); rintro e w' ⟨rfl, ⟨nd, rfl⟩⟩; refine ⟨_, rfl, ?_⟩; have p6 : 0 ≤ (0 : Int) := zq; have q6 : 0 < a0.size := (by have : (0 : Int) < (a0.size : Int) := of_decide_eq_true z1e; omega); have hx6 : ∀ h : 0 < a0.size, ((a0[0]'h).toNat : Int) = bt a0 0 := bt_at a0 0; clear p6; have qi6 : (0 < (a0.size : Int)) = True := eq_true (of_decide_eq_true z1e); replace q6 := eq_true q6))
    go_ret
    exact ⟨z1d, z1n⟩
   ·rw [if_neg c5] at H
    exact absurd H (by simp)
 ·replace c3 := Bool.eq_false_iff.mpr c3
  subst c3
  rw [if_neg zj] at H
  obtain rfl := Option.some.inj H
  go_enter Tryz.func103, Tryz.ntmps103
  go_wp2_with (first | ((with_reducible refine gate_callee (f := 113) rfl ?_); refine goesL_ (some 4) rfl rfl Tryz.func113 z1a rfl #[.string a0] rfl z1b ?_; (with_reducible refine (impl_isFigures.calls k a0 false _ A2.out).mono ?_); rintro e w' ⟨rfl, ⟨nd, rfl⟩⟩; refine ⟨_, rfl, ?_⟩))
  go_ret
  exact ⟨z1d, z1n⟩
end Go.Proofs.YtgdknepphkhnlaaGreatDoor.X



namespace Go.Proofs.YtgdknepphkhnlaaGreatDoor.X
open Go.RowKit Go.Proofs.YtgdknepphkhnlaaGreatDoorW.PrintWords Go.Proofs.YtgdknepphkhnlaaGreatDoorW.PrintLast Go.Proofs.YtgdknepphkhnlaaGreatDoorW.PrintMore
attribute [local go_sem] max2_int min2_int max_two min_two max_three min_three max_four min_four
set_option linter.unusedVariables false
set_option linter.unusedSimpArgs false
def impl_numberOf.f (k : Nat) (a0 : ByteArray) (a1 : Int) : Option (Int × Bool) := (impl_isNumber.f k a0).bind fun b => (if b = true then (if (a0.size : Int) > a1 then (some (0, false)) else (if a0.size ≤ 18 then ((Lib.atoi a0.data.toList).bind fun n => some (n, true)) else none)) else (some (0, false)))
set_option maxHeartbeats 2000000 in
set_option maxRecDepth 100000 in
theorem impl_numberOf.calls (k : Nat) (a0 : ByteArray) (a1 : Int) (r1 : Int) (r2 : Bool) (w : World) (h : impl_numberOf.f k a0 a1 = some (r1, r2)) :
  Calls Tryz.prog 77 #[.string a0, .int .i64 a1] w fun e w' => e = .returned (.tuple #[.int .i64 r1, .bool r2]) ∧ Below w.heap.size w w' := by
 obtain ⟨b, A1, H⟩ := Option.bind_eq_some_iff.mp h
 have A2 := zi A1
 clear A1 h
 cases b with
 | false =>
  simp only [Bool.false_eq_true, if_false, Option.some.injEq, Prod.mk.injEq] at H
  obtain ⟨rfl, rfl⟩ := H
  go_enter Tryz.func77, Tryz.ntmps77
  go_wp2_with (go_at_call 103; (with_reducible refine (impl_isNumber.calls k a0 false _ A2.out).mono ?_); rintro e w' ⟨rfl, ⟨nd, rfl⟩⟩)
  go_ret2
  exact ⟨rfl, pw_below_drewN (Below.refl _ _) nd⟩
 | true =>
  simp only [if_true] at H
  by_cases c : (a0.size : Int) > a1
  ·rw [if_pos c] at H
   simp only [Option.some.injEq, Prod.mk.injEq] at H
   obtain ⟨rfl, rfl⟩ := H
   have cb : a1 < (a0.size : Int) := c
   clear c
   go_enter Tryz.func77, Tryz.ntmps77
   go_wp2_with (go_at_call 103; (with_reducible refine (impl_isNumber.calls k a0 true _ A2.out).mono ?_); rintro e w' ⟨rfl, ⟨nd, rfl⟩⟩)
   go_ret2
   exact ⟨rfl, pw_below_drewN (Below.refl _ _) nd⟩
  ·rw [if_neg c] at H
   split at H
   ·rename_i h18
    obtain ⟨n, A3, H2⟩ := Option.bind_eq_some_iff.mp H
    simp only [Option.some.injEq, Prod.mk.injEq] at H2
    obtain ⟨rfl, rfl⟩ := H2
    have A4 := zi A3
    have L18 := zi h18
    clear A3 H h18
    have cb : ¬ a1 < (a0.size : Int) := c
    clear c
    go_enter Tryz.func77, Tryz.ntmps77
    go_wp2_with (first | (go_at_call 103; (with_reducible refine (impl_isNumber.calls k a0 true _ A2.out).mono ?_); rintro e w' ⟨rfl, ⟨nd, rfl⟩⟩) | (go_at_call 104; (with_reducible refine (Tryz.strconv_Atoi a0 n L18.out A4.out _).mono ?_); rintro e w' ⟨rfl, t, rfl⟩))
    go_quiet (fail)
    go_wp2
    go_ret2
    exact ⟨rfl, by repeat (first | (with_reducible apply pw_below_drewN) | exact Below.refl _ _ | refine bytes_below ?_ (by simp) _ _)⟩
   ·cases H
def bytealg_LastIndexByteString.l0 : Nat → ByteArray → Int → Int → Option (Int)
 | 0, _, _, _ => none
 | k + 1, x0, x1, x5 => if x5 ≥ 0 then (if 0 ≤ x5 then (if x5 < (x0.size : Int) then (if (bt x0 x5) = x1 then (some x5) else (bytealg_LastIndexByteString.l0 k x0 x1 (wrap64 (x5 - 1)))) else (none)) else (none)) else (some (-1))
def bytealg_LastIndexByteString.f (k : Nat) (a0 : ByteArray) (a1 : Int) : Option (Int) := bytealg_LastIndexByteString.l0 k a0 a1 (wrap64 ((a0.size : Int) - 1))
set_option maxHeartbeats 8000000 in
set_option maxRecDepth 100000 in
theorem bytealg_LastIndexByteString.calls (k : Nat) (a0 : ByteArray) (a1 : Int) (r : Int) (w : World) (h : bytealg_LastIndexByteString.f k a0 a1 = some r) :
  Calls Tryz.prog 125 #[.string a0, .int .u8 a1] w fun e w' => e = .returned (.int .i64 r) ∧ Drawn0 w w' := by
 have H := h
 unfold bytealg_LastIndexByteString.f at H
 clear h
 have H' := zi H
 clear H
 go_enter Tryz.func125, Tryz.ntmps125
 go_wp2
 go_loopg [5] k (fun kq v5 w' => ∃ (x5_1 : Int), v5 = .int .i64 x5_1 ∧ Aside0 (bytealg_LastIndexByteString.l0 kq a0 a1 x5_1 = some r) ∧ Aside0 (kq ≤ k) ∧ Drawn0 w w')
 case atStart => exact ⟨(wrap64 ((a0.size : Int) - 1)), z1d, H', ⟨Nat.le_refl _⟩, z1n⟩
 case round =>
  clear H'
  try clear c1
  try clear p2
  obtain ⟨x5_1, rfl, HA, HK1, ⟨m1, rfl⟩⟩ := hrel
  cases gk with
  | zero => exact absurd HA.out (by simp [bytealg_LastIndexByteString.l0])
  | succ k1 =>
   have H := HA.out
   clear HA
   simp only [bytealg_LastIndexByteString.l0] at H
   by_cases c3 : x5_1 ≥ 0
   ·rw [if_pos c3] at H
    have c3b0 := decide_eq_true c3
    clear c3
    by_cases c4 : 0 ≤ x5_1
    ·rw [if_pos c4] at H
     have c4b0 := decide_eq_true c4
     clear c4
     by_cases c5 : x5_1 < (a0.size : Int)
     ·rw [if_pos c5] at H
      have c5b0 := decide_eq_true c5
      clear c5
      by_cases c7 : (bt a0 x5_1) = a1
      ·rw [if_pos c7] at H
       have c7b0 : ((bt a0 x5_1) == a1) = true := beq_iff_eq.mpr c7
       have c7b1 : ((bt a0 x5_1) != a1) = false := bne_eq_false_iff_eq.mpr c7
       clear c7
       obtain rfl := Option.some.inj H
       have p6 : 0 ≤ (x5_1 : Int) := of_decide_eq_true z1e
       have q6 : x5_1 < (a0.size : Int) := of_decide_eq_true z1e
       have hx6 := bt_at a0 x5_1
       replace p6 := eq_true p6
       replace q6 := eq_true q6
       go_wp2
       go_ret
       exact ⟨z1d, z1n⟩
      ·rw [if_neg c7] at H
       have c7b0 : ((bt a0 x5_1) == a1) = false := beq_eq_false_iff_ne.mpr c7
       have c7b1 : ((bt a0 x5_1) != a1) = true := bne_iff_ne.mpr c7
       have H' := zi H
       clear H
       have p6 : 0 ≤ (x5_1 : Int) := of_decide_eq_true z1e
       have q6 : x5_1 < (a0.size : Int) := of_decide_eq_true z1e
       have hx6 := bt_at a0 x5_1
       replace p6 := eq_true p6
       replace q6 := eq_true q6
       go_wp2
       go_roundg k1
       case measure => have := HK1.out; omega
       case rel => exact ⟨(wrap64 (x5_1 - 1)), z1d, H', ⟨z1h⟩, z1n⟩
     ·rw [if_neg c5] at H
      exact absurd H (by simp)
    ·rw [if_neg c4] at H
     exact absurd H (by simp)
   ·rw [if_neg c3] at H
    have c3b0 := decide_eq_false c3
    clear c3
    obtain rfl := Option.some.inj H
    go_wp2
    go_ret
    exact ⟨z1d, z1n⟩
def strings_LastIndexByte.f (k : Nat) (a0 : ByteArray) (a1 : Int) : Option (Int) := (bytealg_LastIndexByteString.f k a0 a1).bind fun t141 => (some t141)
set_option maxHeartbeats 8000000 in
set_option maxRecDepth 100000 in
theorem strings_LastIndexByte.calls (k : Nat) (a0 : ByteArray) (a1 : Int) (r : Int) (w : World) (h : strings_LastIndexByte.f k a0 a1 = some r) :
  Calls Tryz.prog 111 #[.string a0, .int .u8 a1] w fun e w' => e = .returned (.int .i64 r) ∧ Drawn0 w w' := by
 have H := h
 unfold strings_LastIndexByte.f at H
 clear h
 replace H := Option.bind_eq_some_iff.mp H
 obtain ⟨t141, A30, H⟩ := H
 try dsimp only at H
 have A3 := zi A30
 clear A30
 obtain rfl := Option.some.inj H
 go_enter Tryz.func111, Tryz.ntmps111
 go_wp2_with (first | ((with_reducible refine gate_callee (f := 125) rfl ?_); refine goesL_ (some 7) rfl rfl Tryz.func125 z1a rfl #[.string a0, .int .u8 a1] rfl z1b ?_; (with_reducible refine (bytealg_LastIndexByteString.calls k a0 a1 t141 _ A3.out).mono ?_); rintro e w' ⟨rfl, ⟨nd, rfl⟩⟩; refine ⟨_, rfl, ?_⟩))
 go_ret
 exact ⟨z1d, z1n⟩
def impl_cutMajor.j0 : Nat → ByteArray → Int → Bool → Option (ByteArray × Int)
 | 0, _, _, _ => none
 | k + 1, x0, x4, x17 => if x17 = true then (some (x0, 1)) else (if 0 ≤ (wrap64 (x4 + 2)) then (if (wrap64 (x4 + 2)) ≤ (x0.size : Int) then ((impl_numberOf.f k (x0.extract ((wrap64 (x4 + 2)) : Int).toNat x0.size) 4).bind fun bt143 => (if bt143.2 = true then ((impl_inRange.f bt143.1 2 1000).bind fun t145 => (if t145 = true then (if 0 ≤ x4 then (if x4 ≤ (x0.size : Int) then (some (x0.extract 0 (x4 : Int).toNat, bt143.1)) else (none)) else (none)) else (some (x0, 1)))) else (some (x0, 1)))) else (none)) else (none))
def impl_cutMajor.f (k : Nat) (a0 : ByteArray) : Option (ByteArray × Int) := (strings_LastIndexByte.f k a0 47).bind fun t142 => (if t142 < 0 then (impl_cutMajor.j0 k a0 t142 true) else (if 0 ≤ (wrap64 (t142 + 1)) then (if (wrap64 (t142 + 1)) < (a0.size : Int) then (impl_cutMajor.j0 k a0 t142 ((bt a0 (wrap64 (t142 + 1))) != 118)) else (none)) else (none)))
set_option maxHeartbeats 8000000 in
set_option maxRecDepth 100000 in
theorem impl_cutMajor.calls (k : Nat) (a0 : ByteArray) (r1 : ByteArray) (r2 : Int) (w : World) (h : impl_cutMajor.f k a0 = some (r1, r2)) :
  Calls Tryz.prog 96 #[.string a0] w fun e w' => e = .returned (.tuple #[.string r1, .int .i64 r2]) ∧ Below w.heap.size w w' := by
 have HB := zi (Below.refl w.heap.size w)
 have H := h
 unfold impl_cutMajor.f at H
 clear h
 replace H := Option.bind_eq_some_iff.mp H
 obtain ⟨t142, A20, H⟩ := H
 try dsimp only at H
 have A2 := zi A20
 clear A20
 have HC3 := zi H
 clear H
 go_enter Tryz.func96, Tryz.ntmps96
 go_upto_region 2 with (first | ((with_reducible refine gate_callee (f := 111) rfl ?_); refine goesL_ (some 8) rfl rfl Tryz.func111 z1a rfl #[.string a0, .int .u8 47] rfl z1b ?_; (with_reducible refine (strings_LastIndexByte.calls k a0 47 t142 _ A2.out).mono ?_); rintro e w' ⟨rfl, ⟨nd, rfl⟩⟩; refine ⟨_, rfl, ?_⟩))
 (try simp only [Act.put, z7g, z7h, z7i])
 go_cut [17] (fun v17 wc => ∃ (kq : Nat) (x17_2 : Bool), v17 = .bool x17_2 ∧ Aside0 (impl_cutMajor.j0 kq a0 t142 x17_2 = some (r1, r2)) ∧ Aside0 (kq ≤ k) ∧ Aside0 (Below w.heap.size w wc))
 case first =>
  have H := HC3.out
  clear HC3
  by_cases c4 : t142 < 0
  ·rw [if_pos c4] at H
   have c4b0 := decide_eq_true c4
   clear c4
   (first | rw [c4b0] | (simp only [i64_w, i32_w]; rw [c4b0]) | skip)
   have H' := zi H
   clear H
   go_wp2
   go_meet
   case rel => exact ⟨_, (true), z1d, H', ⟨z1q⟩, ⟨zt⟩⟩
  ·rw [if_neg c4] at H
   have c4b0 := decide_eq_false c4
   clear c4
   (first | rw [c4b0] | (simp only [i64_w, i32_w]; rw [c4b0]) | skip)
   obtain ⟨ji5, hji5⟩ : ∃ j_ : Int, (wrap64 (t142 + 1)) = j_ := ⟨_, rfl⟩
   replace H : (if 0 ≤ (ji5) then (if (ji5) < (a0.size : Int) then (impl_cutMajor.j0 k a0 t142 ((bt a0 (ji5)) != 118)) else (none)) else (none)) = some (r1, r2) := by first | (rw [hji5] at H; exact H) | (simp only [hji5] at H ⊢; exact H)
   have hji5w : (IntKind.i64.wrap (t142 + 1)) = ji5 := (i64_w _).trans hji5
   by_cases c6 : 0 ≤ (ji5)
   ·rw [if_pos c6] at H
    have c6b0 := decide_eq_true c6
    clear c6
    by_cases c7 : (ji5) < (a0.size : Int)
    ·rw [if_pos c7] at H
     have c7b0 := decide_eq_true c7
     clear c7
     have H' := zi H
     clear H
     have p8 : 0 ≤ ((ji5) : Int) := of_decide_eq_true z1e
     have q8 : (ji5) < (a0.size : Int) := of_decide_eq_true z1e
     have hx8 := bt_at a0 (ji5)
     replace p8 := eq_true p8
     replace q8 := eq_true q8
     go_wp2
     go_meet
     case rel => exact ⟨_, (((bt a0 (ji5)) != 118)), (by first | rfl | (simp; done) | (simp only [← hji5] <;> (first | rfl | simp)) | (simp [*]; done)), H', ⟨z1q⟩, ⟨zt⟩⟩
    ·rw [if_neg c7] at H
     exact absurd H (by simp)
   ·rw [if_neg c6] at H
    exact absurd H (by simp)
 case rest =>
  clear HC3
  try clear c1
  try clear p2
  try clear c4
  try clear c4b0
  try clear c6
  try clear c6b0
  try clear p6
  try clear c7
  try clear c7b0
  try clear p8
  try clear q8
  try clear hx8
  try clear p8
  try clear q8
  obtain ⟨kq, x17_2, rfl, HA, HJ2, HB⟩ := hcut
  cases kq with
  | zero => exact absurd HA.out (by simp [impl_cutMajor.j0])
  | succ kj2 =>
   have H := HA.out
   clear HA
   simp only [impl_cutMajor.j0] at H
   by_cases c9 : x17_2 = true
   ·subst c9
    rw [if_pos rfl] at H
    simp only [Option.some.injEq, Prod.mk.injEq] at H
    obtain ⟨rfl, rfl⟩ := H
    go_wp2
    go_ret2
    exact ⟨zw, zt⟩
   ·replace c9 := Bool.eq_false_iff.mpr c9
    subst c9
    rw [if_neg zj] at H
    obtain ⟨ji10, hji10⟩ : ∃ j_ : Int, (wrap64 (t142 + 2)) = j_ := ⟨_, rfl⟩
    replace H : (if 0 ≤ (ji10) then (if (ji10) ≤ (a0.size : Int) then ((impl_numberOf.f kj2 (a0.extract ((ji10) : Int).toNat a0.size) 4).bind fun bt143 => (if bt143.2 = true then ((impl_inRange.f bt143.1 2 1000).bind fun t145 => (if t145 = true then (if 0 ≤ t142 then (if t142 ≤ (a0.size : Int) then (some (a0.extract 0 (t142 : Int).toNat, bt143.1)) else (none)) else (none)) else (some (a0, 1)))) else (some (a0, 1)))) else (none)) else (none)) = some (r1, r2) := by first | (rw [hji10] at H; exact H) | (simp only [hji10] at H ⊢; exact H)
    have hji10w : (IntKind.i64.wrap (t142 + 2)) = ji10 := (i64_w _).trans hji10
    by_cases c11 : 0 ≤ (ji10)
    ·rw [if_pos c11] at H
     have c11b0 := eq_true c11
     have c11b1 := decide_eq_true c11
     clear c11
     by_cases c12 : (ji10) ≤ (a0.size : Int)
     ·rw [if_pos c12] at H
      have c12b0 := eq_true c12
      have c12b1 := decide_eq_true c12
      clear c12
      replace H := Option.bind_eq_some_iff.mp H
      obtain ⟨⟨t143, t144⟩, A130, H⟩ := H
      try dsimp only at H
      have A13 := zi A130
      clear A130
      by_cases c14 : t144 = true
      ·subst c14
       rw [if_pos rfl] at H
       replace H := Option.bind_eq_some_iff.mp H
       obtain ⟨t145, A150, H⟩ := H
       try dsimp only at H
       have A15 := zi A150
       clear A150
       by_cases c16 : t145 = true
       ·subst c16
        rw [if_pos rfl] at H
        by_cases c17 : 0 ≤ t142
        ·rw [if_pos c17] at H
         have c17b0 := eq_true c17
         have c17b1 := decide_eq_true c17
         clear c17
         by_cases c18 : t142 ≤ (a0.size : Int)
         ·rw [if_pos c18] at H
          have c18b0 := eq_true c18
          have c18b1 := decide_eq_true c18
          clear c18
          simp only [Option.some.injEq, Prod.mk.injEq] at H
          obtain ⟨rfl, rfl⟩ := H
          go_wp2_with (first | ((with_reducible refine gate_callee (f := 77) rfl ?_); refine goesL_ (some 24) rfl rfl Tryz.func77 z1a rfl #[.string (a0.extract ((ji10) : Int).toNat a0.size), .int .i64 4] rfl z1r ?_; (with_reducible refine (impl_numberOf.calls kj2 (a0.extract ((ji10) : Int).toNat a0.size) 4 t143 true _ A13.out).mono ?_); rintro e w19 ⟨rfl, hb⟩; refine ⟨_, rfl, ?_⟩; have n0_ := zi (below_step zt hb); clear HB; have HB := n0_; clear n0_; (try clear hb); (try clear hb2); (try clear hk); (try clear hi)) | (go_at_call 97; (with_reducible refine (impl_inRange.calls t143 2 1000 true _ A15.out).mono ?_); rintro e w' ⟨rfl, ⟨nd, rfl⟩⟩))
          go_ret2
          exact ⟨z1s, zt⟩
         ·rw [if_neg c18] at H
          exact absurd H (by simp)
        ·rw [if_neg c17] at H
         exact absurd H (by simp)
       ·replace c16 := Bool.eq_false_iff.mpr c16
        subst c16
        rw [if_neg zj] at H
        simp only [Option.some.injEq, Prod.mk.injEq] at H
        obtain ⟨rfl, rfl⟩ := H
        go_wp2_with (first | ((with_reducible refine gate_callee (f := 77) rfl ?_); refine goesL_ (some 24) rfl rfl Tryz.func77 z1a rfl #[.string (a0.extract ((ji10) : Int).toNat a0.size), .int .i64 4] rfl z1r ?_; (with_reducible refine (impl_numberOf.calls kj2 (a0.extract ((ji10) : Int).toNat a0.size) 4 t143 true _ A13.out).mono ?_); rintro e w20 ⟨rfl, hb⟩; refine ⟨_, rfl, ?_⟩; have n0_ := zi (below_step zt hb); clear HB; have HB := n0_; clear n0_; (try clear hb); (try clear hb2); (try clear hk); (try clear hi)) | (go_at_call 97; (with_reducible refine (impl_inRange.calls t143 2 1000 false _ A15.out).mono ?_); rintro e w' ⟨rfl, ⟨nd, rfl⟩⟩))
        go_ret2
        exact ⟨z1s, zt⟩
      ·replace c14 := Bool.eq_false_iff.mpr c14
       subst c14
       rw [if_neg zj] at H
       simp only [Option.some.injEq, Prod.mk.injEq] at H
       obtain ⟨rfl, rfl⟩ := H
       go_wp2_with (first | ((with_reducible refine gate_callee (f := 77) rfl ?_); refine goesL_ (some 24) rfl rfl Tryz.func77 z1a rfl #[.string (a0.extract ((ji10) : Int).toNat a0.size), .int .i64 4] rfl z1r ?_; (with_reducible refine (impl_numberOf.calls kj2 (a0.extract ((ji10) : Int).toNat a0.size) 4 t143 false _ A13.out).mono ?_); rintro e w21 ⟨rfl, hb⟩; refine ⟨_, rfl, ?_⟩; have n0_ := zi (below_step zt hb); clear HB; have HB := n0_; clear n0_; (try clear hb); (try clear hb2); (try clear hk); (try clear hi)))
       go_ret2
       exact ⟨z1s, zt⟩
     ·rw [if_neg c12] at H
      exact absurd H (by simp)
    ·rw [if_neg c11] at H
     exact absurd H (by simp)
def impl_MajorOf.f (k : Nat) (a0 : ByteArray) : Option (Int) := (impl_PathOk.f k a0).bind fun t146 => (if t146 = true then ((impl_cutMajor.f k a0).bind fun bt147 => (some bt147.2)) else (some 0))
set_option maxHeartbeats 8000000 in
set_option maxRecDepth 100000 in
theorem impl_MajorOf.calls (k : Nat) (a0 : ByteArray) (r : Int) (w : World) (h : impl_MajorOf.f k a0 = some r) :
  Calls Tryz.prog 70 #[.string a0] w fun e w' => e = .returned (.int .i64 r) ∧ Below w.heap.size w w' := by
 have HB := zi (Below.refl w.heap.size w)
 have H := h
 unfold impl_MajorOf.f at H
 clear h
 replace H := Option.bind_eq_some_iff.mp H
 obtain ⟨t146, A20, H⟩ := H
 try dsimp only at H
 have A2 := zi A20
 clear A20
 by_cases c3 : t146 = true
 ·subst c3
  rw [if_pos rfl] at H
  replace H := Option.bind_eq_some_iff.mp H
  obtain ⟨⟨t147, t148⟩, A40, H⟩ := H
  try dsimp only at H
  have A4 := zi A40
  clear A40
  obtain rfl := Option.some.inj H
  go_enter Tryz.func70, Tryz.ntmps70
  go_wp2_with (first | ((with_reducible refine gate_callee (f := 95) rfl ?_); refine goesL_ (some 6) rfl rfl Tryz.func95 z1a rfl #[.string a0] rfl z1b ?_; (with_reducible refine (impl_PathOk.calls k a0 true _ A2.out).mono ?_); rintro e w5 ⟨rfl, hb⟩; refine ⟨_, rfl, ?_⟩; have n0_ := zi (below_step zt hb); clear HB; have HB := n0_; clear n0_; (try clear hb); (try clear hb2); (try clear hk); (try clear hi)) | ((with_reducible refine gate_callee (f := 96) rfl ?_); refine goesL_ (some 10) rfl rfl Tryz.func96 z1a rfl #[.string a0] rfl z1b ?_; (with_reducible refine (impl_cutMajor.calls k a0 t147 t148 _ A4.out).mono ?_); rintro e w6 ⟨rfl, hb⟩; refine ⟨_, rfl, ?_⟩; have n0_ := zi (below_step zt hb); clear HB; have HB := n0_; clear n0_; (try clear hb); (try clear hb2); (try clear hk); (try clear hi)))
  go_ret
  exact ⟨zw, zt⟩
 ·replace c3 := Bool.eq_false_iff.mpr c3
  subst c3
  rw [if_neg zj] at H
  obtain rfl := Option.some.inj H
  go_enter Tryz.func70, Tryz.ntmps70
  go_wp2_with (first | ((with_reducible refine gate_callee (f := 95) rfl ?_); refine goesL_ (some 6) rfl rfl Tryz.func95 z1a rfl #[.string a0] rfl z1b ?_; (with_reducible refine (impl_PathOk.calls k a0 false _ A2.out).mono ?_); rintro e w7 ⟨rfl, hb⟩; refine ⟨_, rfl, ?_⟩; have n0_ := zi (below_step zt hb); clear HB; have HB := n0_; clear n0_; (try clear hb); (try clear hb2); (try clear hk); (try clear hi)))
  go_ret
  exact ⟨zw, zt⟩
def impl_partOk.l0 : Nat → ByteArray → Int → Option (Bool)
 | 0, _, _ => none
 | k + 1, x0, x3 => if x3 < (x0.size : Int) then (if 0 ≤ x3 then (if (bt x0 x3) ≥ 97 then (if (bt x0 x3) ≤ 122 then (impl_partOk.l0 k x0 (wrap64 (x3 + 1))) else (if (bt x0 x3) ≥ 65 then (if (bt x0 x3) ≤ 90 then (impl_partOk.l0 k x0 (wrap64 (x3 + 1))) else ((impl_isFigure.f (bt x0 x3)).bind fun t149 => (if t149 = true then (impl_partOk.l0 k x0 (wrap64 (x3 + 1))) else (if ((bt x0 x3) = 45) then (impl_partOk.l0 k x0 (wrap64 (x3 + 1))) else (some false))))) else ((impl_isFigure.f (bt x0 x3)).bind fun t150 => (if t150 = true then (impl_partOk.l0 k x0 (wrap64 (x3 + 1))) else (if ((bt x0 x3) = 45) then (impl_partOk.l0 k x0 (wrap64 (x3 + 1))) else (some false)))))) else (if (bt x0 x3) ≥ 65 then (if (bt x0 x3) ≤ 90 then (impl_partOk.l0 k x0 (wrap64 (x3 + 1))) else ((impl_isFigure.f (bt x0 x3)).bind fun t151 => (if t151 = true then (impl_partOk.l0 k x0 (wrap64 (x3 + 1))) else (if ((bt x0 x3) = 45) then (impl_partOk.l0 k x0 (wrap64 (x3 + 1))) else (some false))))) else ((impl_isFigure.f (bt x0 x3)).bind fun t152 => (if t152 = true then (impl_partOk.l0 k x0 (wrap64 (x3 + 1))) else (if ((bt x0 x3) = 45) then (impl_partOk.l0 k x0 (wrap64 (x3 + 1))) else (some false)))))) else (none)) else ((impl_inRange.f (x0.size : Int) 1 8).bind fun t153 => (if t153 = true then ((impl_isFigures.f k x0).bind fun t154 => (if t154 = true then ((impl_isNumber.f k x0).bind fun t155 => (some t155)) else (some true))) else (some false)))
def impl_partOk.f (k : Nat) (a0 : ByteArray) : Option (Bool) := impl_partOk.l0 k a0 0
set_option maxHeartbeats 8000000 in
set_option maxRecDepth 100000 in
theorem impl_partOk.calls (k : Nat) (a0 : ByteArray) (r : Bool) (w : World) (h : impl_partOk.f k a0 = some r) :
  Calls Tryz.prog 98 #[.string a0] w fun e w' => e = .returned (.bool r) ∧ Drawn0 w w' := by
 have H := h
 unfold impl_partOk.f at H
 clear h
 have H' := zi H
 clear H
 go_enter Tryz.func98, Tryz.ntmps98
 go_wp2
 go_loopg [3] k (fun kq v3 w' => ∃ (x3_1 : Int), v3 = .int .i64 x3_1 ∧ Aside0 (impl_partOk.l0 kq a0 x3_1 = some r) ∧ Aside0 (kq ≤ k) ∧ Drawn0 w w')
 case atStart => exact ⟨(0), z1d, H', ⟨Nat.le_refl _⟩, z1n⟩
 case round =>
  clear H'
  obtain ⟨x3_1, rfl, HA, HK1, ⟨m1, rfl⟩⟩ := hrel
  cases gk with
  | zero => exact absurd HA.out (by simp [impl_partOk.l0])
  | succ k1 =>
   have H := HA.out
   clear HA
   simp only [impl_partOk.l0] at H
   by_cases c2 : x3_1 < (a0.size : Int)
   ·rw [if_pos c2] at H
    have c2b0 := decide_eq_true c2
    clear c2
    by_cases c3 : 0 ≤ x3_1
    ·rw [if_pos c3] at H
     have c3b0 := decide_eq_true c3
     clear c3
     by_cases c5 : (bt a0 x3_1) ≥ 97
     ·rw [if_pos c5] at H
      have c5b0 := decide_eq_true c5
      clear c5
      by_cases c6 : (bt a0 x3_1) ≤ 122
      ·rw [if_pos c6] at H
       have c6b0 := decide_eq_true c6
       clear c6
       have H' := zi H
       clear H
       have p4 : 0 ≤ (x3_1 : Int) := of_decide_eq_true z1e
       have q4 : x3_1 < (a0.size : Int) := of_decide_eq_true z1e
       have hx4 := bt_at a0 x3_1
       replace p4 := eq_true p4
       replace q4 := eq_true q4
       go_wp2
       go_roundg k1
       case measure => have := HK1.out; omega
       case rel => exact ⟨(wrap64 (x3_1 + 1)), z1d, H', ⟨z1h⟩, z1n⟩
      ·rw [if_neg c6] at H
       have c6b0 := decide_eq_false c6
       clear c6
       by_cases c7 : (bt a0 x3_1) ≥ 65
       ·rw [if_pos c7] at H
        have c7b0 := decide_eq_true c7
        clear c7
        by_cases c8 : (bt a0 x3_1) ≤ 90
        ·rw [if_pos c8] at H
         have c8b0 := decide_eq_true c8
         clear c8
         have H' := zi H
         clear H
         have p4 : 0 ≤ (x3_1 : Int) := of_decide_eq_true z1e
         have q4 : x3_1 < (a0.size : Int) := of_decide_eq_true z1e
         have hx4 := bt_at a0 x3_1
         replace p4 := eq_true p4
         replace q4 := eq_true q4
         go_wp2
         go_roundg k1
         case measure => have := HK1.out; omega
         case rel => exact ⟨(wrap64 (x3_1 + 1)), z1d, H', ⟨z1h⟩, z1n⟩
        ·rw [if_neg c8] at H
         have c8b0 := decide_eq_false c8
         clear c8
         replace H := Option.bind_eq_some_iff.mp H
         obtain ⟨t149, A90, H⟩ := H
         try dsimp only at H
         have A9 := zi A90
         clear A90
         by_cases c10 : t149 = true
         ·subst c10
          rw [if_pos rfl] at H
          have H' := zi H
          clear H
          have p4 : 0 ≤ (x3_1 : Int) := of_decide_eq_true z1e
          have q4 : x3_1 < (a0.size : Int) := of_decide_eq_true z1e
          have hx4 := bt_at a0 x3_1
          replace p4 := eq_true p4
          replace q4 := eq_true q4
          go_wp2_with (first | (go_at_call 112; (with_reducible refine (impl_isFigure.calls (bt a0 x3_1) true _ A9.out).mono ?_); rintro e w' ⟨rfl, ⟨nd, rfl⟩⟩))
          go_roundg k1
          case measure => have := HK1.out; omega
          case rel => exact ⟨(wrap64 (x3_1 + 1)), z1d, H', ⟨z1h⟩, z1n⟩
         ·replace c10 := Bool.eq_false_iff.mpr c10
          subst c10
          rw [if_neg zj] at H
          by_cases c11 : ((bt a0 x3_1) = 45)
          ·rw [if_pos c11] at H
           have c11b0 : ((bt a0 x3_1) == 45) = true := beq_iff_eq.mpr c11
           have c11b1 : ((bt a0 x3_1) != 45) = false := bne_eq_false_iff_eq.mpr c11
           clear c11
           have H' := zi H
           clear H
           have p4 : 0 ≤ (x3_1 : Int) := of_decide_eq_true z1e
           have q4 : x3_1 < (a0.size : Int) := of_decide_eq_true z1e
           have hx4 := bt_at a0 x3_1
           replace p4 := eq_true p4
           replace q4 := eq_true q4
           go_wp2_with (first | (go_at_call 112; (with_reducible refine (impl_isFigure.calls (bt a0 x3_1) false _ A9.out).mono ?_); rintro e w' ⟨rfl, ⟨nd, rfl⟩⟩))
           go_roundg k1
           case measure => have := HK1.out; omega
           case rel => exact ⟨(wrap64 (x3_1 + 1)), z1d, H', ⟨z1h⟩, z1n⟩
          ·rw [if_neg c11] at H
           have c11b0 : ((bt a0 x3_1) == 45) = false := beq_eq_false_iff_ne.mpr c11
           have c11b1 : ((bt a0 x3_1) != 45) = true := bne_iff_ne.mpr c11
           obtain rfl := Option.some.inj H
           have p4 : 0 ≤ (x3_1 : Int) := of_decide_eq_true z1e
           have q4 : x3_1 < (a0.size : Int) := of_decide_eq_true z1e
           have hx4 := bt_at a0 x3_1
           replace p4 := eq_true p4
           replace q4 := eq_true q4
           go_wp2_with (first | (go_at_call 112; (with_reducible refine (impl_isFigure.calls (bt a0 x3_1) false _ A9.out).mono ?_); rintro e w' ⟨rfl, ⟨nd, rfl⟩⟩))
           go_ret
           exact ⟨z1d, z1n⟩
       ·rw [if_neg c7] at H
        have c7b0 := decide_eq_false c7
        clear c7
        replace H := Option.bind_eq_some_iff.mp H
        obtain ⟨t150, A120, H⟩ := H
        try dsimp only at H
        have A12 := zi A120
        clear A120
        by_cases c13 : t150 = true
        ·subst c13
         rw [if_pos rfl] at H
         have H' := zi H
         clear H
         have p4 : 0 ≤ (x3_1 : Int) := of_decide_eq_true z1e
         have q4 : x3_1 < (a0.size : Int) := of_decide_eq_true z1e
         have hx4 := bt_at a0 x3_1
         replace p4 := eq_true p4
         replace q4 := eq_true q4
         go_wp2_with (first | (go_at_call 112; (with_reducible refine (impl_isFigure.calls (bt a0 x3_1) true _ A12.out).mono ?_); rintro e w' ⟨rfl, ⟨nd, rfl⟩⟩))
         go_roundg k1
         case measure => have := HK1.out; omega
         case rel => exact ⟨(wrap64 (x3_1 + 1)), z1d, H', ⟨z1h⟩, z1n⟩
        ·replace c13 := Bool.eq_false_iff.mpr c13
         subst c13
         rw [if_neg zj] at H
         by_cases c14 : ((bt a0 x3_1) = 45)
         ·rw [if_pos c14] at H
          have c14b0 : ((bt a0 x3_1) == 45) = true := beq_iff_eq.mpr c14
          have c14b1 : ((bt a0 x3_1) != 45) = false := bne_eq_false_iff_eq.mpr c14
          clear c14
          have H' := zi H
          clear H
          have p4 : 0 ≤ (x3_1 : Int) := of_decide_eq_true z1e
          have q4 : x3_1 < (a0.size : Int) := of_decide_eq_true z1e
          have hx4 := bt_at a0 x3_1
          replace p4 := eq_true p4
          replace q4 := eq_true q4
          go_wp2_with (first | (go_at_call 112; (with_reducible refine (impl_isFigure.calls (bt a0 x3_1) false _ A12.out).mono ?_); rintro e w' ⟨rfl, ⟨nd, rfl⟩⟩))
          go_roundg k1
          case measure => have := HK1.out; omega
          case rel => exact ⟨(wrap64 (x3_1 + 1)), z1d, H', ⟨z1h⟩, z1n⟩
         ·rw [if_neg c14] at H
          have c14b0 : ((bt a0 x3_1) == 45) = false := beq_eq_false_iff_ne.mpr c14
          have c14b1 : ((bt a0 x3_1) != 45) = true := bne_iff_ne.mpr c14
          obtain rfl := Option.some.inj H
          have p4 : 0 ≤ (x3_1 : Int) := of_decide_eq_true z1e
          have q4 : x3_1 < (a0.size : Int) := of_decide_eq_true z1e
          have hx4 := bt_at a0 x3_1
          replace p4 := eq_true p4
          replace q4 := eq_true q4
          go_wp2_with (first | (go_at_call 112; (with_reducible refine (impl_isFigure.calls (bt a0 x3_1) false _ A12.out).mono ?_); rintro e w' ⟨rfl, ⟨nd, rfl⟩⟩))
          go_ret
          exact ⟨z1d, z1n⟩
     ·rw [if_neg c5] at H
      have c5b0 := decide_eq_false c5
      clear c5
      by_cases c15 : (bt a0 x3_1) ≥ 65
      ·rw [if_pos c15] at H
       have c15b0 := decide_eq_true c15
       clear c15
       by_cases c16 : (bt a0 x3_1) ≤ 90
       ·rw [if_pos c16] at H
        have c16b0 := decide_eq_true c16
        clear c16
        have H' := zi H
        clear H
        have p4 : 0 ≤ (x3_1 : Int) := of_decide_eq_true z1e
        have q4 : x3_1 < (a0.size : Int) := of_decide_eq_true z1e
        have hx4 := bt_at a0 x3_1
        replace p4 := eq_true p4
        replace q4 := eq_true q4
        go_wp2
        go_roundg k1
        case measure => have := HK1.out; omega
        case rel => exact ⟨(wrap64 (x3_1 + 1)), z1d, H', ⟨z1h⟩, z1n⟩
       ·rw [if_neg c16] at H
        have c16b0 := decide_eq_false c16
        clear c16
        replace H := Option.bind_eq_some_iff.mp H
        obtain ⟨t151, A170, H⟩ := H
        try dsimp only at H
        have A17 := zi A170
        clear A170
        by_cases c18 : t151 = true
        ·subst c18
         rw [if_pos rfl] at H
         have H' := zi H
         clear H
         have p4 : 0 ≤ (x3_1 : Int) := of_decide_eq_true z1e
         have q4 : x3_1 < (a0.size : Int) := of_decide_eq_true z1e
         have hx4 := bt_at a0 x3_1
         replace p4 := eq_true p4
         replace q4 := eq_true q4
         go_wp2_with (first | (go_at_call 112; (with_reducible refine (impl_isFigure.calls (bt a0 x3_1) true _ A17.out).mono ?_); rintro e w' ⟨rfl, ⟨nd, rfl⟩⟩))
         go_roundg k1
         case measure => have := HK1.out; omega
         case rel => exact ⟨(wrap64 (x3_1 + 1)), z1d, H', ⟨z1h⟩, z1n⟩
        ·replace c18 := Bool.eq_false_iff.mpr c18
         subst c18
         rw [if_neg zj] at H
         by_cases c19 : ((bt a0 x3_1) = 45)
         ·rw [if_pos c19] at H
          have c19b0 : ((bt a0 x3_1) == 45) = true := beq_iff_eq.mpr c19
          have c19b1 : ((bt a0 x3_1) != 45) = false := bne_eq_false_iff_eq.mpr c19
          clear c19
          have H' := zi H
          clear H
          have p4 : 0 ≤ (x3_1 : Int) := of_decide_eq_true z1e
          have q4 : x3_1 < (a0.size : Int) := of_decide_eq_true z1e
          have hx4 := bt_at a0 x3_1
          replace p4 := eq_true p4
          replace q4 := eq_true q4
          go_wp2_with (first | (go_at_call 112; (with_reducible refine (impl_isFigure.calls (bt a0 x3_1) false _ A17.out).mono ?_); rintro e w' ⟨rfl, ⟨nd, rfl⟩⟩))
          go_roundg k1
          case measure => have := HK1.out; omega
          case rel => exact ⟨(wrap64 (x3_1 + 1)), z1d, H', ⟨z1h⟩, z1n⟩
         ·rw [if_neg c19] at H
          have c19b0 : ((bt a0 x3_1) == 45) = false := beq_eq_false_iff_ne.mpr c19
          have c19b1 : ((bt a0 x3_1) != 45) = true := bne_iff_ne.mpr c19
          obtain rfl := Option.some.inj H
          have p4 : 0 ≤ (x3_1 : Int) := of_decide_eq_true z1e
          have q4 : x3_1 < (a0.size : Int) := of_decide_eq_true z1e
          have hx4 := bt_at a0 x3_1
          replace p4 := eq_true p4
          replace q4 := eq_true q4
          go_wp2_with (first | (go_at_call 112; (with_reducible refine (impl_isFigure.calls (bt a0 x3_1) false _ A17.out).mono ?_); rintro e w' ⟨rfl, ⟨nd, rfl⟩⟩))
          go_ret
          exact ⟨z1d, z1n⟩
      ·rw [if_neg c15] at H
       have c15b0 := decide_eq_false c15
       clear c15
       replace H := Option.bind_eq_some_iff.mp H
       obtain ⟨t152, A200, H⟩ := H
       try dsimp only at H
       have A20 := zi A200
       clear A200
       by_cases c21 : t152 = true
       ·subst c21
        rw [if_pos rfl] at H
        have H' := zi H
        clear H
        have p4 : 0 ≤ (x3_1 : Int) := of_decide_eq_true z1e
        have q4 : x3_1 < (a0.size : Int) := of_decide_eq_true z1e
        have hx4 := bt_at a0 x3_1
        replace p4 := eq_true p4
        replace q4 := eq_true q4
        go_wp2_with (first | (go_at_call 112; (with_reducible refine (impl_isFigure.calls (bt a0 x3_1) true _ A20.out).mono ?_); rintro e w' ⟨rfl, ⟨nd, rfl⟩⟩))
        go_roundg k1
        case measure => have := HK1.out; omega
        case rel => exact ⟨(wrap64 (x3_1 + 1)), z1d, H', ⟨z1h⟩, z1n⟩
       ·replace c21 := Bool.eq_false_iff.mpr c21
        subst c21
        rw [if_neg zj] at H
        by_cases c22 : ((bt a0 x3_1) = 45)
        ·rw [if_pos c22] at H
         have c22b0 : ((bt a0 x3_1) == 45) = true := beq_iff_eq.mpr c22
         have c22b1 : ((bt a0 x3_1) != 45) = false := bne_eq_false_iff_eq.mpr c22
         clear c22
         have H' := zi H
         clear H
         have p4 : 0 ≤ (x3_1 : Int) := of_decide_eq_true z1e
         have q4 : x3_1 < (a0.size : Int) := of_decide_eq_true z1e
         have hx4 := bt_at a0 x3_1
         replace p4 := eq_true p4
         replace q4 := eq_true q4
         go_wp2_with (first | (go_at_call 112; (with_reducible refine (impl_isFigure.calls (bt a0 x3_1) false _ A20.out).mono ?_); rintro e w' ⟨rfl, ⟨nd, rfl⟩⟩))
         go_roundg k1
         case measure => have := HK1.out; omega
         case rel => exact ⟨(wrap64 (x3_1 + 1)), z1d, H', ⟨z1h⟩, z1n⟩
        ·rw [if_neg c22] at H
         have c22b0 : ((bt a0 x3_1) == 45) = false := beq_eq_false_iff_ne.mpr c22
         have c22b1 : ((bt a0 x3_1) != 45) = true := bne_iff_ne.mpr c22
         obtain rfl := Option.some.inj H
         have p4 : 0 ≤ (x3_1 : Int) := of_decide_eq_true z1e
         have q4 : x3_1 < (a0.size : Int) := of_decide_eq_true z1e
         have hx4 := bt_at a0 x3_1
         replace p4 := eq_true p4
         replace q4 := eq_true q4
         go_wp2_with (first | (go_at_call 112; (with_reducible refine (impl_isFigure.calls (bt a0 x3_1) false _ A20.out).mono ?_); rintro e w' ⟨rfl, ⟨nd, rfl⟩⟩))
         go_ret
         exact ⟨z1d, z1n⟩
    ·rw [if_neg c3] at H
     exact absurd H (by simp)
   ·rw [if_neg c2] at H
    have c2b0 := decide_eq_false c2
    clear c2
    replace H := Option.bind_eq_some_iff.mp H
    obtain ⟨t153, A230, H⟩ := H
    try dsimp only at H
    have A23 := zi A230
    clear A230
    by_cases c24 : t153 = true
    ·subst c24
     rw [if_pos rfl] at H
     replace H := Option.bind_eq_some_iff.mp H
     obtain ⟨t154, A250, H⟩ := H
     try dsimp only at H
     have A25 := zi A250
     clear A250
     by_cases c26 : t154 = true
     ·subst c26
      rw [if_pos rfl] at H
      replace H := Option.bind_eq_some_iff.mp H
      obtain ⟨t155, A270, H⟩ := H
      try dsimp only at H
      have A27 := zi A270
      clear A270
      obtain rfl := Option.some.inj H
      go_wp2_with (first | ((with_reducible refine gate_callee (f := 97) rfl ?_); refine goesL_ (some 39) rfl rfl Tryz.func97 z1a rfl #[.int .i64 (a0.size : Int), .int .i64 1, .int .i64 8] rfl z1b ?_; (with_reducible refine (impl_inRange.calls (a0.size : Int) 1 8 true _ A23.out).mono ?_); rintro e w' ⟨rfl, ⟨nd, rfl⟩⟩; refine ⟨_, rfl, ?_⟩) | (go_at_call 113; (with_reducible refine (impl_isFigures.calls k1 a0 true _ A25.out).mono ?_); rintro e w' ⟨rfl, ⟨nd, rfl⟩⟩) | (go_at_call 103; (with_reducible refine (impl_isNumber.calls k1 a0 t155 _ A27.out).mono ?_); rintro e w' ⟨rfl, ⟨nd, rfl⟩⟩))
      go_ret
      exact ⟨z1d, z1n⟩
     ·replace c26 := Bool.eq_false_iff.mpr c26
      subst c26
      rw [if_neg zj] at H
      obtain rfl := Option.some.inj H
      go_wp2_with (first | ((with_reducible refine gate_callee (f := 97) rfl ?_); refine goesL_ (some 39) rfl rfl Tryz.func97 z1a rfl #[.int .i64 (a0.size : Int), .int .i64 1, .int .i64 8] rfl z1b ?_; (with_reducible refine (impl_inRange.calls (a0.size : Int) 1 8 true _ A23.out).mono ?_); rintro e w' ⟨rfl, ⟨nd, rfl⟩⟩; refine ⟨_, rfl, ?_⟩) | (go_at_call 113; (with_reducible refine (impl_isFigures.calls k1 a0 false _ A25.out).mono ?_); rintro e w' ⟨rfl, ⟨nd, rfl⟩⟩))
      go_ret
      exact ⟨z1d, z1n⟩
    ·replace c24 := Bool.eq_false_iff.mpr c24
     subst c24
     rw [if_neg zj] at H
     obtain rfl := Option.some.inj H
     go_wp2_with (first | ((with_reducible refine gate_callee (f := 97) rfl ?_); refine goesL_ (some 39) rfl rfl Tryz.func97 z1a rfl #[.int .i64 (a0.size : Int), .int .i64 1, .int .i64 8] rfl z1b ?_; (with_reducible refine (impl_inRange.calls (a0.size : Int) 1 8 false _ A23.out).mono ?_); rintro e w' ⟨rfl, ⟨nd, rfl⟩⟩; refine ⟨_, rfl, ?_⟩))
     go_ret
     exact ⟨z1d, z1n⟩
def impl_VersionOk.l0 : Nat → List ByteArray → Int → Option (Bool)
 | 0, _, _ => none
 | k + 1, l, i => if i < (l.length : Int) then (if 0 ≤ i then ((impl_partOk.f k (rdOf ByteArray.empty l i)).bind fun t => (if t = true then (impl_VersionOk.l0 k l (wrap64 (i + 1))) else (some false))) else (none)) else (some (decide ((l.length : Int) ≤ 4)))
def impl_VersionOk.f0 (k : Nat) (p : ByteArray) : Option (Bool) := if p.toList = ([] : List UInt8) then (some true) else ((strings_Split.f p (⟨#[46]⟩ : ByteArray)).bind fun l => (impl_VersionOk.l0 k l 0))
def impl_VersionOk.f1 (k : Nat) (c : Int) (p : ByteArray) : Option (Bool) := (impl_inRange.f c 0 1000000).bind fun t => (if t = true then (impl_VersionOk.f0 k p) else (some false))
def impl_VersionOk.f2 (k : Nat) (b c : Int) (p : ByteArray) : Option (Bool) := (impl_inRange.f b 0 1000000).bind fun t => (if t = true then (impl_VersionOk.f1 k c p) else (some false))
def impl_VersionOk.f (k : Nat) (a b c : Int) (p : ByteArray) : Option (Bool) := (impl_inRange.f a 0 1000000).bind fun t => (if t = true then (impl_VersionOk.f2 k b c p) else (some false))
theorem cell_drewN_ (w : World) (n : Nat) (a : Addr) : (w.drewN n).cell? a = w.cell? a := by
 induction n generalizing w with
 | zero => rfl
 | succ n ih => exact ih _
set_option maxHeartbeats 8000000 in
set_option maxRecDepth 100000 in
theorem impl_VersionOk.calls (k : Nat) (a0_0 : Int) (a0_1 : Int) (a0_2 : Int) (a0_3 : ByteArray) (r : Bool) (w : World) (h : impl_VersionOk.f k a0_0 a0_1 a0_2 a0_3 = some r) :
  Calls Tryz.prog 71 #[.agg #[.int .i64 a0_0, .int .i64 a0_1, .int .i64 a0_2, .string a0_3]] w fun e w' => e = .returned (.bool r) ∧ Below w.heap.size w w' := by
 have HB := zi (Below.refl w.heap.size w)
 have H' := zi h
 clear h
 have ix0 : ∀ W, (Instr.index 116 (.agg #[.int .i64 a0_0, .int .i64 a0_1, .int .i64 a0_2]) (.int .i64 0)).run Tryz.prog W = .ok (.int .i64 a0_0) W := fun W => by simp [Instr.index, run_underlying Tryz.underlying116, asIntOf, go_sem]
 have ix1 : ∀ W, (Instr.index 116 (.agg #[.int .i64 a0_0, .int .i64 a0_1, .int .i64 a0_2]) (.int .i64 1)).run Tryz.prog W = .ok (.int .i64 a0_1) W := fun W => by simp [Instr.index, run_underlying Tryz.underlying116, asIntOf, go_sem]
 have ix2 : ∀ W, (Instr.index 116 (.agg #[.int .i64 a0_0, .int .i64 a0_1, .int .i64 a0_2]) (.int .i64 2)).run Tryz.prog W = .ok (.int .i64 a0_2) W := fun W => by simp [Instr.index, run_underlying Tryz.underlying116, asIntOf, go_sem]
 have hu27 := Tryz.underlying25
 go_enter Tryz.func71, Tryz.ntmps71
 go_wp2
 obtain ⟨W1, hW1⟩ : ∃ W1, W1 = w.alloc (Obj.cells #[Value.int IntKind.i64 a0_0, Value.int IntKind.i64 a0_1, Value.int IntKind.i64 a0_2, Value.string a0_3] 25) := ⟨_, rfl⟩
 have hc3 : W1.cell? ⟨w.heap.size, 3, none⟩ = some (.string a0_3) := by rw [hW1]; exact (World.cell?_alloc_at (hn := rfl) ..).trans rfl
 have HB1 := zi (show Below w.heap.size w W1 by rw [hW1]; exact (Below.refl _ _).alloc (Nat.le_refl _) _)
 rw [← hW1]
 clear hW1 HB
 go_loopw [15] (fun v15 wr => ∃ (i : Nat), v15 = .int .i64 (i : Int) ∧ i ≤ 3 ∧ wr.cell? ⟨w.heap.size, 3, none⟩ = some (.string a0_3) ∧ Aside0 (Below w.heap.size w wr) ∧ Aside0 (i = 0 ∧ impl_VersionOk.f k a0_0 a0_1 a0_2 a0_3 = some r ∨ i = 1 ∧ impl_VersionOk.f2 k a0_1 a0_2 a0_3 = some r ∨ i = 2 ∧ impl_VersionOk.f1 k a0_2 a0_3 = some r ∨ i = 3 ∧ impl_VersionOk.f0 k a0_3 = some r))
  (fun v15 _ => 3 - (intOf v15).toNat)
 case atStart => exact ⟨0, rfl, zq, hc3, HB1, ⟨.inl ⟨rfl, H'.out⟩⟩⟩
 case round =>
  clear H' hc3 HB1
  obtain ⟨i, rfl, hi, hc3, HB, HA⟩ := hrel
  rcases HA.out with ⟨rfl, h⟩ | ⟨rfl, h⟩ | ⟨rfl, h⟩ | ⟨rfl, h⟩
  ·obtain ⟨t, A1, h2⟩ := Option.bind_eq_some_iff.mp h
   have A10 := zi A1
   clear A1 HA h
   cases t with
   | true =>
    have HT := zi h2
    clear h2
    go_wp2_with (go_at_call 97; refine (impl_inRange.calls a0_0 0 1000000 true _ A10.out).mono ?_; rintro e w' ⟨rfl, ⟨nd, rfl⟩⟩)
    exact ⟨⟨1, rfl, zq, (cell_drewN_ _ _ _).trans hc3, ⟨pw_below_drewN HB.out nd⟩, ⟨.inr (.inl ⟨rfl, HT.out⟩)⟩⟩, z1g⟩
   | false =>
    obtain rfl := Option.some.inj h2
    clear h2
    go_wp2_with (go_at_call 97; refine (impl_inRange.calls a0_0 0 1000000 false _ A10.out).mono ?_; rintro e w' ⟨rfl, ⟨nd, rfl⟩⟩)
    go_ret
    exact ⟨rfl, pw_below_drewN HB.out nd⟩
  ·obtain ⟨t, A1, h2⟩ := Option.bind_eq_some_iff.mp h
   have A10 := zi A1
   clear A1 HA h
   cases t with
   | true =>
    have HT := zi h2
    clear h2
    go_wp2_with (go_at_call 97; refine (impl_inRange.calls a0_1 0 1000000 true _ A10.out).mono ?_; rintro e w' ⟨rfl, ⟨nd, rfl⟩⟩)
    exact ⟨⟨2, rfl, zq, (cell_drewN_ _ _ _).trans hc3, ⟨pw_below_drewN HB.out nd⟩, ⟨.inr (.inr (.inl ⟨rfl, HT.out⟩))⟩⟩, z1g⟩
   | false =>
    obtain rfl := Option.some.inj h2
    clear h2
    go_wp2_with (go_at_call 97; refine (impl_inRange.calls a0_1 0 1000000 false _ A10.out).mono ?_; rintro e w' ⟨rfl, ⟨nd, rfl⟩⟩)
    go_ret
    exact ⟨rfl, pw_below_drewN HB.out nd⟩
  ·obtain ⟨t, A1, h2⟩ := Option.bind_eq_some_iff.mp h
   have A10 := zi A1
   clear A1 HA h
   cases t with
   | true =>
    have HT := zi h2
    clear h2
    go_wp2_with (go_at_call 97; refine (impl_inRange.calls a0_2 0 1000000 true _ A10.out).mono ?_; rintro e w' ⟨rfl, ⟨nd, rfl⟩⟩)
    exact ⟨⟨3, rfl, zq, (cell_drewN_ _ _ _).trans hc3, ⟨pw_below_drewN HB.out nd⟩, ⟨.inr (.inr (.inr ⟨rfl, HT.out⟩))⟩⟩, z1g⟩
   | false =>
    obtain rfl := Option.some.inj h2
    clear h2
    go_wp2_with (go_at_call 97; refine (impl_inRange.calls a0_2 0 1000000 false _ A10.out).mono ?_; rintro e w' ⟨rfl, ⟨nd, rfl⟩⟩)
    go_ret
    exact ⟨rfl, pw_below_drewN HB.out nd⟩
  ·clear HA ix0 ix1 ix2
   have hcn : ∀ n, (wr.drewN n).cell? ⟨w.heap.size, 3, none⟩ = some (.string a0_3) := fun n => (cell_drewN_ _ _ _).trans hc3
   unfold impl_VersionOk.f0 at h
   by_cases c4 : a0_3.toList = ([] : List UInt8)
   ·rw [if_pos c4] at h
    obtain rfl := Option.some.inj h
    clear h
    go_wp2
    go_ret
    exact ⟨rfl, HB.out⟩
   ·rw [if_neg c4] at h
    have c4b : (a0_3.toList == ([] : List UInt8)) = false := beq_eq_false_iff_ne.2 c4
    obtain ⟨l, A1, h2⟩ := Option.bind_eq_some_iff.mp h
    clear h
    have A2 := zi A1
    clear A1
    have H' := zi h2
    clear h2
    go_wp2_with (go_at_call 76; refine (strings_Split.calls a0_3 (⟨#[46]⟩ : ByteArray) l _ A2.out).mono ?_; rintro e w3 ⟨v122, rfl, ho0, hb⟩; have n0_ := zi (Kd.R_lower ho0 (below_size zt)); have n1_ := zi (below_step zt hb); clear HB; have HO := n0_; have HB := n1_; clear n0_ n1_; (try clear hb); (try clear ho0); obtain ⟨Ao4, co4, eo4⟩ := Kd.R_slice HO.out; subst eo4)
    clear hc3 hcn c4
    go_loopg [30] k (fun kq v30 w' => ∃ (x_1 : Int), v30 = .int .i64 x_1 ∧ Aside0 (impl_VersionOk.l0 kq l x_1 = some r) ∧ Aside0 (kq ≤ k) ∧ Aside0 (Kd.R Kd.string 9 w' w.heap.size (fun _ => True) (.slice Ao4 l.length co4) l) ∧ Aside0 (Below w.heap.size w w'))
    case atStart => exact ⟨(0), z1d, H', ⟨Nat.le_refl _⟩, ⟨z1t⟩, ⟨zt⟩⟩
    case round =>
     clear H' HO HB A2
     obtain ⟨x_1, rfl, HA, HK1, HO, HB⟩ := hrel
     cases gk with
     | zero => exact absurd HA.out (by simp [impl_VersionOk.l0])
     | succ k1 =>
      have H := HA.out
      clear HA
      simp only [impl_VersionOk.l0] at H
      by_cases c5 : x_1 < (l.length : Int)
      ·rw [if_pos c5] at H
       have c5b0 := decide_eq_true c5
       clear c5
       by_cases c6 : 0 ≤ x_1
       ·rw [if_pos c6] at H
        have c6b0 := decide_eq_true c6
        clear c6
        replace H := Option.bind_eq_some_iff.mp H
        obtain ⟨t125, A80, H⟩ := H
        try dsimp only at H
        have A8 := zi A80
        clear A80
        have p124 : 0 ≤ (x_1 : Int) := of_decide_eq_true z1e
        have q124 : x_1 < (l.length : Int) := of_decide_eq_true z1e
        obtain ⟨ad124, e124, hx124_0⟩ := Kd.at_string (Kd.R_reads' HO.out).2.2 x_1 p124 q124
        cases e124
        replace p124 := eq_true p124
        replace q124 := eq_true q124
        by_cases c9 : t125 = true
        ·subst c9
         have H1 : (impl_VersionOk.l0 k1 l (wrap64 (x_1 + 1))) = some r := by rw [if_pos rfl] at H; exact H
         clear H
         have H' := zi H1
         clear H1
         go_wp2_with (go_at_call 98; (with_reducible refine (impl_partOk.calls k1 (rdOf ByteArray.empty l x_1) true _ A8.out).mono ?_); rintro e w' ⟨rfl, ⟨nd, rfl⟩⟩)
         go_roundg k1
         case measure => have := HK1.out; omega
         case rel => exact ⟨(wrap64 (x_1 + 1)), z1d, H', ⟨z1h⟩, ⟨z1t⟩, ⟨zt⟩⟩
        ·replace c9 := Bool.eq_false_iff.mpr c9
         subst c9
         have H1 : (some false) = some r := by rw [if_neg (show ¬ (false = true) by decide)] at H; exact H
         clear H
         obtain rfl := Option.some.inj H1
         clear H1
         go_wp2_with (go_at_call 98; (with_reducible refine (impl_partOk.calls k1 (rdOf ByteArray.empty l x_1) false _ A8.out).mono ?_); rintro e w' ⟨rfl, ⟨nd, rfl⟩⟩)
         go_ret
         exact ⟨z1d, zt⟩
       ·rw [if_neg c6] at H
        exact absurd H (by simp)
      ·rw [if_neg c5] at H
       have c5b0 := decide_eq_false c5
       clear c5
       obtain rfl := Option.some.inj H
       clear H
       go_wp2
       go_ret
       exact ⟨z1d, zt⟩
def impl_Fits.f (k : Nat) (a0 : ByteArray) (a1_0 : Int) (a1_1 : Int) (a1_2 : Int) (a1_3 : ByteArray) : Option (Bool) := (impl_MajorOf.f k a0).bind fun t157 => (if t157 > 0 then ((impl_VersionOk.f k a1_0 a1_1 a1_2 a1_3).bind fun t158 => (if t158 = true then (if a1_0 = t157 then (some true) else (if a1_0 = 0 then (some (t157 == 1)) else (some false))) else (some false))) else (some false))
set_option maxHeartbeats 8000000 in
set_option maxRecDepth 100000 in
theorem impl_Fits.calls (k : Nat) (a0 : ByteArray) (a1_0 : Int) (a1_1 : Int) (a1_2 : Int) (a1_3 : ByteArray) (r : Bool) (w : World) (h : impl_Fits.f k a0 a1_0 a1_1 a1_2 a1_3 = some r) :
  Calls Tryz.prog 35 #[.string a0, .agg #[.int .i64 a1_0, .int .i64 a1_1, .int .i64 a1_2, .string a1_3]] w fun e w' => e = .returned (.bool r) ∧ Below w.heap.size w w' := by
 have hu25 := Tryz.underlying25
 have HB := zi (Below.refl w.heap.size w)
 have H := h
 unfold impl_Fits.f at H
 clear h
 replace H := Option.bind_eq_some_iff.mp H
 obtain ⟨t157, A30, H⟩ := H
 try dsimp only at H
 have A3 := zi A30
 clear A30
 by_cases c4 : t157 > 0
 ·rw [if_pos c4] at H
  have c4b0 := decide_eq_true c4
  clear c4
  replace H := Option.bind_eq_some_iff.mp H
  obtain ⟨t158, A50, H⟩ := H
  try dsimp only at H
  have A5 := zi A50
  clear A50
  by_cases c6 : t158 = true
  ·subst c6
   rw [if_pos rfl] at H
   by_cases c7 : a1_0 = t157
   ·rw [if_pos c7] at H
    have c7b0 : (a1_0 == t157) = true := beq_iff_eq.mpr c7
    have c7b1 : (a1_0 != t157) = false := bne_eq_false_iff_eq.mpr c7
    clear c7
    obtain rfl := Option.some.inj H
    go_enter Tryz.func35, Tryz.ntmps35
    go_wp2_with (first | ((with_reducible refine gate_dst (N := 3) rfl ?_); refine box_event zr (N := 3) zr (cs := #[.int .i64 a1_0, .int .i64 a1_1, .int .i64 a1_2, .string a1_3]) (t := 25) zs ?_; intro gb156 hg w8 hbox hb; have n0_ := zi (below_step zt hb); have n1_ := zi hbox; have n2_ := zi ((z5s : w.heap.size ≤ gb156)); have n3_ := zi ((z5s : w.heap.size ≤ gb156)); clear HB; have HB := n0_; have BK156 := n1_; have GW156 := n2_; have GE156 := n3_; clear n0_ n1_ n2_ n3_; clear hb hbox hg) | ((with_reducible refine gate_callee (f := 70) rfl ?_); refine goesL_ (some 7) rfl rfl Tryz.func70 z1a rfl #[.string a0] rfl z1b ?_; (with_reducible refine (impl_MajorOf.calls k a0 t157 _ A3.out).mono ?_); rintro e w9 ⟨rfl, hb⟩; refine ⟨_, rfl, ?_⟩; have n0_ := zi (blk_below (g := gb156) (o := .cells #[.int .i64 a1_0, .int .i64 a1_1, .int .i64 a1_2, .string a1_3] 25 (0, 0)) z1u hb); have n1_ := zi (below_step z1v hb); clear BK156; clear HB; have BK156 := n0_; have HB := n1_; clear n0_ n1_; (try clear hb); (try clear hb2); (try clear hk); (try clear hi); obtain ⟨hcz10_0, hcz10_1, hcz10_2, hcz10_3, hfz10_0, hfz10_1, hfz10_2, hfz10_3⟩ := ze BK156.out) | (go_at_call 71; (with_reducible refine (impl_VersionOk.calls k a1_0 a1_1 a1_2 a1_3 true _ A5.out).mono ?_); rintro e w11 ⟨rfl, hb⟩; have n0_ := zi (blk_below (g := gb156) (o := .cells #[.int .i64 a1_0, .int .i64 a1_1, .int .i64 a1_2, .string a1_3] 25 (0, 0)) z1u hb); have n1_ := zi (below_step z1v hb); clear BK156; clear HB; have BK156 := n0_; have HB := n1_; clear n0_ n1_; (try clear hb); (try clear hb2); (try clear hk); (try clear hi); obtain ⟨hcz12_0, hcz12_1, hcz12_2, hcz12_3, hfz12_0, hfz12_1, hfz12_2, hfz12_3⟩ := ze BK156.out))
    go_ret
    exact ⟨zw, z1v⟩
   ·rw [if_neg c7] at H
    have c7b0 : (a1_0 == t157) = false := beq_eq_false_iff_ne.mpr c7
    have c7b1 : (a1_0 != t157) = true := bne_iff_ne.mpr c7
    by_cases c13 : a1_0 = 0
    ·rw [if_pos c13] at H
     have c13b0 : (a1_0 == 0) = true := beq_iff_eq.mpr c13
     have c13b1 : (a1_0 != 0) = false := bne_eq_false_iff_eq.mpr c13
     clear c13
     obtain rfl := Option.some.inj H
     go_enter Tryz.func35, Tryz.ntmps35
     go_wp2_with (first | ((with_reducible refine gate_dst (N := 3) rfl ?_); refine box_event zr (N := 3) zr (cs := #[.int .i64 a1_0, .int .i64 a1_1, .int .i64 a1_2, .string a1_3]) (t := 25) zs ?_; intro gb156 hg w14 hbox hb; have n0_ := zi (below_step zt hb); have n1_ := zi hbox; have n2_ := zi ((z5s : w.heap.size ≤ gb156)); have n3_ := zi ((z5s : w.heap.size ≤ gb156)); clear HB; have HB := n0_; have BK156 := n1_; have GW156 := n2_; have GE156 := n3_; clear n0_ n1_ n2_ n3_; clear hb hbox hg) | ((with_reducible refine gate_callee (f := 70) rfl ?_); refine goesL_ (some 7) rfl rfl Tryz.func70 z1a rfl #[.string a0] rfl z1b ?_; (with_reducible refine (impl_MajorOf.calls k a0 t157 _ A3.out).mono ?_); rintro e w15 ⟨rfl, hb⟩; refine ⟨_, rfl, ?_⟩; have n0_ := zi (blk_below (g := gb156) (o := .cells #[.int .i64 a1_0, .int .i64 a1_1, .int .i64 a1_2, .string a1_3] 25 (0, 0)) z1u hb); have n1_ := zi (below_step z1v hb); clear BK156; clear HB; have BK156 := n0_; have HB := n1_; clear n0_ n1_; (try clear hb); (try clear hb2); (try clear hk); (try clear hi); obtain ⟨hcz16_0, hcz16_1, hcz16_2, hcz16_3, hfz16_0, hfz16_1, hfz16_2, hfz16_3⟩ := ze BK156.out) | (go_at_call 71; (with_reducible refine (impl_VersionOk.calls k a1_0 a1_1 a1_2 a1_3 true _ A5.out).mono ?_); rintro e w17 ⟨rfl, hb⟩; have n0_ := zi (blk_below (g := gb156) (o := .cells #[.int .i64 a1_0, .int .i64 a1_1, .int .i64 a1_2, .string a1_3] 25 (0, 0)) z1u hb); have n1_ := zi (below_step z1v hb); clear BK156; clear HB; have BK156 := n0_; have HB := n1_; clear n0_ n1_; (try clear hb); (try clear hb2); (try clear hk); (try clear hi); obtain ⟨hcz18_0, hcz18_1, hcz18_2, hcz18_3, hfz18_0, hfz18_1, hfz18_2, hfz18_3⟩ := ze BK156.out))
     go_ret
     exact ⟨zw, z1v⟩
    ·rw [if_neg c13] at H
     have c13b0 : (a1_0 == 0) = false := beq_eq_false_iff_ne.mpr c13
     have c13b1 : (a1_0 != 0) = true := bne_iff_ne.mpr c13
     obtain rfl := Option.some.inj H
     go_enter Tryz.func35, Tryz.ntmps35
     go_wp2_with (first | ((with_reducible refine gate_dst (N := 3) rfl ?_); refine box_event zr (N := 3) zr (cs := #[.int .i64 a1_0, .int .i64 a1_1, .int .i64 a1_2, .string a1_3]) (t := 25) zs ?_; intro gb156 hg w19 hbox hb; have n0_ := zi (below_step zt hb); have n1_ := zi hbox; have n2_ := zi ((z5s : w.heap.size ≤ gb156)); have n3_ := zi ((z5s : w.heap.size ≤ gb156)); clear HB; have HB := n0_; have BK156 := n1_; have GW156 := n2_; have GE156 := n3_; clear n0_ n1_ n2_ n3_; clear hb hbox hg) | ((with_reducible refine gate_callee (f := 70) rfl ?_); refine goesL_ (some 7) rfl rfl Tryz.func70 z1a rfl #[.string a0] rfl z1b ?_; (with_reducible refine (impl_MajorOf.calls k a0 t157 _ A3.out).mono ?_); rintro e w20 ⟨rfl, hb⟩; refine ⟨_, rfl, ?_⟩; have n0_ := zi (blk_below (g := gb156) (o := .cells #[.int .i64 a1_0, .int .i64 a1_1, .int .i64 a1_2, .string a1_3] 25 (0, 0)) z1u hb); have n1_ := zi (below_step z1v hb); clear BK156; clear HB; have BK156 := n0_; have HB := n1_; clear n0_ n1_; (try clear hb); (try clear hb2); (try clear hk); (try clear hi); obtain ⟨hcz21_0, hcz21_1, hcz21_2, hcz21_3, hfz21_0, hfz21_1, hfz21_2, hfz21_3⟩ := ze BK156.out) | (go_at_call 71; (with_reducible refine (impl_VersionOk.calls k a1_0 a1_1 a1_2 a1_3 true _ A5.out).mono ?_); rintro e w22 ⟨rfl, hb⟩; have n0_ := zi (blk_below (g := gb156) (o := .cells #[.int .i64 a1_0, .int .i64 a1_1, .int .i64 a1_2, .string a1_3] 25 (0, 0)) z1u hb); have n1_ := zi (below_step z1v hb); clear BK156; clear HB; have BK156 := n0_; have HB := n1_; clear n0_ n1_; (try clear hb); (try clear hb2); (try clear hk); (try clear hi); obtain ⟨hcz23_0, hcz23_1, hcz23_2, hcz23_3, hfz23_0, hfz23_1, hfz23_2, hfz23_3⟩ := ze BK156.out))
     go_ret
     exact ⟨zw, z1v⟩
  ·replace c6 := Bool.eq_false_iff.mpr c6
   subst c6
   rw [if_neg zj] at H
   obtain rfl := Option.some.inj H
   go_enter Tryz.func35, Tryz.ntmps35
   go_wp2_with (first | ((with_reducible refine gate_dst (N := 3) rfl ?_); refine box_event zr (N := 3) zr (cs := #[.int .i64 a1_0, .int .i64 a1_1, .int .i64 a1_2, .string a1_3]) (t := 25) zs ?_; intro gb156 hg w24 hbox hb; have n0_ := zi (below_step zt hb); have n1_ := zi hbox; have n2_ := zi ((z5s : w.heap.size ≤ gb156)); have n3_ := zi ((z5s : w.heap.size ≤ gb156)); clear HB; have HB := n0_; have BK156 := n1_; have GW156 := n2_; have GE156 := n3_; clear n0_ n1_ n2_ n3_; clear hb hbox hg) | ((with_reducible refine gate_callee (f := 70) rfl ?_); refine goesL_ (some 7) rfl rfl Tryz.func70 z1a rfl #[.string a0] rfl z1b ?_; (with_reducible refine (impl_MajorOf.calls k a0 t157 _ A3.out).mono ?_); rintro e w25 ⟨rfl, hb⟩; refine ⟨_, rfl, ?_⟩; have n0_ := zi (blk_below (g := gb156) (o := .cells #[.int .i64 a1_0, .int .i64 a1_1, .int .i64 a1_2, .string a1_3] 25 (0, 0)) z1u hb); have n1_ := zi (below_step z1v hb); clear BK156; clear HB; have BK156 := n0_; have HB := n1_; clear n0_ n1_; (try clear hb); (try clear hb2); (try clear hk); (try clear hi); obtain ⟨hcz26_0, hcz26_1, hcz26_2, hcz26_3, hfz26_0, hfz26_1, hfz26_2, hfz26_3⟩ := ze BK156.out) | (go_at_call 71; (with_reducible refine (impl_VersionOk.calls k a1_0 a1_1 a1_2 a1_3 false _ A5.out).mono ?_); rintro e w27 ⟨rfl, hb⟩; have n0_ := zi (blk_below (g := gb156) (o := .cells #[.int .i64 a1_0, .int .i64 a1_1, .int .i64 a1_2, .string a1_3] 25 (0, 0)) z1u hb); have n1_ := zi (below_step z1v hb); clear BK156; clear HB; have BK156 := n0_; have HB := n1_; clear n0_ n1_; (try clear hb); (try clear hb2); (try clear hk); (try clear hi)))
   go_ret
   exact ⟨zw, z1v⟩
 ·rw [if_neg c4] at H
  have c4b0 := decide_eq_false c4
  clear c4
  obtain rfl := Option.some.inj H
  go_enter Tryz.func35, Tryz.ntmps35
  go_wp2_with (first | ((with_reducible refine gate_dst (N := 3) rfl ?_); refine box_event zr (N := 3) zr (cs := #[.int .i64 a1_0, .int .i64 a1_1, .int .i64 a1_2, .string a1_3]) (t := 25) zs ?_; intro gb156 hg w28 hbox hb; have n0_ := zi (below_step zt hb); have n1_ := zi hbox; have n2_ := zi ((z5s : w.heap.size ≤ gb156)); have n3_ := zi ((z5s : w.heap.size ≤ gb156)); clear HB; have HB := n0_; have BK156 := n1_; have GW156 := n2_; have GE156 := n3_; clear n0_ n1_ n2_ n3_; clear hb hbox hg) | ((with_reducible refine gate_callee (f := 70) rfl ?_); refine goesL_ (some 7) rfl rfl Tryz.func70 z1a rfl #[.string a0] rfl z1b ?_; (with_reducible refine (impl_MajorOf.calls k a0 t157 _ A3.out).mono ?_); rintro e w29 ⟨rfl, hb⟩; refine ⟨_, rfl, ?_⟩; have n0_ := zi (blk_below (g := gb156) (o := .cells #[.int .i64 a1_0, .int .i64 a1_1, .int .i64 a1_2, .string a1_3] 25 (0, 0)) z1u hb); have n1_ := zi (below_step z1v hb); clear BK156; clear HB; have BK156 := n0_; have HB := n1_; clear n0_ n1_; (try clear hb); (try clear hb2); (try clear hk); (try clear hi)))
  go_ret
  exact ⟨zw, z1v⟩
def impl_NeedOk.f (k : Nat) (a0_0 : ByteArray) (a0_1 : Int) (a0_2 : Int) (a0_3 : Int) (a0_4 : ByteArray) : Option (Bool) := (impl_Fits.f k a0_0 a0_1 a0_2 a0_3 a0_4).bind fun t160 => (some t160)
set_option maxHeartbeats 8000000 in
set_option maxRecDepth 100000 in
theorem impl_NeedOk.calls (k : Nat) (a0_0 : ByteArray) (a0_1 : Int) (a0_2 : Int) (a0_3 : Int) (a0_4 : ByteArray) (r : Bool) (w : World) (h : impl_NeedOk.f k a0_0 a0_1 a0_2 a0_3 a0_4 = some r) :
  Calls Tryz.prog 16 #[.agg #[.string a0_0, .int .i64 a0_1, .int .i64 a0_2, .int .i64 a0_3, .string a0_4]] w fun e w' => e = .returned (.bool r) ∧ Below w.heap.size w w' := by
 have hu35 := Tryz.underlying35
 have hu25 := Tryz.underlying25
 have HB := zi (Below.refl w.heap.size w)
 have H := h
 unfold impl_NeedOk.f at H
 clear h
 replace H := Option.bind_eq_some_iff.mp H
 obtain ⟨t160, A20, H⟩ := H
 try dsimp only at H
 have A2 := zi A20
 clear A20
 obtain rfl := Option.some.inj H
 go_enter Tryz.func16, Tryz.ntmps16
 go_wp2_with (first | ((with_reducible refine gate_dst (N := 1) rfl ?_); refine box_event zr (N := 1) zr (cs := #[.string a0_0, .int .i64 a0_1, .int .i64 a0_2, .int .i64 a0_3, .string a0_4]) (t := 35) zs ?_; intro gb159 hg w3 hbox hb; have n0_ := zi (below_step zt hb); have n1_ := zi hbox; have n2_ := zi ((z5s : w.heap.size ≤ gb159)); have n3_ := zi ((z5s : w.heap.size ≤ gb159)); clear HB; have HB := n0_; have BK159 := n1_; have GW159 := n2_; have GE159 := n3_; clear n0_ n1_ n2_ n3_; clear hb hbox hg; obtain ⟨hcz4_0, hcz4_1, hcz4_2, hcz4_3, hcz4_4, hfz4_0, hfz4_1, hfz4_2, hfz4_3, hfz4_4⟩ := zf BK159.out) | ((with_reducible refine gate_callee (f := 35) rfl ?_); refine goesL_ (some 7) rfl rfl Tryz.func35 z1a rfl #[.string a0_0, .agg #[.int .i64 a0_1, .int .i64 a0_2, .int .i64 a0_3, .string a0_4]] rfl z1b ?_; (with_reducible refine (impl_Fits.calls k a0_0 a0_1 a0_2 a0_3 a0_4 t160 _ A2.out).mono ?_); rintro e w5 ⟨rfl, hb⟩; refine ⟨_, rfl, ?_⟩; have n0_ := zi (blk_below (g := gb159) (o := .cells #[.string a0_0, .int .i64 a0_1, .int .i64 a0_2, .int .i64 a0_3, .string a0_4] 35 (0, 0)) (by (repeat refine zh ?_); exact BK159.out) hb); have n1_ := zi (below_step (by repeat (first | (with_reducible first | exact HB.out | apply below_alloc | apply pw_below_drewN | apply below_drew1 | refine below_set ?_ GE159.out) | exact HB.out)) hb); clear BK159; clear HB; have BK159 := n0_; have HB := n1_; clear n0_ n1_; (try clear hb); (try clear hb2); (try clear hk); (try clear hi)))
 go_ret
 exact ⟨zw, by repeat (first | (with_reducible first | exact HB.out | apply below_alloc | apply pw_below_drewN | apply below_drew1 | refine below_set ?_ GE159.out) | exact HB.out)⟩
def impl_ascending.l0 : Nat → List (S35) → Int → List (S35) → Int → Int → Option (Bool)
 | 0, _, _, _, _, _ => none
 | k + 1, x0, x1, x7, x8, x9 => if x9 < x8 then (if 0 ≤ x9 then (if x9 < (x7.length : Int) then ((impl_NeedOk.f k ((rd_T35 x7 x9).f0) ((rd_T35 x7 x9).f1.f0) ((rd_T35 x7 x9).f1.f1) ((rd_T35 x7 x9).f1.f2) ((rd_T35 x7 x9).f1.f3)).bind fun t163 => (if t163 = true then (if x9 > 0 then (if 0 ≤ (wrap64 (x9 - 1)) then (if (wrap64 (x9 - 1)) < (x0.length : Int) then (if ((Op.bytesLess (((rd_T35 x0 (wrap64 (x9 - 1))).f0).toList) (((rd_T35 x7 x9).f0).toList)) = true) then (impl_ascending.l0 k x0 x1 x7 x8 (wrap64 (x9 + 1))) else (some false)) else (none)) else (none)) else (impl_ascending.l0 k x0 x1 x7 x8 (wrap64 (x9 + 1)))) else (some false))) else (none)) else (none)) else (some (decide ((x0.length : Int) ≤ x1)))
def impl_ascending.f (k : Nat) (l0 : List (S35)) (a1 : Int) : Option (Bool) := impl_ascending.l0 k l0 a1 l0 (l0.length : Int) 0
def impl_ascending.T4 : Bool × List (List Nat × List Nat) := (true, [([], []), ([0], [0]), ([1], [1]), ([2, 1], [2]), ([3], [3]), ([4, 3], [3, 4]), ([5, 3, 3], [3, 5]), ([6], [6]), ([7, 6], [6, 7]), ([6], [6]), ([6], [6]), ([10, 6], [6, 10]), ([9, 11, 6], [6, 9, 11]), ([12, 6], [6, 12]), ([13, 6], [6, 13]), ([8, 14, 6], [6, 8, 14]), ([6, 15, 3], [3, 6, 15]), ([3, 16], [3, 16])])
def impl_ascending.B4 : List Nat := [0, 1, 3, 7, 15, 31, 63, 127, 255, 127, 127, 1151, 3711, 7807, 15999, 32767, 65535, 131071]
theorem impl_ascending.tab4 : rtab .any (opsOf Tryz.f36 4) = impl_ascending.T4 := by kernel_rfl
theorem impl_ascending.bits4 : waitsOk impl_ascending.T4.2 impl_ascending.B4 = true := by kernel_rfl
set_option maxHeartbeats 8000000 in
set_option maxRecDepth 100000 in
theorem impl_ascending.calls (k : Nat) (A0 : Option Addr) (c0 : Nat) (l0 : List (S35)) (a1 : Int) (r : Bool) (w : World) (hr0 : Kd.C k35 w A0 l0.length l0) (hc0 : l0.length ≤ c0) (h : impl_ascending.f k l0 a1 = some r) :
  Calls Tryz.prog 36 #[.slice A0 l0.length c0, .int .i64 a1] w fun e w' => e = .returned (.bool r) ∧ Below w.heap.size w w' := by
 have hu35 := Tryz.underlying35
 have HR0 := zi hr0
 have HC0 := zi hc0
 clear hr0 hc0
 have HB := zi (Below.refl w.heap.size w)
 have H := h
 unfold impl_ascending.f at H
 clear h
 have H' := zi H
 clear H
 go_enter Tryz.func36, Tryz.ntmps36
 go_wp2
 go_loopg [9] k (fun kq v9 w' => ∃ (x9_1 : Int), v9 = .int .i64 x9_1 ∧ Aside0 (impl_ascending.l0 kq l0 a1 l0 (l0.length : Int) x9_1 = some r) ∧ Aside0 (kq ≤ k) ∧ Aside0 (Below w.heap.size w w'))
 case atStart => exact ⟨(0), z1d, H', ⟨Nat.le_refl _⟩, ⟨zt⟩⟩
 case round =>
  clear H'
  try clear p2
  obtain ⟨x9_1, rfl, HA, HK1, HB⟩ := hrel
  cases gk with
  | zero => exact absurd HA.out (by simp [impl_ascending.l0])
  | succ k1 =>
   have H := HA.out
   clear HA
   simp only [impl_ascending.l0] at H
   by_cases c3 : x9_1 < (l0.length : Int)
   ·rw [if_pos c3] at H
    have c3b0 := decide_eq_true c3
    clear c3
    by_cases c4 : 0 ≤ x9_1
    ·rw [if_pos c4] at H
     have c4b0 := decide_eq_true c4
     clear c4
     by_cases c5 : x9_1 < (l0.length : Int)
     ·rw [if_pos c5] at H
      have c5b0 := decide_eq_true c5
      clear c5
      replace H := Option.bind_eq_some_iff.mp H
      obtain ⟨t163, A60, H⟩ := H
      try dsimp only at H
      have A6 := zi A60
      clear A60
      by_cases c7 : t163 = true
      ·subst c7
       rw [if_pos rfl] at H
       by_cases c8 : x9_1 > 0
       ·rw [if_pos c8] at H
        have c8b0 := decide_eq_true c8
        clear c8
        obtain ⟨ji9, hji9⟩ : ∃ j_ : Int, (wrap64 (x9_1 - 1)) = j_ := ⟨_, rfl⟩
        replace H : (if 0 ≤ (ji9) then (if (ji9) < (l0.length : Int) then (if ((Op.bytesLess (((rd_T35 l0 (ji9)).f0).toList) (((rd_T35 l0 x9_1).f0).toList)) = true) then (impl_ascending.l0 k1 l0 a1 l0 (l0.length : Int) (wrap64 (x9_1 + 1))) else (some false)) else (none)) else (none)) = some r := by first | (rw [hji9] at H; exact H) | (simp only [hji9] at H ⊢; exact H)
        (try rw [hji9] at A6)
        have hji9w : (IntKind.i64.wrap (x9_1 - 1)) = ji9 := (i64_w _).trans hji9
        by_cases c10 : 0 ≤ (ji9)
        ·rw [if_pos c10] at H
         have c10b0 := decide_eq_true c10
         clear c10
         by_cases c11 : (ji9) < (l0.length : Int)
         ·rw [if_pos c11] at H
          have c11b0 := decide_eq_true c11
          clear c11
          by_cases c12 : ((Op.bytesLess (((rd_T35 l0 (ji9)).f0).toList) (((rd_T35 l0 x9_1).f0).toList)) = true)
          ·rw [if_pos c12] at H
           have c12b0 : (Op.bytesLess (((rd_T35 l0 (ji9)).f0).toList) (((rd_T35 l0 x9_1).f0).toList)) = true := c12
           have c12e : (Op.bytesLess (((rd_T35 l0 x9_1).f0).toList) (((rd_T35 l0 (ji9)).f0).toList) || ((rd_T35 l0 x9_1).f0).toList == ((rd_T35 l0 (ji9)).f0).toList) = false := Y.le_false c12b0
           clear c12
           have H' := zi H
           clear H
           have p161 : 0 ≤ (x9_1 : Int) := of_decide_eq_true z1e
           have q161 : x9_1 < (l0.length : Int) := of_decide_eq_true z1e
           obtain ⟨ad161, e161, hx161_0, hx161_1, hx161_2, hx161_3, hx161_4⟩ := at_T35 HR0.out x9_1 p161 q161
           cases e161
           replace hx161_0 := zo HB.out hx161_0
           replace hx161_1 := zo HB.out hx161_1
           replace hx161_2 := zo HB.out hx161_2
           replace hx161_3 := zo HB.out hx161_3
           replace hx161_4 := zo HB.out hx161_4
           replace p161 := eq_true p161
           replace q161 := eq_true q161
           try go_wp2_with (first | ((with_reducible refine gate_dst (N := 6) rfl ?_); refine box_event zr (N := 6) zr (cs := #[.string (⟨#[]⟩ : ByteArray), .int .i64 0, .int .i64 0, .int .i64 0, .string (⟨#[]⟩ : ByteArray)]) (t := 35) zs ?_; intro gb162 hg w13 hbox hb; have n0_ := zi (below_step zt hb); have n1_ := zi hbox; have n2_ := zi ((z5s : w.heap.size ≤ gb162)); have n3_ := zi ((z5s : w.heap.size ≤ gb162)); clear HB; have HB := n0_; have BK162 := n1_; have GW162 := n2_; have GE162 := n3_; clear n0_ n1_ n2_ n3_; clear hb hbox hg; obtain ⟨hcz14_0, hcz14_1, hcz14_2, hcz14_3, hcz14_4, hfz14_0, hfz14_1, hfz14_2, hfz14_3, hfz14_4⟩ := zf BK162.out))
           have n0_ : Aside0 ((((((w13.setCell ⟨gb162, 0, none⟩ (.string ((rd_T35 l0 x9_1).f0))).setCell ⟨gb162, 1, none⟩ (.int .i64 ((rd_T35 l0 x9_1).f1.f0))).setCell ⟨gb162, 2, none⟩ (.int .i64 ((rd_T35 l0 x9_1).f1.f1))).setCell ⟨gb162, 3, none⟩ (.int .i64 ((rd_T35 l0 x9_1).f1.f2))).setCell ⟨gb162, 4, none⟩ (.string ((rd_T35 l0 x9_1).f1.f3))).heap[gb162]? = some (.cells #[.string ((rd_T35 l0 x9_1).f0), .int .i64 ((rd_T35 l0 x9_1).f1.f0), .int .i64 ((rd_T35 l0 x9_1).f1.f1), .int .i64 ((rd_T35 l0 x9_1).f1.f2), .string ((rd_T35 l0 x9_1).f1.f3)] 35 (0, 0))) := ⟨z1w⟩
           have n1_ : Aside0 (Below w.heap.size w (((((w13.setCell ⟨gb162, 0, none⟩ (.string ((rd_T35 l0 x9_1).f0))).setCell ⟨gb162, 1, none⟩ (.int .i64 ((rd_T35 l0 x9_1).f1.f0))).setCell ⟨gb162, 2, none⟩ (.int .i64 ((rd_T35 l0 x9_1).f1.f1))).setCell ⟨gb162, 3, none⟩ (.int .i64 ((rd_T35 l0 x9_1).f1.f2))).setCell ⟨gb162, 4, none⟩ (.string ((rd_T35 l0 x9_1).f1.f3)))) := ⟨z1x⟩
           (try clear BK162)
           (try clear HB)
           generalize (((((w13.setCell ⟨gb162, 0, none⟩ (.string ((rd_T35 l0 x9_1).f0))).setCell ⟨gb162, 1, none⟩ (.int .i64 ((rd_T35 l0 x9_1).f1.f0))).setCell ⟨gb162, 2, none⟩ (.int .i64 ((rd_T35 l0 x9_1).f1.f1))).setCell ⟨gb162, 3, none⟩ (.int .i64 ((rd_T35 l0 x9_1).f1.f2))).setCell ⟨gb162, 4, none⟩ (.string ((rd_T35 l0 x9_1).f1.f3))) = w15 at n0_ n1_ ⊢
           have BK162 := n0_
           have HB := n1_
           clear n0_ n1_
           have n0_ := zi (blk_drew BK162.out)
           have n1_ := zi (below_drew1 HB.out)
           clear BK162
           clear HB
           have BK162 := n0_
           have HB := n1_
           clear n0_ n1_
           have p164 : 0 ≤ ((ji9) : Int) := of_decide_eq_true z1e
           have q164 : (ji9) < (l0.length : Int) := of_decide_eq_true z1e
           obtain ⟨ad164, e164, hx164_0, hx164_1, hx164_2, hx164_3, hx164_4⟩ := at_T35 HR0.out (ji9) p164 q164
           have hw164_4 := hx164_4
           have hw164_3 := hx164_3
           have hw164_2 := hx164_2
           have hw164_1 := hx164_1
           have hw164_0 := hx164_0
           obtain rfl : ad161 = ad164 := (by injection e164)
           replace hx164_0 := zo HB.out hx164_0
           replace hx164_1 := zo HB.out hx164_1
           replace hx164_2 := zo HB.out hx164_2
           replace hx164_3 := zo HB.out hx164_3
           replace hx164_4 := zo HB.out hx164_4
           replace p164 := eq_true p164
           replace q164 := eq_true q164
           refine start_ (n := 18) (S := fun w' => w'.cell? ⟨gb162, 0, none⟩ = some (.string ((rd_T35 l0 x9_1).f0)) ∧ w'.cell? ⟨gb162, 1, none⟩ = some (.int .i64 ((rd_T35 l0 x9_1).f1.f0)) ∧ w'.cell? ⟨gb162, 2, none⟩ = some (.int .i64 ((rd_T35 l0 x9_1).f1.f1)) ∧ w'.cell? ⟨gb162, 3, none⟩ = some (.int .i64 ((rd_T35 l0 x9_1).f1.f2)) ∧ w'.cell? ⟨gb162, 4, none⟩ = some (.string ((rd_T35 l0 x9_1).f1.f3)) ∧ w'.cell? (ad161.add (((ji9)).toNat * 5)) = some (.string ((rd_T35 l0 (ji9)).f0)) ∧ w'.cell? ⟨(ad161.add (((ji9)).toNat * 5)).block, (ad161.add (((ji9)).toNat * 5)).off + 1, none⟩ = some (.int .i64 ((rd_T35 l0 (ji9)).f1.f0)) ∧ w'.cell? ⟨(ad161.add (((ji9)).toNat * 5)).block, (ad161.add (((ji9)).toNat * 5)).off + 2, none⟩ = some (.int .i64 ((rd_T35 l0 (ji9)).f1.f1)) ∧ w'.cell? ⟨(ad161.add (((ji9)).toNat * 5)).block, (ad161.add (((ji9)).toNat * 5)).off + 3, none⟩ = some (.int .i64 ((rd_T35 l0 (ji9)).f1.f2)) ∧ w'.cell? ⟨(ad161.add (((ji9)).toNat * 5)).block, (ad161.add (((ji9)).toNat * 5)).off + 4, none⟩ = some (.string ((rd_T35 l0 (ji9)).f1.f3))) (ds := []) #[z7f, z7f, z7f, z7f, z7f, z7f, z7f, z7f, z7f, z7f, z7f, z7f, z7f, z7f, z7f, z7f, z7f, z7f] z1a rfl rfl ⟨(blk_cell BK162.out 0).trans rfl, (blk_cell BK162.out 1).trans rfl, (blk_cell BK162.out 2).trans rfl, (blk_cell BK162.out 3).trans rfl, (blk_cell BK162.out 4).trans rfl, (zo HB.out hw164_0), (zo HB.out hw164_1), (zo HB.out hw164_2), (zo HB.out hw164_3), (zo HB.out hw164_4)⟩ (fun hHeld => ?_); refine with_tabW impl_ascending.tab4 impl_ascending.bits4 (fun HT_ HW_ => ?_)
           generalize w15.drew = w16 at BK162 HB hx164_0 hx164_1 hx164_2 hx164_3 hx164_4 hHeld ⊢
           refine zm 0 (some 14) #[z7e, z7f, z7f, z7f, z7f, z7f, z7f, z7f, z7f, z7f, z7f, z7f, z7f, z7f, z7f, z7f, z7f, z7f] rfl rfl (Or.inl ⟨zr, z1f⟩) hHeld ?_
           refine one_ (i := 1) (N := some 15) #[z7e, z7e, z7f, z7f, z7f, z7f, z7f, z7f, z7f, z7f, z7f, z7f, z7f, z7f, z7f, z7f, z7f, z7f] rfl rfl (one_of HT_.out z1a) z1g (fun K hK => ?_)
           refine goes_ Tryz.func16 z1a rfl #[.agg #[.string ((rd_T35 l0 x9_1).f0), .int .i64 ((rd_T35 l0 x9_1).f1.f0), .int .i64 ((rd_T35 l0 x9_1).f1.f1), .int .i64 ((rd_T35 l0 x9_1).f1.f2), .string ((rd_T35 l0 x9_1).f1.f3)]] zr rfl rfl z1b ?_
           with_reducible refine (impl_NeedOk.calls k1 ((rd_T35 l0 x9_1).f0) ((rd_T35 l0 x9_1).f1.f0) ((rd_T35 l0 x9_1).f1.f1) ((rd_T35 l0 x9_1).f1.f2) ((rd_T35 l0 x9_1).f1.f3) true _ A6.out).mono ?_
           rintro e w17 ⟨rfl, hb⟩
           refine ⟨_, rfl, ?_⟩
           have n0_ := zi (blk_below (g := gb162) (o := .cells #[.string ((rd_T35 l0 x9_1).f0), .int .i64 ((rd_T35 l0 x9_1).f1.f0), .int .i64 ((rd_T35 l0 x9_1).f1.f1), .int .i64 ((rd_T35 l0 x9_1).f1.f2), .string ((rd_T35 l0 x9_1).f1.f3)] 35 (0, 0)) z1y hb)
           have n1_ := zi (below_step z1x hb)
           clear BK162
           clear HB
           have BK162 := n0_
           have HB := n1_
           clear n0_ n1_
           (try clear hb)
           (try clear hb2)
           (try clear hk)
           (try clear hi)
           refine hK.out _ _ ⟨(blk_cell BK162.out 0).trans rfl, (blk_cell BK162.out 1).trans rfl, (blk_cell BK162.out 2).trans rfl, (blk_cell BK162.out 3).trans rfl, (blk_cell BK162.out 4).trans rfl, (zo HB.out hw164_0), (zo HB.out hw164_1), (zo HB.out hw164_2), (zo HB.out hw164_3), (zo HB.out hw164_4)⟩ (fun hHeld => ?_)
           clear hK K
           refine zn (some 15) rfl ?_
           refine zk 2 (some 16) #[z7e, z7e, z7e, z7f, z7f, z7f, z7f, z7f, z7f, z7f, z7f, z7f, z7f, z7f, z7f, z7f, z7f, z7f] rfl rfl ?_
           refine zk 3 (some 17) #[z7e, z7e, z7e, z7e, z7f, z7f, z7f, z7f, z7f, z7f, z7f, z7f, z7f, z7f, z7f, z7f, z7f, z7f] rfl rfl ?_
           refine zk 4 (some 18) #[z7e, z7e, z7e, z7e, z7e, z7f, z7f, z7f, z7f, z7f, z7f, z7f, z7f, z7f, z7f, z7f, z7f, z7f] rfl rfl ?_
           refine zk 5 (some 19) #[z7e, z7e, z7e, z7e, z7e, z7e, z7f, z7f, z7f, z7f, z7f, z7f, z7f, z7f, z7f, z7f, z7f, z7f] rfl rfl ?_
           refine zk 6 (some 20) #[z7e, z7e, z7e, z7e, z7e, z7e, z7e, z7f, z7f, z7f, z7f, z7f, z7f, z7f, z7f, z7f, z7f, z7f] rfl rfl ?_
           refine zk 7 (some 21) #[z7e, z7e, z7e, z7e, z7e, z7e, z7e, z7e, z7f, z7f, z7f, z7f, z7f, z7f, z7f, z7f, z7f, z7f] rfl rfl ?_
           refine zk 9 (some 23) #[z7e, z7e, z7e, z7e, z7e, z7e, z7e, z7e, z7f, z7e, z7f, z7f, z7f, z7f, z7f, z7f, z7f, z7f] rfl rfl ?_
           refine zk 10 (some 24) #[z7e, z7e, z7e, z7e, z7e, z7e, z7e, z7e, z7f, z7e, z7e, z7f, z7f, z7f, z7f, z7f, z7f, z7f] rfl rfl ?_
           refine zk 11 (some 25) #[z7e, z7e, z7e, z7e, z7e, z7e, z7e, z7e, z7f, z7e, z7e, z7e, z7f, z7f, z7f, z7f, z7f, z7f] rfl rfl ?_
           refine zk 12 (some 26) #[z7e, z7e, z7e, z7e, z7e, z7e, z7e, z7e, z7f, z7e, z7e, z7e, z7e, z7f, z7f, z7f, z7f, z7f] rfl rfl ?_
           refine zk 13 (some 27) #[z7e, z7e, z7e, z7e, z7e, z7e, z7e, z7e, z7f, z7e, z7e, z7e, z7e, z7e, z7f, z7f, z7f, z7f] rfl rfl ?_
           refine zm 8 (some 22) #[z7e, z7e, z7e, z7e, z7e, z7e, z7e, z7e, z7e, z7e, z7e, z7e, z7e, z7e, z7f, z7f, z7f, z7f] rfl rfl (Or.inl ⟨zr, z1f⟩) hHeld ?_
           refine zm 14 (some 28) #[z7e, z7e, z7e, z7e, z7e, z7e, z7e, z7e, z7e, z7e, z7e, z7e, z7e, z7e, z7e, z7f, z7f, z7f] rfl rfl (Or.inl ⟨zr, z1f⟩) hHeld ?_
           refine zk 15 (some 29) #[z7e, z7e, z7e, z7e, z7e, z7e, z7e, z7e, z7e, z7e, z7e, z7e, z7e, z7e, z7e, z7e, z7f, z7f] rfl rfl ?_
           refine zk 16 (some 30) #[z7e, z7e, z7e, z7e, z7e, z7e, z7e, z7e, z7e, z7e, z7e, z7e, z7e, z7e, z7e, z7e, z7e, z7f] rfl rfl ?_
           refine zk 17 (some 31) #[z7e, z7e, z7e, z7e, z7e, z7e, z7e, z7e, z7e, z7e, z7e, z7e, z7e, z7e, z7e, z7e, z7e, z7e] rfl rfl ?_
           refine done_ (done_of HT_.out z1a) ?_
           try go_wp2
           go_roundg k1
           case measure => have := HK1.out; omega
           case rel => exact ⟨(wrap64 (x9_1 + 1)), z1d, H', ⟨z1h⟩, ⟨z1x⟩⟩
          ·rw [if_neg c12] at H
           have c12b0 : (Op.bytesLess (((rd_T35 l0 (ji9)).f0).toList) (((rd_T35 l0 x9_1).f0).toList)) = false := by simpa using c12
           have c12e : (Op.bytesLess (((rd_T35 l0 x9_1).f0).toList) (((rd_T35 l0 (ji9)).f0).toList) || ((rd_T35 l0 x9_1).f0).toList == ((rd_T35 l0 (ji9)).f0).toList) = true := Y.le_true c12b0
           clear c12
           obtain rfl := Option.some.inj H
           have p161 : 0 ≤ (x9_1 : Int) := of_decide_eq_true z1e
           have q161 : x9_1 < (l0.length : Int) := of_decide_eq_true z1e
           obtain ⟨ad161, e161, hx161_0, hx161_1, hx161_2, hx161_3, hx161_4⟩ := at_T35 HR0.out x9_1 p161 q161
           cases e161
           replace hx161_0 := zo HB.out hx161_0
           replace hx161_1 := zo HB.out hx161_1
           replace hx161_2 := zo HB.out hx161_2
           replace hx161_3 := zo HB.out hx161_3
           replace hx161_4 := zo HB.out hx161_4
           replace p161 := eq_true p161
           replace q161 := eq_true q161
           try go_wp2_with (first | ((with_reducible refine gate_dst (N := 6) rfl ?_); refine box_event zr (N := 6) zr (cs := #[.string (⟨#[]⟩ : ByteArray), .int .i64 0, .int .i64 0, .int .i64 0, .string (⟨#[]⟩ : ByteArray)]) (t := 35) zs ?_; intro gb162 hg w18 hbox hb; have n0_ := zi (below_step zt hb); have n1_ := zi hbox; have n2_ := zi ((z5s : w.heap.size ≤ gb162)); have n3_ := zi ((z5s : w.heap.size ≤ gb162)); clear HB; have HB := n0_; have BK162 := n1_; have GW162 := n2_; have GE162 := n3_; clear n0_ n1_ n2_ n3_; clear hb hbox hg; obtain ⟨hcz19_0, hcz19_1, hcz19_2, hcz19_3, hcz19_4, hfz19_0, hfz19_1, hfz19_2, hfz19_3, hfz19_4⟩ := zf BK162.out))
           have n0_ : Aside0 ((((((w18.setCell ⟨gb162, 0, none⟩ (.string ((rd_T35 l0 x9_1).f0))).setCell ⟨gb162, 1, none⟩ (.int .i64 ((rd_T35 l0 x9_1).f1.f0))).setCell ⟨gb162, 2, none⟩ (.int .i64 ((rd_T35 l0 x9_1).f1.f1))).setCell ⟨gb162, 3, none⟩ (.int .i64 ((rd_T35 l0 x9_1).f1.f2))).setCell ⟨gb162, 4, none⟩ (.string ((rd_T35 l0 x9_1).f1.f3))).heap[gb162]? = some (.cells #[.string ((rd_T35 l0 x9_1).f0), .int .i64 ((rd_T35 l0 x9_1).f1.f0), .int .i64 ((rd_T35 l0 x9_1).f1.f1), .int .i64 ((rd_T35 l0 x9_1).f1.f2), .string ((rd_T35 l0 x9_1).f1.f3)] 35 (0, 0))) := ⟨z1w⟩
           have n1_ : Aside0 (Below w.heap.size w (((((w18.setCell ⟨gb162, 0, none⟩ (.string ((rd_T35 l0 x9_1).f0))).setCell ⟨gb162, 1, none⟩ (.int .i64 ((rd_T35 l0 x9_1).f1.f0))).setCell ⟨gb162, 2, none⟩ (.int .i64 ((rd_T35 l0 x9_1).f1.f1))).setCell ⟨gb162, 3, none⟩ (.int .i64 ((rd_T35 l0 x9_1).f1.f2))).setCell ⟨gb162, 4, none⟩ (.string ((rd_T35 l0 x9_1).f1.f3)))) := ⟨z1x⟩
           (try clear BK162)
           (try clear HB)
           generalize (((((w18.setCell ⟨gb162, 0, none⟩ (.string ((rd_T35 l0 x9_1).f0))).setCell ⟨gb162, 1, none⟩ (.int .i64 ((rd_T35 l0 x9_1).f1.f0))).setCell ⟨gb162, 2, none⟩ (.int .i64 ((rd_T35 l0 x9_1).f1.f1))).setCell ⟨gb162, 3, none⟩ (.int .i64 ((rd_T35 l0 x9_1).f1.f2))).setCell ⟨gb162, 4, none⟩ (.string ((rd_T35 l0 x9_1).f1.f3))) = w20 at n0_ n1_ ⊢
           have BK162 := n0_
           have HB := n1_
           clear n0_ n1_
           have n0_ := zi (blk_drew BK162.out)
           have n1_ := zi (below_drew1 HB.out)
           clear BK162
           clear HB
           have BK162 := n0_
           have HB := n1_
           clear n0_ n1_
           have p164 : 0 ≤ ((ji9) : Int) := of_decide_eq_true z1e
           have q164 : (ji9) < (l0.length : Int) := of_decide_eq_true z1e
           obtain ⟨ad164, e164, hx164_0, hx164_1, hx164_2, hx164_3, hx164_4⟩ := at_T35 HR0.out (ji9) p164 q164
           have hw164_4 := hx164_4
           have hw164_3 := hx164_3
           have hw164_2 := hx164_2
           have hw164_1 := hx164_1
           have hw164_0 := hx164_0
           obtain rfl : ad161 = ad164 := (by injection e164)
           replace hx164_0 := zo HB.out hx164_0
           replace hx164_1 := zo HB.out hx164_1
           replace hx164_2 := zo HB.out hx164_2
           replace hx164_3 := zo HB.out hx164_3
           replace hx164_4 := zo HB.out hx164_4
           replace p164 := eq_true p164
           replace q164 := eq_true q164
           refine start_ (n := 18) (S := fun w' => w'.cell? ⟨gb162, 0, none⟩ = some (.string ((rd_T35 l0 x9_1).f0)) ∧ w'.cell? ⟨gb162, 1, none⟩ = some (.int .i64 ((rd_T35 l0 x9_1).f1.f0)) ∧ w'.cell? ⟨gb162, 2, none⟩ = some (.int .i64 ((rd_T35 l0 x9_1).f1.f1)) ∧ w'.cell? ⟨gb162, 3, none⟩ = some (.int .i64 ((rd_T35 l0 x9_1).f1.f2)) ∧ w'.cell? ⟨gb162, 4, none⟩ = some (.string ((rd_T35 l0 x9_1).f1.f3)) ∧ w'.cell? (ad161.add (((ji9)).toNat * 5)) = some (.string ((rd_T35 l0 (ji9)).f0)) ∧ w'.cell? ⟨(ad161.add (((ji9)).toNat * 5)).block, (ad161.add (((ji9)).toNat * 5)).off + 1, none⟩ = some (.int .i64 ((rd_T35 l0 (ji9)).f1.f0)) ∧ w'.cell? ⟨(ad161.add (((ji9)).toNat * 5)).block, (ad161.add (((ji9)).toNat * 5)).off + 2, none⟩ = some (.int .i64 ((rd_T35 l0 (ji9)).f1.f1)) ∧ w'.cell? ⟨(ad161.add (((ji9)).toNat * 5)).block, (ad161.add (((ji9)).toNat * 5)).off + 3, none⟩ = some (.int .i64 ((rd_T35 l0 (ji9)).f1.f2)) ∧ w'.cell? ⟨(ad161.add (((ji9)).toNat * 5)).block, (ad161.add (((ji9)).toNat * 5)).off + 4, none⟩ = some (.string ((rd_T35 l0 (ji9)).f1.f3))) (ds := []) #[z7f, z7f, z7f, z7f, z7f, z7f, z7f, z7f, z7f, z7f, z7f, z7f, z7f, z7f, z7f, z7f, z7f, z7f] z1a rfl rfl ⟨(blk_cell BK162.out 0).trans rfl, (blk_cell BK162.out 1).trans rfl, (blk_cell BK162.out 2).trans rfl, (blk_cell BK162.out 3).trans rfl, (blk_cell BK162.out 4).trans rfl, (zo HB.out hw164_0), (zo HB.out hw164_1), (zo HB.out hw164_2), (zo HB.out hw164_3), (zo HB.out hw164_4)⟩ (fun hHeld => ?_); refine with_tabW impl_ascending.tab4 impl_ascending.bits4 (fun HT_ HW_ => ?_)
           generalize w20.drew = w21 at BK162 HB hx164_0 hx164_1 hx164_2 hx164_3 hx164_4 hHeld ⊢
           refine zm 0 (some 14) #[z7e, z7f, z7f, z7f, z7f, z7f, z7f, z7f, z7f, z7f, z7f, z7f, z7f, z7f, z7f, z7f, z7f, z7f] rfl rfl (Or.inl ⟨zr, z1f⟩) hHeld ?_
           refine one_ (i := 1) (N := some 15) #[z7e, z7e, z7f, z7f, z7f, z7f, z7f, z7f, z7f, z7f, z7f, z7f, z7f, z7f, z7f, z7f, z7f, z7f] rfl rfl (one_of HT_.out z1a) z1g (fun K hK => ?_)
           refine goes_ Tryz.func16 z1a rfl #[.agg #[.string ((rd_T35 l0 x9_1).f0), .int .i64 ((rd_T35 l0 x9_1).f1.f0), .int .i64 ((rd_T35 l0 x9_1).f1.f1), .int .i64 ((rd_T35 l0 x9_1).f1.f2), .string ((rd_T35 l0 x9_1).f1.f3)]] zr rfl rfl z1b ?_
           with_reducible refine (impl_NeedOk.calls k1 ((rd_T35 l0 x9_1).f0) ((rd_T35 l0 x9_1).f1.f0) ((rd_T35 l0 x9_1).f1.f1) ((rd_T35 l0 x9_1).f1.f2) ((rd_T35 l0 x9_1).f1.f3) true _ A6.out).mono ?_
           rintro e w22 ⟨rfl, hb⟩
           refine ⟨_, rfl, ?_⟩
           have n0_ := zi (blk_below (g := gb162) (o := .cells #[.string ((rd_T35 l0 x9_1).f0), .int .i64 ((rd_T35 l0 x9_1).f1.f0), .int .i64 ((rd_T35 l0 x9_1).f1.f1), .int .i64 ((rd_T35 l0 x9_1).f1.f2), .string ((rd_T35 l0 x9_1).f1.f3)] 35 (0, 0)) z1y hb)
           have n1_ := zi (below_step z1x hb)
           clear BK162
           clear HB
           have BK162 := n0_
           have HB := n1_
           clear n0_ n1_
           (try clear hb)
           (try clear hb2)
           (try clear hk)
           (try clear hi)
           refine hK.out _ _ ⟨(blk_cell BK162.out 0).trans rfl, (blk_cell BK162.out 1).trans rfl, (blk_cell BK162.out 2).trans rfl, (blk_cell BK162.out 3).trans rfl, (blk_cell BK162.out 4).trans rfl, (zo HB.out hw164_0), (zo HB.out hw164_1), (zo HB.out hw164_2), (zo HB.out hw164_3), (zo HB.out hw164_4)⟩ (fun hHeld => ?_)
           clear hK K
           refine zn (some 15) rfl ?_
           refine zk 2 (some 16) #[z7e, z7e, z7e, z7f, z7f, z7f, z7f, z7f, z7f, z7f, z7f, z7f, z7f, z7f, z7f, z7f, z7f, z7f] rfl rfl ?_
           refine zk 3 (some 17) #[z7e, z7e, z7e, z7e, z7f, z7f, z7f, z7f, z7f, z7f, z7f, z7f, z7f, z7f, z7f, z7f, z7f, z7f] rfl rfl ?_
           refine zk 4 (some 18) #[z7e, z7e, z7e, z7e, z7e, z7f, z7f, z7f, z7f, z7f, z7f, z7f, z7f, z7f, z7f, z7f, z7f, z7f] rfl rfl ?_
           refine zk 5 (some 19) #[z7e, z7e, z7e, z7e, z7e, z7e, z7f, z7f, z7f, z7f, z7f, z7f, z7f, z7f, z7f, z7f, z7f, z7f] rfl rfl ?_
           refine zk 6 (some 20) #[z7e, z7e, z7e, z7e, z7e, z7e, z7e, z7f, z7f, z7f, z7f, z7f, z7f, z7f, z7f, z7f, z7f, z7f] rfl rfl ?_
           refine zk 7 (some 21) #[z7e, z7e, z7e, z7e, z7e, z7e, z7e, z7e, z7f, z7f, z7f, z7f, z7f, z7f, z7f, z7f, z7f, z7f] rfl rfl ?_
           refine zk 9 (some 23) #[z7e, z7e, z7e, z7e, z7e, z7e, z7e, z7e, z7f, z7e, z7f, z7f, z7f, z7f, z7f, z7f, z7f, z7f] rfl rfl ?_
           refine zk 10 (some 24) #[z7e, z7e, z7e, z7e, z7e, z7e, z7e, z7e, z7f, z7e, z7e, z7f, z7f, z7f, z7f, z7f, z7f, z7f] rfl rfl ?_
           refine zk 11 (some 25) #[z7e, z7e, z7e, z7e, z7e, z7e, z7e, z7e, z7f, z7e, z7e, z7e, z7f, z7f, z7f, z7f, z7f, z7f] rfl rfl ?_
           refine zk 12 (some 26) #[z7e, z7e, z7e, z7e, z7e, z7e, z7e, z7e, z7f, z7e, z7e, z7e, z7e, z7f, z7f, z7f, z7f, z7f] rfl rfl ?_
           refine zk 13 (some 27) #[z7e, z7e, z7e, z7e, z7e, z7e, z7e, z7e, z7f, z7e, z7e, z7e, z7e, z7e, z7f, z7f, z7f, z7f] rfl rfl ?_
           refine zm 8 (some 22) #[z7e, z7e, z7e, z7e, z7e, z7e, z7e, z7e, z7e, z7e, z7e, z7e, z7e, z7e, z7f, z7f, z7f, z7f] rfl rfl (Or.inl ⟨zr, z1f⟩) hHeld ?_
           refine zm 14 (some 28) #[z7e, z7e, z7e, z7e, z7e, z7e, z7e, z7e, z7e, z7e, z7e, z7e, z7e, z7e, z7e, z7f, z7f, z7f] rfl rfl (Or.inl ⟨zr, z1f⟩) hHeld ?_
           refine zk 15 (some 29) #[z7e, z7e, z7e, z7e, z7e, z7e, z7e, z7e, z7e, z7e, z7e, z7e, z7e, z7e, z7e, z7e, z7f, z7f] rfl rfl ?_
           refine zk 16 (some 30) #[z7e, z7e, z7e, z7e, z7e, z7e, z7e, z7e, z7e, z7e, z7e, z7e, z7e, z7e, z7e, z7e, z7e, z7f] rfl rfl ?_
           refine zk 17 (some 31) #[z7e, z7e, z7e, z7e, z7e, z7e, z7e, z7e, z7e, z7e, z7e, z7e, z7e, z7e, z7e, z7e, z7e, z7e] rfl rfl ?_
           refine done_ (done_of HT_.out z1a) ?_
           try go_wp2
           go_ret
           exact ⟨by first | rfl | (simp [errW_none, errW_some] <;> rfl) | (simp only [← hji9]; first | rfl | (simp [errW_none, errW_some] <;> rfl)) | (simp [*, errW_none, errW_some] <;> rfl), z1x⟩
         ·rw [if_neg c11] at H
          exact absurd H (by simp)
        ·rw [if_neg c10] at H
         exact absurd H (by simp)
       ·rw [if_neg c8] at H
        have c8b0 := decide_eq_false c8
        clear c8
        have H' := zi H
        clear H
        have p161 : 0 ≤ (x9_1 : Int) := of_decide_eq_true z1e
        have q161 : x9_1 < (l0.length : Int) := of_decide_eq_true z1e
        obtain ⟨ad161, e161, hx161_0, hx161_1, hx161_2, hx161_3, hx161_4⟩ := at_T35 HR0.out x9_1 p161 q161
        cases e161
        replace hx161_0 := zo HB.out hx161_0
        replace hx161_1 := zo HB.out hx161_1
        replace hx161_2 := zo HB.out hx161_2
        replace hx161_3 := zo HB.out hx161_3
        replace hx161_4 := zo HB.out hx161_4
        replace p161 := eq_true p161
        replace q161 := eq_true q161
        try go_wp2_with (first | ((with_reducible refine gate_dst (N := 6) rfl ?_); refine box_event zr (N := 6) zr (cs := #[.string (⟨#[]⟩ : ByteArray), .int .i64 0, .int .i64 0, .int .i64 0, .string (⟨#[]⟩ : ByteArray)]) (t := 35) zs ?_; intro gb162 hg w23 hbox hb; have n0_ := zi (below_step zt hb); have n1_ := zi hbox; have n2_ := zi ((z5s : w.heap.size ≤ gb162)); have n3_ := zi ((z5s : w.heap.size ≤ gb162)); clear HB; have HB := n0_; have BK162 := n1_; have GW162 := n2_; have GE162 := n3_; clear n0_ n1_ n2_ n3_; clear hb hbox hg; obtain ⟨hcz24_0, hcz24_1, hcz24_2, hcz24_3, hcz24_4, hfz24_0, hfz24_1, hfz24_2, hfz24_3, hfz24_4⟩ := zf BK162.out))
        have n0_ : Aside0 ((((((w23.setCell ⟨gb162, 0, none⟩ (.string ((rd_T35 l0 x9_1).f0))).setCell ⟨gb162, 1, none⟩ (.int .i64 ((rd_T35 l0 x9_1).f1.f0))).setCell ⟨gb162, 2, none⟩ (.int .i64 ((rd_T35 l0 x9_1).f1.f1))).setCell ⟨gb162, 3, none⟩ (.int .i64 ((rd_T35 l0 x9_1).f1.f2))).setCell ⟨gb162, 4, none⟩ (.string ((rd_T35 l0 x9_1).f1.f3))).heap[gb162]? = some (.cells #[.string ((rd_T35 l0 x9_1).f0), .int .i64 ((rd_T35 l0 x9_1).f1.f0), .int .i64 ((rd_T35 l0 x9_1).f1.f1), .int .i64 ((rd_T35 l0 x9_1).f1.f2), .string ((rd_T35 l0 x9_1).f1.f3)] 35 (0, 0))) := ⟨z1w⟩
        have n1_ : Aside0 (Below w.heap.size w (((((w23.setCell ⟨gb162, 0, none⟩ (.string ((rd_T35 l0 x9_1).f0))).setCell ⟨gb162, 1, none⟩ (.int .i64 ((rd_T35 l0 x9_1).f1.f0))).setCell ⟨gb162, 2, none⟩ (.int .i64 ((rd_T35 l0 x9_1).f1.f1))).setCell ⟨gb162, 3, none⟩ (.int .i64 ((rd_T35 l0 x9_1).f1.f2))).setCell ⟨gb162, 4, none⟩ (.string ((rd_T35 l0 x9_1).f1.f3)))) := ⟨z1x⟩
        (try clear BK162)
        (try clear HB)
        generalize (((((w23.setCell ⟨gb162, 0, none⟩ (.string ((rd_T35 l0 x9_1).f0))).setCell ⟨gb162, 1, none⟩ (.int .i64 ((rd_T35 l0 x9_1).f1.f0))).setCell ⟨gb162, 2, none⟩ (.int .i64 ((rd_T35 l0 x9_1).f1.f1))).setCell ⟨gb162, 3, none⟩ (.int .i64 ((rd_T35 l0 x9_1).f1.f2))).setCell ⟨gb162, 4, none⟩ (.string ((rd_T35 l0 x9_1).f1.f3))) = w25 at n0_ n1_ ⊢
        have BK162 := n0_
        have HB := n1_
        clear n0_ n1_
        have n0_ := zi (blk_drew BK162.out)
        have n1_ := zi (below_drew1 HB.out)
        clear BK162
        clear HB
        have BK162 := n0_
        have HB := n1_
        clear n0_ n1_
        refine start_ (n := 18) (S := fun w' => w'.cell? ⟨gb162, 0, none⟩ = some (.string ((rd_T35 l0 x9_1).f0)) ∧ w'.cell? ⟨gb162, 1, none⟩ = some (.int .i64 ((rd_T35 l0 x9_1).f1.f0)) ∧ w'.cell? ⟨gb162, 2, none⟩ = some (.int .i64 ((rd_T35 l0 x9_1).f1.f1)) ∧ w'.cell? ⟨gb162, 3, none⟩ = some (.int .i64 ((rd_T35 l0 x9_1).f1.f2)) ∧ w'.cell? ⟨gb162, 4, none⟩ = some (.string ((rd_T35 l0 x9_1).f1.f3))) (ds := []) #[z7f, z7f, z7f, z7f, z7f, z7f, z7f, z7f, z7f, z7f, z7f, z7f, z7f, z7f, z7f, z7f, z7f, z7f] z1a rfl rfl ⟨(blk_cell BK162.out 0).trans rfl, (blk_cell BK162.out 1).trans rfl, (blk_cell BK162.out 2).trans rfl, (blk_cell BK162.out 3).trans rfl, (blk_cell BK162.out 4).trans rfl⟩ (fun hHeld => ?_); refine with_tabW impl_ascending.tab4 impl_ascending.bits4 (fun HT_ HW_ => ?_)
        generalize w25.drew = w26 at BK162 HB hHeld ⊢
        refine zm 0 (some 14) #[z7e, z7f, z7f, z7f, z7f, z7f, z7f, z7f, z7f, z7f, z7f, z7f, z7f, z7f, z7f, z7f, z7f, z7f] rfl rfl (Or.inl ⟨zr, z1z⟩) hHeld ?_
        refine one_ (i := 1) (N := some 15) #[z7e, z7e, z7f, z7f, z7f, z7f, z7f, z7f, z7f, z7f, z7f, z7f, z7f, z7f, z7f, z7f, z7f, z7f] rfl rfl (one_of HT_.out z1a) z1g (fun K hK => ?_)
        refine goes_ Tryz.func16 z1a rfl #[.agg #[.string ((rd_T35 l0 x9_1).f0), .int .i64 ((rd_T35 l0 x9_1).f1.f0), .int .i64 ((rd_T35 l0 x9_1).f1.f1), .int .i64 ((rd_T35 l0 x9_1).f1.f2), .string ((rd_T35 l0 x9_1).f1.f3)]] zr rfl rfl z1b ?_
        with_reducible refine (impl_NeedOk.calls k1 ((rd_T35 l0 x9_1).f0) ((rd_T35 l0 x9_1).f1.f0) ((rd_T35 l0 x9_1).f1.f1) ((rd_T35 l0 x9_1).f1.f2) ((rd_T35 l0 x9_1).f1.f3) true _ A6.out).mono ?_
        rintro e w27 ⟨rfl, hb⟩
        refine ⟨_, rfl, ?_⟩
        have n0_ := zi (blk_below (g := gb162) (o := .cells #[.string ((rd_T35 l0 x9_1).f0), .int .i64 ((rd_T35 l0 x9_1).f1.f0), .int .i64 ((rd_T35 l0 x9_1).f1.f1), .int .i64 ((rd_T35 l0 x9_1).f1.f2), .string ((rd_T35 l0 x9_1).f1.f3)] 35 (0, 0)) z1y hb)
        have n1_ := zi (below_step z1x hb)
        clear BK162
        clear HB
        have BK162 := n0_
        have HB := n1_
        clear n0_ n1_
        (try clear hb)
        (try clear hb2)
        (try clear hk)
        (try clear hi)
        refine hK.out _ _ ⟨(blk_cell BK162.out 0).trans rfl, (blk_cell BK162.out 1).trans rfl, (blk_cell BK162.out 2).trans rfl, (blk_cell BK162.out 3).trans rfl, (blk_cell BK162.out 4).trans rfl⟩ (fun hHeld => ?_)
        clear hK K
        refine zn (some 15) rfl ?_
        refine zk 2 (some 16) #[z7e, z7e, z7e, z7f, z7f, z7f, z7f, z7f, z7f, z7f, z7f, z7f, z7f, z7f, z7f, z7f, z7f, z7f] rfl rfl ?_
        refine zk 3 (some 17) #[z7e, z7e, z7e, z7e, z7f, z7f, z7f, z7f, z7f, z7f, z7f, z7f, z7f, z7f, z7f, z7f, z7f, z7f] rfl rfl ?_
        refine zk 4 (some 18) #[z7e, z7e, z7e, z7e, z7e, z7f, z7f, z7f, z7f, z7f, z7f, z7f, z7f, z7f, z7f, z7f, z7f, z7f] rfl rfl ?_
        refine zk 5 (some 19) #[z7e, z7e, z7e, z7e, z7e, z7e, z7f, z7f, z7f, z7f, z7f, z7f, z7f, z7f, z7f, z7f, z7f, z7f] rfl rfl ?_
        refine zk 6 (some 20) #[z7e, z7e, z7e, z7e, z7e, z7e, z7e, z7f, z7f, z7f, z7f, z7f, z7f, z7f, z7f, z7f, z7f, z7f] rfl rfl ?_
        refine pure_ (i := 7) (N := some 21) (v := undef) (a' := ?_) #[z7e, z7e, z7e, z7e, z7e, z7e, z7e, z7e, z7f, z7f, z7f, z7f, z7f, z7f, z7f, z7f, z7f, z7f] rfl rfl (any_of HT_.out z1a) (fun _ _ _ h => h) (Or.inr ⟨zr, rfl⟩) ?_ ?_
        rotate_left
        ·simp only [Act.put, z7g, z7h, z7i, i64_w, i32_w]
         rfl
        refine pure_ (i := 8) (N := some 22) (v := undef) (a' := ?_) #[z7e, z7e, z7e, z7e, z7e, z7e, z7e, z7e, z7e, z7f, z7f, z7f, z7f, z7f, z7f, z7f, z7f, z7f] rfl rfl (any_of HT_.out z1a) (fun _ _ _ h => h) (Or.inr ⟨zr, rfl⟩) ?_ ?_
        rotate_left
        ·simp only [Act.put, z7g, z7h, z7i, i64_w, i32_w]
         rfl
        refine pure_ (i := 9) (N := some 23) (v := undef) (a' := ?_) #[z7e, z7e, z7e, z7e, z7e, z7e, z7e, z7e, z7e, z7e, z7f, z7f, z7f, z7f, z7f, z7f, z7f, z7f] rfl rfl (any_of HT_.out z1a) (fun _ _ _ h => h) (Or.inr ⟨zr, rfl⟩) ?_ ?_
        rotate_left
        ·simp only [Act.put, z7g, z7h, z7i, i64_w, i32_w]
         rfl
        refine pure_ (i := 10) (N := some 24) (v := undef) (a' := ?_) #[z7e, z7e, z7e, z7e, z7e, z7e, z7e, z7e, z7e, z7e, z7e, z7f, z7f, z7f, z7f, z7f, z7f, z7f] rfl rfl (any_of HT_.out z1a) (fun _ _ _ h => h) (Or.inr ⟨zr, rfl⟩) ?_ ?_
        rotate_left
        ·simp only [Act.put, z7g, z7h, z7i, i64_w, i32_w]
         rfl
        refine pure_ (i := 11) (N := some 25) (v := undef) (a' := ?_) #[z7e, z7e, z7e, z7e, z7e, z7e, z7e, z7e, z7e, z7e, z7e, z7e, z7f, z7f, z7f, z7f, z7f, z7f] rfl rfl (any_of HT_.out z1a) (fun _ _ _ h => h) (Or.inr ⟨zr, rfl⟩) ?_ ?_
        rotate_left
        ·simp only [Act.put, z7g, z7h, z7i, i64_w, i32_w]
         rfl
        refine pure_ (i := 12) (N := some 26) (v := undef) (a' := ?_) #[z7e, z7e, z7e, z7e, z7e, z7e, z7e, z7e, z7e, z7e, z7e, z7e, z7e, z7f, z7f, z7f, z7f, z7f] rfl rfl (any_of HT_.out z1a) (fun _ _ _ h => h) (Or.inr ⟨zr, rfl⟩) ?_ ?_
        rotate_left
        ·simp only [Act.put, z7g, z7h, z7i, i64_w, i32_w]
         rfl
        refine pure_ (i := 13) (N := some 27) (v := undef) (a' := ?_) #[z7e, z7e, z7e, z7e, z7e, z7e, z7e, z7e, z7e, z7e, z7e, z7e, z7e, z7e, z7f, z7f, z7f, z7f] rfl rfl (any_of HT_.out z1a) (fun _ _ _ h => h) (Or.inr ⟨zr, rfl⟩) ?_ ?_
        rotate_left
        ·simp only [Act.put, z7g, z7h, z7i, i64_w, i32_w]
         rfl
        refine pure_ (i := 14) (N := some 28) (v := undef) (a' := ?_) #[z7e, z7e, z7e, z7e, z7e, z7e, z7e, z7e, z7e, z7e, z7e, z7e, z7e, z7e, z7e, z7f, z7f, z7f] rfl rfl (any_of HT_.out z1a) (fun _ _ _ h => h) (Or.inr ⟨zr, rfl⟩) ?_ ?_
        rotate_left
        ·simp only [Act.put, z7g, z7h, z7i, i64_w, i32_w]
         rfl
        refine pure_ (i := 15) (N := some 29) (v := undef) (a' := ?_) #[z7e, z7e, z7e, z7e, z7e, z7e, z7e, z7e, z7e, z7e, z7e, z7e, z7e, z7e, z7e, z7e, z7f, z7f] rfl rfl (any_of HT_.out z1a) (fun _ _ _ h => h) (Or.inr ⟨zr, rfl⟩) ?_ ?_
        rotate_left
        ·simp only [Act.put, z7g, z7h, z7i, i64_w, i32_w]
         rfl
        refine zk 16 (some 30) #[z7e, z7e, z7e, z7e, z7e, z7e, z7e, z7e, z7e, z7e, z7e, z7e, z7e, z7e, z7e, z7e, z7e, z7f] rfl rfl ?_
        refine zk 17 (some 31) #[z7e, z7e, z7e, z7e, z7e, z7e, z7e, z7e, z7e, z7e, z7e, z7e, z7e, z7e, z7e, z7e, z7e, z7e] rfl rfl ?_
        refine done_ (done_of HT_.out z1a) ?_
        try go_wp2
        go_roundg k1
        case measure => have := HK1.out; omega
        case rel => exact ⟨(wrap64 (x9_1 + 1)), z1d, H', ⟨z1h⟩, ⟨z1x⟩⟩
      ·replace c7 := Bool.eq_false_iff.mpr c7
       subst c7
       rw [if_neg zj] at H
       obtain rfl := Option.some.inj H
       have p161 : 0 ≤ (x9_1 : Int) := of_decide_eq_true z1e
       have q161 : x9_1 < (l0.length : Int) := of_decide_eq_true z1e
       obtain ⟨ad161, e161, hx161_0, hx161_1, hx161_2, hx161_3, hx161_4⟩ := at_T35 HR0.out x9_1 p161 q161
       cases e161
       replace hx161_0 := zo HB.out hx161_0
       replace hx161_1 := zo HB.out hx161_1
       replace hx161_2 := zo HB.out hx161_2
       replace hx161_3 := zo HB.out hx161_3
       replace hx161_4 := zo HB.out hx161_4
       replace p161 := eq_true p161
       replace q161 := eq_true q161
       try go_wp2_with (first | ((with_reducible refine gate_dst (N := 6) rfl ?_); refine box_event zr (N := 6) zr (cs := #[.string (⟨#[]⟩ : ByteArray), .int .i64 0, .int .i64 0, .int .i64 0, .string (⟨#[]⟩ : ByteArray)]) (t := 35) zs ?_; intro gb162 hg w28 hbox hb; have n0_ := zi (below_step zt hb); have n1_ := zi hbox; have n2_ := zi ((z5s : w.heap.size ≤ gb162)); have n3_ := zi ((z5s : w.heap.size ≤ gb162)); clear HB; have HB := n0_; have BK162 := n1_; have GW162 := n2_; have GE162 := n3_; clear n0_ n1_ n2_ n3_; clear hb hbox hg; obtain ⟨hcz29_0, hcz29_1, hcz29_2, hcz29_3, hcz29_4, hfz29_0, hfz29_1, hfz29_2, hfz29_3, hfz29_4⟩ := zf BK162.out))
       have n0_ : Aside0 ((((((w28.setCell ⟨gb162, 0, none⟩ (.string ((rd_T35 l0 x9_1).f0))).setCell ⟨gb162, 1, none⟩ (.int .i64 ((rd_T35 l0 x9_1).f1.f0))).setCell ⟨gb162, 2, none⟩ (.int .i64 ((rd_T35 l0 x9_1).f1.f1))).setCell ⟨gb162, 3, none⟩ (.int .i64 ((rd_T35 l0 x9_1).f1.f2))).setCell ⟨gb162, 4, none⟩ (.string ((rd_T35 l0 x9_1).f1.f3))).heap[gb162]? = some (.cells #[.string ((rd_T35 l0 x9_1).f0), .int .i64 ((rd_T35 l0 x9_1).f1.f0), .int .i64 ((rd_T35 l0 x9_1).f1.f1), .int .i64 ((rd_T35 l0 x9_1).f1.f2), .string ((rd_T35 l0 x9_1).f1.f3)] 35 (0, 0))) := ⟨z1w⟩
       have n1_ : Aside0 (Below w.heap.size w (((((w28.setCell ⟨gb162, 0, none⟩ (.string ((rd_T35 l0 x9_1).f0))).setCell ⟨gb162, 1, none⟩ (.int .i64 ((rd_T35 l0 x9_1).f1.f0))).setCell ⟨gb162, 2, none⟩ (.int .i64 ((rd_T35 l0 x9_1).f1.f1))).setCell ⟨gb162, 3, none⟩ (.int .i64 ((rd_T35 l0 x9_1).f1.f2))).setCell ⟨gb162, 4, none⟩ (.string ((rd_T35 l0 x9_1).f1.f3)))) := ⟨z1x⟩
       (try clear BK162)
       (try clear HB)
       generalize (((((w28.setCell ⟨gb162, 0, none⟩ (.string ((rd_T35 l0 x9_1).f0))).setCell ⟨gb162, 1, none⟩ (.int .i64 ((rd_T35 l0 x9_1).f1.f0))).setCell ⟨gb162, 2, none⟩ (.int .i64 ((rd_T35 l0 x9_1).f1.f1))).setCell ⟨gb162, 3, none⟩ (.int .i64 ((rd_T35 l0 x9_1).f1.f2))).setCell ⟨gb162, 4, none⟩ (.string ((rd_T35 l0 x9_1).f1.f3))) = w30 at n0_ n1_ ⊢
       have BK162 := n0_
       have HB := n1_
       clear n0_ n1_
       have n0_ := zi (blk_drew BK162.out)
       have n1_ := zi (below_drew1 HB.out)
       clear BK162
       clear HB
       have BK162 := n0_
       have HB := n1_
       clear n0_ n1_
       refine start_ (n := 18) (S := fun w' => w'.cell? ⟨gb162, 0, none⟩ = some (.string ((rd_T35 l0 x9_1).f0)) ∧ w'.cell? ⟨gb162, 1, none⟩ = some (.int .i64 ((rd_T35 l0 x9_1).f1.f0)) ∧ w'.cell? ⟨gb162, 2, none⟩ = some (.int .i64 ((rd_T35 l0 x9_1).f1.f1)) ∧ w'.cell? ⟨gb162, 3, none⟩ = some (.int .i64 ((rd_T35 l0 x9_1).f1.f2)) ∧ w'.cell? ⟨gb162, 4, none⟩ = some (.string ((rd_T35 l0 x9_1).f1.f3))) (ds := []) #[z7f, z7f, z7f, z7f, z7f, z7f, z7f, z7f, z7f, z7f, z7f, z7f, z7f, z7f, z7f, z7f, z7f, z7f] z1a rfl rfl ⟨(blk_cell BK162.out 0).trans rfl, (blk_cell BK162.out 1).trans rfl, (blk_cell BK162.out 2).trans rfl, (blk_cell BK162.out 3).trans rfl, (blk_cell BK162.out 4).trans rfl⟩ (fun hHeld => ?_); refine with_tabW impl_ascending.tab4 impl_ascending.bits4 (fun HT_ HW_ => ?_)
       generalize w30.drew = w31 at BK162 HB hHeld ⊢
       refine zm 0 (some 14) #[z7e, z7f, z7f, z7f, z7f, z7f, z7f, z7f, z7f, z7f, z7f, z7f, z7f, z7f, z7f, z7f, z7f, z7f] rfl rfl (Or.inl ⟨zr, z1z⟩) hHeld ?_
       refine one_ (i := 1) (N := some 15) #[z7e, z7e, z7f, z7f, z7f, z7f, z7f, z7f, z7f, z7f, z7f, z7f, z7f, z7f, z7f, z7f, z7f, z7f] rfl rfl (one_of HT_.out z1a) z1g (fun K hK => ?_)
       refine goes_ Tryz.func16 z1a rfl #[.agg #[.string ((rd_T35 l0 x9_1).f0), .int .i64 ((rd_T35 l0 x9_1).f1.f0), .int .i64 ((rd_T35 l0 x9_1).f1.f1), .int .i64 ((rd_T35 l0 x9_1).f1.f2), .string ((rd_T35 l0 x9_1).f1.f3)]] zr rfl rfl z1b ?_
       with_reducible refine (impl_NeedOk.calls k1 ((rd_T35 l0 x9_1).f0) ((rd_T35 l0 x9_1).f1.f0) ((rd_T35 l0 x9_1).f1.f1) ((rd_T35 l0 x9_1).f1.f2) ((rd_T35 l0 x9_1).f1.f3) false _ A6.out).mono ?_
       rintro e w32 ⟨rfl, hb⟩
       refine ⟨_, rfl, ?_⟩
       have n0_ := zi (blk_below (g := gb162) (o := .cells #[.string ((rd_T35 l0 x9_1).f0), .int .i64 ((rd_T35 l0 x9_1).f1.f0), .int .i64 ((rd_T35 l0 x9_1).f1.f1), .int .i64 ((rd_T35 l0 x9_1).f1.f2), .string ((rd_T35 l0 x9_1).f1.f3)] 35 (0, 0)) z1y hb)
       have n1_ := zi (below_step z1x hb)
       clear BK162
       clear HB
       have BK162 := n0_
       have HB := n1_
       clear n0_ n1_
       (try clear hb)
       (try clear hb2)
       (try clear hk)
       (try clear hi)
       refine hK.out _ _ ⟨(blk_cell BK162.out 0).trans rfl, (blk_cell BK162.out 1).trans rfl, (blk_cell BK162.out 2).trans rfl, (blk_cell BK162.out 3).trans rfl, (blk_cell BK162.out 4).trans rfl⟩ (fun hHeld => ?_)
       clear hK K
       refine zn (some 15) rfl ?_
       refine zk 2 (some 16) #[z7e, z7e, z7e, z7f, z7f, z7f, z7f, z7f, z7f, z7f, z7f, z7f, z7f, z7f, z7f, z7f, z7f, z7f] rfl rfl ?_
       refine zk 3 (some 17) #[z7e, z7e, z7e, z7e, z7f, z7f, z7f, z7f, z7f, z7f, z7f, z7f, z7f, z7f, z7f, z7f, z7f, z7f] rfl rfl ?_
       refine pure_ (i := 4) (N := some 18) (v := undef) (a' := ?_) #[z7e, z7e, z7e, z7e, z7e, z7f, z7f, z7f, z7f, z7f, z7f, z7f, z7f, z7f, z7f, z7f, z7f, z7f] rfl rfl (any_of HT_.out z1a) (fun _ _ _ h => h) (Or.inr ⟨zr, rfl⟩) ?_ ?_
       rotate_left
       ·simp only [Act.put, z7g, z7h, z7i, i64_w, i32_w]
        rfl
       refine pure_ (i := 5) (N := some 19) (v := undef) (a' := ?_) #[z7e, z7e, z7e, z7e, z7e, z7e, z7f, z7f, z7f, z7f, z7f, z7f, z7f, z7f, z7f, z7f, z7f, z7f] rfl rfl (any_of HT_.out z1a) (fun _ _ _ h => h) (Or.inr ⟨zr, rfl⟩) ?_ ?_
       rotate_left
       ·simp only [Act.put, z7g, z7h, z7i, i64_w, i32_w]
        rfl
       refine pure_ (i := 6) (N := some 20) (v := undef) (a' := ?_) #[z7e, z7e, z7e, z7e, z7e, z7e, z7e, z7f, z7f, z7f, z7f, z7f, z7f, z7f, z7f, z7f, z7f, z7f] rfl rfl (any_of HT_.out z1a) (fun _ _ _ h => h) (Or.inr ⟨zr, rfl⟩) ?_ ?_
       rotate_left
       ·simp only [Act.put, z7g, z7h, z7i, i64_w, i32_w]
        rfl
       refine pure_ (i := 7) (N := some 21) (v := undef) (a' := ?_) #[z7e, z7e, z7e, z7e, z7e, z7e, z7e, z7e, z7f, z7f, z7f, z7f, z7f, z7f, z7f, z7f, z7f, z7f] rfl rfl (any_of HT_.out z1a) (fun _ _ _ h => h) (Or.inr ⟨zr, rfl⟩) ?_ ?_
       rotate_left
       ·simp only [Act.put, z7g, z7h, z7i, i64_w, i32_w]
        rfl
       refine pure_ (i := 8) (N := some 22) (v := undef) (a' := ?_) #[z7e, z7e, z7e, z7e, z7e, z7e, z7e, z7e, z7e, z7f, z7f, z7f, z7f, z7f, z7f, z7f, z7f, z7f] rfl rfl (any_of HT_.out z1a) (fun _ _ _ h => h) (Or.inr ⟨zr, rfl⟩) ?_ ?_
       rotate_left
       ·simp only [Act.put, z7g, z7h, z7i, i64_w, i32_w]
        rfl
       refine pure_ (i := 9) (N := some 23) (v := undef) (a' := ?_) #[z7e, z7e, z7e, z7e, z7e, z7e, z7e, z7e, z7e, z7e, z7f, z7f, z7f, z7f, z7f, z7f, z7f, z7f] rfl rfl (any_of HT_.out z1a) (fun _ _ _ h => h) (Or.inr ⟨zr, rfl⟩) ?_ ?_
       rotate_left
       ·simp only [Act.put, z7g, z7h, z7i, i64_w, i32_w]
        rfl
       refine pure_ (i := 10) (N := some 24) (v := undef) (a' := ?_) #[z7e, z7e, z7e, z7e, z7e, z7e, z7e, z7e, z7e, z7e, z7e, z7f, z7f, z7f, z7f, z7f, z7f, z7f] rfl rfl (any_of HT_.out z1a) (fun _ _ _ h => h) (Or.inr ⟨zr, rfl⟩) ?_ ?_
       rotate_left
       ·simp only [Act.put, z7g, z7h, z7i, i64_w, i32_w]
        rfl
       refine pure_ (i := 11) (N := some 25) (v := undef) (a' := ?_) #[z7e, z7e, z7e, z7e, z7e, z7e, z7e, z7e, z7e, z7e, z7e, z7e, z7f, z7f, z7f, z7f, z7f, z7f] rfl rfl (any_of HT_.out z1a) (fun _ _ _ h => h) (Or.inr ⟨zr, rfl⟩) ?_ ?_
       rotate_left
       ·simp only [Act.put, z7g, z7h, z7i, i64_w, i32_w]
        rfl
       refine pure_ (i := 12) (N := some 26) (v := undef) (a' := ?_) #[z7e, z7e, z7e, z7e, z7e, z7e, z7e, z7e, z7e, z7e, z7e, z7e, z7e, z7f, z7f, z7f, z7f, z7f] rfl rfl (any_of HT_.out z1a) (fun _ _ _ h => h) (Or.inr ⟨zr, rfl⟩) ?_ ?_
       rotate_left
       ·simp only [Act.put, z7g, z7h, z7i, i64_w, i32_w]
        rfl
       refine pure_ (i := 13) (N := some 27) (v := undef) (a' := ?_) #[z7e, z7e, z7e, z7e, z7e, z7e, z7e, z7e, z7e, z7e, z7e, z7e, z7e, z7e, z7f, z7f, z7f, z7f] rfl rfl (any_of HT_.out z1a) (fun _ _ _ h => h) (Or.inr ⟨zr, rfl⟩) ?_ ?_
       rotate_left
       ·simp only [Act.put, z7g, z7h, z7i, i64_w, i32_w]
        rfl
       refine pure_ (i := 14) (N := some 28) (v := undef) (a' := ?_) #[z7e, z7e, z7e, z7e, z7e, z7e, z7e, z7e, z7e, z7e, z7e, z7e, z7e, z7e, z7e, z7f, z7f, z7f] rfl rfl (any_of HT_.out z1a) (fun _ _ _ h => h) (Or.inr ⟨zr, rfl⟩) ?_ ?_
       rotate_left
       ·simp only [Act.put, z7g, z7h, z7i, i64_w, i32_w]
        rfl
       refine pure_ (i := 15) (N := some 29) (v := undef) (a' := ?_) #[z7e, z7e, z7e, z7e, z7e, z7e, z7e, z7e, z7e, z7e, z7e, z7e, z7e, z7e, z7e, z7e, z7f, z7f] rfl rfl (any_of HT_.out z1a) (fun _ _ _ h => h) (Or.inr ⟨zr, rfl⟩) ?_ ?_
       rotate_left
       ·simp only [Act.put, z7g, z7h, z7i, i64_w, i32_w]
        rfl
       refine pure_ (i := 16) (N := some 30) (v := undef) (a' := ?_) #[z7e, z7e, z7e, z7e, z7e, z7e, z7e, z7e, z7e, z7e, z7e, z7e, z7e, z7e, z7e, z7e, z7e, z7f] rfl rfl (any_of HT_.out z1a) (fun _ _ _ h => h) (Or.inr ⟨zr, rfl⟩) ?_ ?_
       rotate_left
       ·simp only [Act.put, z7g, z7h, z7i, i64_w, i32_w]
        rfl
       refine zk 17 (some 31) #[z7e, z7e, z7e, z7e, z7e, z7e, z7e, z7e, z7e, z7e, z7e, z7e, z7e, z7e, z7e, z7e, z7e, z7e] rfl rfl ?_
       refine done_ (done_of HT_.out z1a) ?_
       try go_wp2
       go_ret
       exact ⟨zw, z1x⟩
     ·rw [if_neg c5] at H
      exact absurd H (by simp)
    ·rw [if_neg c4] at H
     exact absurd H (by simp)
   ·rw [if_neg c3] at H
    have c3b0 := decide_eq_false c3
    clear c3
    obtain rfl := Option.some.inj H
    go_wp2
    go_ret
    exact ⟨zw, zt⟩
end Go.Proofs.YtgdknepphkhnlaaGreatDoor.X
