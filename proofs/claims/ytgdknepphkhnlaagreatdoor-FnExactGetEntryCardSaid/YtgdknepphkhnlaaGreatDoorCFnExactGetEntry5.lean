/- The law FnExactGetEntry, as a plain statement: the program's GetEntry answers as the reference's, and shares no memory with another call's answer. Conditions: those of the row's reading alone. -/
/- Part 6 of 13 of this claim's texts. -/
import Derived.Test.YtgdknepphkhnlaaGreatDoorCFnExactGetEntry1
import Derived.Test.YtgdknepphkhnlaaGreatDoorCFnExactGetEntry4
namespace Go.Proofs.YtgdknepphkhnlaaGreatDoor.X
open Go.RowKit Go.Proofs.YtgdknepphkhnlaaGreatDoorW.PrintWords Go.Proofs.YtgdknepphkhnlaaGreatDoorW.PrintLast Go.Proofs.YtgdknepphkhnlaaGreatDoorW.PrintMore
attribute [local go_sem] max2_int min2_int max_two min_two max_three min_three max_four min_four
set_option linter.unusedVariables false
set_option linter.unusedSimpArgs false
def spec_l1In.f (a0 : Int) (a1 : Int) (a2 : Int) : Option (Bool) := if a0 ≥ a1 then (some (decide (a0 ≤ a2))) else (some false)
set_option maxHeartbeats 8000000 in
set_option maxRecDepth 100000 in
theorem spec_l1In.calls (a0 : Int) (a1 : Int) (a2 : Int) (r : Bool) (w : World) (h : spec_l1In.f a0 a1 a2 = some r) :
  Calls Tryz.prog 93 #[.int .i64 a0, .int .i64 a1, .int .i64 a2] w fun e w' => e = .returned (.bool r) ∧ Drawn0 w w' := by
 have H := h
 unfold spec_l1In.f at H
 clear h
 by_cases c4 : a0 ≥ a1
 ·rw [if_pos c4] at H
  have c4b0 := decide_eq_true c4
  clear c4
  obtain rfl := Option.some.inj H
  go_enter Tryz.func93, Tryz.ntmps93
  go_wp2
  go_ret
  exact ⟨z1d, z1n⟩
 ·rw [if_neg c4] at H
  have c4b0 := decide_eq_false c4
  clear c4
  obtain rfl := Option.some.inj H
  go_enter Tryz.func93, Tryz.ntmps93
  go_wp2
  go_ret
  exact ⟨z1d, z1n⟩
def spec_l4Part.l0 : Nat → ByteArray → Int → Option (Bool)
 | 0, _, _ => none
 | k + 1, x0, x3 => if x3 < (x0.size : Int) then (if 0 ≤ x3 then ((spec_l1In.f (wrap64 (bt x0 x3)) 97 122).bind fun t244 => (if t244 = true then (spec_l4Part.l0 k x0 (wrap64 (x3 + 1))) else ((spec_l1In.f (wrap64 (bt x0 x3)) 48 57).bind fun t245 => (if t245 = true then (spec_l4Part.l0 k x0 (wrap64 (x3 + 1))) else (if x3 = 0 then (some false) else (if (wrap64 (bt x0 x3)) = 45 then (spec_l4Part.l0 k x0 (wrap64 (x3 + 1))) else (if (wrap64 (bt x0 x3)) = 46 then (spec_l4Part.l0 k x0 (wrap64 (x3 + 1))) else (if (wrap64 (bt x0 x3)) = 95 then (spec_l4Part.l0 k x0 (wrap64 (x3 + 1))) else (some false))))))))) else (none)) else ((spec_l1In.f (x0.size : Int) 1 20).bind fun t243 => (some t243))
def spec_l4Part.f (k : Nat) (a0 : ByteArray) : Option (Bool) := spec_l4Part.l0 k a0 0
set_option maxHeartbeats 8000000 in
set_option maxRecDepth 100000 in
theorem spec_l4Part.calls (k : Nat) (a0 : ByteArray) (r : Bool) (w : World) (h : spec_l4Part.f k a0 = some r) :
  Calls Tryz.prog 108 #[.string a0] w fun e w' => e = .returned (.bool r) ∧ Drawn0 w w' := by
 have H := h
 unfold spec_l4Part.f at H
 clear h
 have H' := zi H
 clear H
 go_enter Tryz.func108, Tryz.ntmps108
 go_wp2
 go_loopg [3] k (fun kq v3 w' => ∃ (x3_1 : Int), v3 = .int .i64 x3_1 ∧ Aside0 (spec_l4Part.l0 kq a0 x3_1 = some r) ∧ Aside0 (kq ≤ k) ∧ Drawn0 w w')
 case atStart => exact ⟨(0), z1d, H', ⟨Nat.le_refl _⟩, z1n⟩
 case round =>
  clear H'
  try clear c1
  obtain ⟨x3_1, rfl, HA, HK1, ⟨m1, rfl⟩⟩ := hrel
  cases gk with
  | zero => exact absurd HA.out (by simp [spec_l4Part.l0])
  | succ k1 =>
   have H := HA.out
   clear HA
   simp only [spec_l4Part.l0] at H
   by_cases c2 : x3_1 < (a0.size : Int)
   ·rw [if_pos c2] at H
    have c2b0 := decide_eq_true c2
    clear c2
    by_cases c3 : 0 ≤ x3_1
    ·rw [if_pos c3] at H
     have c3b0 := decide_eq_true c3
     clear c3
     replace H := Option.bind_eq_some_iff.mp H
     obtain ⟨t244, A50, H⟩ := H
     try dsimp only at H
     have A5 := zi A50
     clear A50
     by_cases c6 : t244 = true
     ·subst c6
      rw [if_pos rfl] at H
      have H' := zi H
      clear H
      have p4 : 0 ≤ (x3_1 : Int) := of_decide_eq_true z1e
      have q4 : x3_1 < (a0.size : Int) := of_decide_eq_true z1e
      have hx4 := bt_at a0 x3_1
      replace p4 := eq_true p4
      replace q4 := eq_true q4
      go_wp2_with (first | ((with_reducible refine gate_callee (f := 93) rfl ?_); refine goesL_ (some 17) rfl rfl Tryz.func93 z1a rfl #[.int .i64 (wrap64 (bt a0 x3_1)), .int .i64 97, .int .i64 122] rfl z1b ?_; (with_reducible refine (spec_l1In.calls (wrap64 (bt a0 x3_1)) 97 122 true _ A5.out).mono ?_); rintro e w' ⟨rfl, ⟨nd, rfl⟩⟩; refine ⟨_, rfl, ?_⟩))
      go_roundg k1
      case measure => have := HK1.out; omega
      case rel => exact ⟨(wrap64 (x3_1 + 1)), z1d, H', ⟨z1h⟩, z1n⟩
     ·replace c6 := Bool.eq_false_iff.mpr c6
      subst c6
      rw [if_neg zj] at H
      replace H := Option.bind_eq_some_iff.mp H
      obtain ⟨t245, A70, H⟩ := H
      try dsimp only at H
      have A7 := zi A70
      clear A70
      by_cases c8 : t245 = true
      ·subst c8
       rw [if_pos rfl] at H
       have H' := zi H
       clear H
       have p4 : 0 ≤ (x3_1 : Int) := of_decide_eq_true z1e
       have q4 : x3_1 < (a0.size : Int) := of_decide_eq_true z1e
       have hx4 := bt_at a0 x3_1
       replace p4 := eq_true p4
       replace q4 := eq_true q4
       go_wp2_with (first | ((with_reducible refine gate_callee (f := 93) rfl ?_); refine goesL_ (some 17) rfl rfl Tryz.func93 z1a rfl #[.int .i64 (wrap64 (bt a0 x3_1)), .int .i64 97, .int .i64 122] rfl z1b ?_; (with_reducible refine (spec_l1In.calls (wrap64 (bt a0 x3_1)) 97 122 false _ A5.out).mono ?_); rintro e w' ⟨rfl, ⟨nd, rfl⟩⟩; refine ⟨_, rfl, ?_⟩) | (go_at_call 93; (with_reducible refine (spec_l1In.calls (wrap64 (bt a0 x3_1)) 48 57 true _ A7.out).mono ?_); rintro e w' ⟨rfl, ⟨nd, rfl⟩⟩))
       go_roundg k1
       case measure => have := HK1.out; omega
       case rel => exact ⟨(wrap64 (x3_1 + 1)), z1d, H', ⟨z1h⟩, z1n⟩
      ·replace c8 := Bool.eq_false_iff.mpr c8
       subst c8
       rw [if_neg zj] at H
       by_cases c9 : x3_1 = 0
       ·rw [if_pos c9] at H
        have c9b0 : (x3_1 == 0) = true := beq_iff_eq.mpr c9
        have c9b1 : (x3_1 != 0) = false := bne_eq_false_iff_eq.mpr c9
        clear c9
        obtain rfl := Option.some.inj H
        have p4 : 0 ≤ (x3_1 : Int) := of_decide_eq_true z1e
        have q4 : x3_1 < (a0.size : Int) := of_decide_eq_true z1e
        have hx4 := bt_at a0 x3_1
        replace p4 := eq_true p4
        replace q4 := eq_true q4
        go_wp2_with (first | ((with_reducible refine gate_callee (f := 93) rfl ?_); refine goesL_ (some 17) rfl rfl Tryz.func93 z1a rfl #[.int .i64 (wrap64 (bt a0 x3_1)), .int .i64 97, .int .i64 122] rfl z1b ?_; (with_reducible refine (spec_l1In.calls (wrap64 (bt a0 x3_1)) 97 122 false _ A5.out).mono ?_); rintro e w' ⟨rfl, ⟨nd, rfl⟩⟩; refine ⟨_, rfl, ?_⟩) | (go_at_call 93; (with_reducible refine (spec_l1In.calls (wrap64 (bt a0 x3_1)) 48 57 false _ A7.out).mono ?_); rintro e w' ⟨rfl, ⟨nd, rfl⟩⟩))
        go_ret
        exact ⟨z1d, z1n⟩
       ·rw [if_neg c9] at H
        have c9b0 : (x3_1 == 0) = false := beq_eq_false_iff_ne.mpr c9
        have c9b1 : (x3_1 != 0) = true := bne_iff_ne.mpr c9
        by_cases c10 : (wrap64 (bt a0 x3_1)) = 45
        ·rw [if_pos c10] at H
         have c10b0 : ((wrap64 (bt a0 x3_1)) == 45) = true := beq_iff_eq.mpr c10
         have c10b1 : ((wrap64 (bt a0 x3_1)) != 45) = false := bne_eq_false_iff_eq.mpr c10
         clear c10
         have H' := zi H
         clear H
         have p4 : 0 ≤ (x3_1 : Int) := of_decide_eq_true z1e
         have q4 : x3_1 < (a0.size : Int) := of_decide_eq_true z1e
         have hx4 := bt_at a0 x3_1
         replace p4 := eq_true p4
         replace q4 := eq_true q4
         go_wp2_with (first | ((with_reducible refine gate_callee (f := 93) rfl ?_); refine goesL_ (some 17) rfl rfl Tryz.func93 z1a rfl #[.int .i64 (wrap64 (bt a0 x3_1)), .int .i64 97, .int .i64 122] rfl z1b ?_; (with_reducible refine (spec_l1In.calls (wrap64 (bt a0 x3_1)) 97 122 false _ A5.out).mono ?_); rintro e w' ⟨rfl, ⟨nd, rfl⟩⟩; refine ⟨_, rfl, ?_⟩) | (go_at_call 93; (with_reducible refine (spec_l1In.calls (wrap64 (bt a0 x3_1)) 48 57 false _ A7.out).mono ?_); rintro e w' ⟨rfl, ⟨nd, rfl⟩⟩))
         go_roundg k1
         case measure => have := HK1.out; omega
         case rel => exact ⟨(wrap64 (x3_1 + 1)), z1d, H', ⟨z1h⟩, z1n⟩
        ·rw [if_neg c10] at H
         have c10b0 : ((wrap64 (bt a0 x3_1)) == 45) = false := beq_eq_false_iff_ne.mpr c10
         have c10b1 : ((wrap64 (bt a0 x3_1)) != 45) = true := bne_iff_ne.mpr c10
         by_cases c11 : (wrap64 (bt a0 x3_1)) = 46
         ·rw [if_pos c11] at H
          have c11b0 : ((wrap64 (bt a0 x3_1)) == 46) = true := beq_iff_eq.mpr c11
          have c11b1 : ((wrap64 (bt a0 x3_1)) != 46) = false := bne_eq_false_iff_eq.mpr c11
          clear c11
          have H' := zi H
          clear H
          have p4 : 0 ≤ (x3_1 : Int) := of_decide_eq_true z1e
          have q4 : x3_1 < (a0.size : Int) := of_decide_eq_true z1e
          have hx4 := bt_at a0 x3_1
          replace p4 := eq_true p4
          replace q4 := eq_true q4
          go_wp2_with (first | ((with_reducible refine gate_callee (f := 93) rfl ?_); refine goesL_ (some 17) rfl rfl Tryz.func93 z1a rfl #[.int .i64 (wrap64 (bt a0 x3_1)), .int .i64 97, .int .i64 122] rfl z1b ?_; (with_reducible refine (spec_l1In.calls (wrap64 (bt a0 x3_1)) 97 122 false _ A5.out).mono ?_); rintro e w' ⟨rfl, ⟨nd, rfl⟩⟩; refine ⟨_, rfl, ?_⟩) | (go_at_call 93; (with_reducible refine (spec_l1In.calls (wrap64 (bt a0 x3_1)) 48 57 false _ A7.out).mono ?_); rintro e w' ⟨rfl, ⟨nd, rfl⟩⟩))
          go_roundg k1
          case measure => have := HK1.out; omega
          case rel => exact ⟨(wrap64 (x3_1 + 1)), z1d, H', ⟨z1h⟩, z1n⟩
         ·rw [if_neg c11] at H
          have c11b0 : ((wrap64 (bt a0 x3_1)) == 46) = false := beq_eq_false_iff_ne.mpr c11
          have c11b1 : ((wrap64 (bt a0 x3_1)) != 46) = true := bne_iff_ne.mpr c11
          by_cases c12 : (wrap64 (bt a0 x3_1)) = 95
          ·rw [if_pos c12] at H
           have c12b0 : ((wrap64 (bt a0 x3_1)) == 95) = true := beq_iff_eq.mpr c12
           have c12b1 : ((wrap64 (bt a0 x3_1)) != 95) = false := bne_eq_false_iff_eq.mpr c12
           clear c12
           have H' := zi H
           clear H
           have p4 : 0 ≤ (x3_1 : Int) := of_decide_eq_true z1e
           have q4 : x3_1 < (a0.size : Int) := of_decide_eq_true z1e
           have hx4 := bt_at a0 x3_1
           replace p4 := eq_true p4
           replace q4 := eq_true q4
           go_wp2_with (first | ((with_reducible refine gate_callee (f := 93) rfl ?_); refine goesL_ (some 17) rfl rfl Tryz.func93 z1a rfl #[.int .i64 (wrap64 (bt a0 x3_1)), .int .i64 97, .int .i64 122] rfl z1b ?_; (with_reducible refine (spec_l1In.calls (wrap64 (bt a0 x3_1)) 97 122 false _ A5.out).mono ?_); rintro e w' ⟨rfl, ⟨nd, rfl⟩⟩; refine ⟨_, rfl, ?_⟩) | (go_at_call 93; (with_reducible refine (spec_l1In.calls (wrap64 (bt a0 x3_1)) 48 57 false _ A7.out).mono ?_); rintro e w' ⟨rfl, ⟨nd, rfl⟩⟩))
           go_roundg k1
           case measure => have := HK1.out; omega
           case rel => exact ⟨(wrap64 (x3_1 + 1)), z1d, H', ⟨z1h⟩, z1n⟩
          ·rw [if_neg c12] at H
           have c12b0 : ((wrap64 (bt a0 x3_1)) == 95) = false := beq_eq_false_iff_ne.mpr c12
           have c12b1 : ((wrap64 (bt a0 x3_1)) != 95) = true := bne_iff_ne.mpr c12
           obtain rfl := Option.some.inj H
           have p4 : 0 ≤ (x3_1 : Int) := of_decide_eq_true z1e
           have q4 : x3_1 < (a0.size : Int) := of_decide_eq_true z1e
           have hx4 := bt_at a0 x3_1
           replace p4 := eq_true p4
           replace q4 := eq_true q4
           go_wp2_with (first | ((with_reducible refine gate_callee (f := 93) rfl ?_); refine goesL_ (some 17) rfl rfl Tryz.func93 z1a rfl #[.int .i64 (wrap64 (bt a0 x3_1)), .int .i64 97, .int .i64 122] rfl z1b ?_; (with_reducible refine (spec_l1In.calls (wrap64 (bt a0 x3_1)) 97 122 false _ A5.out).mono ?_); rintro e w' ⟨rfl, ⟨nd, rfl⟩⟩; refine ⟨_, rfl, ?_⟩) | (go_at_call 93; (with_reducible refine (spec_l1In.calls (wrap64 (bt a0 x3_1)) 48 57 false _ A7.out).mono ?_); rintro e w' ⟨rfl, ⟨nd, rfl⟩⟩))
           go_ret
           exact ⟨z1d, z1n⟩
    ·rw [if_neg c3] at H
     exact absurd H (by simp)
   ·rw [if_neg c2] at H
    have c2b0 := decide_eq_false c2
    clear c2
    replace H := Option.bind_eq_some_iff.mp H
    obtain ⟨t243, A130, H⟩ := H
    try dsimp only at H
    have A13 := zi A130
    clear A130
    obtain rfl := Option.some.inj H
    go_wp2_with (first | ((with_reducible refine gate_callee (f := 93) rfl ?_); refine goesL_ (some 42) rfl rfl Tryz.func93 z1a rfl #[.int .i64 (a0.size : Int), .int .i64 1, .int .i64 20] rfl z1b ?_; (with_reducible refine (spec_l1In.calls (a0.size : Int) 1 20 t243 _ A13.out).mono ?_); rintro e w' ⟨rfl, ⟨nd, rfl⟩⟩; refine ⟨_, rfl, ?_⟩))
    go_ret
    exact ⟨z1d, z1n⟩
def spec_PathOk.l0 : Nat → ByteArray → List ByteArray → Int → Option (Bool)
 | 0, _, _, _ => none
 | k + 1, x0, x3, x4 => if x4 < (x3.length : Int) then (if 0 ≤ x4 then ((spec_l4Part.f k (rdOf ByteArray.empty x3 x4)).bind fun t250 => (if t250 = true then (spec_PathOk.l0 k x0 x3 (wrap64 (x4 + 1))) else (some false))) else (none)) else (if (x3.length : Int) ≤ 6 then (some (decide ((x0.size : Int) ≤ 60))) else (some false))
def spec_PathOk.f (k : Nat) (a0 : ByteArray) : Option (Bool) := (spec_l3Split.f k a0 47).bind fun t246 => (spec_PathOk.l0 k a0 t246 0)
set_option maxHeartbeats 8000000 in
set_option maxRecDepth 100000 in
theorem spec_PathOk.calls (k : Nat) (a0 : ByteArray) (r : Bool) (w : World) (h : spec_PathOk.f k a0 = some r) :
  Calls Tryz.prog 91 #[.string a0] w fun e w' => e = .returned (.bool r) ∧ Below w.heap.size w w' := by
 have HB := zi (Below.refl w.heap.size w)
 have H := h
 unfold spec_PathOk.f at H
 clear h
 replace H := Option.bind_eq_some_iff.mp H
 obtain ⟨t246, A20, H⟩ := H
 try dsimp only at H
 have A2 := zi A20
 clear A20
 have H' := zi H
 clear H
 go_enter Tryz.func91, Tryz.ntmps91
 go_wp2_with (first | ((with_reducible refine gate_callee (f := 56) rfl ?_); refine goesL_ (some 6) rfl rfl Tryz.func56 z1a rfl #[.string a0, .int .u8 47] rfl z1b ?_; (with_reducible refine (spec_l3Split.calls k a0 47 t246 _ A2.out).mono ?_); rintro e w3 ⟨v247, rfl, ho0, hb⟩; refine ⟨_, rfl, ?_⟩; have n0_ := zi (Kd.R_lower ho0 (below_size zt)); have n1_ := zi (below_step zt hb); clear HB; have HO248 := n0_; have HB := n1_; clear n0_ n1_; (try clear hb); (try clear hb2); (try clear hk); (try clear hi); (try clear ho0)))
 go_loopg [4] k (fun kq v4 w' => ∃ (x4_1 : Int), v4 = .int .i64 x4_1 ∧ Aside0 (spec_PathOk.l0 kq a0 t246 x4_1 = some r) ∧ Aside0 (kq ≤ k) ∧ Aside0 (Kd.R Kd.string 9 w' w.heap.size (fun _ => True) v247 t246) ∧ Aside0 (Below w.heap.size w w'))
 case atStart => exact ⟨(0), z1d, H', ⟨Nat.le_refl _⟩, ⟨by (with_reducible repeat (first | apply Kd.R_alloc | apply Kd.R_drewN | apply Kd.R_drew)); exact HO248.out⟩, ⟨zt⟩⟩
 case round =>
  clear H'
  try clear p2
  obtain ⟨x4_1, rfl, HA, HK1, HO_3, HB⟩ := hrel
  cases gk with
  | zero => exact absurd HA.out (by simp [spec_PathOk.l0])
  | succ k1 =>
   have H := HA.out
   clear HA
   simp only [spec_PathOk.l0] at H
   by_cases c4 : x4_1 < (t246.length : Int)
   ·rw [if_pos c4] at H
    have c4b0 := decide_eq_true c4
    clear c4
    by_cases c5 : 0 ≤ x4_1
    ·rw [if_pos c5] at H
     have c5b0 := decide_eq_true c5
     clear c5
     replace H := Option.bind_eq_some_iff.mp H
     obtain ⟨t250, A60, H⟩ := H
     try dsimp only at H
     have A6 := zi A60
     clear A60
     by_cases c7 : t250 = true
     ·subst c7
      rw [if_pos rfl] at H
      have H' := zi H
      clear H
      obtain ⟨Ao8, co8, eo8⟩ := Kd.R_slice HO_3.out
      subst eo8
      have p249 : 0 ≤ (x4_1 : Int) := of_decide_eq_true z1e
      have q249 : x4_1 < (t246.length : Int) := of_decide_eq_true z1e
      obtain ⟨ad249, e249, hx249_0⟩ := Kd.at_string (Kd.R_reads' HO_3.out).2.2 x4_1 p249 q249
      cases e249
      replace p249 := eq_true p249
      replace q249 := eq_true q249
      go_wp2_with (first | ((with_reducible refine gate_callee (f := 108) rfl ?_); refine goesL_ (some 17) rfl rfl Tryz.func108 z1a rfl #[.string (rdOf ByteArray.empty t246 x4_1)] rfl z1b ?_; (with_reducible refine (spec_l4Part.calls k1 (rdOf ByteArray.empty t246 x4_1) true _ A6.out).mono ?_); rintro e w' ⟨rfl, ⟨nd, rfl⟩⟩; refine ⟨_, rfl, ?_⟩))
      go_roundg k1
      case measure => have := HK1.out; omega
      case rel => exact ⟨(wrap64 (x4_1 + 1)), z1d, H', ⟨z1h⟩, ⟨z1o⟩, ⟨zt⟩⟩
     ·replace c7 := Bool.eq_false_iff.mpr c7
      subst c7
      rw [if_neg zj] at H
      obtain rfl := Option.some.inj H
      obtain ⟨Ao9, co9, eo9⟩ := Kd.R_slice HO_3.out
      subst eo9
      have p249 : 0 ≤ (x4_1 : Int) := of_decide_eq_true z1e
      have q249 : x4_1 < (t246.length : Int) := of_decide_eq_true z1e
      obtain ⟨ad249, e249, hx249_0⟩ := Kd.at_string (Kd.R_reads' HO_3.out).2.2 x4_1 p249 q249
      cases e249
      replace p249 := eq_true p249
      replace q249 := eq_true q249
      go_wp2_with (first | ((with_reducible refine gate_callee (f := 108) rfl ?_); refine goesL_ (some 17) rfl rfl Tryz.func108 z1a rfl #[.string (rdOf ByteArray.empty t246 x4_1)] rfl z1b ?_; (with_reducible refine (spec_l4Part.calls k1 (rdOf ByteArray.empty t246 x4_1) false _ A6.out).mono ?_); rintro e w' ⟨rfl, ⟨nd, rfl⟩⟩; refine ⟨_, rfl, ?_⟩))
      go_ret
      exact ⟨zw, zt⟩
    ·rw [if_neg c5] at H
     exact absurd H (by simp)
   ·rw [if_neg c4] at H
    have c4b0 := decide_eq_false c4
    clear c4
    by_cases c10 : (t246.length : Int) ≤ 6
    ·rw [if_pos c10] at H
     have c10b0 := decide_eq_true c10
     have c10b1 : decide (t246.length ≤ 6) = true := decide_eq_true zq
     clear c10
     obtain rfl := Option.some.inj H
     obtain ⟨Ao11, co11, eo11⟩ := Kd.R_slice HO_3.out
     subst eo11
     go_wp2
     go_ret
     exact ⟨zw, zt⟩
    ·rw [if_neg c10] at H
     have c10b0 := decide_eq_false c10
     have c10b1 : decide (t246.length ≤ 6) = false := decide_eq_false zq
     clear c10
     obtain rfl := Option.some.inj H
     obtain ⟨Ao12, co12, eo12⟩ := Kd.R_slice HO_3.out
     subst eo12
     go_wp2
     go_ret
     exact ⟨zw, zt⟩
def spec_l3Digits.l0 : Nat → ByteArray → Int → Option (Bool)
 | 0, _, _ => none
 | k + 1, x0, x3 => if x3 < (x0.size : Int) then (if 0 ≤ x3 then ((spec_l1In.f (wrap64 (bt x0 x3)) 48 57).bind fun t251 => (if t251 = true then (spec_l3Digits.l0 k x0 (wrap64 (x3 + 1))) else (some false))) else (none)) else (some (x0.toList != ([] : List UInt8)))
def spec_l3Digits.f (k : Nat) (a0 : ByteArray) : Option (Bool) := spec_l3Digits.l0 k a0 0
set_option maxHeartbeats 8000000 in
set_option maxRecDepth 100000 in
theorem spec_l3Digits.calls (k : Nat) (a0 : ByteArray) (r : Bool) (w : World) (h : spec_l3Digits.f k a0 = some r) :
  Calls Tryz.prog 107 #[.string a0] w fun e w' => e = .returned (.bool r) ∧ Drawn0 w w' := by
 have H := h
 unfold spec_l3Digits.f at H
 clear h
 have H' := zi H
 clear H
 go_enter Tryz.func107, Tryz.ntmps107
 go_wp2
 go_loopg [3] k (fun kq v3 w' => ∃ (x3_1 : Int), v3 = .int .i64 x3_1 ∧ Aside0 (spec_l3Digits.l0 kq a0 x3_1 = some r) ∧ Aside0 (kq ≤ k) ∧ Drawn0 w w')
 case atStart => exact ⟨(0), z1d, H', ⟨Nat.le_refl _⟩, z1n⟩
 case round =>
  clear H'
  try clear c1
  obtain ⟨x3_1, rfl, HA, HK1, ⟨m1, rfl⟩⟩ := hrel
  cases gk with
  | zero => exact absurd HA.out (by simp [spec_l3Digits.l0])
  | succ k1 =>
   have H := HA.out
   clear HA
   simp only [spec_l3Digits.l0] at H
   by_cases c2 : x3_1 < (a0.size : Int)
   ·rw [if_pos c2] at H
    have c2b0 := decide_eq_true c2
    clear c2
    by_cases c3 : 0 ≤ x3_1
    ·rw [if_pos c3] at H
     have c3b0 := decide_eq_true c3
     clear c3
     replace H := Option.bind_eq_some_iff.mp H
     obtain ⟨t251, A50, H⟩ := H
     try dsimp only at H
     have A5 := zi A50
     clear A50
     by_cases c6 : t251 = true
     ·subst c6
      rw [if_pos rfl] at H
      have H' := zi H
      clear H
      have p4 : 0 ≤ (x3_1 : Int) := of_decide_eq_true z1e
      have q4 : x3_1 < (a0.size : Int) := of_decide_eq_true z1e
      have hx4 := bt_at a0 x3_1
      replace p4 := eq_true p4
      replace q4 := eq_true q4
      go_wp2_with (first | ((with_reducible refine gate_callee (f := 93) rfl ?_); refine goesL_ (some 14) rfl rfl Tryz.func93 z1a rfl #[.int .i64 (wrap64 (bt a0 x3_1)), .int .i64 48, .int .i64 57] rfl z1b ?_; (with_reducible refine (spec_l1In.calls (wrap64 (bt a0 x3_1)) 48 57 true _ A5.out).mono ?_); rintro e w' ⟨rfl, ⟨nd, rfl⟩⟩; refine ⟨_, rfl, ?_⟩))
      go_roundg k1
      case measure => have := HK1.out; omega
      case rel => exact ⟨(wrap64 (x3_1 + 1)), z1d, H', ⟨z1h⟩, z1n⟩
     ·replace c6 := Bool.eq_false_iff.mpr c6
      subst c6
      rw [if_neg zj] at H
      obtain rfl := Option.some.inj H
      have p4 : 0 ≤ (x3_1 : Int) := of_decide_eq_true z1e
      have q4 : x3_1 < (a0.size : Int) := of_decide_eq_true z1e
      have hx4 := bt_at a0 x3_1
      replace p4 := eq_true p4
      replace q4 := eq_true q4
      go_wp2_with (first | ((with_reducible refine gate_callee (f := 93) rfl ?_); refine goesL_ (some 14) rfl rfl Tryz.func93 z1a rfl #[.int .i64 (wrap64 (bt a0 x3_1)), .int .i64 48, .int .i64 57] rfl z1b ?_; (with_reducible refine (spec_l1In.calls (wrap64 (bt a0 x3_1)) 48 57 false _ A5.out).mono ?_); rintro e w' ⟨rfl, ⟨nd, rfl⟩⟩; refine ⟨_, rfl, ?_⟩))
      go_ret
      exact ⟨z1p, z1n⟩
    ·rw [if_neg c3] at H
     exact absurd H (by simp)
   ·rw [if_neg c2] at H
    have c2b0 := decide_eq_false c2
    clear c2
    obtain rfl := Option.some.inj H
    go_wp2
    go_ret
    exact ⟨z1p, z1n⟩
mutual
def spec_l3Number.j0 : Nat → ByteArray → Bool → Option (Int)
 | 0, _, _ => none
 | k + 1, x0, x22 => if x22 = true then (some (-1)) else (spec_l3Number.l0 k x0 0 0)
def spec_l3Number.l0 : Nat → ByteArray → Int → Int → Option (Int)
 | 0, _, _, _ => none
 | k + 1, x0, x3, x4 => if x4 < (x0.size : Int) then (if 0 ≤ x4 then (spec_l3Number.l0 k x0 (wrap64 ((wrap64 (x3 * 10)) + (((bt x0 x4) - 48) % 256))) (wrap64 (x4 + 1))) else (none)) else (some x3)
end
def spec_l3Number.f (k : Nat) (a0 : ByteArray) : Option (Int) := (spec_l3Digits.f k a0).bind fun t252 => (if t252 = true then (if (a0.size : Int) > 8 then (spec_l3Number.j0 k a0 true) else (if (a0.size : Int) > 1 then (if 0 < (a0.size : Int) then (spec_l3Number.j0 k a0 ((bt a0 0) == 48)) else (none)) else (spec_l3Number.j0 k a0 false))) else (spec_l3Number.j0 k a0 true))
set_option maxHeartbeats 8000000 in
set_option maxRecDepth 100000 in
theorem spec_l3Number.calls (k : Nat) (a0 : ByteArray) (r : Int) (w : World) (h : spec_l3Number.f k a0 = some r) :
  Calls Tryz.prog 87 #[.string a0] w fun e w' => e = .returned (.int .i64 r) ∧ Drawn0 w w' := by
 have H := h
 unfold spec_l3Number.f at H
 clear h
 have HC2 := zi H
 clear H
 go_enter Tryz.func87, Tryz.ntmps87
 go_upto_region 1 with (fail)
 go_cut [22] (fun v22 wc => ∃ (kq : Nat) (x22_1 : Bool), v22 = .bool x22_1 ∧ Aside0 (spec_l3Number.j0 kq a0 x22_1 = some r) ∧ Aside0 (kq ≤ k) ∧ Drawn0 w wc)
 case first =>
  have H := HC2.out
  clear HC2
  replace H := Option.bind_eq_some_iff.mp H
  obtain ⟨t252, A30, H⟩ := H
  try dsimp only at H
  have A3 := zi A30
  clear A30
  by_cases c4 : t252 = true
  ·subst c4
   rw [if_pos rfl] at H
   by_cases c5 : (a0.size : Int) > 8
   ·rw [if_pos c5] at H
    have c5b0 := decide_eq_true c5
    have c5b1 : decide (8 < a0.size) = true := decide_eq_true zq
    clear c5
    (first | rw [c5b0] | (simp only [i64_w, i32_w]; rw [c5b0]) | skip)
    have H' := zi H
    clear H
    go_wp2_with (first | ((with_reducible refine gate_callee (f := 107) rfl ?_); refine goesL_ (some 6) rfl rfl Tryz.func107 z1a rfl #[.string a0] rfl z1b ?_; (with_reducible refine (spec_l3Digits.calls k a0 true _ A3.out).mono ?_); rintro e w' ⟨rfl, ⟨nd, rfl⟩⟩; refine ⟨_, rfl, ?_⟩))
    go_meet
    case rel => exact ⟨_, (true), z1d, H', ⟨z1q⟩, z1n⟩
   ·rw [if_neg c5] at H
    have c5b0 := decide_eq_false c5
    have c5b1 : decide (8 < a0.size) = false := decide_eq_false zq
    clear c5
    (first | rw [c5b0] | (simp only [i64_w, i32_w]; rw [c5b0]) | skip)
    by_cases c6 : (a0.size : Int) > 1
    ·rw [if_pos c6] at H
     have c6b0 := decide_eq_true c6
     have c6b1 : decide (1 < a0.size) = true := decide_eq_true zq
     clear c6
     by_cases c7 : 0 < (a0.size : Int)
     ·rw [if_pos c7] at H
      have c7b0 := decide_eq_true c7
      have c7b1 : decide (0 < a0.size) = true := decide_eq_true zq
      clear c7
      have H' := zi H
      clear H
      go_wp2_with (first | ((with_reducible refine gate_callee (f := 107) rfl ?_); refine goesL_ (some 6) rfl rfl Tryz.func107 z1a rfl #[.string a0] rfl z1b ?_; (with_reducible refine (spec_l3Digits.calls k a0 true _ A3.out).mono ?_); rintro e w' ⟨rfl, ⟨nd, rfl⟩⟩; refine ⟨_, rfl, ?_⟩; have p8 : 0 ≤ (0 : Int) := zq; have q8 : 0 < a0.size := (by have : (0 : Int) < (a0.size : Int) := of_decide_eq_true z1e; omega); have hx8 : ∀ h : 0 < a0.size, ((a0[0]'h).toNat : Int) = bt a0 0 := bt_at a0 0; clear p8; have qi8 : (0 < (a0.size : Int)) = True := eq_true (of_decide_eq_true z1e); replace q8 := eq_true q8))
      go_meet
      case rel => exact ⟨_, (((bt a0 0) == 48)), z1d, H', ⟨z1q⟩, z1n⟩
     ·rw [if_neg c7] at H
      exact absurd H (by simp)
    ·rw [if_neg c6] at H
     have c6b0 := decide_eq_false c6
     have c6b1 : decide (1 < a0.size) = false := decide_eq_false zq
     clear c6
     have H' := zi H
     clear H
     go_wp2_with (first | ((with_reducible refine gate_callee (f := 107) rfl ?_); refine goesL_ (some 6) rfl rfl Tryz.func107 z1a rfl #[.string a0] rfl z1b ?_; (with_reducible refine (spec_l3Digits.calls k a0 true _ A3.out).mono ?_); rintro e w' ⟨rfl, ⟨nd, rfl⟩⟩; refine ⟨_, rfl, ?_⟩))
     go_meet
     case rel => exact ⟨_, (false), z1d, H', ⟨z1q⟩, z1n⟩
  ·replace c4 := Bool.eq_false_iff.mpr c4
   subst c4
   rw [if_neg zj] at H
   have H' := zi H
   clear H
   go_wp2_with (first | ((with_reducible refine gate_callee (f := 107) rfl ?_); refine goesL_ (some 6) rfl rfl Tryz.func107 z1a rfl #[.string a0] rfl z1b ?_; (with_reducible refine (spec_l3Digits.calls k a0 false _ A3.out).mono ?_); rintro e w' ⟨rfl, ⟨nd, rfl⟩⟩; refine ⟨_, rfl, ?_⟩))
   go_meet
   case rel => exact ⟨_, (true), z1d, H', ⟨z1q⟩, z1n⟩
 case rest =>
  clear HC2
  try clear c1
  try clear p2
  try clear c4
  try clear c5
  try clear c5b0
  try clear c5b1
  try clear c6
  try clear c6b0
  try clear c6b1
  try clear c7
  try clear c7b0
  try clear c7b1
  try clear c8
  try clear p8
  try clear q8
  try clear hx8
  try clear qi8
  try clear p8
  try clear q8
  obtain ⟨kq, x22_1, rfl, HA, HJ1, ⟨mc1, rfl⟩⟩ := hcut
  cases kq with
  | zero => exact absurd HA.out (by simp [spec_l3Number.j0])
  | succ kj1 =>
   have H := HA.out
   clear HA
   simp only [spec_l3Number.j0] at H
   by_cases c9 : x22_1 = true
   ·subst c9
    rw [if_pos rfl] at H
    obtain rfl := Option.some.inj H
    go_wp2
    go_ret
    exact ⟨z1d, z1n⟩
   ·replace c9 := Bool.eq_false_iff.mpr c9
    subst c9
    rw [if_neg zj] at H
    have H' := zi H
    clear H
    go_wp2
    go_loopg [3, 4] kj1 (fun kq v3 v4 w' => ∃ (x3_2 : Int) (x4_2 : Int), v3 = .int .i64 x3_2 ∧ v4 = .int .i64 x4_2 ∧ Aside0 (spec_l3Number.l0 kq a0 x3_2 x4_2 = some r) ∧ Aside0 (kq ≤ kj1) ∧ Drawn0 w w')
    case atStart => exact ⟨(0), (0), z1d, z1d, H', ⟨Nat.le_refl _⟩, z1n⟩
    case round =>
     clear H'
     try clear c1
     try clear p2
     try clear c4
     try clear c5
     try clear c5b0
     try clear c5b1
     try clear c6
     try clear c6b0
     try clear c6b1
     try clear c7
     try clear c7b0
     try clear c7b1
     try clear c8
     try clear p8
     try clear q8
     try clear hx8
     try clear qi8
     try clear c9
     try clear p2
     try clear p8
     try clear q8
     obtain ⟨x3_2, x4_2, rfl, rfl, HA, HK2, ⟨m2, rfl⟩⟩ := hrel
     cases gk with
     | zero => exact absurd HA.out (by simp [spec_l3Number.l0])
     | succ k2 =>
      have H := HA.out
      clear HA
      simp only [spec_l3Number.l0] at H
      by_cases c10 : x4_2 < (a0.size : Int)
      ·rw [if_pos c10] at H
       have c10b0 := decide_eq_true c10
       clear c10
       by_cases c11 : 0 ≤ x4_2
       ·rw [if_pos c11] at H
        have c11b0 := decide_eq_true c11
        clear c11
        have H' := zi H
        clear H
        have p12 : 0 ≤ (x4_2 : Int) := of_decide_eq_true z1e
        have q12 : x4_2 < (a0.size : Int) := of_decide_eq_true z1e
        have hx12 := bt_at a0 x4_2
        replace p12 := eq_true p12
        replace q12 := eq_true q12
        go_wp2
        go_roundg k2
        case measure => have := HJ1.out; have := HK2.out; omega
        case rel => exact ⟨(wrap64 ((wrap64 (x3_2 * 10)) + (((bt a0 x4_2) - 48) % 256))), (wrap64 (x4_2 + 1)), z1d, z1d, H', ⟨by have := HJ1.out; have := HK2.out; omega⟩, z1n⟩
       ·rw [if_neg c11] at H
        exact absurd H (by simp)
      ·rw [if_neg c10] at H
       have c10b0 := decide_eq_false c10
       clear c10
       obtain rfl := Option.some.inj H
       go_wp2
       go_ret
       exact ⟨z1d, z1n⟩
def spec_l4Major.j0 : Nat → ByteArray → Bool → Option (Int)
 | 0, _, _ => none
 | k + 1, x4, x25 => if x25 = true then (some 0) else (if 1 ≤ (x4.size : Int) then ((spec_l3Number.f k (x4.extract 1 x4.size)).bind fun t257 => ((spec_l1In.f t257 2 1000).bind fun t258 => (if t258 = true then (some t257) else (some 0)))) else (none))
def spec_l4Major.f (k : Nat) (a0 : ByteArray) : Option (Int) := (spec_l3Split.f k a0 47).bind fun t253 => (if 0 ≤ (wrap64 ((t253.length : Int) - 1)) then (if (wrap64 ((t253.length : Int) - 1)) < (t253.length : Int) then (if (t253.length : Int) < 2 then (spec_l4Major.j0 k (rdOf ByteArray.empty t253 (wrap64 ((t253.length : Int) - 1))) true) else (if (rdOf ByteArray.empty t253 (wrap64 ((t253.length : Int) - 1))).toList = ([] : List UInt8) then (spec_l4Major.j0 k (rdOf ByteArray.empty t253 (wrap64 ((t253.length : Int) - 1))) true) else (if 0 < ((rdOf ByteArray.empty t253 (wrap64 ((t253.length : Int) - 1))).size : Int) then (spec_l4Major.j0 k (rdOf ByteArray.empty t253 (wrap64 ((t253.length : Int) - 1))) ((bt (rdOf ByteArray.empty t253 (wrap64 ((t253.length : Int) - 1))) 0) != 118)) else (none)))) else (none)) else (none))
set_option maxHeartbeats 8000000 in
set_option maxRecDepth 100000 in
theorem spec_l4Major.calls (k : Nat) (a0 : ByteArray) (r : Int) (w : World) (h : spec_l4Major.f k a0 = some r) :
  Calls Tryz.prog 92 #[.string a0] w fun e w' => e = .returned (.int .i64 r) ∧ Below w.heap.size w w' := by
 have HB := zi (Below.refl w.heap.size w)
 have H := h
 unfold spec_l4Major.f at H
 clear h
 replace H := Option.bind_eq_some_iff.mp H
 obtain ⟨t253, A20, H⟩ := H
 try dsimp only at H
 have A2 := zi A20
 clear A20
 obtain ⟨ji3, hji3⟩ : ∃ j_ : Int, (wrap64 ((t253.length : Int) - 1)) = j_ := ⟨_, rfl⟩
 replace H : (if 0 ≤ (ji3) then (if (ji3) < (t253.length : Int) then (if (t253.length : Int) < 2 then (spec_l4Major.j0 k (rdOf ByteArray.empty t253 (ji3)) true) else (if (rdOf ByteArray.empty t253 (ji3)).toList = ([] : List UInt8) then (spec_l4Major.j0 k (rdOf ByteArray.empty t253 (ji3)) true) else (if 0 < ((rdOf ByteArray.empty t253 (ji3)).size : Int) then (spec_l4Major.j0 k (rdOf ByteArray.empty t253 (ji3)) ((bt (rdOf ByteArray.empty t253 (ji3)) 0) != 118)) else (none)))) else (none)) else (none)) = some r := by first | (rw [hji3] at H; exact H) | (simp only [hji3] at H ⊢; exact H)
 (try rw [hji3] at A2)
 have hji3w : (IntKind.i64.wrap ((t253.length : Int) - 1)) = ji3 := (i64_w _).trans hji3
 by_cases c4 : 0 ≤ (ji3)
 ·rw [if_pos c4] at H
  have c4b0 := decide_eq_true c4
  clear c4
  by_cases c5 : (ji3) < (t253.length : Int)
  ·rw [if_pos c5] at H
   have c5b0 := decide_eq_true c5
   clear c5
   have HC6 := zi H
   clear H
   go_enter Tryz.func92, Tryz.ntmps92
   go_upto_region 3 with (first | ((with_reducible refine gate_callee (f := 56) rfl ?_); refine goesL_ (some 7) rfl rfl Tryz.func56 z1a rfl #[.string a0, .int .u8 47] rfl z1b ?_; (with_reducible refine (spec_l3Split.calls k a0 47 t253 _ A2.out).mono ?_); rintro e w7 ⟨v254, rfl, ho0, hb⟩; refine ⟨_, rfl, ?_⟩; have n0_ := zi (Kd.R_lower ho0 (below_size zt)); have n1_ := zi (below_step zt hb); clear HB; have HO255 := n0_; have HB := n1_; clear n0_ n1_; (try clear hb); (try clear hb2); (try clear hk); (try clear hi); (try clear ho0); obtain ⟨Ao8, co8, eo8⟩ := Kd.R_slice HO255.out; subst eo8; have p256 : 0 ≤ ((ji3) : Int) := of_decide_eq_true z1e; have q256 : (ji3) < (t253.length : Int) := of_decide_eq_true z1e; obtain ⟨ad256, e256, hx256_0⟩ := Kd.at_string (Kd.R_reads' HO255.out).2.2 (ji3) p256 q256; cases e256; replace p256 := eq_true p256; replace q256 := eq_true q256))
   (try simp only [Act.put, z7g, z7h, z7i])
   go_cut [25] (fun v25 wc => ∃ (kq : Nat) (x25_5 : Bool), v25 = .bool x25_5 ∧ Aside0 (spec_l4Major.j0 kq (rdOf ByteArray.empty t253 (ji3)) x25_5 = some r) ∧ Aside0 (kq ≤ k) ∧ Aside0 (Below w.heap.size w wc))
   case first =>
    have H := HC6.out
    clear HC6
    by_cases c9 : (t253.length : Int) < 2
    ·rw [if_pos c9] at H
     have c9b0 := decide_eq_true c9
     have c9b1 : decide (t253.length < 2) = true := decide_eq_true zq
     clear c9
     (first | rw [c9b0] | (simp only [i64_w, i32_w]; rw [c9b0]) | skip)
     have H' := zi H
     clear H
     go_wp2
     go_meet
     case rel => exact ⟨_, (true), z1d, H', ⟨z1q⟩, ⟨zt⟩⟩
    ·rw [if_neg c9] at H
     have c9b0 := decide_eq_false c9
     have c9b1 : decide (t253.length < 2) = false := decide_eq_false zq
     clear c9
     (first | rw [c9b0] | (simp only [i64_w, i32_w]; rw [c9b0]) | skip)
     by_cases c10 : (rdOf ByteArray.empty t253 (ji3)).toList = ([] : List UInt8)
     ·rw [if_pos c10] at H
      have c10b0 : ((rdOf ByteArray.empty t253 (ji3)).toList == ([] : List UInt8)) = true := beq_iff_eq.mpr c10
      have c10b1 : ((rdOf ByteArray.empty t253 (ji3)).toList != ([] : List UInt8)) = false := bne_eq_false_iff_eq.mpr c10
      clear c10
      have H' := zi H
      clear H
      go_wp2
      go_meet
      case rel => exact ⟨_, (true), z1d, H', ⟨z1q⟩, ⟨zt⟩⟩
     ·rw [if_neg c10] at H
      have c10b0 : ((rdOf ByteArray.empty t253 (ji3)).toList == ([] : List UInt8)) = false := beq_eq_false_iff_ne.mpr c10
      have c10b1 : ((rdOf ByteArray.empty t253 (ji3)).toList != ([] : List UInt8)) = true := bne_iff_ne.mpr c10
      by_cases c11 : 0 < ((rdOf ByteArray.empty t253 (ji3)).size : Int)
      ·rw [if_pos c11] at H
       have c11b0 := decide_eq_true c11
       have c11b1 : decide (0 < (rdOf ByteArray.empty t253 (ji3)).size) = true := decide_eq_true zq
       clear c11
       have H' := zi H
       clear H
       have p12 : 0 ≤ (0 : Int) := zq
       have q12 : 0 < (rdOf ByteArray.empty t253 (ji3)).size := (by have : (0 : Int) < ((rdOf ByteArray.empty t253 (ji3)).size : Int) := of_decide_eq_true z1e; omega)
       have hx12 : ∀ h : 0 < (rdOf ByteArray.empty t253 (ji3)).size, (((rdOf ByteArray.empty t253 (ji3))[0]'h).toNat : Int) = bt (rdOf ByteArray.empty t253 (ji3)) 0 := bt_at (rdOf ByteArray.empty t253 (ji3)) 0
       clear p12
       have qi12 : (0 < ((rdOf ByteArray.empty t253 (ji3)).size : Int)) = True := eq_true (of_decide_eq_true z1e)
       replace q12 := eq_true q12
       go_wp2
       go_meet
       case rel => exact ⟨_, (((bt (rdOf ByteArray.empty t253 (ji3)) 0) != 118)), (by first | rfl | (simp; done) | (simp only [← hji3] <;> (first | rfl | simp)) | (simp [*]; done)), H', ⟨z1q⟩, ⟨zt⟩⟩
      ·rw [if_neg c11] at H
       exact absurd H (by simp)
   case rest =>
    clear HC6
    try clear c1
    try clear p1
    try clear q1
    try clear hx1
    try clear qi1
    try clear p2
    try clear q2
    try clear hx2
    try clear c4
    try clear c4b0
    try clear c5
    try clear c5b0
    try clear p6
    try clear c9
    try clear c9b0
    try clear c9b1
    try clear c10
    try clear c10b0
    try clear c10b1
    try clear c11
    try clear c11b0
    try clear c11b1
    try clear p12
    try clear q12
    try clear hx12
    try clear qi12
    try clear hx256_0
    try clear p12
    try clear p256
    try clear q12
    try clear q256
    obtain ⟨kq, x25_5, rfl, HA, HJ5, HB⟩ := hcut
    cases kq with
    | zero => exact absurd HA.out (by simp [spec_l4Major.j0])
    | succ kj5 =>
     have H := HA.out
     clear HA
     simp only [spec_l4Major.j0] at H
     by_cases c13 : x25_5 = true
     ·subst c13
      rw [if_pos rfl] at H
      obtain rfl := Option.some.inj H
      go_wp2
      go_ret
      exact ⟨z3s, zt⟩
     ·replace c13 := Bool.eq_false_iff.mpr c13
      subst c13
      rw [if_neg zj] at H
      by_cases c14 : 1 ≤ ((rdOf ByteArray.empty t253 (ji3)).size : Int)
      ·rw [if_pos c14] at H
       have c14b0 := eq_true c14
       have c14b1 := decide_eq_true c14
       clear c14
       replace H := Option.bind_eq_some_iff.mp H
       obtain ⟨t257, A150, H⟩ := H
       try dsimp only at H
       have A15 := zi A150
       clear A150
       replace H := Option.bind_eq_some_iff.mp H
       obtain ⟨t258, A160, H⟩ := H
       try dsimp only at H
       have A16 := zi A160
       clear A160
       by_cases c17 : t258 = true
       ·subst c17
        rw [if_pos rfl] at H
        obtain rfl := Option.some.inj H
        go_wp2_with (first | ((with_reducible refine gate_callee (f := 87) rfl ?_); refine goesL_ (some 28) rfl rfl Tryz.func87 z1a rfl #[.string ((rdOf ByteArray.empty t253 (ji3)).extract 1 (rdOf ByteArray.empty t253 (ji3)).size)] rfl (by (try simp only [List.map_toArray, List.map_cons, List.map_nil]); first | done | (simp only [hji3]; rfl) | rfl | (simp only [List.length_drop, List.length_take]; rfl)) ?_; (with_reducible refine (spec_l3Number.calls kj5 ((rdOf ByteArray.empty t253 (ji3)).extract 1 (rdOf ByteArray.empty t253 (ji3)).size) t257 _ A15.out).mono ?_); rintro e w' ⟨rfl, ⟨nd, rfl⟩⟩; refine ⟨_, rfl, ?_⟩) | ((with_reducible refine gate_callee (f := 93) rfl ?_); refine goesL_ (some 30) rfl rfl Tryz.func93 z1a rfl #[.int .i64 t257, .int .i64 2, .int .i64 1000] rfl z1b ?_; (with_reducible refine (spec_l1In.calls t257 2 1000 true _ A16.out).mono ?_); rintro e w' ⟨rfl, ⟨nd, rfl⟩⟩; refine ⟨_, rfl, ?_⟩))
        go_ret
        exact ⟨z3s, zt⟩
       ·replace c17 := Bool.eq_false_iff.mpr c17
        subst c17
        rw [if_neg zj] at H
        obtain rfl := Option.some.inj H
        go_wp2_with (first | ((with_reducible refine gate_callee (f := 87) rfl ?_); refine goesL_ (some 28) rfl rfl Tryz.func87 z1a rfl #[.string ((rdOf ByteArray.empty t253 (ji3)).extract 1 (rdOf ByteArray.empty t253 (ji3)).size)] rfl (by (try simp only [List.map_toArray, List.map_cons, List.map_nil]); first | done | (simp only [hji3]; rfl) | rfl | (simp only [List.length_drop, List.length_take]; rfl)) ?_; (with_reducible refine (spec_l3Number.calls kj5 ((rdOf ByteArray.empty t253 (ji3)).extract 1 (rdOf ByteArray.empty t253 (ji3)).size) t257 _ A15.out).mono ?_); rintro e w' ⟨rfl, ⟨nd, rfl⟩⟩; refine ⟨_, rfl, ?_⟩) | ((with_reducible refine gate_callee (f := 93) rfl ?_); refine goesL_ (some 30) rfl rfl Tryz.func93 z1a rfl #[.int .i64 t257, .int .i64 2, .int .i64 1000] rfl z1b ?_; (with_reducible refine (spec_l1In.calls t257 2 1000 false _ A16.out).mono ?_); rintro e w' ⟨rfl, ⟨nd, rfl⟩⟩; refine ⟨_, rfl, ?_⟩))
        go_ret
        exact ⟨z3s, zt⟩
      ·rw [if_neg c14] at H
       exact absurd H (by simp)
  ·rw [if_neg c5] at H
   exact absurd H (by simp)
 ·rw [if_neg c4] at H
  exact absurd H (by simp)
def spec_MajorOf.f (k : Nat) (a0 : ByteArray) : Option (Int) := (spec_PathOk.f k a0).bind fun t259 => (if t259 = true then ((spec_l4Major.f k a0).bind fun t260 => (if t260 = 0 then (some 1) else (some t260))) else (some 0))
set_option maxHeartbeats 8000000 in
set_option maxRecDepth 100000 in
theorem spec_MajorOf.calls (k : Nat) (a0 : ByteArray) (r : Int) (w : World) (h : spec_MajorOf.f k a0 = some r) :
  Calls Tryz.prog 67 #[.string a0] w fun e w' => e = .returned (.int .i64 r) ∧ Below w.heap.size w w' := by
 have HB := zi (Below.refl w.heap.size w)
 have H := h
 unfold spec_MajorOf.f at H
 clear h
 replace H := Option.bind_eq_some_iff.mp H
 obtain ⟨t259, A20, H⟩ := H
 try dsimp only at H
 have A2 := zi A20
 clear A20
 by_cases c3 : t259 = true
 ·subst c3
  rw [if_pos rfl] at H
  replace H := Option.bind_eq_some_iff.mp H
  obtain ⟨t260, A40, H⟩ := H
  try dsimp only at H
  have A4 := zi A40
  clear A40
  by_cases c5 : t260 = 0
  ·rw [if_pos c5] at H
   have c5b0 : (t260 == 0) = true := beq_iff_eq.mpr c5
   have c5b1 : (t260 != 0) = false := bne_eq_false_iff_eq.mpr c5
   clear c5
   obtain rfl := Option.some.inj H
   go_enter Tryz.func67, Tryz.ntmps67
   go_wp2_with (first | ((with_reducible refine gate_callee (f := 91) rfl ?_); refine goesL_ (some 5) rfl rfl Tryz.func91 z1a rfl #[.string a0] rfl z1b ?_; (with_reducible refine (spec_PathOk.calls k a0 true _ A2.out).mono ?_); rintro e w6 ⟨rfl, hb⟩; refine ⟨_, rfl, ?_⟩; have n0_ := zi (below_step zt hb); clear HB; have HB := n0_; clear n0_; (try clear hb); (try clear hb2); (try clear hk); (try clear hi)) | ((with_reducible refine gate_callee (f := 92) rfl ?_); refine goesL_ (some 8) rfl rfl Tryz.func92 z1a rfl #[.string a0] rfl z1b ?_; (with_reducible refine (spec_l4Major.calls k a0 t260 _ A4.out).mono ?_); rintro e w7 ⟨rfl, hb⟩; refine ⟨_, rfl, ?_⟩; have n0_ := zi (below_step zt hb); clear HB; have HB := n0_; clear n0_; (try clear hb); (try clear hb2); (try clear hk); (try clear hi)))
   go_ret
   exact ⟨zw, zt⟩
  ·rw [if_neg c5] at H
   have c5b0 : (t260 == 0) = false := beq_eq_false_iff_ne.mpr c5
   have c5b1 : (t260 != 0) = true := bne_iff_ne.mpr c5
   obtain rfl := Option.some.inj H
   go_enter Tryz.func67, Tryz.ntmps67
   go_wp2_with (first | ((with_reducible refine gate_callee (f := 91) rfl ?_); refine goesL_ (some 5) rfl rfl Tryz.func91 z1a rfl #[.string a0] rfl z1b ?_; (with_reducible refine (spec_PathOk.calls k a0 true _ A2.out).mono ?_); rintro e w8 ⟨rfl, hb⟩; refine ⟨_, rfl, ?_⟩; have n0_ := zi (below_step zt hb); clear HB; have HB := n0_; clear n0_; (try clear hb); (try clear hb2); (try clear hk); (try clear hi)) | ((with_reducible refine gate_callee (f := 92) rfl ?_); refine goesL_ (some 8) rfl rfl Tryz.func92 z1a rfl #[.string a0] rfl z1b ?_; (with_reducible refine (spec_l4Major.calls k a0 t260 _ A4.out).mono ?_); rintro e w9 ⟨rfl, hb⟩; refine ⟨_, rfl, ?_⟩; have n0_ := zi (below_step zt hb); clear HB; have HB := n0_; clear n0_; (try clear hb); (try clear hb2); (try clear hk); (try clear hi)))
   go_ret
   exact ⟨zw, zt⟩
 ·replace c3 := Bool.eq_false_iff.mpr c3
  subst c3
  rw [if_neg zj] at H
  obtain rfl := Option.some.inj H
  go_enter Tryz.func67, Tryz.ntmps67
  go_wp2_with (first | ((with_reducible refine gate_callee (f := 91) rfl ?_); refine goesL_ (some 5) rfl rfl Tryz.func91 z1a rfl #[.string a0] rfl z1b ?_; (with_reducible refine (spec_PathOk.calls k a0 false _ A2.out).mono ?_); rintro e w10 ⟨rfl, hb⟩; refine ⟨_, rfl, ?_⟩; have n0_ := zi (below_step zt hb); clear HB; have HB := n0_; clear n0_; (try clear hb); (try clear hb2); (try clear hk); (try clear hi)))
  go_ret
  exact ⟨zw, zt⟩
def spec_l3Part.l0 : Nat → ByteArray → Int → Option (Bool)
 | 0, _, _ => none
 | k + 1, x0, x3 => if x3 < (x0.size : Int) then (if 0 ≤ x3 then ((spec_l1In.f (wrap64 (bt x0 x3)) 97 122).bind fun t264 => (if t264 = true then (spec_l3Part.l0 k x0 (wrap64 (x3 + 1))) else ((spec_l1In.f (wrap64 (bt x0 x3)) 65 90).bind fun t265 => (if t265 = true then (spec_l3Part.l0 k x0 (wrap64 (x3 + 1))) else ((spec_l1In.f (wrap64 (bt x0 x3)) 48 57).bind fun t266 => (if t266 = true then (spec_l3Part.l0 k x0 (wrap64 (x3 + 1))) else (if (wrap64 (bt x0 x3)) = 45 then (spec_l3Part.l0 k x0 (wrap64 (x3 + 1))) else (some false)))))))) else (none)) else ((spec_l1In.f (x0.size : Int) 1 8).bind fun t261 => (if t261 = true then ((spec_l3Digits.f k x0).bind fun t262 => (if t262 = true then ((spec_l3Number.f k x0).bind fun t263 => (some (decide (t263 ≥ 0)))) else (some true))) else (some false)))
def spec_l3Part.f (k : Nat) (a0 : ByteArray) : Option (Bool) := spec_l3Part.l0 k a0 0
set_option maxHeartbeats 8000000 in
set_option maxRecDepth 100000 in
theorem spec_l3Part.calls (k : Nat) (a0 : ByteArray) (r : Bool) (w : World) (h : spec_l3Part.f k a0 = some r) :
  Calls Tryz.prog 109 #[.string a0] w fun e w' => e = .returned (.bool r) ∧ Drawn0 w w' := by
 have H := h
 unfold spec_l3Part.f at H
 clear h
 have H' := zi H
 clear H
 go_enter Tryz.func109, Tryz.ntmps109
 go_wp2
 go_loopg [3] k (fun kq v3 w' => ∃ (x3_1 : Int), v3 = .int .i64 x3_1 ∧ Aside0 (spec_l3Part.l0 kq a0 x3_1 = some r) ∧ Aside0 (kq ≤ k) ∧ Drawn0 w w')
 case atStart => exact ⟨(0), z1d, H', ⟨Nat.le_refl _⟩, z1n⟩
 case round =>
  clear H'
  try clear c1
  obtain ⟨x3_1, rfl, HA, HK1, ⟨m1, rfl⟩⟩ := hrel
  cases gk with
  | zero => exact absurd HA.out (by simp [spec_l3Part.l0])
  | succ k1 =>
   have H := HA.out
   clear HA
   simp only [spec_l3Part.l0] at H
   by_cases c2 : x3_1 < (a0.size : Int)
   ·rw [if_pos c2] at H
    have c2b0 := decide_eq_true c2
    clear c2
    by_cases c3 : 0 ≤ x3_1
    ·rw [if_pos c3] at H
     have c3b0 := decide_eq_true c3
     clear c3
     replace H := Option.bind_eq_some_iff.mp H
     obtain ⟨t264, A50, H⟩ := H
     try dsimp only at H
     have A5 := zi A50
     clear A50
     by_cases c6 : t264 = true
     ·subst c6
      rw [if_pos rfl] at H
      have H' := zi H
      clear H
      have p4 : 0 ≤ (x3_1 : Int) := of_decide_eq_true z1e
      have q4 : x3_1 < (a0.size : Int) := of_decide_eq_true z1e
      have hx4 := bt_at a0 x3_1
      replace p4 := eq_true p4
      replace q4 := eq_true q4
      go_wp2_with (first | ((with_reducible refine gate_callee (f := 93) rfl ?_); refine goesL_ (some 16) rfl rfl Tryz.func93 z1a rfl #[.int .i64 (wrap64 (bt a0 x3_1)), .int .i64 97, .int .i64 122] rfl z1b ?_; (with_reducible refine (spec_l1In.calls (wrap64 (bt a0 x3_1)) 97 122 true _ A5.out).mono ?_); rintro e w' ⟨rfl, ⟨nd, rfl⟩⟩; refine ⟨_, rfl, ?_⟩))
      go_roundg k1
      case measure => have := HK1.out; omega
      case rel => exact ⟨(wrap64 (x3_1 + 1)), z1d, H', ⟨z1h⟩, z1n⟩
     ·replace c6 := Bool.eq_false_iff.mpr c6
      subst c6
      rw [if_neg zj] at H
      replace H := Option.bind_eq_some_iff.mp H
      obtain ⟨t265, A70, H⟩ := H
      try dsimp only at H
      have A7 := zi A70
      clear A70
      by_cases c8 : t265 = true
      ·subst c8
       rw [if_pos rfl] at H
       have H' := zi H
       clear H
       have p4 : 0 ≤ (x3_1 : Int) := of_decide_eq_true z1e
       have q4 : x3_1 < (a0.size : Int) := of_decide_eq_true z1e
       have hx4 := bt_at a0 x3_1
       replace p4 := eq_true p4
       replace q4 := eq_true q4
       go_wp2_with (first | ((with_reducible refine gate_callee (f := 93) rfl ?_); refine goesL_ (some 16) rfl rfl Tryz.func93 z1a rfl #[.int .i64 (wrap64 (bt a0 x3_1)), .int .i64 97, .int .i64 122] rfl z1b ?_; (with_reducible refine (spec_l1In.calls (wrap64 (bt a0 x3_1)) 97 122 false _ A5.out).mono ?_); rintro e w' ⟨rfl, ⟨nd, rfl⟩⟩; refine ⟨_, rfl, ?_⟩) | (go_at_call 93; (with_reducible refine (spec_l1In.calls (wrap64 (bt a0 x3_1)) 65 90 true _ A7.out).mono ?_); rintro e w' ⟨rfl, ⟨nd, rfl⟩⟩))
       go_roundg k1
       case measure => have := HK1.out; omega
       case rel => exact ⟨(wrap64 (x3_1 + 1)), z1d, H', ⟨z1h⟩, z1n⟩
      ·replace c8 := Bool.eq_false_iff.mpr c8
       subst c8
       rw [if_neg zj] at H
       replace H := Option.bind_eq_some_iff.mp H
       obtain ⟨t266, A90, H⟩ := H
       try dsimp only at H
       have A9 := zi A90
       clear A90
       by_cases c10 : t266 = true
       ·subst c10
        rw [if_pos rfl] at H
        have H' := zi H
        clear H
        have p4 : 0 ≤ (x3_1 : Int) := of_decide_eq_true z1e
        have q4 : x3_1 < (a0.size : Int) := of_decide_eq_true z1e
        have hx4 := bt_at a0 x3_1
        replace p4 := eq_true p4
        replace q4 := eq_true q4
        go_wp2_with (first | ((with_reducible refine gate_callee (f := 93) rfl ?_); refine goesL_ (some 16) rfl rfl Tryz.func93 z1a rfl #[.int .i64 (wrap64 (bt a0 x3_1)), .int .i64 97, .int .i64 122] rfl z1b ?_; (with_reducible refine (spec_l1In.calls (wrap64 (bt a0 x3_1)) 97 122 false _ A5.out).mono ?_); rintro e w' ⟨rfl, ⟨nd, rfl⟩⟩; refine ⟨_, rfl, ?_⟩) | (go_at_call 93; (with_reducible refine (spec_l1In.calls (wrap64 (bt a0 x3_1)) 65 90 false _ A7.out).mono ?_); rintro e w' ⟨rfl, ⟨nd, rfl⟩⟩) | (go_at_call 93; (with_reducible refine (spec_l1In.calls (wrap64 (bt a0 x3_1)) 48 57 true _ A9.out).mono ?_); rintro e w' ⟨rfl, ⟨nd, rfl⟩⟩))
        go_roundg k1
        case measure => have := HK1.out; omega
        case rel => exact ⟨(wrap64 (x3_1 + 1)), z1d, H', ⟨z1h⟩, z1n⟩
       ·replace c10 := Bool.eq_false_iff.mpr c10
        subst c10
        rw [if_neg zj] at H
        by_cases c11 : (wrap64 (bt a0 x3_1)) = 45
        ·rw [if_pos c11] at H
         have c11b0 : ((wrap64 (bt a0 x3_1)) == 45) = true := beq_iff_eq.mpr c11
         have c11b1 : ((wrap64 (bt a0 x3_1)) != 45) = false := bne_eq_false_iff_eq.mpr c11
         clear c11
         have H' := zi H
         clear H
         have p4 : 0 ≤ (x3_1 : Int) := of_decide_eq_true z1e
         have q4 : x3_1 < (a0.size : Int) := of_decide_eq_true z1e
         have hx4 := bt_at a0 x3_1
         replace p4 := eq_true p4
         replace q4 := eq_true q4
         go_wp2_with (first | ((with_reducible refine gate_callee (f := 93) rfl ?_); refine goesL_ (some 16) rfl rfl Tryz.func93 z1a rfl #[.int .i64 (wrap64 (bt a0 x3_1)), .int .i64 97, .int .i64 122] rfl z1b ?_; (with_reducible refine (spec_l1In.calls (wrap64 (bt a0 x3_1)) 97 122 false _ A5.out).mono ?_); rintro e w' ⟨rfl, ⟨nd, rfl⟩⟩; refine ⟨_, rfl, ?_⟩) | (go_at_call 93; (with_reducible refine (spec_l1In.calls (wrap64 (bt a0 x3_1)) 65 90 false _ A7.out).mono ?_); rintro e w' ⟨rfl, ⟨nd, rfl⟩⟩) | (go_at_call 93; (with_reducible refine (spec_l1In.calls (wrap64 (bt a0 x3_1)) 48 57 false _ A9.out).mono ?_); rintro e w' ⟨rfl, ⟨nd, rfl⟩⟩))
         go_roundg k1
         case measure => have := HK1.out; omega
         case rel => exact ⟨(wrap64 (x3_1 + 1)), z1d, H', ⟨z1h⟩, z1n⟩
        ·rw [if_neg c11] at H
         have c11b0 : ((wrap64 (bt a0 x3_1)) == 45) = false := beq_eq_false_iff_ne.mpr c11
         have c11b1 : ((wrap64 (bt a0 x3_1)) != 45) = true := bne_iff_ne.mpr c11
         obtain rfl := Option.some.inj H
         have p4 : 0 ≤ (x3_1 : Int) := of_decide_eq_true z1e
         have q4 : x3_1 < (a0.size : Int) := of_decide_eq_true z1e
         have hx4 := bt_at a0 x3_1
         replace p4 := eq_true p4
         replace q4 := eq_true q4
         go_wp2_with (first | ((with_reducible refine gate_callee (f := 93) rfl ?_); refine goesL_ (some 16) rfl rfl Tryz.func93 z1a rfl #[.int .i64 (wrap64 (bt a0 x3_1)), .int .i64 97, .int .i64 122] rfl z1b ?_; (with_reducible refine (spec_l1In.calls (wrap64 (bt a0 x3_1)) 97 122 false _ A5.out).mono ?_); rintro e w' ⟨rfl, ⟨nd, rfl⟩⟩; refine ⟨_, rfl, ?_⟩) | (go_at_call 93; (with_reducible refine (spec_l1In.calls (wrap64 (bt a0 x3_1)) 65 90 false _ A7.out).mono ?_); rintro e w' ⟨rfl, ⟨nd, rfl⟩⟩) | (go_at_call 93; (with_reducible refine (spec_l1In.calls (wrap64 (bt a0 x3_1)) 48 57 false _ A9.out).mono ?_); rintro e w' ⟨rfl, ⟨nd, rfl⟩⟩))
         go_ret
         exact ⟨z1d, z1n⟩
    ·rw [if_neg c3] at H
     exact absurd H (by simp)
   ·rw [if_neg c2] at H
    have c2b0 := decide_eq_false c2
    clear c2
    replace H := Option.bind_eq_some_iff.mp H
    obtain ⟨t261, A120, H⟩ := H
    try dsimp only at H
    have A12 := zi A120
    clear A120
    by_cases c13 : t261 = true
    ·subst c13
     rw [if_pos rfl] at H
     replace H := Option.bind_eq_some_iff.mp H
     obtain ⟨t262, A140, H⟩ := H
     try dsimp only at H
     have A14 := zi A140
     clear A140
     by_cases c15 : t262 = true
     ·subst c15
      rw [if_pos rfl] at H
      replace H := Option.bind_eq_some_iff.mp H
      obtain ⟨t263, A160, H⟩ := H
      try dsimp only at H
      have A16 := zi A160
      clear A160
      obtain rfl := Option.some.inj H
      go_wp2_with (first | ((with_reducible refine gate_callee (f := 93) rfl ?_); refine goesL_ (some 34) rfl rfl Tryz.func93 z1a rfl #[.int .i64 (a0.size : Int), .int .i64 1, .int .i64 8] rfl z1b ?_; (with_reducible refine (spec_l1In.calls (a0.size : Int) 1 8 true _ A12.out).mono ?_); rintro e w' ⟨rfl, ⟨nd, rfl⟩⟩; refine ⟨_, rfl, ?_⟩) | (go_at_call 107; (with_reducible refine (spec_l3Digits.calls k1 a0 true _ A14.out).mono ?_); rintro e w' ⟨rfl, ⟨nd, rfl⟩⟩) | (go_at_call 87; (with_reducible refine (spec_l3Number.calls k1 a0 t263 _ A16.out).mono ?_); rintro e w' ⟨rfl, ⟨nd, rfl⟩⟩))
      go_ret
      exact ⟨z1d, z1n⟩
     ·replace c15 := Bool.eq_false_iff.mpr c15
      subst c15
      rw [if_neg zj] at H
      obtain rfl := Option.some.inj H
      go_wp2_with (first | ((with_reducible refine gate_callee (f := 93) rfl ?_); refine goesL_ (some 34) rfl rfl Tryz.func93 z1a rfl #[.int .i64 (a0.size : Int), .int .i64 1, .int .i64 8] rfl z1b ?_; (with_reducible refine (spec_l1In.calls (a0.size : Int) 1 8 true _ A12.out).mono ?_); rintro e w' ⟨rfl, ⟨nd, rfl⟩⟩; refine ⟨_, rfl, ?_⟩) | (go_at_call 107; (with_reducible refine (spec_l3Digits.calls k1 a0 false _ A14.out).mono ?_); rintro e w' ⟨rfl, ⟨nd, rfl⟩⟩))
      go_ret
      exact ⟨z1d, z1n⟩
    ·replace c13 := Bool.eq_false_iff.mpr c13
     subst c13
     rw [if_neg zj] at H
     obtain rfl := Option.some.inj H
     go_wp2_with (first | ((with_reducible refine gate_callee (f := 93) rfl ?_); refine goesL_ (some 34) rfl rfl Tryz.func93 z1a rfl #[.int .i64 (a0.size : Int), .int .i64 1, .int .i64 8] rfl z1b ?_; (with_reducible refine (spec_l1In.calls (a0.size : Int) 1 8 false _ A12.out).mono ?_); rintro e w' ⟨rfl, ⟨nd, rfl⟩⟩; refine ⟨_, rfl, ?_⟩))
     go_ret
     exact ⟨z1d, z1n⟩
def spec_l3Pre.l0 : Nat → List ByteArray → Int → Option (Bool)
 | 0, _, _ => none
 | k + 1, x3, x4 => if x4 < (x3.length : Int) then (if 0 ≤ x4 then ((spec_l3Part.f k (rdOf ByteArray.empty x3 x4)).bind fun t271 => (if t271 = true then (spec_l3Pre.l0 k x3 (wrap64 (x4 + 1))) else (some false))) else (none)) else (some (decide ((x3.length : Int) ≤ 4)))
def spec_l3Pre.f (k : Nat) (a0 : ByteArray) : Option (Bool) := (spec_l3Split.f k a0 46).bind fun t267 => (spec_l3Pre.l0 k t267 0)
set_option maxHeartbeats 8000000 in
set_option maxRecDepth 100000 in
theorem spec_l3Pre.calls (k : Nat) (a0 : ByteArray) (r : Bool) (w : World) (h : spec_l3Pre.f k a0 = some r) :
  Calls Tryz.prog 94 #[.string a0] w fun e w' => e = .returned (.bool r) ∧ Below w.heap.size w w' := by
 have HB := zi (Below.refl w.heap.size w)
 have H := h
 unfold spec_l3Pre.f at H
 clear h
 replace H := Option.bind_eq_some_iff.mp H
 obtain ⟨t267, A20, H⟩ := H
 try dsimp only at H
 have A2 := zi A20
 clear A20
 have H' := zi H
 clear H
 go_enter Tryz.func94, Tryz.ntmps94
 go_wp2_with (first | ((with_reducible refine gate_callee (f := 56) rfl ?_); refine goesL_ (some 6) rfl rfl Tryz.func56 z1a rfl #[.string a0, .int .u8 46] rfl z1b ?_; (with_reducible refine (spec_l3Split.calls k a0 46 t267 _ A2.out).mono ?_); rintro e w3 ⟨v268, rfl, ho0, hb⟩; refine ⟨_, rfl, ?_⟩; have n0_ := zi (Kd.R_lower ho0 (below_size zt)); have n1_ := zi (below_step zt hb); clear HB; have HO269 := n0_; have HB := n1_; clear n0_ n1_; (try clear hb); (try clear hb2); (try clear hk); (try clear hi); (try clear ho0)))
 go_loopg [4] k (fun kq v4 w' => ∃ (x4_1 : Int), v4 = .int .i64 x4_1 ∧ Aside0 (spec_l3Pre.l0 kq t267 x4_1 = some r) ∧ Aside0 (kq ≤ k) ∧ Aside0 (Kd.R Kd.string 9 w' w.heap.size (fun _ => True) v268 t267) ∧ Aside0 (Below w.heap.size w w'))
 case atStart => exact ⟨(0), z1d, H', ⟨Nat.le_refl _⟩, ⟨by (with_reducible repeat (first | apply Kd.R_alloc | apply Kd.R_drewN | apply Kd.R_drew)); exact HO269.out⟩, ⟨zt⟩⟩
 case round =>
  clear H'
  try clear p2
  obtain ⟨x4_1, rfl, HA, HK1, HO_3, HB⟩ := hrel
  cases gk with
  | zero => exact absurd HA.out (by simp [spec_l3Pre.l0])
  | succ k1 =>
   have H := HA.out
   clear HA
   simp only [spec_l3Pre.l0] at H
   by_cases c4 : x4_1 < (t267.length : Int)
   ·rw [if_pos c4] at H
    have c4b0 := decide_eq_true c4
    clear c4
    by_cases c5 : 0 ≤ x4_1
    ·rw [if_pos c5] at H
     have c5b0 := decide_eq_true c5
     clear c5
     replace H := Option.bind_eq_some_iff.mp H
     obtain ⟨t271, A60, H⟩ := H
     try dsimp only at H
     have A6 := zi A60
     clear A60
     by_cases c7 : t271 = true
     ·subst c7
      rw [if_pos rfl] at H
      have H' := zi H
      clear H
      obtain ⟨Ao8, co8, eo8⟩ := Kd.R_slice HO_3.out
      subst eo8
      have p270 : 0 ≤ (x4_1 : Int) := of_decide_eq_true z1e
      have q270 : x4_1 < (t267.length : Int) := of_decide_eq_true z1e
      obtain ⟨ad270, e270, hx270_0⟩ := Kd.at_string (Kd.R_reads' HO_3.out).2.2 x4_1 p270 q270
      cases e270
      replace p270 := eq_true p270
      replace q270 := eq_true q270
      go_wp2_with (first | ((with_reducible refine gate_callee (f := 109) rfl ?_); refine goesL_ (some 17) rfl rfl Tryz.func109 z1a rfl #[.string (rdOf ByteArray.empty t267 x4_1)] rfl z1b ?_; (with_reducible refine (spec_l3Part.calls k1 (rdOf ByteArray.empty t267 x4_1) true _ A6.out).mono ?_); rintro e w' ⟨rfl, ⟨nd, rfl⟩⟩; refine ⟨_, rfl, ?_⟩))
      go_roundg k1
      case measure => have := HK1.out; omega
      case rel => exact ⟨(wrap64 (x4_1 + 1)), z1d, H', ⟨z1h⟩, ⟨z1o⟩, ⟨zt⟩⟩
     ·replace c7 := Bool.eq_false_iff.mpr c7
      subst c7
      rw [if_neg zj] at H
      obtain rfl := Option.some.inj H
      obtain ⟨Ao9, co9, eo9⟩ := Kd.R_slice HO_3.out
      subst eo9
      have p270 : 0 ≤ (x4_1 : Int) := of_decide_eq_true z1e
      have q270 : x4_1 < (t267.length : Int) := of_decide_eq_true z1e
      obtain ⟨ad270, e270, hx270_0⟩ := Kd.at_string (Kd.R_reads' HO_3.out).2.2 x4_1 p270 q270
      cases e270
      replace p270 := eq_true p270
      replace q270 := eq_true q270
      go_wp2_with (first | ((with_reducible refine gate_callee (f := 109) rfl ?_); refine goesL_ (some 17) rfl rfl Tryz.func109 z1a rfl #[.string (rdOf ByteArray.empty t267 x4_1)] rfl z1b ?_; (with_reducible refine (spec_l3Part.calls k1 (rdOf ByteArray.empty t267 x4_1) false _ A6.out).mono ?_); rintro e w' ⟨rfl, ⟨nd, rfl⟩⟩; refine ⟨_, rfl, ?_⟩))
      go_ret
      exact ⟨zw, zt⟩
    ·rw [if_neg c5] at H
     exact absurd H (by simp)
   ·rw [if_neg c4] at H
    have c4b0 := decide_eq_false c4
    clear c4
    obtain rfl := Option.some.inj H
    obtain ⟨Ao10, co10, eo10⟩ := Kd.R_slice HO_3.out
    subst eo10
    go_wp2
    go_ret
    exact ⟨zw, zt⟩
def spec_VersionOk.f (k : Nat) (a0_0 : Int) (a0_1 : Int) (a0_2 : Int) (a0_3 : ByteArray) : Option (Bool) := (spec_l1In.f a0_0 0 1000000).bind fun t273 => (if t273 = true then ((spec_l1In.f a0_1 0 1000000).bind fun t274 => (if t274 = true then ((spec_l1In.f a0_2 0 1000000).bind fun t275 => (if t275 = true then (if a0_3.toList = ([] : List UInt8) then (some true) else ((spec_l3Pre.f k a0_3).bind fun t276 => (some t276))) else (some false))) else (some false))) else (some false))
set_option maxHeartbeats 8000000 in
set_option maxRecDepth 100000 in
theorem spec_VersionOk.calls (k : Nat) (a0_0 : Int) (a0_1 : Int) (a0_2 : Int) (a0_3 : ByteArray) (r : Bool) (w : World) (h : spec_VersionOk.f k a0_0 a0_1 a0_2 a0_3 = some r) :
  Calls Tryz.prog 68 #[.agg #[.int .i64 a0_0, .int .i64 a0_1, .int .i64 a0_2, .string a0_3]] w fun e w' => e = .returned (.bool r) ∧ Below w.heap.size w w' := by
 have hu25 := Tryz.underlying25
 have HB := zi (Below.refl w.heap.size w)
 have H := h
 unfold spec_VersionOk.f at H
 clear h
 replace H := Option.bind_eq_some_iff.mp H
 obtain ⟨t273, A20, H⟩ := H
 try dsimp only at H
 have A2 := zi A20
 clear A20
 by_cases c3 : t273 = true
 ·subst c3
  rw [if_pos rfl] at H
  replace H := Option.bind_eq_some_iff.mp H
  obtain ⟨t274, A40, H⟩ := H
  try dsimp only at H
  have A4 := zi A40
  clear A40
  by_cases c5 : t274 = true
  ·subst c5
   rw [if_pos rfl] at H
   replace H := Option.bind_eq_some_iff.mp H
   obtain ⟨t275, A60, H⟩ := H
   try dsimp only at H
   have A6 := zi A60
   clear A60
   by_cases c7 : t275 = true
   ·subst c7
    rw [if_pos rfl] at H
    by_cases c8 : a0_3.toList = ([] : List UInt8)
    ·rw [if_pos c8] at H
     have c8b0 : (a0_3.toList == ([] : List UInt8)) = true := beq_iff_eq.mpr c8
     have c8b1 : (a0_3.toList != ([] : List UInt8)) = false := bne_eq_false_iff_eq.mpr c8
     clear c8
     obtain rfl := Option.some.inj H
     go_enter Tryz.func68, Tryz.ntmps68
     go_wp2_with (first | ((with_reducible refine gate_dst (N := 1) rfl ?_); refine box_event zr (N := 1) zr (cs := #[.int .i64 a0_0, .int .i64 a0_1, .int .i64 a0_2, .string a0_3]) (t := 25) zs ?_; intro gb272 hg w9 hbox hb; have n0_ := zi (below_step zt hb); have n1_ := zi hbox; have n2_ := zi ((z5s : w.heap.size ≤ gb272)); have n3_ := zi ((z5s : w.heap.size ≤ gb272)); clear HB; have HB := n0_; have BK272 := n1_; have GW272 := n2_; have GE272 := n3_; clear n0_ n1_ n2_ n3_; clear hb hbox hg; obtain ⟨hcz10_0, hcz10_1, hcz10_2, hcz10_3, hfz10_0, hfz10_1, hfz10_2, hfz10_3⟩ := ze BK272.out) | ((with_reducible refine gate_callee (f := 93) rfl ?_); refine goesL_ (some 5) rfl rfl Tryz.func93 z1a rfl #[.int .i64 a0_0, .int .i64 0, .int .i64 1000000] rfl z1b ?_; (with_reducible refine (spec_l1In.calls a0_0 0 1000000 true _ A2.out).mono ?_); rintro e w' ⟨rfl, ⟨nd, rfl⟩⟩; refine ⟨_, rfl, ?_⟩) | (go_at_call 93; (with_reducible refine (spec_l1In.calls a0_1 0 1000000 true _ A4.out).mono ?_); rintro e w' ⟨rfl, ⟨nd, rfl⟩⟩) | (go_at_call 93; (with_reducible refine (spec_l1In.calls a0_2 0 1000000 true _ A6.out).mono ?_); rintro e w' ⟨rfl, ⟨nd, rfl⟩⟩))
     go_ret
     exact ⟨zw, z3t⟩
    ·rw [if_neg c8] at H
     have c8b0 : (a0_3.toList == ([] : List UInt8)) = false := beq_eq_false_iff_ne.mpr c8
     have c8b1 : (a0_3.toList != ([] : List UInt8)) = true := bne_iff_ne.mpr c8
     replace H := Option.bind_eq_some_iff.mp H
     obtain ⟨t276, A110, H⟩ := H
     try dsimp only at H
     have A11 := zi A110
     clear A110
     obtain rfl := Option.some.inj H
     go_enter Tryz.func68, Tryz.ntmps68
     go_wp2_with (first | ((with_reducible refine gate_dst (N := 1) rfl ?_); refine box_event zr (N := 1) zr (cs := #[.int .i64 a0_0, .int .i64 a0_1, .int .i64 a0_2, .string a0_3]) (t := 25) zs ?_; intro gb272 hg w12 hbox hb; have n0_ := zi (below_step zt hb); have n1_ := zi hbox; have n2_ := zi ((z5s : w.heap.size ≤ gb272)); have n3_ := zi ((z5s : w.heap.size ≤ gb272)); clear HB; have HB := n0_; have BK272 := n1_; have GW272 := n2_; have GE272 := n3_; clear n0_ n1_ n2_ n3_; clear hb hbox hg; obtain ⟨hcz13_0, hcz13_1, hcz13_2, hcz13_3, hfz13_0, hfz13_1, hfz13_2, hfz13_3⟩ := ze BK272.out) | ((with_reducible refine gate_callee (f := 93) rfl ?_); refine goesL_ (some 5) rfl rfl Tryz.func93 z1a rfl #[.int .i64 a0_0, .int .i64 0, .int .i64 1000000] rfl z1b ?_; (with_reducible refine (spec_l1In.calls a0_0 0 1000000 true _ A2.out).mono ?_); rintro e w' ⟨rfl, ⟨nd, rfl⟩⟩; refine ⟨_, rfl, ?_⟩) | (go_at_call 93; (with_reducible refine (spec_l1In.calls a0_1 0 1000000 true _ A4.out).mono ?_); rintro e w' ⟨rfl, ⟨nd, rfl⟩⟩) | (go_at_call 93; (with_reducible refine (spec_l1In.calls a0_2 0 1000000 true _ A6.out).mono ?_); rintro e w' ⟨rfl, ⟨nd, rfl⟩⟩) | (go_at_call 94; (with_reducible refine (spec_l3Pre.calls k a0_3 t276 _ A11.out).mono ?_); rintro e w14 ⟨rfl, hb⟩; have n0_ := zi (blk_below (g := gb272) (o := .cells #[.int .i64 a0_0, .int .i64 a0_1, .int .i64 a0_2, .string a0_3] 25 (0, 0)) (by (repeat refine zh ?_); exact BK272.out) hb); have n1_ := zi (below_step z3t hb); clear BK272; clear HB; have BK272 := n0_; have HB := n1_; clear n0_ n1_; (try clear hb); (try clear hb2); (try clear hk); (try clear hi)))
     go_ret
     exact ⟨zw, z3t⟩
   ·replace c7 := Bool.eq_false_iff.mpr c7
    subst c7
    rw [if_neg zj] at H
    obtain rfl := Option.some.inj H
    go_enter Tryz.func68, Tryz.ntmps68
    go_wp2_with (first | ((with_reducible refine gate_dst (N := 1) rfl ?_); refine box_event zr (N := 1) zr (cs := #[.int .i64 a0_0, .int .i64 a0_1, .int .i64 a0_2, .string a0_3]) (t := 25) zs ?_; intro gb272 hg w15 hbox hb; have n0_ := zi (below_step zt hb); have n1_ := zi hbox; have n2_ := zi ((z5s : w.heap.size ≤ gb272)); have n3_ := zi ((z5s : w.heap.size ≤ gb272)); clear HB; have HB := n0_; have BK272 := n1_; have GW272 := n2_; have GE272 := n3_; clear n0_ n1_ n2_ n3_; clear hb hbox hg; obtain ⟨hcz16_0, hcz16_1, hcz16_2, hcz16_3, hfz16_0, hfz16_1, hfz16_2, hfz16_3⟩ := ze BK272.out) | ((with_reducible refine gate_callee (f := 93) rfl ?_); refine goesL_ (some 5) rfl rfl Tryz.func93 z1a rfl #[.int .i64 a0_0, .int .i64 0, .int .i64 1000000] rfl z1b ?_; (with_reducible refine (spec_l1In.calls a0_0 0 1000000 true _ A2.out).mono ?_); rintro e w' ⟨rfl, ⟨nd, rfl⟩⟩; refine ⟨_, rfl, ?_⟩) | (go_at_call 93; (with_reducible refine (spec_l1In.calls a0_1 0 1000000 true _ A4.out).mono ?_); rintro e w' ⟨rfl, ⟨nd, rfl⟩⟩) | (go_at_call 93; (with_reducible refine (spec_l1In.calls a0_2 0 1000000 false _ A6.out).mono ?_); rintro e w' ⟨rfl, ⟨nd, rfl⟩⟩))
    go_ret
    exact ⟨zw, z3t⟩
  ·replace c5 := Bool.eq_false_iff.mpr c5
   subst c5
   rw [if_neg zj] at H
   obtain rfl := Option.some.inj H
   go_enter Tryz.func68, Tryz.ntmps68
   go_wp2_with (first | ((with_reducible refine gate_dst (N := 1) rfl ?_); refine box_event zr (N := 1) zr (cs := #[.int .i64 a0_0, .int .i64 a0_1, .int .i64 a0_2, .string a0_3]) (t := 25) zs ?_; intro gb272 hg w17 hbox hb; have n0_ := zi (below_step zt hb); have n1_ := zi hbox; have n2_ := zi ((z5s : w.heap.size ≤ gb272)); have n3_ := zi ((z5s : w.heap.size ≤ gb272)); clear HB; have HB := n0_; have BK272 := n1_; have GW272 := n2_; have GE272 := n3_; clear n0_ n1_ n2_ n3_; clear hb hbox hg; obtain ⟨hcz18_0, hcz18_1, hcz18_2, hcz18_3, hfz18_0, hfz18_1, hfz18_2, hfz18_3⟩ := ze BK272.out) | ((with_reducible refine gate_callee (f := 93) rfl ?_); refine goesL_ (some 5) rfl rfl Tryz.func93 z1a rfl #[.int .i64 a0_0, .int .i64 0, .int .i64 1000000] rfl z1b ?_; (with_reducible refine (spec_l1In.calls a0_0 0 1000000 true _ A2.out).mono ?_); rintro e w' ⟨rfl, ⟨nd, rfl⟩⟩; refine ⟨_, rfl, ?_⟩) | (go_at_call 93; (with_reducible refine (spec_l1In.calls a0_1 0 1000000 false _ A4.out).mono ?_); rintro e w' ⟨rfl, ⟨nd, rfl⟩⟩))
   go_ret
   exact ⟨zw, z3t⟩
 ·replace c3 := Bool.eq_false_iff.mpr c3
  subst c3
  rw [if_neg zj] at H
  obtain rfl := Option.some.inj H
  go_enter Tryz.func68, Tryz.ntmps68
  go_wp2_with (first | ((with_reducible refine gate_dst (N := 1) rfl ?_); refine box_event zr (N := 1) zr (cs := #[.int .i64 a0_0, .int .i64 a0_1, .int .i64 a0_2, .string a0_3]) (t := 25) zs ?_; intro gb272 hg w19 hbox hb; have n0_ := zi (below_step zt hb); have n1_ := zi hbox; have n2_ := zi ((z5s : w.heap.size ≤ gb272)); have n3_ := zi ((z5s : w.heap.size ≤ gb272)); clear HB; have HB := n0_; have BK272 := n1_; have GW272 := n2_; have GE272 := n3_; clear n0_ n1_ n2_ n3_; clear hb hbox hg; obtain ⟨hcz20_0, hcz20_1, hcz20_2, hcz20_3, hfz20_0, hfz20_1, hfz20_2, hfz20_3⟩ := ze BK272.out) | ((with_reducible refine gate_callee (f := 93) rfl ?_); refine goesL_ (some 5) rfl rfl Tryz.func93 z1a rfl #[.int .i64 a0_0, .int .i64 0, .int .i64 1000000] rfl z1b ?_; (with_reducible refine (spec_l1In.calls a0_0 0 1000000 false _ A2.out).mono ?_); rintro e w' ⟨rfl, ⟨nd, rfl⟩⟩; refine ⟨_, rfl, ?_⟩))
  go_ret
  exact ⟨zw, z3t⟩
def spec_Fits.f (k : Nat) (a0 : ByteArray) (a1_0 : Int) (a1_1 : Int) (a1_2 : Int) (a1_3 : ByteArray) : Option (Bool) := (spec_MajorOf.f k a0).bind fun t278 => (if t278 > 0 then ((spec_VersionOk.f k a1_0 a1_1 a1_2 a1_3).bind fun t279 => (if t279 = true then (if a1_0 = t278 then (some true) else (if t278 = 1 then (some (a1_0 == 0)) else (some false))) else (some false))) else (some false))
set_option maxHeartbeats 8000000 in
set_option maxRecDepth 100000 in
theorem spec_Fits.calls (k : Nat) (a0 : ByteArray) (a1_0 : Int) (a1_1 : Int) (a1_2 : Int) (a1_3 : ByteArray) (r : Bool) (w : World) (h : spec_Fits.f k a0 a1_0 a1_1 a1_2 a1_3 = some r) :
  Calls Tryz.prog 33 #[.string a0, .agg #[.int .i64 a1_0, .int .i64 a1_1, .int .i64 a1_2, .string a1_3]] w fun e w' => e = .returned (.bool r) ∧ Below w.heap.size w w' := by
 have hu25 := Tryz.underlying25
 have HB := zi (Below.refl w.heap.size w)
 have H := h
 unfold spec_Fits.f at H
 clear h
 replace H := Option.bind_eq_some_iff.mp H
 obtain ⟨t278, A30, H⟩ := H
 try dsimp only at H
 have A3 := zi A30
 clear A30
 by_cases c4 : t278 > 0
 ·rw [if_pos c4] at H
  have c4b0 := decide_eq_true c4
  clear c4
  replace H := Option.bind_eq_some_iff.mp H
  obtain ⟨t279, A50, H⟩ := H
  try dsimp only at H
  have A5 := zi A50
  clear A50
  by_cases c6 : t279 = true
  ·subst c6
   rw [if_pos rfl] at H
   by_cases c7 : a1_0 = t278
   ·rw [if_pos c7] at H
    have c7b0 : (a1_0 == t278) = true := beq_iff_eq.mpr c7
    have c7b1 : (a1_0 != t278) = false := bne_eq_false_iff_eq.mpr c7
    clear c7
    obtain rfl := Option.some.inj H
    go_enter Tryz.func33, Tryz.ntmps33
    go_wp2_with (first | ((with_reducible refine gate_dst (N := 3) rfl ?_); refine box_event zr (N := 3) zr (cs := #[.int .i64 a1_0, .int .i64 a1_1, .int .i64 a1_2, .string a1_3]) (t := 25) zs ?_; intro gb277 hg w8 hbox hb; have n0_ := zi (below_step zt hb); have n1_ := zi hbox; have n2_ := zi ((z5s : w.heap.size ≤ gb277)); have n3_ := zi ((z5s : w.heap.size ≤ gb277)); clear HB; have HB := n0_; have BK277 := n1_; have GW277 := n2_; have GE277 := n3_; clear n0_ n1_ n2_ n3_; clear hb hbox hg) | ((with_reducible refine gate_callee (f := 67) rfl ?_); refine goesL_ (some 7) rfl rfl Tryz.func67 z1a rfl #[.string a0] rfl z1b ?_; (with_reducible refine (spec_MajorOf.calls k a0 t278 _ A3.out).mono ?_); rintro e w9 ⟨rfl, hb⟩; refine ⟨_, rfl, ?_⟩; have n0_ := zi (blk_below (g := gb277) (o := .cells #[.int .i64 a1_0, .int .i64 a1_1, .int .i64 a1_2, .string a1_3] 25 (0, 0)) z3u hb); have n1_ := zi (below_step z3v hb); clear BK277; clear HB; have BK277 := n0_; have HB := n1_; clear n0_ n1_; (try clear hb); (try clear hb2); (try clear hk); (try clear hi); obtain ⟨hcz10_0, hcz10_1, hcz10_2, hcz10_3, hfz10_0, hfz10_1, hfz10_2, hfz10_3⟩ := ze BK277.out) | (go_at_call 68; (with_reducible refine (spec_VersionOk.calls k a1_0 a1_1 a1_2 a1_3 true _ A5.out).mono ?_); rintro e w11 ⟨rfl, hb⟩; have n0_ := zi (blk_below (g := gb277) (o := .cells #[.int .i64 a1_0, .int .i64 a1_1, .int .i64 a1_2, .string a1_3] 25 (0, 0)) z3u hb); have n1_ := zi (below_step z3v hb); clear BK277; clear HB; have BK277 := n0_; have HB := n1_; clear n0_ n1_; (try clear hb); (try clear hb2); (try clear hk); (try clear hi); obtain ⟨hcz12_0, hcz12_1, hcz12_2, hcz12_3, hfz12_0, hfz12_1, hfz12_2, hfz12_3⟩ := ze BK277.out))
    go_ret
    exact ⟨zw, z3v⟩
   ·rw [if_neg c7] at H
    have c7b0 : (a1_0 == t278) = false := beq_eq_false_iff_ne.mpr c7
    have c7b1 : (a1_0 != t278) = true := bne_iff_ne.mpr c7
    by_cases c13 : t278 = 1
    ·rw [if_pos c13] at H
     have c13b0 : (t278 == 1) = true := beq_iff_eq.mpr c13
     have c13b1 : (t278 != 1) = false := bne_eq_false_iff_eq.mpr c13
     clear c13
     obtain rfl := Option.some.inj H
     go_enter Tryz.func33, Tryz.ntmps33
     go_wp2_with (first | ((with_reducible refine gate_dst (N := 3) rfl ?_); refine box_event zr (N := 3) zr (cs := #[.int .i64 a1_0, .int .i64 a1_1, .int .i64 a1_2, .string a1_3]) (t := 25) zs ?_; intro gb277 hg w14 hbox hb; have n0_ := zi (below_step zt hb); have n1_ := zi hbox; have n2_ := zi ((z5s : w.heap.size ≤ gb277)); have n3_ := zi ((z5s : w.heap.size ≤ gb277)); clear HB; have HB := n0_; have BK277 := n1_; have GW277 := n2_; have GE277 := n3_; clear n0_ n1_ n2_ n3_; clear hb hbox hg) | ((with_reducible refine gate_callee (f := 67) rfl ?_); refine goesL_ (some 7) rfl rfl Tryz.func67 z1a rfl #[.string a0] rfl z1b ?_; (with_reducible refine (spec_MajorOf.calls k a0 t278 _ A3.out).mono ?_); rintro e w15 ⟨rfl, hb⟩; refine ⟨_, rfl, ?_⟩; have n0_ := zi (blk_below (g := gb277) (o := .cells #[.int .i64 a1_0, .int .i64 a1_1, .int .i64 a1_2, .string a1_3] 25 (0, 0)) z3u hb); have n1_ := zi (below_step z3v hb); clear BK277; clear HB; have BK277 := n0_; have HB := n1_; clear n0_ n1_; (try clear hb); (try clear hb2); (try clear hk); (try clear hi); obtain ⟨hcz16_0, hcz16_1, hcz16_2, hcz16_3, hfz16_0, hfz16_1, hfz16_2, hfz16_3⟩ := ze BK277.out) | (go_at_call 68; (with_reducible refine (spec_VersionOk.calls k a1_0 a1_1 a1_2 a1_3 true _ A5.out).mono ?_); rintro e w17 ⟨rfl, hb⟩; have n0_ := zi (blk_below (g := gb277) (o := .cells #[.int .i64 a1_0, .int .i64 a1_1, .int .i64 a1_2, .string a1_3] 25 (0, 0)) z3u hb); have n1_ := zi (below_step z3v hb); clear BK277; clear HB; have BK277 := n0_; have HB := n1_; clear n0_ n1_; (try clear hb); (try clear hb2); (try clear hk); (try clear hi); obtain ⟨hcz18_0, hcz18_1, hcz18_2, hcz18_3, hfz18_0, hfz18_1, hfz18_2, hfz18_3⟩ := ze BK277.out))
     go_ret
     exact ⟨zw, z3v⟩
    ·rw [if_neg c13] at H
     have c13b0 : (t278 == 1) = false := beq_eq_false_iff_ne.mpr c13
     have c13b1 : (t278 != 1) = true := bne_iff_ne.mpr c13
     obtain rfl := Option.some.inj H
     go_enter Tryz.func33, Tryz.ntmps33
     go_wp2_with (first | ((with_reducible refine gate_dst (N := 3) rfl ?_); refine box_event zr (N := 3) zr (cs := #[.int .i64 a1_0, .int .i64 a1_1, .int .i64 a1_2, .string a1_3]) (t := 25) zs ?_; intro gb277 hg w19 hbox hb; have n0_ := zi (below_step zt hb); have n1_ := zi hbox; have n2_ := zi ((z5s : w.heap.size ≤ gb277)); have n3_ := zi ((z5s : w.heap.size ≤ gb277)); clear HB; have HB := n0_; have BK277 := n1_; have GW277 := n2_; have GE277 := n3_; clear n0_ n1_ n2_ n3_; clear hb hbox hg) | ((with_reducible refine gate_callee (f := 67) rfl ?_); refine goesL_ (some 7) rfl rfl Tryz.func67 z1a rfl #[.string a0] rfl z1b ?_; (with_reducible refine (spec_MajorOf.calls k a0 t278 _ A3.out).mono ?_); rintro e w20 ⟨rfl, hb⟩; refine ⟨_, rfl, ?_⟩; have n0_ := zi (blk_below (g := gb277) (o := .cells #[.int .i64 a1_0, .int .i64 a1_1, .int .i64 a1_2, .string a1_3] 25 (0, 0)) z3u hb); have n1_ := zi (below_step z3v hb); clear BK277; clear HB; have BK277 := n0_; have HB := n1_; clear n0_ n1_; (try clear hb); (try clear hb2); (try clear hk); (try clear hi); obtain ⟨hcz21_0, hcz21_1, hcz21_2, hcz21_3, hfz21_0, hfz21_1, hfz21_2, hfz21_3⟩ := ze BK277.out) | (go_at_call 68; (with_reducible refine (spec_VersionOk.calls k a1_0 a1_1 a1_2 a1_3 true _ A5.out).mono ?_); rintro e w22 ⟨rfl, hb⟩; have n0_ := zi (blk_below (g := gb277) (o := .cells #[.int .i64 a1_0, .int .i64 a1_1, .int .i64 a1_2, .string a1_3] 25 (0, 0)) z3u hb); have n1_ := zi (below_step z3v hb); clear BK277; clear HB; have BK277 := n0_; have HB := n1_; clear n0_ n1_; (try clear hb); (try clear hb2); (try clear hk); (try clear hi); obtain ⟨hcz23_0, hcz23_1, hcz23_2, hcz23_3, hfz23_0, hfz23_1, hfz23_2, hfz23_3⟩ := ze BK277.out))
     go_ret
     exact ⟨zw, z3v⟩
  ·replace c6 := Bool.eq_false_iff.mpr c6
   subst c6
   rw [if_neg zj] at H
   obtain rfl := Option.some.inj H
   go_enter Tryz.func33, Tryz.ntmps33
   go_wp2_with (first | ((with_reducible refine gate_dst (N := 3) rfl ?_); refine box_event zr (N := 3) zr (cs := #[.int .i64 a1_0, .int .i64 a1_1, .int .i64 a1_2, .string a1_3]) (t := 25) zs ?_; intro gb277 hg w24 hbox hb; have n0_ := zi (below_step zt hb); have n1_ := zi hbox; have n2_ := zi ((z5s : w.heap.size ≤ gb277)); have n3_ := zi ((z5s : w.heap.size ≤ gb277)); clear HB; have HB := n0_; have BK277 := n1_; have GW277 := n2_; have GE277 := n3_; clear n0_ n1_ n2_ n3_; clear hb hbox hg) | ((with_reducible refine gate_callee (f := 67) rfl ?_); refine goesL_ (some 7) rfl rfl Tryz.func67 z1a rfl #[.string a0] rfl z1b ?_; (with_reducible refine (spec_MajorOf.calls k a0 t278 _ A3.out).mono ?_); rintro e w25 ⟨rfl, hb⟩; refine ⟨_, rfl, ?_⟩; have n0_ := zi (blk_below (g := gb277) (o := .cells #[.int .i64 a1_0, .int .i64 a1_1, .int .i64 a1_2, .string a1_3] 25 (0, 0)) z3u hb); have n1_ := zi (below_step z3v hb); clear BK277; clear HB; have BK277 := n0_; have HB := n1_; clear n0_ n1_; (try clear hb); (try clear hb2); (try clear hk); (try clear hi); obtain ⟨hcz26_0, hcz26_1, hcz26_2, hcz26_3, hfz26_0, hfz26_1, hfz26_2, hfz26_3⟩ := ze BK277.out) | (go_at_call 68; (with_reducible refine (spec_VersionOk.calls k a1_0 a1_1 a1_2 a1_3 false _ A5.out).mono ?_); rintro e w27 ⟨rfl, hb⟩; have n0_ := zi (blk_below (g := gb277) (o := .cells #[.int .i64 a1_0, .int .i64 a1_1, .int .i64 a1_2, .string a1_3] 25 (0, 0)) z3u hb); have n1_ := zi (below_step z3v hb); clear BK277; clear HB; have BK277 := n0_; have HB := n1_; clear n0_ n1_; (try clear hb); (try clear hb2); (try clear hk); (try clear hi)))
   go_ret
   exact ⟨zw, z3v⟩
 ·rw [if_neg c4] at H
  have c4b0 := decide_eq_false c4
  clear c4
  obtain rfl := Option.some.inj H
  go_enter Tryz.func33, Tryz.ntmps33
  go_wp2_with (first | ((with_reducible refine gate_dst (N := 3) rfl ?_); refine box_event zr (N := 3) zr (cs := #[.int .i64 a1_0, .int .i64 a1_1, .int .i64 a1_2, .string a1_3]) (t := 25) zs ?_; intro gb277 hg w28 hbox hb; have n0_ := zi (below_step zt hb); have n1_ := zi hbox; have n2_ := zi ((z5s : w.heap.size ≤ gb277)); have n3_ := zi ((z5s : w.heap.size ≤ gb277)); clear HB; have HB := n0_; have BK277 := n1_; have GW277 := n2_; have GE277 := n3_; clear n0_ n1_ n2_ n3_; clear hb hbox hg) | ((with_reducible refine gate_callee (f := 67) rfl ?_); refine goesL_ (some 7) rfl rfl Tryz.func67 z1a rfl #[.string a0] rfl z1b ?_; (with_reducible refine (spec_MajorOf.calls k a0 t278 _ A3.out).mono ?_); rintro e w29 ⟨rfl, hb⟩; refine ⟨_, rfl, ?_⟩; have n0_ := zi (blk_below (g := gb277) (o := .cells #[.int .i64 a1_0, .int .i64 a1_1, .int .i64 a1_2, .string a1_3] 25 (0, 0)) z3u hb); have n1_ := zi (below_step z3v hb); clear BK277; clear HB; have BK277 := n0_; have HB := n1_; clear n0_ n1_; (try clear hb); (try clear hb2); (try clear hk); (try clear hi)))
  go_ret
  exact ⟨zw, z3v⟩
def spec_NeedOk.f (k : Nat) (a0_0 : ByteArray) (a0_1 : Int) (a0_2 : Int) (a0_3 : Int) (a0_4 : ByteArray) : Option (Bool) := (spec_Fits.f k a0_0 a0_1 a0_2 a0_3 a0_4).bind fun t281 => (some t281)
set_option maxHeartbeats 8000000 in
set_option maxRecDepth 100000 in
theorem spec_NeedOk.calls (k : Nat) (a0_0 : ByteArray) (a0_1 : Int) (a0_2 : Int) (a0_3 : Int) (a0_4 : ByteArray) (r : Bool) (w : World) (h : spec_NeedOk.f k a0_0 a0_1 a0_2 a0_3 a0_4 = some r) :
  Calls Tryz.prog 69 #[.agg #[.string a0_0, .int .i64 a0_1, .int .i64 a0_2, .int .i64 a0_3, .string a0_4]] w fun e w' => e = .returned (.bool r) ∧ Below w.heap.size w w' := by
 have hu35 := Tryz.underlying35
 have hu25 := Tryz.underlying25
 have HB := zi (Below.refl w.heap.size w)
 have H := h
 unfold spec_NeedOk.f at H
 clear h
 replace H := Option.bind_eq_some_iff.mp H
 obtain ⟨t281, A20, H⟩ := H
 try dsimp only at H
 have A2 := zi A20
 clear A20
 obtain rfl := Option.some.inj H
 go_enter Tryz.func69, Tryz.ntmps69
 go_wp2_with (first | ((with_reducible refine gate_dst (N := 1) rfl ?_); refine box_event zr (N := 1) zr (cs := #[.string a0_0, .int .i64 a0_1, .int .i64 a0_2, .int .i64 a0_3, .string a0_4]) (t := 35) zs ?_; intro gb280 hg w3 hbox hb; have n0_ := zi (below_step zt hb); have n1_ := zi hbox; have n2_ := zi ((z5s : w.heap.size ≤ gb280)); have n3_ := zi ((z5s : w.heap.size ≤ gb280)); clear HB; have HB := n0_; have BK280 := n1_; have GW280 := n2_; have GE280 := n3_; clear n0_ n1_ n2_ n3_; clear hb hbox hg; obtain ⟨hcz4_0, hcz4_1, hcz4_2, hcz4_3, hcz4_4, hfz4_0, hfz4_1, hfz4_2, hfz4_3, hfz4_4⟩ := zf BK280.out) | ((with_reducible refine gate_callee (f := 33) rfl ?_); refine goesL_ (some 7) rfl rfl Tryz.func33 z1a rfl #[.string a0_0, .agg #[.int .i64 a0_1, .int .i64 a0_2, .int .i64 a0_3, .string a0_4]] rfl z1b ?_; (with_reducible refine (spec_Fits.calls k a0_0 a0_1 a0_2 a0_3 a0_4 t281 _ A2.out).mono ?_); rintro e w5 ⟨rfl, hb⟩; refine ⟨_, rfl, ?_⟩; have n0_ := zi (blk_below (g := gb280) (o := .cells #[.string a0_0, .int .i64 a0_1, .int .i64 a0_2, .int .i64 a0_3, .string a0_4] 35 (0, 0)) (by (repeat refine zh ?_); exact BK280.out) hb); have n1_ := zi (below_step (by repeat (first | (with_reducible first | exact HB.out | apply below_alloc | apply pw_below_drewN | apply below_drew1 | refine below_set ?_ GE280.out) | exact HB.out)) hb); clear BK280; clear HB; have BK280 := n0_; have HB := n1_; clear n0_ n1_; (try clear hb); (try clear hb2); (try clear hk); (try clear hi)))
 go_ret
 exact ⟨zw, by repeat (first | (with_reducible first | exact HB.out | apply below_alloc | apply pw_below_drewN | apply below_drew1 | refine below_set ?_ GE280.out) | exact HB.out)⟩
def spec_l5Rising.l0 : Nat → List (S35) → Int → Option (Bool)
 | 0, _, _ => none
 | k + 1, x0, x3 => if x3 < (x0.length : Int) then (if 0 ≤ x3 then ((spec_NeedOk.f k ((rd_T35 x0 x3).f0) ((rd_T35 x0 x3).f1.f0) ((rd_T35 x0 x3).f1.f1) ((rd_T35 x0 x3).f1.f2) ((rd_T35 x0 x3).f1.f3)).bind fun t283 => (if t283 = true then (if x3 > 0 then (if 0 ≤ (wrap64 (x3 - 1)) then (if (wrap64 (x3 - 1)) < (x0.length : Int) then (if ((Op.bytesLess (((rd_T35 x0 (wrap64 (x3 - 1))).f0).toList) (((rd_T35 x0 x3).f0).toList)) = true) then (spec_l5Rising.l0 k x0 (wrap64 (x3 + 1))) else (some false)) else (none)) else (none)) else (spec_l5Rising.l0 k x0 (wrap64 (x3 + 1)))) else (some false))) else (none)) else (some true)
def spec_l5Rising.f (k : Nat) (l0 : List (S35)) : Option (Bool) := spec_l5Rising.l0 k l0 0
def spec_l5Rising.T4 : Bool × List (List Nat × List Nat) := (true, [([], []), ([], []), ([0, 1], [0, 1]), ([2], [2]), ([3], [3]), ([4], [4]), ([5, 4], [5]), ([6], [6]), ([7, 6], [6, 7]), ([8, 6, 6], [6, 8]), ([9], [9]), ([9], [9]), ([11, 9], [9, 11]), ([10, 12, 9], [9, 10, 12]), ([13, 9], [9, 13]), ([14, 9], [9, 14]), ([9], [9]), ([9], [9]), ([16, 17, 9], [9, 16, 17]), ([18, 9], [9, 18]), ([19, 9], [9, 19]), ([15, 20, 9], [9, 15, 20]), ([9, 21, 6], [6, 9, 21]), ([6, 22], [6, 22])])
def spec_l5Rising.B4 : List Nat := [0, 0, 3, 7, 15, 31, 63, 127, 255, 511, 1023, 1023, 3071, 8191, 16383, 32767, 1023, 1023, 197631, 459775, 984063, 2097151, 4194303, 8388607]
theorem spec_l5Rising.tab4 : rtab .any (opsOf Tryz.f34 4) = spec_l5Rising.T4 := by kernel_rfl
theorem spec_l5Rising.bits4 : waitsOk spec_l5Rising.T4.2 spec_l5Rising.B4 = true := by kernel_rfl
set_option maxHeartbeats 8000000 in
set_option maxRecDepth 100000 in
theorem spec_l5Rising.calls (k : Nat) (A0 : Option Addr) (c0 : Nat) (l0 : List (S35)) (r : Bool) (w : World) (hr0 : Kd.C k35 w A0 l0.length l0) (hc0 : l0.length ≤ c0) (h : spec_l5Rising.f k l0 = some r) :
  Calls Tryz.prog 34 #[.slice A0 l0.length c0] w fun e w' => e = .returned (.bool r) ∧ Below w.heap.size w w' := by
 have hu35 := Tryz.underlying35
 have HR0 := zi hr0
 have HC0 := zi hc0
 clear hr0 hc0
 have HB := zi (Below.refl w.heap.size w)
 have H := h
 unfold spec_l5Rising.f at H
 clear h
 have H' := zi H
 clear H
 go_enter Tryz.func34, Tryz.ntmps34
 go_wp2
 go_loopg [3] k (fun kq v3 w' => ∃ (x3_1 : Int), v3 = .int .i64 x3_1 ∧ Aside0 (spec_l5Rising.l0 kq l0 x3_1 = some r) ∧ Aside0 (kq ≤ k) ∧ Aside0 (Below w.heap.size w w'))
 case atStart => exact ⟨(0), z1d, H', ⟨Nat.le_refl _⟩, ⟨zt⟩⟩
 case round =>
  clear H'
  obtain ⟨x3_1, rfl, HA, HK1, HB⟩ := hrel
  cases gk with
  | zero => exact absurd HA.out (by simp [spec_l5Rising.l0])
  | succ k1 =>
   have H := HA.out
   clear HA
   simp only [spec_l5Rising.l0] at H
   by_cases c2 : x3_1 < (l0.length : Int)
   ·rw [if_pos c2] at H
    have c2b0 := decide_eq_true c2
    clear c2
    by_cases c3 : 0 ≤ x3_1
    ·rw [if_pos c3] at H
     have c3b0 := decide_eq_true c3
     clear c3
     replace H := Option.bind_eq_some_iff.mp H
     obtain ⟨t283, A40, H⟩ := H
     try dsimp only at H
     have A4 := zi A40
     clear A40
     by_cases c5 : t283 = true
     ·subst c5
      rw [if_pos rfl] at H
      by_cases c6 : x3_1 > 0
      ·rw [if_pos c6] at H
       have c6b0 := decide_eq_true c6
       clear c6
       obtain ⟨ji7, hji7⟩ : ∃ j_ : Int, (wrap64 (x3_1 - 1)) = j_ := ⟨_, rfl⟩
       replace H : (if 0 ≤ (ji7) then (if (ji7) < (l0.length : Int) then (if ((Op.bytesLess (((rd_T35 l0 (ji7)).f0).toList) (((rd_T35 l0 x3_1).f0).toList)) = true) then (spec_l5Rising.l0 k1 l0 (wrap64 (x3_1 + 1))) else (some false)) else (none)) else (none)) = some r := by first | (rw [hji7] at H; exact H) | (simp only [hji7] at H ⊢; exact H)
       (try rw [hji7] at A4)
       have hji7w : (IntKind.i64.wrap (x3_1 - 1)) = ji7 := (i64_w _).trans hji7
       by_cases c8 : 0 ≤ (ji7)
       ·rw [if_pos c8] at H
        have c8b0 := decide_eq_true c8
        clear c8
        by_cases c9 : (ji7) < (l0.length : Int)
        ·rw [if_pos c9] at H
         have c9b0 := decide_eq_true c9
         clear c9
         by_cases c10 : ((Op.bytesLess (((rd_T35 l0 (ji7)).f0).toList) (((rd_T35 l0 x3_1).f0).toList)) = true)
         ·rw [if_pos c10] at H
          have c10b0 : (Op.bytesLess (((rd_T35 l0 (ji7)).f0).toList) (((rd_T35 l0 x3_1).f0).toList)) = true := c10
          clear c10
          have H' := zi H
          clear H
          try go_wp2
          have n0_ := zi (below_drew1 HB.out)
          clear HB
          have HB := n0_
          clear n0_
          have p282 : 0 ≤ (x3_1 : Int) := of_decide_eq_true z1e
          have q282 : x3_1 < (l0.length : Int) := of_decide_eq_true z1e
          obtain ⟨ad282, e282, hx282_0, hx282_1, hx282_2, hx282_3, hx282_4⟩ := at_T35 HR0.out x3_1 p282 q282
          have hw282_4 := hx282_4
          have hw282_3 := hx282_3
          have hw282_2 := hx282_2
          have hw282_1 := hx282_1
          have hw282_0 := hx282_0
          cases e282
          replace hx282_0 := zo HB.out hx282_0
          replace hx282_1 := zo HB.out hx282_1
          replace hx282_2 := zo HB.out hx282_2
          replace hx282_3 := zo HB.out hx282_3
          replace hx282_4 := zo HB.out hx282_4
          replace p282 := eq_true p282
          replace q282 := eq_true q282
          have p284 : 0 ≤ ((ji7) : Int) := of_decide_eq_true z1e
          have q284 : (ji7) < (l0.length : Int) := of_decide_eq_true z1e
          obtain ⟨ad284, e284, hx284_0, hx284_1, hx284_2, hx284_3, hx284_4⟩ := at_T35 HR0.out (ji7) p284 q284
          have hw284_4 := hx284_4
          have hw284_3 := hx284_3
          have hw284_2 := hx284_2
          have hw284_1 := hx284_1
          have hw284_0 := hx284_0
          obtain rfl : ad282 = ad284 := (by injection e284)
          replace hx284_0 := zo HB.out hx284_0
          replace hx284_1 := zo HB.out hx284_1
          replace hx284_2 := zo HB.out hx284_2
          replace hx284_3 := zo HB.out hx284_3
          replace hx284_4 := zo HB.out hx284_4
          replace p284 := eq_true p284
          replace q284 := eq_true q284
          have p285 : 0 ≤ (x3_1 : Int) := of_decide_eq_true z1e
          have q285 : x3_1 < (l0.length : Int) := of_decide_eq_true z1e
          obtain ⟨ad285, e285, hx285_0, hx285_1, hx285_2, hx285_3, hx285_4⟩ := at_T35 HR0.out x3_1 p285 q285
          have hw285_4 := hx285_4
          have hw285_3 := hx285_3
          have hw285_2 := hx285_2
          have hw285_1 := hx285_1
          have hw285_0 := hx285_0
          obtain rfl : ad282 = ad285 := (by injection e285)
          replace hx285_0 := zo HB.out hx285_0
          replace hx285_1 := zo HB.out hx285_1
          replace hx285_2 := zo HB.out hx285_2
          replace hx285_3 := zo HB.out hx285_3
          replace hx285_4 := zo HB.out hx285_4
          replace p285 := eq_true p285
          replace q285 := eq_true q285
          refine start_ (n := 24) (S := fun w' => w'.cell? (ad282.add ((x3_1).toNat * 5)) = some (.string ((rd_T35 l0 x3_1).f0)) ∧ w'.cell? ⟨(ad282.add ((x3_1).toNat * 5)).block, (ad282.add ((x3_1).toNat * 5)).off + 1, none⟩ = some (.int .i64 ((rd_T35 l0 x3_1).f1.f0)) ∧ w'.cell? ⟨(ad282.add ((x3_1).toNat * 5)).block, (ad282.add ((x3_1).toNat * 5)).off + 2, none⟩ = some (.int .i64 ((rd_T35 l0 x3_1).f1.f1)) ∧ w'.cell? ⟨(ad282.add ((x3_1).toNat * 5)).block, (ad282.add ((x3_1).toNat * 5)).off + 3, none⟩ = some (.int .i64 ((rd_T35 l0 x3_1).f1.f2)) ∧ w'.cell? ⟨(ad282.add ((x3_1).toNat * 5)).block, (ad282.add ((x3_1).toNat * 5)).off + 4, none⟩ = some (.string ((rd_T35 l0 x3_1).f1.f3)) ∧ w'.cell? (ad282.add (((ji7)).toNat * 5)) = some (.string ((rd_T35 l0 (ji7)).f0)) ∧ w'.cell? ⟨(ad282.add (((ji7)).toNat * 5)).block, (ad282.add (((ji7)).toNat * 5)).off + 1, none⟩ = some (.int .i64 ((rd_T35 l0 (ji7)).f1.f0)) ∧ w'.cell? ⟨(ad282.add (((ji7)).toNat * 5)).block, (ad282.add (((ji7)).toNat * 5)).off + 2, none⟩ = some (.int .i64 ((rd_T35 l0 (ji7)).f1.f1)) ∧ w'.cell? ⟨(ad282.add (((ji7)).toNat * 5)).block, (ad282.add (((ji7)).toNat * 5)).off + 3, none⟩ = some (.int .i64 ((rd_T35 l0 (ji7)).f1.f2)) ∧ w'.cell? ⟨(ad282.add (((ji7)).toNat * 5)).block, (ad282.add (((ji7)).toNat * 5)).off + 4, none⟩ = some (.string ((rd_T35 l0 (ji7)).f1.f3)) ∧ w'.cell? (ad282.add ((x3_1).toNat * 5)) = some (.string ((rd_T35 l0 x3_1).f0)) ∧ w'.cell? ⟨(ad282.add ((x3_1).toNat * 5)).block, (ad282.add ((x3_1).toNat * 5)).off + 1, none⟩ = some (.int .i64 ((rd_T35 l0 x3_1).f1.f0)) ∧ w'.cell? ⟨(ad282.add ((x3_1).toNat * 5)).block, (ad282.add ((x3_1).toNat * 5)).off + 2, none⟩ = some (.int .i64 ((rd_T35 l0 x3_1).f1.f1)) ∧ w'.cell? ⟨(ad282.add ((x3_1).toNat * 5)).block, (ad282.add ((x3_1).toNat * 5)).off + 3, none⟩ = some (.int .i64 ((rd_T35 l0 x3_1).f1.f2)) ∧ w'.cell? ⟨(ad282.add ((x3_1).toNat * 5)).block, (ad282.add ((x3_1).toNat * 5)).off + 4, none⟩ = some (.string ((rd_T35 l0 x3_1).f1.f3))) (ds := []) #[z7f, z7f, z7f, z7f, z7f, z7f, z7f, z7f, z7f, z7f, z7f, z7f, z7f, z7f, z7f, z7f, z7f, z7f, z7f, z7f, z7f, z7f, z7f, z7f] z1a rfl rfl ⟨(zo HB.out hw282_0), (zo HB.out hw282_1), (zo HB.out hw282_2), (zo HB.out hw282_3), (zo HB.out hw282_4), (zo HB.out hw284_0), (zo HB.out hw284_1), (zo HB.out hw284_2), (zo HB.out hw284_3), (zo HB.out hw284_4), (zo HB.out hw285_0), (zo HB.out hw285_1), (zo HB.out hw285_2), (zo HB.out hw285_3), (zo HB.out hw285_4)⟩ (fun hHeld => ?_); refine with_tabW spec_l5Rising.tab4 spec_l5Rising.bits4 (fun HT_ HW_ => ?_)
          generalize wr.drew = w11 at HB hx282_0 hx282_1 hx282_2 hx282_3 hx282_4 hx284_0 hx284_1 hx284_2 hx284_3 hx284_4 hx285_0 hx285_1 hx285_2 hx285_3 hx285_4 hHeld ⊢
          refine zk 0 (some 10) #[z7e, z7f, z7f, z7f, z7f, z7f, z7f, z7f, z7f, z7f, z7f, z7f, z7f, z7f, z7f, z7f, z7f, z7f, z7f, z7f, z7f, z7f, z7f, z7f] rfl rfl ?_
          refine zk 1 (some 11) #[z7e, z7e, z7f, z7f, z7f, z7f, z7f, z7f, z7f, z7f, z7f, z7f, z7f, z7f, z7f, z7f, z7f, z7f, z7f, z7f, z7f, z7f, z7f, z7f] rfl rfl ?_
          refine zk 2 (some 12) #[z7e, z7e, z7e, z7f, z7f, z7f, z7f, z7f, z7f, z7f, z7f, z7f, z7f, z7f, z7f, z7f, z7f, z7f, z7f, z7f, z7f, z7f, z7f, z7f] rfl rfl ?_
          refine zm 3 (some 13) #[z7e, z7e, z7e, z7e, z7f, z7f, z7f, z7f, z7f, z7f, z7f, z7f, z7f, z7f, z7f, z7f, z7f, z7f, z7f, z7f, z7f, z7f, z7f, z7f] rfl rfl (Or.inl ⟨zr, z3w⟩) hHeld ?_
          refine one_ (i := 4) (N := some 14) #[z7e, z7e, z7e, z7e, z7e, z7f, z7f, z7f, z7f, z7f, z7f, z7f, z7f, z7f, z7f, z7f, z7f, z7f, z7f, z7f, z7f, z7f, z7f, z7f] rfl rfl (one_of HT_.out z1a) z1g (fun K hK => ?_)
          refine goes_ Tryz.func69 z1a rfl #[.agg #[.string ((rd_T35 l0 x3_1).f0), .int .i64 ((rd_T35 l0 x3_1).f1.f0), .int .i64 ((rd_T35 l0 x3_1).f1.f1), .int .i64 ((rd_T35 l0 x3_1).f1.f2), .string ((rd_T35 l0 x3_1).f1.f3)]] zr rfl rfl z1b ?_
          with_reducible refine (spec_NeedOk.calls k1 ((rd_T35 l0 x3_1).f0) ((rd_T35 l0 x3_1).f1.f0) ((rd_T35 l0 x3_1).f1.f1) ((rd_T35 l0 x3_1).f1.f2) ((rd_T35 l0 x3_1).f1.f3) true _ A4.out).mono ?_
          rintro e w12 ⟨rfl, hb⟩
          refine ⟨_, rfl, ?_⟩
          have n0_ := zi (below_step zt hb)
          clear HB
          have HB := n0_
          clear n0_
          (try clear hb)
          (try clear hb2)
          (try clear hk)
          (try clear hi)
          refine hK.out _ _ ⟨(zo HB.out hw282_0), (zo HB.out hw282_1), (zo HB.out hw282_2), (zo HB.out hw282_3), (zo HB.out hw282_4), (zo HB.out hw284_0), (zo HB.out hw284_1), (zo HB.out hw284_2), (zo HB.out hw284_3), (zo HB.out hw284_4), (zo HB.out hw285_0), (zo HB.out hw285_1), (zo HB.out hw285_2), (zo HB.out hw285_3), (zo HB.out hw285_4)⟩ (fun hHeld => ?_)
          clear hK K
          refine zn (some 14) rfl ?_
          refine zk 5 (some 15) #[z7e, z7e, z7e, z7e, z7e, z7e, z7f, z7f, z7f, z7f, z7f, z7f, z7f, z7f, z7f, z7f, z7f, z7f, z7f, z7f, z7f, z7f, z7f, z7f] rfl rfl ?_
          refine zk 6 (some 16) #[z7e, z7e, z7e, z7e, z7e, z7e, z7e, z7f, z7f, z7f, z7f, z7f, z7f, z7f, z7f, z7f, z7f, z7f, z7f, z7f, z7f, z7f, z7f, z7f] rfl rfl ?_
          refine zk 7 (some 17) #[z7e, z7e, z7e, z7e, z7e, z7e, z7e, z7e, z7f, z7f, z7f, z7f, z7f, z7f, z7f, z7f, z7f, z7f, z7f, z7f, z7f, z7f, z7f, z7f] rfl rfl ?_
          refine zk 8 (some 18) #[z7e, z7e, z7e, z7e, z7e, z7e, z7e, z7e, z7e, z7f, z7f, z7f, z7f, z7f, z7f, z7f, z7f, z7f, z7f, z7f, z7f, z7f, z7f, z7f] rfl rfl ?_
          refine zk 9 (some 19) #[z7e, z7e, z7e, z7e, z7e, z7e, z7e, z7e, z7e, z7e, z7f, z7f, z7f, z7f, z7f, z7f, z7f, z7f, z7f, z7f, z7f, z7f, z7f, z7f] rfl rfl ?_
          refine zk 10 (some 20) #[z7e, z7e, z7e, z7e, z7e, z7e, z7e, z7e, z7e, z7e, z7e, z7f, z7f, z7f, z7f, z7f, z7f, z7f, z7f, z7f, z7f, z7f, z7f, z7f] rfl rfl ?_
          refine zk 11 (some 21) #[z7e, z7e, z7e, z7e, z7e, z7e, z7e, z7e, z7e, z7e, z7e, z7e, z7f, z7f, z7f, z7f, z7f, z7f, z7f, z7f, z7f, z7f, z7f, z7f] rfl rfl ?_
          refine zk 12 (some 22) #[z7e, z7e, z7e, z7e, z7e, z7e, z7e, z7e, z7e, z7e, z7e, z7e, z7e, z7f, z7f, z7f, z7f, z7f, z7f, z7f, z7f, z7f, z7f, z7f] rfl rfl ?_
          refine zk 13 (some 23) #[z7e, z7e, z7e, z7e, z7e, z7e, z7e, z7e, z7e, z7e, z7e, z7e, z7e, z7e, z7f, z7f, z7f, z7f, z7f, z7f, z7f, z7f, z7f, z7f] rfl rfl ?_
          refine zk 14 (some 24) #[z7e, z7e, z7e, z7e, z7e, z7e, z7e, z7e, z7e, z7e, z7e, z7e, z7e, z7e, z7e, z7f, z7f, z7f, z7f, z7f, z7f, z7f, z7f, z7f] rfl rfl ?_
          refine zk 16 (some 26) #[z7e, z7e, z7e, z7e, z7e, z7e, z7e, z7e, z7e, z7e, z7e, z7e, z7e, z7e, z7e, z7f, z7e, z7f, z7f, z7f, z7f, z7f, z7f, z7f] rfl rfl ?_
          refine zk 17 (some 27) #[z7e, z7e, z7e, z7e, z7e, z7e, z7e, z7e, z7e, z7e, z7e, z7e, z7e, z7e, z7e, z7f, z7e, z7e, z7f, z7f, z7f, z7f, z7f, z7f] rfl rfl ?_
          refine zk 18 (some 28) #[z7e, z7e, z7e, z7e, z7e, z7e, z7e, z7e, z7e, z7e, z7e, z7e, z7e, z7e, z7e, z7f, z7e, z7e, z7e, z7f, z7f, z7f, z7f, z7f] rfl rfl ?_
          refine zk 19 (some 29) #[z7e, z7e, z7e, z7e, z7e, z7e, z7e, z7e, z7e, z7e, z7e, z7e, z7e, z7e, z7e, z7f, z7e, z7e, z7e, z7e, z7f, z7f, z7f, z7f] rfl rfl ?_
          refine zm 15 (some 25) #[z7e, z7e, z7e, z7e, z7e, z7e, z7e, z7e, z7e, z7e, z7e, z7e, z7e, z7e, z7e, z7e, z7e, z7e, z7e, z7e, z7f, z7f, z7f, z7f] rfl rfl (Or.inl ⟨zr, z3w⟩) hHeld ?_
          refine zm 20 (some 30) #[z7e, z7e, z7e, z7e, z7e, z7e, z7e, z7e, z7e, z7e, z7e, z7e, z7e, z7e, z7e, z7e, z7e, z7e, z7e, z7e, z7e, z7f, z7f, z7f] rfl rfl (Or.inl ⟨zr, z3w⟩) hHeld ?_
          refine zk 21 (some 31) #[z7e, z7e, z7e, z7e, z7e, z7e, z7e, z7e, z7e, z7e, z7e, z7e, z7e, z7e, z7e, z7e, z7e, z7e, z7e, z7e, z7e, z7e, z7f, z7f] rfl rfl ?_
          refine zk 22 (some 32) #[z7e, z7e, z7e, z7e, z7e, z7e, z7e, z7e, z7e, z7e, z7e, z7e, z7e, z7e, z7e, z7e, z7e, z7e, z7e, z7e, z7e, z7e, z7e, z7f] rfl rfl ?_
          refine zk 23 (some 33) #[z7e, z7e, z7e, z7e, z7e, z7e, z7e, z7e, z7e, z7e, z7e, z7e, z7e, z7e, z7e, z7e, z7e, z7e, z7e, z7e, z7e, z7e, z7e, z7e] rfl rfl ?_
          refine done_ (done_of HT_.out z1a) ?_
          try go_wp2
          go_roundg k1
          case measure => have := HK1.out; omega
          case rel => exact ⟨(wrap64 (x3_1 + 1)), z1d, H', ⟨z1h⟩, ⟨zt⟩⟩
         ·rw [if_neg c10] at H
          have c10b0 : (Op.bytesLess (((rd_T35 l0 (ji7)).f0).toList) (((rd_T35 l0 x3_1).f0).toList)) = false := by simpa using c10
          clear c10
          obtain rfl := Option.some.inj H
          try go_wp2
          have n0_ := zi (below_drew1 HB.out)
          clear HB
          have HB := n0_
          clear n0_
          have p282 : 0 ≤ (x3_1 : Int) := of_decide_eq_true z1e
          have q282 : x3_1 < (l0.length : Int) := of_decide_eq_true z1e
          obtain ⟨ad282, e282, hx282_0, hx282_1, hx282_2, hx282_3, hx282_4⟩ := at_T35 HR0.out x3_1 p282 q282
          have hw282_4 := hx282_4
          have hw282_3 := hx282_3
          have hw282_2 := hx282_2
          have hw282_1 := hx282_1
          have hw282_0 := hx282_0
          cases e282
          replace hx282_0 := zo HB.out hx282_0
          replace hx282_1 := zo HB.out hx282_1
          replace hx282_2 := zo HB.out hx282_2
          replace hx282_3 := zo HB.out hx282_3
          replace hx282_4 := zo HB.out hx282_4
          replace p282 := eq_true p282
          replace q282 := eq_true q282
          have p284 : 0 ≤ ((ji7) : Int) := of_decide_eq_true z1e
          have q284 : (ji7) < (l0.length : Int) := of_decide_eq_true z1e
          obtain ⟨ad284, e284, hx284_0, hx284_1, hx284_2, hx284_3, hx284_4⟩ := at_T35 HR0.out (ji7) p284 q284
          have hw284_4 := hx284_4
          have hw284_3 := hx284_3
          have hw284_2 := hx284_2
          have hw284_1 := hx284_1
          have hw284_0 := hx284_0
          obtain rfl : ad282 = ad284 := (by injection e284)
          replace hx284_0 := zo HB.out hx284_0
          replace hx284_1 := zo HB.out hx284_1
          replace hx284_2 := zo HB.out hx284_2
          replace hx284_3 := zo HB.out hx284_3
          replace hx284_4 := zo HB.out hx284_4
          replace p284 := eq_true p284
          replace q284 := eq_true q284
          have p285 : 0 ≤ (x3_1 : Int) := of_decide_eq_true z1e
          have q285 : x3_1 < (l0.length : Int) := of_decide_eq_true z1e
          obtain ⟨ad285, e285, hx285_0, hx285_1, hx285_2, hx285_3, hx285_4⟩ := at_T35 HR0.out x3_1 p285 q285
          have hw285_4 := hx285_4
          have hw285_3 := hx285_3
          have hw285_2 := hx285_2
          have hw285_1 := hx285_1
          have hw285_0 := hx285_0
          obtain rfl : ad282 = ad285 := (by injection e285)
          replace hx285_0 := zo HB.out hx285_0
          replace hx285_1 := zo HB.out hx285_1
          replace hx285_2 := zo HB.out hx285_2
          replace hx285_3 := zo HB.out hx285_3
          replace hx285_4 := zo HB.out hx285_4
          replace p285 := eq_true p285
          replace q285 := eq_true q285
          refine start_ (n := 24) (S := fun w' => w'.cell? (ad282.add ((x3_1).toNat * 5)) = some (.string ((rd_T35 l0 x3_1).f0)) ∧ w'.cell? ⟨(ad282.add ((x3_1).toNat * 5)).block, (ad282.add ((x3_1).toNat * 5)).off + 1, none⟩ = some (.int .i64 ((rd_T35 l0 x3_1).f1.f0)) ∧ w'.cell? ⟨(ad282.add ((x3_1).toNat * 5)).block, (ad282.add ((x3_1).toNat * 5)).off + 2, none⟩ = some (.int .i64 ((rd_T35 l0 x3_1).f1.f1)) ∧ w'.cell? ⟨(ad282.add ((x3_1).toNat * 5)).block, (ad282.add ((x3_1).toNat * 5)).off + 3, none⟩ = some (.int .i64 ((rd_T35 l0 x3_1).f1.f2)) ∧ w'.cell? ⟨(ad282.add ((x3_1).toNat * 5)).block, (ad282.add ((x3_1).toNat * 5)).off + 4, none⟩ = some (.string ((rd_T35 l0 x3_1).f1.f3)) ∧ w'.cell? (ad282.add (((ji7)).toNat * 5)) = some (.string ((rd_T35 l0 (ji7)).f0)) ∧ w'.cell? ⟨(ad282.add (((ji7)).toNat * 5)).block, (ad282.add (((ji7)).toNat * 5)).off + 1, none⟩ = some (.int .i64 ((rd_T35 l0 (ji7)).f1.f0)) ∧ w'.cell? ⟨(ad282.add (((ji7)).toNat * 5)).block, (ad282.add (((ji7)).toNat * 5)).off + 2, none⟩ = some (.int .i64 ((rd_T35 l0 (ji7)).f1.f1)) ∧ w'.cell? ⟨(ad282.add (((ji7)).toNat * 5)).block, (ad282.add (((ji7)).toNat * 5)).off + 3, none⟩ = some (.int .i64 ((rd_T35 l0 (ji7)).f1.f2)) ∧ w'.cell? ⟨(ad282.add (((ji7)).toNat * 5)).block, (ad282.add (((ji7)).toNat * 5)).off + 4, none⟩ = some (.string ((rd_T35 l0 (ji7)).f1.f3)) ∧ w'.cell? (ad282.add ((x3_1).toNat * 5)) = some (.string ((rd_T35 l0 x3_1).f0)) ∧ w'.cell? ⟨(ad282.add ((x3_1).toNat * 5)).block, (ad282.add ((x3_1).toNat * 5)).off + 1, none⟩ = some (.int .i64 ((rd_T35 l0 x3_1).f1.f0)) ∧ w'.cell? ⟨(ad282.add ((x3_1).toNat * 5)).block, (ad282.add ((x3_1).toNat * 5)).off + 2, none⟩ = some (.int .i64 ((rd_T35 l0 x3_1).f1.f1)) ∧ w'.cell? ⟨(ad282.add ((x3_1).toNat * 5)).block, (ad282.add ((x3_1).toNat * 5)).off + 3, none⟩ = some (.int .i64 ((rd_T35 l0 x3_1).f1.f2)) ∧ w'.cell? ⟨(ad282.add ((x3_1).toNat * 5)).block, (ad282.add ((x3_1).toNat * 5)).off + 4, none⟩ = some (.string ((rd_T35 l0 x3_1).f1.f3))) (ds := []) #[z7f, z7f, z7f, z7f, z7f, z7f, z7f, z7f, z7f, z7f, z7f, z7f, z7f, z7f, z7f, z7f, z7f, z7f, z7f, z7f, z7f, z7f, z7f, z7f] z1a rfl rfl ⟨(zo HB.out hw282_0), (zo HB.out hw282_1), (zo HB.out hw282_2), (zo HB.out hw282_3), (zo HB.out hw282_4), (zo HB.out hw284_0), (zo HB.out hw284_1), (zo HB.out hw284_2), (zo HB.out hw284_3), (zo HB.out hw284_4), (zo HB.out hw285_0), (zo HB.out hw285_1), (zo HB.out hw285_2), (zo HB.out hw285_3), (zo HB.out hw285_4)⟩ (fun hHeld => ?_); refine with_tabW spec_l5Rising.tab4 spec_l5Rising.bits4 (fun HT_ HW_ => ?_)
          generalize wr.drew = w13 at HB hx282_0 hx282_1 hx282_2 hx282_3 hx282_4 hx284_0 hx284_1 hx284_2 hx284_3 hx284_4 hx285_0 hx285_1 hx285_2 hx285_3 hx285_4 hHeld ⊢
          refine zk 0 (some 10) #[z7e, z7f, z7f, z7f, z7f, z7f, z7f, z7f, z7f, z7f, z7f, z7f, z7f, z7f, z7f, z7f, z7f, z7f, z7f, z7f, z7f, z7f, z7f, z7f] rfl rfl ?_
          refine zk 1 (some 11) #[z7e, z7e, z7f, z7f, z7f, z7f, z7f, z7f, z7f, z7f, z7f, z7f, z7f, z7f, z7f, z7f, z7f, z7f, z7f, z7f, z7f, z7f, z7f, z7f] rfl rfl ?_
          refine zk 2 (some 12) #[z7e, z7e, z7e, z7f, z7f, z7f, z7f, z7f, z7f, z7f, z7f, z7f, z7f, z7f, z7f, z7f, z7f, z7f, z7f, z7f, z7f, z7f, z7f, z7f] rfl rfl ?_
          refine zm 3 (some 13) #[z7e, z7e, z7e, z7e, z7f, z7f, z7f, z7f, z7f, z7f, z7f, z7f, z7f, z7f, z7f, z7f, z7f, z7f, z7f, z7f, z7f, z7f, z7f, z7f] rfl rfl (Or.inl ⟨zr, z3w⟩) hHeld ?_
          refine one_ (i := 4) (N := some 14) #[z7e, z7e, z7e, z7e, z7e, z7f, z7f, z7f, z7f, z7f, z7f, z7f, z7f, z7f, z7f, z7f, z7f, z7f, z7f, z7f, z7f, z7f, z7f, z7f] rfl rfl (one_of HT_.out z1a) z1g (fun K hK => ?_)
          refine goes_ Tryz.func69 z1a rfl #[.agg #[.string ((rd_T35 l0 x3_1).f0), .int .i64 ((rd_T35 l0 x3_1).f1.f0), .int .i64 ((rd_T35 l0 x3_1).f1.f1), .int .i64 ((rd_T35 l0 x3_1).f1.f2), .string ((rd_T35 l0 x3_1).f1.f3)]] zr rfl rfl z1b ?_
          with_reducible refine (spec_NeedOk.calls k1 ((rd_T35 l0 x3_1).f0) ((rd_T35 l0 x3_1).f1.f0) ((rd_T35 l0 x3_1).f1.f1) ((rd_T35 l0 x3_1).f1.f2) ((rd_T35 l0 x3_1).f1.f3) true _ A4.out).mono ?_
          rintro e w14 ⟨rfl, hb⟩
          refine ⟨_, rfl, ?_⟩
          have n0_ := zi (below_step zt hb)
          clear HB
          have HB := n0_
          clear n0_
          (try clear hb)
          (try clear hb2)
          (try clear hk)
          (try clear hi)
          refine hK.out _ _ ⟨(zo HB.out hw282_0), (zo HB.out hw282_1), (zo HB.out hw282_2), (zo HB.out hw282_3), (zo HB.out hw282_4), (zo HB.out hw284_0), (zo HB.out hw284_1), (zo HB.out hw284_2), (zo HB.out hw284_3), (zo HB.out hw284_4), (zo HB.out hw285_0), (zo HB.out hw285_1), (zo HB.out hw285_2), (zo HB.out hw285_3), (zo HB.out hw285_4)⟩ (fun hHeld => ?_)
          clear hK K
          refine zn (some 14) rfl ?_
          refine zk 5 (some 15) #[z7e, z7e, z7e, z7e, z7e, z7e, z7f, z7f, z7f, z7f, z7f, z7f, z7f, z7f, z7f, z7f, z7f, z7f, z7f, z7f, z7f, z7f, z7f, z7f] rfl rfl ?_
          refine zk 6 (some 16) #[z7e, z7e, z7e, z7e, z7e, z7e, z7e, z7f, z7f, z7f, z7f, z7f, z7f, z7f, z7f, z7f, z7f, z7f, z7f, z7f, z7f, z7f, z7f, z7f] rfl rfl ?_
          refine zk 7 (some 17) #[z7e, z7e, z7e, z7e, z7e, z7e, z7e, z7e, z7f, z7f, z7f, z7f, z7f, z7f, z7f, z7f, z7f, z7f, z7f, z7f, z7f, z7f, z7f, z7f] rfl rfl ?_
          refine zk 8 (some 18) #[z7e, z7e, z7e, z7e, z7e, z7e, z7e, z7e, z7e, z7f, z7f, z7f, z7f, z7f, z7f, z7f, z7f, z7f, z7f, z7f, z7f, z7f, z7f, z7f] rfl rfl ?_
          refine zk 9 (some 19) #[z7e, z7e, z7e, z7e, z7e, z7e, z7e, z7e, z7e, z7e, z7f, z7f, z7f, z7f, z7f, z7f, z7f, z7f, z7f, z7f, z7f, z7f, z7f, z7f] rfl rfl ?_
          refine zk 10 (some 20) #[z7e, z7e, z7e, z7e, z7e, z7e, z7e, z7e, z7e, z7e, z7e, z7f, z7f, z7f, z7f, z7f, z7f, z7f, z7f, z7f, z7f, z7f, z7f, z7f] rfl rfl ?_
          refine zk 11 (some 21) #[z7e, z7e, z7e, z7e, z7e, z7e, z7e, z7e, z7e, z7e, z7e, z7e, z7f, z7f, z7f, z7f, z7f, z7f, z7f, z7f, z7f, z7f, z7f, z7f] rfl rfl ?_
          refine zk 12 (some 22) #[z7e, z7e, z7e, z7e, z7e, z7e, z7e, z7e, z7e, z7e, z7e, z7e, z7e, z7f, z7f, z7f, z7f, z7f, z7f, z7f, z7f, z7f, z7f, z7f] rfl rfl ?_
          refine zk 13 (some 23) #[z7e, z7e, z7e, z7e, z7e, z7e, z7e, z7e, z7e, z7e, z7e, z7e, z7e, z7e, z7f, z7f, z7f, z7f, z7f, z7f, z7f, z7f, z7f, z7f] rfl rfl ?_
          refine zk 14 (some 24) #[z7e, z7e, z7e, z7e, z7e, z7e, z7e, z7e, z7e, z7e, z7e, z7e, z7e, z7e, z7e, z7f, z7f, z7f, z7f, z7f, z7f, z7f, z7f, z7f] rfl rfl ?_
          refine zk 16 (some 26) #[z7e, z7e, z7e, z7e, z7e, z7e, z7e, z7e, z7e, z7e, z7e, z7e, z7e, z7e, z7e, z7f, z7e, z7f, z7f, z7f, z7f, z7f, z7f, z7f] rfl rfl ?_
          refine zk 17 (some 27) #[z7e, z7e, z7e, z7e, z7e, z7e, z7e, z7e, z7e, z7e, z7e, z7e, z7e, z7e, z7e, z7f, z7e, z7e, z7f, z7f, z7f, z7f, z7f, z7f] rfl rfl ?_
          refine zk 18 (some 28) #[z7e, z7e, z7e, z7e, z7e, z7e, z7e, z7e, z7e, z7e, z7e, z7e, z7e, z7e, z7e, z7f, z7e, z7e, z7e, z7f, z7f, z7f, z7f, z7f] rfl rfl ?_
          refine zk 19 (some 29) #[z7e, z7e, z7e, z7e, z7e, z7e, z7e, z7e, z7e, z7e, z7e, z7e, z7e, z7e, z7e, z7f, z7e, z7e, z7e, z7e, z7f, z7f, z7f, z7f] rfl rfl ?_
          refine zm 15 (some 25) #[z7e, z7e, z7e, z7e, z7e, z7e, z7e, z7e, z7e, z7e, z7e, z7e, z7e, z7e, z7e, z7e, z7e, z7e, z7e, z7e, z7f, z7f, z7f, z7f] rfl rfl (Or.inl ⟨zr, z3w⟩) hHeld ?_
          refine zm 20 (some 30) #[z7e, z7e, z7e, z7e, z7e, z7e, z7e, z7e, z7e, z7e, z7e, z7e, z7e, z7e, z7e, z7e, z7e, z7e, z7e, z7e, z7e, z7f, z7f, z7f] rfl rfl (Or.inl ⟨zr, z3w⟩) hHeld ?_
          refine zk 21 (some 31) #[z7e, z7e, z7e, z7e, z7e, z7e, z7e, z7e, z7e, z7e, z7e, z7e, z7e, z7e, z7e, z7e, z7e, z7e, z7e, z7e, z7e, z7e, z7f, z7f] rfl rfl ?_
          refine zk 22 (some 32) #[z7e, z7e, z7e, z7e, z7e, z7e, z7e, z7e, z7e, z7e, z7e, z7e, z7e, z7e, z7e, z7e, z7e, z7e, z7e, z7e, z7e, z7e, z7e, z7f] rfl rfl ?_
          refine zk 23 (some 33) #[z7e, z7e, z7e, z7e, z7e, z7e, z7e, z7e, z7e, z7e, z7e, z7e, z7e, z7e, z7e, z7e, z7e, z7e, z7e, z7e, z7e, z7e, z7e, z7e] rfl rfl ?_
          refine done_ (done_of HT_.out z1a) ?_
          try go_wp2
          go_ret
          exact ⟨by first | rfl | (simp [errW_none, errW_some] <;> rfl) | (simp only [← hji7]; first | rfl | (simp [errW_none, errW_some] <;> rfl)) | (simp [*, errW_none, errW_some] <;> rfl), zt⟩
        ·rw [if_neg c9] at H
         exact absurd H (by simp)
       ·rw [if_neg c8] at H
        exact absurd H (by simp)
      ·rw [if_neg c6] at H
       have c6b0 := decide_eq_false c6
       clear c6
       have H' := zi H
       clear H
       try go_wp2
       have n0_ := zi (below_drew1 HB.out)
       clear HB
       have HB := n0_
       clear n0_
       have p282 : 0 ≤ (x3_1 : Int) := of_decide_eq_true z1e
       have q282 : x3_1 < (l0.length : Int) := of_decide_eq_true z1e
       obtain ⟨ad282, e282, hx282_0, hx282_1, hx282_2, hx282_3, hx282_4⟩ := at_T35 HR0.out x3_1 p282 q282
       have hw282_4 := hx282_4
       have hw282_3 := hx282_3
       have hw282_2 := hx282_2
       have hw282_1 := hx282_1
       have hw282_0 := hx282_0
       cases e282
       replace hx282_0 := zo HB.out hx282_0
       replace hx282_1 := zo HB.out hx282_1
       replace hx282_2 := zo HB.out hx282_2
       replace hx282_3 := zo HB.out hx282_3
       replace hx282_4 := zo HB.out hx282_4
       replace p282 := eq_true p282
       replace q282 := eq_true q282
       refine start_ (n := 24) (S := fun w' => w'.cell? (ad282.add ((x3_1).toNat * 5)) = some (.string ((rd_T35 l0 x3_1).f0)) ∧ w'.cell? ⟨(ad282.add ((x3_1).toNat * 5)).block, (ad282.add ((x3_1).toNat * 5)).off + 1, none⟩ = some (.int .i64 ((rd_T35 l0 x3_1).f1.f0)) ∧ w'.cell? ⟨(ad282.add ((x3_1).toNat * 5)).block, (ad282.add ((x3_1).toNat * 5)).off + 2, none⟩ = some (.int .i64 ((rd_T35 l0 x3_1).f1.f1)) ∧ w'.cell? ⟨(ad282.add ((x3_1).toNat * 5)).block, (ad282.add ((x3_1).toNat * 5)).off + 3, none⟩ = some (.int .i64 ((rd_T35 l0 x3_1).f1.f2)) ∧ w'.cell? ⟨(ad282.add ((x3_1).toNat * 5)).block, (ad282.add ((x3_1).toNat * 5)).off + 4, none⟩ = some (.string ((rd_T35 l0 x3_1).f1.f3))) (ds := []) #[z7f, z7f, z7f, z7f, z7f, z7f, z7f, z7f, z7f, z7f, z7f, z7f, z7f, z7f, z7f, z7f, z7f, z7f, z7f, z7f, z7f, z7f, z7f, z7f] z1a rfl rfl ⟨(zo HB.out hw282_0), (zo HB.out hw282_1), (zo HB.out hw282_2), (zo HB.out hw282_3), (zo HB.out hw282_4)⟩ (fun hHeld => ?_); refine with_tabW spec_l5Rising.tab4 spec_l5Rising.bits4 (fun HT_ HW_ => ?_)
       generalize wr.drew = w15 at HB hx282_0 hx282_1 hx282_2 hx282_3 hx282_4 hHeld ⊢
       refine zk 0 (some 10) #[z7e, z7f, z7f, z7f, z7f, z7f, z7f, z7f, z7f, z7f, z7f, z7f, z7f, z7f, z7f, z7f, z7f, z7f, z7f, z7f, z7f, z7f, z7f, z7f] rfl rfl ?_
       refine zk 1 (some 11) #[z7e, z7e, z7f, z7f, z7f, z7f, z7f, z7f, z7f, z7f, z7f, z7f, z7f, z7f, z7f, z7f, z7f, z7f, z7f, z7f, z7f, z7f, z7f, z7f] rfl rfl ?_
       refine zk 2 (some 12) #[z7e, z7e, z7e, z7f, z7f, z7f, z7f, z7f, z7f, z7f, z7f, z7f, z7f, z7f, z7f, z7f, z7f, z7f, z7f, z7f, z7f, z7f, z7f, z7f] rfl rfl ?_
       refine zm 3 (some 13) #[z7e, z7e, z7e, z7e, z7f, z7f, z7f, z7f, z7f, z7f, z7f, z7f, z7f, z7f, z7f, z7f, z7f, z7f, z7f, z7f, z7f, z7f, z7f, z7f] rfl rfl (Or.inl ⟨zr, z1z⟩) hHeld ?_
       refine one_ (i := 4) (N := some 14) #[z7e, z7e, z7e, z7e, z7e, z7f, z7f, z7f, z7f, z7f, z7f, z7f, z7f, z7f, z7f, z7f, z7f, z7f, z7f, z7f, z7f, z7f, z7f, z7f] rfl rfl (one_of HT_.out z1a) z1g (fun K hK => ?_)
       refine goes_ Tryz.func69 z1a rfl #[.agg #[.string ((rd_T35 l0 x3_1).f0), .int .i64 ((rd_T35 l0 x3_1).f1.f0), .int .i64 ((rd_T35 l0 x3_1).f1.f1), .int .i64 ((rd_T35 l0 x3_1).f1.f2), .string ((rd_T35 l0 x3_1).f1.f3)]] zr rfl rfl z1b ?_
       with_reducible refine (spec_NeedOk.calls k1 ((rd_T35 l0 x3_1).f0) ((rd_T35 l0 x3_1).f1.f0) ((rd_T35 l0 x3_1).f1.f1) ((rd_T35 l0 x3_1).f1.f2) ((rd_T35 l0 x3_1).f1.f3) true _ A4.out).mono ?_
       rintro e w16 ⟨rfl, hb⟩
       refine ⟨_, rfl, ?_⟩
       have n0_ := zi (below_step zt hb)
       clear HB
       have HB := n0_
       clear n0_
       (try clear hb)
       (try clear hb2)
       (try clear hk)
       (try clear hi)
       refine hK.out _ _ ⟨(zo HB.out hw282_0), (zo HB.out hw282_1), (zo HB.out hw282_2), (zo HB.out hw282_3), (zo HB.out hw282_4)⟩ (fun hHeld => ?_)
       clear hK K
       refine zn (some 14) rfl ?_
       refine zk 5 (some 15) #[z7e, z7e, z7e, z7e, z7e, z7e, z7f, z7f, z7f, z7f, z7f, z7f, z7f, z7f, z7f, z7f, z7f, z7f, z7f, z7f, z7f, z7f, z7f, z7f] rfl rfl ?_
       refine zk 6 (some 16) #[z7e, z7e, z7e, z7e, z7e, z7e, z7e, z7f, z7f, z7f, z7f, z7f, z7f, z7f, z7f, z7f, z7f, z7f, z7f, z7f, z7f, z7f, z7f, z7f] rfl rfl ?_
       refine zk 7 (some 17) #[z7e, z7e, z7e, z7e, z7e, z7e, z7e, z7e, z7f, z7f, z7f, z7f, z7f, z7f, z7f, z7f, z7f, z7f, z7f, z7f, z7f, z7f, z7f, z7f] rfl rfl ?_
       refine zk 8 (some 18) #[z7e, z7e, z7e, z7e, z7e, z7e, z7e, z7e, z7e, z7f, z7f, z7f, z7f, z7f, z7f, z7f, z7f, z7f, z7f, z7f, z7f, z7f, z7f, z7f] rfl rfl ?_
       refine zk 9 (some 19) #[z7e, z7e, z7e, z7e, z7e, z7e, z7e, z7e, z7e, z7e, z7f, z7f, z7f, z7f, z7f, z7f, z7f, z7f, z7f, z7f, z7f, z7f, z7f, z7f] rfl rfl ?_
       refine pure_ (i := 10) (N := some 20) (v := undef) (a' := ?_) #[z7e, z7e, z7e, z7e, z7e, z7e, z7e, z7e, z7e, z7e, z7e, z7f, z7f, z7f, z7f, z7f, z7f, z7f, z7f, z7f, z7f, z7f, z7f, z7f] rfl rfl (any_of HT_.out z1a) (fun _ _ _ h => h) (Or.inr ⟨zr, rfl⟩) ?_ ?_
       rotate_left
       ·simp only [Act.put, z7g, z7h, z7i, i64_w, i32_w]
        rfl
       refine pure_ (i := 11) (N := some 21) (v := undef) (a' := ?_) #[z7e, z7e, z7e, z7e, z7e, z7e, z7e, z7e, z7e, z7e, z7e, z7e, z7f, z7f, z7f, z7f, z7f, z7f, z7f, z7f, z7f, z7f, z7f, z7f] rfl rfl (any_of HT_.out z1a) (fun _ _ _ h => h) (Or.inr ⟨zr, rfl⟩) ?_ ?_
       rotate_left
       ·simp only [Act.put, z7g, z7h, z7i, i64_w, i32_w]
        rfl
       refine pure_ (i := 12) (N := some 22) (v := undef) (a' := ?_) #[z7e, z7e, z7e, z7e, z7e, z7e, z7e, z7e, z7e, z7e, z7e, z7e, z7e, z7f, z7f, z7f, z7f, z7f, z7f, z7f, z7f, z7f, z7f, z7f] rfl rfl (any_of HT_.out z1a) (fun _ _ _ h => h) (Or.inr ⟨zr, rfl⟩) ?_ ?_
       rotate_left
       ·simp only [Act.put, z7g, z7h, z7i, i64_w, i32_w]
        rfl
       refine pure_ (i := 13) (N := some 23) (v := undef) (a' := ?_) #[z7e, z7e, z7e, z7e, z7e, z7e, z7e, z7e, z7e, z7e, z7e, z7e, z7e, z7e, z7f, z7f, z7f, z7f, z7f, z7f, z7f, z7f, z7f, z7f] rfl rfl (any_of HT_.out z1a) (fun _ _ _ h => h) (Or.inr ⟨zr, rfl⟩) ?_ ?_
       rotate_left
       ·simp only [Act.put, z7g, z7h, z7i, i64_w, i32_w]
        rfl
       refine pure_ (i := 14) (N := some 24) (v := undef) (a' := ?_) #[z7e, z7e, z7e, z7e, z7e, z7e, z7e, z7e, z7e, z7e, z7e, z7e, z7e, z7e, z7e, z7f, z7f, z7f, z7f, z7f, z7f, z7f, z7f, z7f] rfl rfl (any_of HT_.out z1a) (fun _ _ _ h => h) (Or.inr ⟨zr, rfl⟩) ?_ ?_
       rotate_left
       ·simp only [Act.put, z7g, z7h, z7i, i64_w, i32_w]
        rfl
       refine pure_ (i := 15) (N := some 25) (v := undef) (a' := ?_) #[z7e, z7e, z7e, z7e, z7e, z7e, z7e, z7e, z7e, z7e, z7e, z7e, z7e, z7e, z7e, z7e, z7f, z7f, z7f, z7f, z7f, z7f, z7f, z7f] rfl rfl (any_of HT_.out z1a) (fun _ _ _ h => h) (Or.inr ⟨zr, rfl⟩) ?_ ?_
       rotate_left
       ·simp only [Act.put, z7g, z7h, z7i, i64_w, i32_w]
        rfl
       refine pure_ (i := 16) (N := some 26) (v := undef) (a' := ?_) #[z7e, z7e, z7e, z7e, z7e, z7e, z7e, z7e, z7e, z7e, z7e, z7e, z7e, z7e, z7e, z7e, z7e, z7f, z7f, z7f, z7f, z7f, z7f, z7f] rfl rfl (any_of HT_.out z1a) (fun _ _ _ h => h) (Or.inr ⟨zr, rfl⟩) ?_ ?_
       rotate_left
       ·simp only [Act.put, z7g, z7h, z7i, i64_w, i32_w]
        rfl
       refine pure_ (i := 17) (N := some 27) (v := undef) (a' := ?_) #[z7e, z7e, z7e, z7e, z7e, z7e, z7e, z7e, z7e, z7e, z7e, z7e, z7e, z7e, z7e, z7e, z7e, z7e, z7f, z7f, z7f, z7f, z7f, z7f] rfl rfl (any_of HT_.out z1a) (fun _ _ _ h => h) (Or.inr ⟨zr, rfl⟩) ?_ ?_
       rotate_left
       ·simp only [Act.put, z7g, z7h, z7i, i64_w, i32_w]
        rfl
       refine pure_ (i := 18) (N := some 28) (v := undef) (a' := ?_) #[z7e, z7e, z7e, z7e, z7e, z7e, z7e, z7e, z7e, z7e, z7e, z7e, z7e, z7e, z7e, z7e, z7e, z7e, z7e, z7f, z7f, z7f, z7f, z7f] rfl rfl (any_of HT_.out z1a) (fun _ _ _ h => h) (Or.inr ⟨zr, rfl⟩) ?_ ?_
       rotate_left
       ·simp only [Act.put, z7g, z7h, z7i, i64_w, i32_w]
        rfl
       refine pure_ (i := 19) (N := some 29) (v := undef) (a' := ?_) #[z7e, z7e, z7e, z7e, z7e, z7e, z7e, z7e, z7e, z7e, z7e, z7e, z7e, z7e, z7e, z7e, z7e, z7e, z7e, z7e, z7f, z7f, z7f, z7f] rfl rfl (any_of HT_.out z1a) (fun _ _ _ h => h) (Or.inr ⟨zr, rfl⟩) ?_ ?_
       rotate_left
       ·simp only [Act.put, z7g, z7h, z7i, i64_w, i32_w]
        rfl
       refine pure_ (i := 20) (N := some 30) (v := undef) (a' := ?_) #[z7e, z7e, z7e, z7e, z7e, z7e, z7e, z7e, z7e, z7e, z7e, z7e, z7e, z7e, z7e, z7e, z7e, z7e, z7e, z7e, z7e, z7f, z7f, z7f] rfl rfl (any_of HT_.out z1a) (fun _ _ _ h => h) (Or.inr ⟨zr, rfl⟩) ?_ ?_
       rotate_left
       ·simp only [Act.put, z7g, z7h, z7i, i64_w, i32_w]
        rfl
       refine pure_ (i := 21) (N := some 31) (v := undef) (a' := ?_) #[z7e, z7e, z7e, z7e, z7e, z7e, z7e, z7e, z7e, z7e, z7e, z7e, z7e, z7e, z7e, z7e, z7e, z7e, z7e, z7e, z7e, z7e, z7f, z7f] rfl rfl (any_of HT_.out z1a) (fun _ _ _ h => h) (Or.inr ⟨zr, rfl⟩) ?_ ?_
       rotate_left
       ·simp only [Act.put, z7g, z7h, z7i, i64_w, i32_w]
        rfl
       refine zk 22 (some 32) #[z7e, z7e, z7e, z7e, z7e, z7e, z7e, z7e, z7e, z7e, z7e, z7e, z7e, z7e, z7e, z7e, z7e, z7e, z7e, z7e, z7e, z7e, z7e, z7f] rfl rfl ?_
       refine zk 23 (some 33) #[z7e, z7e, z7e, z7e, z7e, z7e, z7e, z7e, z7e, z7e, z7e, z7e, z7e, z7e, z7e, z7e, z7e, z7e, z7e, z7e, z7e, z7e, z7e, z7e] rfl rfl ?_
       refine done_ (done_of HT_.out z1a) ?_
       try go_wp2
       go_roundg k1
       case measure => have := HK1.out; omega
       case rel => exact ⟨(wrap64 (x3_1 + 1)), z1d, H', ⟨z1h⟩, ⟨zt⟩⟩
     ·replace c5 := Bool.eq_false_iff.mpr c5
      subst c5
      rw [if_neg zj] at H
      obtain rfl := Option.some.inj H
      try go_wp2
      have n0_ := zi (below_drew1 HB.out)
      clear HB
      have HB := n0_
      clear n0_
      have p282 : 0 ≤ (x3_1 : Int) := of_decide_eq_true z1e
      have q282 : x3_1 < (l0.length : Int) := of_decide_eq_true z1e
      obtain ⟨ad282, e282, hx282_0, hx282_1, hx282_2, hx282_3, hx282_4⟩ := at_T35 HR0.out x3_1 p282 q282
      have hw282_4 := hx282_4
      have hw282_3 := hx282_3
      have hw282_2 := hx282_2
      have hw282_1 := hx282_1
      have hw282_0 := hx282_0
      cases e282
      replace hx282_0 := zo HB.out hx282_0
      replace hx282_1 := zo HB.out hx282_1
      replace hx282_2 := zo HB.out hx282_2
      replace hx282_3 := zo HB.out hx282_3
      replace hx282_4 := zo HB.out hx282_4
      replace p282 := eq_true p282
      replace q282 := eq_true q282
      refine start_ (n := 24) (S := fun w' => w'.cell? (ad282.add ((x3_1).toNat * 5)) = some (.string ((rd_T35 l0 x3_1).f0)) ∧ w'.cell? ⟨(ad282.add ((x3_1).toNat * 5)).block, (ad282.add ((x3_1).toNat * 5)).off + 1, none⟩ = some (.int .i64 ((rd_T35 l0 x3_1).f1.f0)) ∧ w'.cell? ⟨(ad282.add ((x3_1).toNat * 5)).block, (ad282.add ((x3_1).toNat * 5)).off + 2, none⟩ = some (.int .i64 ((rd_T35 l0 x3_1).f1.f1)) ∧ w'.cell? ⟨(ad282.add ((x3_1).toNat * 5)).block, (ad282.add ((x3_1).toNat * 5)).off + 3, none⟩ = some (.int .i64 ((rd_T35 l0 x3_1).f1.f2)) ∧ w'.cell? ⟨(ad282.add ((x3_1).toNat * 5)).block, (ad282.add ((x3_1).toNat * 5)).off + 4, none⟩ = some (.string ((rd_T35 l0 x3_1).f1.f3))) (ds := []) #[z7f, z7f, z7f, z7f, z7f, z7f, z7f, z7f, z7f, z7f, z7f, z7f, z7f, z7f, z7f, z7f, z7f, z7f, z7f, z7f, z7f, z7f, z7f, z7f] z1a rfl rfl ⟨(zo HB.out hw282_0), (zo HB.out hw282_1), (zo HB.out hw282_2), (zo HB.out hw282_3), (zo HB.out hw282_4)⟩ (fun hHeld => ?_); refine with_tabW spec_l5Rising.tab4 spec_l5Rising.bits4 (fun HT_ HW_ => ?_)
      generalize wr.drew = w17 at HB hx282_0 hx282_1 hx282_2 hx282_3 hx282_4 hHeld ⊢
      refine zk 0 (some 10) #[z7e, z7f, z7f, z7f, z7f, z7f, z7f, z7f, z7f, z7f, z7f, z7f, z7f, z7f, z7f, z7f, z7f, z7f, z7f, z7f, z7f, z7f, z7f, z7f] rfl rfl ?_
      refine zk 1 (some 11) #[z7e, z7e, z7f, z7f, z7f, z7f, z7f, z7f, z7f, z7f, z7f, z7f, z7f, z7f, z7f, z7f, z7f, z7f, z7f, z7f, z7f, z7f, z7f, z7f] rfl rfl ?_
      refine zk 2 (some 12) #[z7e, z7e, z7e, z7f, z7f, z7f, z7f, z7f, z7f, z7f, z7f, z7f, z7f, z7f, z7f, z7f, z7f, z7f, z7f, z7f, z7f, z7f, z7f, z7f] rfl rfl ?_
      refine zm 3 (some 13) #[z7e, z7e, z7e, z7e, z7f, z7f, z7f, z7f, z7f, z7f, z7f, z7f, z7f, z7f, z7f, z7f, z7f, z7f, z7f, z7f, z7f, z7f, z7f, z7f] rfl rfl (Or.inl ⟨zr, z1z⟩) hHeld ?_
      refine one_ (i := 4) (N := some 14) #[z7e, z7e, z7e, z7e, z7e, z7f, z7f, z7f, z7f, z7f, z7f, z7f, z7f, z7f, z7f, z7f, z7f, z7f, z7f, z7f, z7f, z7f, z7f, z7f] rfl rfl (one_of HT_.out z1a) z1g (fun K hK => ?_)
      refine goes_ Tryz.func69 z1a rfl #[.agg #[.string ((rd_T35 l0 x3_1).f0), .int .i64 ((rd_T35 l0 x3_1).f1.f0), .int .i64 ((rd_T35 l0 x3_1).f1.f1), .int .i64 ((rd_T35 l0 x3_1).f1.f2), .string ((rd_T35 l0 x3_1).f1.f3)]] zr rfl rfl z1b ?_
      with_reducible refine (spec_NeedOk.calls k1 ((rd_T35 l0 x3_1).f0) ((rd_T35 l0 x3_1).f1.f0) ((rd_T35 l0 x3_1).f1.f1) ((rd_T35 l0 x3_1).f1.f2) ((rd_T35 l0 x3_1).f1.f3) false _ A4.out).mono ?_
      rintro e w18 ⟨rfl, hb⟩
      refine ⟨_, rfl, ?_⟩
      have n0_ := zi (below_step zt hb)
      clear HB
      have HB := n0_
      clear n0_
      (try clear hb)
      (try clear hb2)
      (try clear hk)
      (try clear hi)
      refine hK.out _ _ ⟨(zo HB.out hw282_0), (zo HB.out hw282_1), (zo HB.out hw282_2), (zo HB.out hw282_3), (zo HB.out hw282_4)⟩ (fun hHeld => ?_)
      clear hK K
      refine zn (some 14) rfl ?_
      refine zk 5 (some 15) #[z7e, z7e, z7e, z7e, z7e, z7e, z7f, z7f, z7f, z7f, z7f, z7f, z7f, z7f, z7f, z7f, z7f, z7f, z7f, z7f, z7f, z7f, z7f, z7f] rfl rfl ?_
      refine zk 6 (some 16) #[z7e, z7e, z7e, z7e, z7e, z7e, z7e, z7f, z7f, z7f, z7f, z7f, z7f, z7f, z7f, z7f, z7f, z7f, z7f, z7f, z7f, z7f, z7f, z7f] rfl rfl ?_
      refine pure_ (i := 7) (N := some 17) (v := undef) (a' := ?_) #[z7e, z7e, z7e, z7e, z7e, z7e, z7e, z7e, z7f, z7f, z7f, z7f, z7f, z7f, z7f, z7f, z7f, z7f, z7f, z7f, z7f, z7f, z7f, z7f] rfl rfl (any_of HT_.out z1a) (fun _ _ _ h => h) (Or.inr ⟨zr, rfl⟩) ?_ ?_
      rotate_left
      ·simp only [Act.put, z7g, z7h, z7i, i64_w, i32_w]
       rfl
      refine pure_ (i := 8) (N := some 18) (v := undef) (a' := ?_) #[z7e, z7e, z7e, z7e, z7e, z7e, z7e, z7e, z7e, z7f, z7f, z7f, z7f, z7f, z7f, z7f, z7f, z7f, z7f, z7f, z7f, z7f, z7f, z7f] rfl rfl (any_of HT_.out z1a) (fun _ _ _ h => h) (Or.inr ⟨zr, rfl⟩) ?_ ?_
      rotate_left
      ·simp only [Act.put, z7g, z7h, z7i, i64_w, i32_w]
       rfl
      refine pure_ (i := 9) (N := some 19) (v := undef) (a' := ?_) #[z7e, z7e, z7e, z7e, z7e, z7e, z7e, z7e, z7e, z7e, z7f, z7f, z7f, z7f, z7f, z7f, z7f, z7f, z7f, z7f, z7f, z7f, z7f, z7f] rfl rfl (any_of HT_.out z1a) (fun _ _ _ h => h) (Or.inr ⟨zr, rfl⟩) ?_ ?_
      rotate_left
      ·simp only [Act.put, z7g, z7h, z7i, i64_w, i32_w]
       rfl
      refine pure_ (i := 10) (N := some 20) (v := undef) (a' := ?_) #[z7e, z7e, z7e, z7e, z7e, z7e, z7e, z7e, z7e, z7e, z7e, z7f, z7f, z7f, z7f, z7f, z7f, z7f, z7f, z7f, z7f, z7f, z7f, z7f] rfl rfl (any_of HT_.out z1a) (fun _ _ _ h => h) (Or.inr ⟨zr, rfl⟩) ?_ ?_
      rotate_left
      ·simp only [Act.put, z7g, z7h, z7i, i64_w, i32_w]
       rfl
      refine pure_ (i := 11) (N := some 21) (v := undef) (a' := ?_) #[z7e, z7e, z7e, z7e, z7e, z7e, z7e, z7e, z7e, z7e, z7e, z7e, z7f, z7f, z7f, z7f, z7f, z7f, z7f, z7f, z7f, z7f, z7f, z7f] rfl rfl (any_of HT_.out z1a) (fun _ _ _ h => h) (Or.inr ⟨zr, rfl⟩) ?_ ?_
      rotate_left
      ·simp only [Act.put, z7g, z7h, z7i, i64_w, i32_w]
       rfl
      refine pure_ (i := 12) (N := some 22) (v := undef) (a' := ?_) #[z7e, z7e, z7e, z7e, z7e, z7e, z7e, z7e, z7e, z7e, z7e, z7e, z7e, z7f, z7f, z7f, z7f, z7f, z7f, z7f, z7f, z7f, z7f, z7f] rfl rfl (any_of HT_.out z1a) (fun _ _ _ h => h) (Or.inr ⟨zr, rfl⟩) ?_ ?_
      rotate_left
      ·simp only [Act.put, z7g, z7h, z7i, i64_w, i32_w]
       rfl
      refine pure_ (i := 13) (N := some 23) (v := undef) (a' := ?_) #[z7e, z7e, z7e, z7e, z7e, z7e, z7e, z7e, z7e, z7e, z7e, z7e, z7e, z7e, z7f, z7f, z7f, z7f, z7f, z7f, z7f, z7f, z7f, z7f] rfl rfl (any_of HT_.out z1a) (fun _ _ _ h => h) (Or.inr ⟨zr, rfl⟩) ?_ ?_
      rotate_left
      ·simp only [Act.put, z7g, z7h, z7i, i64_w, i32_w]
       rfl
      refine pure_ (i := 14) (N := some 24) (v := undef) (a' := ?_) #[z7e, z7e, z7e, z7e, z7e, z7e, z7e, z7e, z7e, z7e, z7e, z7e, z7e, z7e, z7e, z7f, z7f, z7f, z7f, z7f, z7f, z7f, z7f, z7f] rfl rfl (any_of HT_.out z1a) (fun _ _ _ h => h) (Or.inr ⟨zr, rfl⟩) ?_ ?_
      rotate_left
      ·simp only [Act.put, z7g, z7h, z7i, i64_w, i32_w]
       rfl
      refine pure_ (i := 15) (N := some 25) (v := undef) (a' := ?_) #[z7e, z7e, z7e, z7e, z7e, z7e, z7e, z7e, z7e, z7e, z7e, z7e, z7e, z7e, z7e, z7e, z7f, z7f, z7f, z7f, z7f, z7f, z7f, z7f] rfl rfl (any_of HT_.out z1a) (fun _ _ _ h => h) (Or.inr ⟨zr, rfl⟩) ?_ ?_
      rotate_left
      ·simp only [Act.put, z7g, z7h, z7i, i64_w, i32_w]
       rfl
      refine pure_ (i := 16) (N := some 26) (v := undef) (a' := ?_) #[z7e, z7e, z7e, z7e, z7e, z7e, z7e, z7e, z7e, z7e, z7e, z7e, z7e, z7e, z7e, z7e, z7e, z7f, z7f, z7f, z7f, z7f, z7f, z7f] rfl rfl (any_of HT_.out z1a) (fun _ _ _ h => h) (Or.inr ⟨zr, rfl⟩) ?_ ?_
      rotate_left
      ·simp only [Act.put, z7g, z7h, z7i, i64_w, i32_w]
       rfl
      refine pure_ (i := 17) (N := some 27) (v := undef) (a' := ?_) #[z7e, z7e, z7e, z7e, z7e, z7e, z7e, z7e, z7e, z7e, z7e, z7e, z7e, z7e, z7e, z7e, z7e, z7e, z7f, z7f, z7f, z7f, z7f, z7f] rfl rfl (any_of HT_.out z1a) (fun _ _ _ h => h) (Or.inr ⟨zr, rfl⟩) ?_ ?_
      rotate_left
      ·simp only [Act.put, z7g, z7h, z7i, i64_w, i32_w]
       rfl
      refine pure_ (i := 18) (N := some 28) (v := undef) (a' := ?_) #[z7e, z7e, z7e, z7e, z7e, z7e, z7e, z7e, z7e, z7e, z7e, z7e, z7e, z7e, z7e, z7e, z7e, z7e, z7e, z7f, z7f, z7f, z7f, z7f] rfl rfl (any_of HT_.out z1a) (fun _ _ _ h => h) (Or.inr ⟨zr, rfl⟩) ?_ ?_
      rotate_left
      ·simp only [Act.put, z7g, z7h, z7i, i64_w, i32_w]
       rfl
      refine pure_ (i := 19) (N := some 29) (v := undef) (a' := ?_) #[z7e, z7e, z7e, z7e, z7e, z7e, z7e, z7e, z7e, z7e, z7e, z7e, z7e, z7e, z7e, z7e, z7e, z7e, z7e, z7e, z7f, z7f, z7f, z7f] rfl rfl (any_of HT_.out z1a) (fun _ _ _ h => h) (Or.inr ⟨zr, rfl⟩) ?_ ?_
      rotate_left
      ·simp only [Act.put, z7g, z7h, z7i, i64_w, i32_w]
       rfl
      refine pure_ (i := 20) (N := some 30) (v := undef) (a' := ?_) #[z7e, z7e, z7e, z7e, z7e, z7e, z7e, z7e, z7e, z7e, z7e, z7e, z7e, z7e, z7e, z7e, z7e, z7e, z7e, z7e, z7e, z7f, z7f, z7f] rfl rfl (any_of HT_.out z1a) (fun _ _ _ h => h) (Or.inr ⟨zr, rfl⟩) ?_ ?_
      rotate_left
      ·simp only [Act.put, z7g, z7h, z7i, i64_w, i32_w]
       rfl
      refine pure_ (i := 21) (N := some 31) (v := undef) (a' := ?_) #[z7e, z7e, z7e, z7e, z7e, z7e, z7e, z7e, z7e, z7e, z7e, z7e, z7e, z7e, z7e, z7e, z7e, z7e, z7e, z7e, z7e, z7e, z7f, z7f] rfl rfl (any_of HT_.out z1a) (fun _ _ _ h => h) (Or.inr ⟨zr, rfl⟩) ?_ ?_
      rotate_left
      ·simp only [Act.put, z7g, z7h, z7i, i64_w, i32_w]
       rfl
      refine pure_ (i := 22) (N := some 32) (v := undef) (a' := ?_) #[z7e, z7e, z7e, z7e, z7e, z7e, z7e, z7e, z7e, z7e, z7e, z7e, z7e, z7e, z7e, z7e, z7e, z7e, z7e, z7e, z7e, z7e, z7e, z7f] rfl rfl (any_of HT_.out z1a) (fun _ _ _ h => h) (Or.inr ⟨zr, rfl⟩) ?_ ?_
      rotate_left
      ·simp only [Act.put, z7g, z7h, z7i, i64_w, i32_w]
       rfl
      refine zk 23 (some 33) #[z7e, z7e, z7e, z7e, z7e, z7e, z7e, z7e, z7e, z7e, z7e, z7e, z7e, z7e, z7e, z7e, z7e, z7e, z7e, z7e, z7e, z7e, z7e, z7e] rfl rfl ?_
      refine done_ (done_of HT_.out z1a) ?_
      try go_wp2
      go_ret
      exact ⟨zw, zt⟩
    ·rw [if_neg c3] at H
     exact absurd H (by simp)
   ·rw [if_neg c2] at H
    have c2b0 := decide_eq_false c2
    clear c2
    obtain rfl := Option.some.inj H
    go_wp2
    go_ret
    exact ⟨zw, zt⟩
end Go.Proofs.YtgdknepphkhnlaaGreatDoor.X
