/- The law FnExactPutEntry, as a plain statement: the program's PutEntry answers as the reference's, and leaves its argument alone. Conditions: those of the row's reading alone. -/
/- Part 6 of 10 of this claim's texts. -/
import Derived.Test.YtgdknepphkhnlaaGreatDoorCFnExactPutEntry1
import Derived.Test.YtgdknepphkhnlaaGreatDoorCFnExactPutEntry4
namespace Go.Proofs.YtgdknepphkhnlaaGreatDoor.X
open Go.RowKit Go.Proofs.YtgdknepphkhnlaaGreatDoorW.PrintWords Go.Proofs.YtgdknepphkhnlaaGreatDoorW.PrintLast Go.Proofs.YtgdknepphkhnlaaGreatDoorW.PrintMore
attribute [local go_sem] max2_int min2_int max_two min_two max_three min_three max_four min_four
set_option linter.unusedVariables false
set_option linter.unusedSimpArgs false
def spec_l3Part.l0 : Nat → ByteArray → Int → Option (Bool)
 | 0, _, _ => none
 | k + 1, x0, x3 => if x3 < (x0.size : Int) then (if 0 ≤ x3 then ((spec_l1In.f (wrap64 (bt x0 x3)) 97 122).bind fun t249 => (if t249 = true then (spec_l3Part.l0 k x0 (wrap64 (x3 + 1))) else ((spec_l1In.f (wrap64 (bt x0 x3)) 65 90).bind fun t250 => (if t250 = true then (spec_l3Part.l0 k x0 (wrap64 (x3 + 1))) else ((spec_l1In.f (wrap64 (bt x0 x3)) 48 57).bind fun t251 => (if t251 = true then (spec_l3Part.l0 k x0 (wrap64 (x3 + 1))) else (if (wrap64 (bt x0 x3)) = 45 then (spec_l3Part.l0 k x0 (wrap64 (x3 + 1))) else (some false)))))))) else (none)) else ((spec_l1In.f (x0.size : Int) 1 8).bind fun t246 => (if t246 = true then ((spec_l3Digits.f k x0).bind fun t247 => (if t247 = true then ((spec_l3Number.f k x0).bind fun t248 => (some (decide (t248 ≥ 0)))) else (some true))) else (some false)))
def spec_l3Part.f (k : Nat) (a0 : ByteArray) : Option (Bool) := spec_l3Part.l0 k a0 0
set_option maxHeartbeats 8000000 in
set_option maxRecDepth 100000 in
theorem spec_l3Part.calls (k : Nat) (a0 : ByteArray) (r : Bool) (w : World) (h : spec_l3Part.f k a0 = some r) :
  Calls Tryz.prog 109 #[.string a0] w fun e w' => e = .returned (.bool r) ∧ Drawn0 w w' := by
 have H : (spec_l3Part.l0 k a0 0) = some r := h
 clear h
 have H' := Aside0.mk H
 clear H
 go_enter Tryz.func109, Tryz.ntmps109
 go_wp2
 go_loopg [3] k (fun kq v3 w' => ∃ (x3_1 : Int), v3 = .int .i64 x3_1 ∧ Aside0 (spec_l3Part.l0 kq a0 x3_1 = some r) ∧ Aside0 (kq ≤ k) ∧ Drawn0 w w')
 case atStart => exact ⟨(0), zj, H', ⟨Nat.le_refl _⟩, zk⟩
 case round =>
  clear H'
  try clear c1
  obtain ⟨x3_1, rfl, HA, HK1, ⟨m1, rfl⟩⟩ := hrel
  cases gk with
  | zero => exact absurd HA.out (by simp [spec_l3Part.l0])
  | succ k1 =>
   have H := HA.out
   clear HA
   simp only [spec_l3Part.l0] at H
   by_cases c2 : x3_1 < (a0.size : Int)
   ·rw [if_pos c2] at H
    have c2b0 : decide (x3_1 < (a0.size : Int)) = true := decide_eq_true c2
    clear c2
    by_cases c3 : 0 ≤ x3_1
    ·rw [if_pos c3] at H
     have c3b0 : decide (0 ≤ x3_1) = true := decide_eq_true c3
     clear c3
     replace H := Option.bind_eq_some_iff.mp H
     obtain ⟨t249, A50, H⟩ := H
     replace H : (if t249 = true then (spec_l3Part.l0 k1 a0 (wrap64 (x3_1 + 1))) else ((spec_l1In.f (wrap64 (bt a0 x3_1)) 65 90).bind fun t250 => (if t250 = true then (spec_l3Part.l0 k1 a0 (wrap64 (x3_1 + 1))) else ((spec_l1In.f (wrap64 (bt a0 x3_1)) 48 57).bind fun t251 => (if t251 = true then (spec_l3Part.l0 k1 a0 (wrap64 (x3_1 + 1))) else (if (wrap64 (bt a0 x3_1)) = 45 then (spec_l3Part.l0 k1 a0 (wrap64 (x3_1 + 1))) else (some false))))))) = some r := H
     have A5 := Aside0.mk A50
     clear A50
     by_cases c6 : t249 = true
     ·subst c6
      have H1 : (spec_l3Part.l0 k1 a0 (wrap64 (x3_1 + 1))) = some r := by rw [if_pos rfl] at H; exact H
      clear H
      have H := H1
      clear H1
      have H' := Aside0.mk H
      clear H
      have p4 : 0 ≤ (x3_1 : Int) := of_decide_eq_true zm
      have q4 : x3_1 < (a0.size : Int) := of_decide_eq_true zm
      have hx4 := bt_at a0 x3_1
      replace p4 := eq_true p4
      replace q4 := eq_true q4
      go_wp2_with (first | ((with_reducible refine gate_callee (f := 93) rfl ?_); refine goesL_ (some 16) rfl rfl Tryz.func93 zi rfl #[.int .i64 (wrap64 (bt a0 x3_1)), .int .i64 97, .int .i64 122] rfl zo ?_; (with_reducible refine (spec_l1In.calls (wrap64 (bt a0 x3_1)) 97 122 true _ A5.out).mono ?_); rintro e w' ⟨rfl, ⟨nd, rfl⟩⟩; refine ⟨_, rfl, ?_⟩))
      go_roundg k1
      case measure => have := HK1.out; omega
      case rel => exact ⟨(wrap64 (x3_1 + 1)), zj, H', ⟨zn⟩, zk⟩
     ·replace c6 := Bool.eq_false_iff.mpr c6
      subst c6
      have H1 : ((spec_l1In.f (wrap64 (bt a0 x3_1)) 65 90).bind fun t250 => (if t250 = true then (spec_l3Part.l0 k1 a0 (wrap64 (x3_1 + 1))) else ((spec_l1In.f (wrap64 (bt a0 x3_1)) 48 57).bind fun t251 => (if t251 = true then (spec_l3Part.l0 k1 a0 (wrap64 (x3_1 + 1))) else (if (wrap64 (bt a0 x3_1)) = 45 then (spec_l3Part.l0 k1 a0 (wrap64 (x3_1 + 1))) else (some false)))))) = some r := by rw [if_neg (show ¬ (false = true) by decide)] at H; exact H
      clear H
      have H := H1
      clear H1
      replace H := Option.bind_eq_some_iff.mp H
      obtain ⟨t250, A70, H⟩ := H
      replace H : (if t250 = true then (spec_l3Part.l0 k1 a0 (wrap64 (x3_1 + 1))) else ((spec_l1In.f (wrap64 (bt a0 x3_1)) 48 57).bind fun t251 => (if t251 = true then (spec_l3Part.l0 k1 a0 (wrap64 (x3_1 + 1))) else (if (wrap64 (bt a0 x3_1)) = 45 then (spec_l3Part.l0 k1 a0 (wrap64 (x3_1 + 1))) else (some false))))) = some r := H
      have A7 := Aside0.mk A70
      clear A70
      by_cases c8 : t250 = true
      ·subst c8
       have H1 : (spec_l3Part.l0 k1 a0 (wrap64 (x3_1 + 1))) = some r := by rw [if_pos rfl] at H; exact H
       clear H
       have H := H1
       clear H1
       have H' := Aside0.mk H
       clear H
       have p4 : 0 ≤ (x3_1 : Int) := of_decide_eq_true zm
       have q4 : x3_1 < (a0.size : Int) := of_decide_eq_true zm
       have hx4 := bt_at a0 x3_1
       replace p4 := eq_true p4
       replace q4 := eq_true q4
       go_wp2_with (first | ((with_reducible refine gate_callee (f := 93) rfl ?_); refine goesL_ (some 16) rfl rfl Tryz.func93 zi rfl #[.int .i64 (wrap64 (bt a0 x3_1)), .int .i64 97, .int .i64 122] rfl zo ?_; (with_reducible refine (spec_l1In.calls (wrap64 (bt a0 x3_1)) 97 122 false _ A5.out).mono ?_); rintro e w' ⟨rfl, ⟨nd, rfl⟩⟩; refine ⟨_, rfl, ?_⟩) | (go_at_call 93; (with_reducible refine (spec_l1In.calls (wrap64 (bt a0 x3_1)) 65 90 true _ A7.out).mono ?_); rintro e w' ⟨rfl, ⟨nd, rfl⟩⟩))
       go_roundg k1
       case measure => have := HK1.out; omega
       case rel => exact ⟨(wrap64 (x3_1 + 1)), zj, H', ⟨zn⟩, zk⟩
      ·replace c8 := Bool.eq_false_iff.mpr c8
       subst c8
       have H1 : ((spec_l1In.f (wrap64 (bt a0 x3_1)) 48 57).bind fun t251 => (if t251 = true then (spec_l3Part.l0 k1 a0 (wrap64 (x3_1 + 1))) else (if (wrap64 (bt a0 x3_1)) = 45 then (spec_l3Part.l0 k1 a0 (wrap64 (x3_1 + 1))) else (some false)))) = some r := by rw [if_neg (show ¬ (false = true) by decide)] at H; exact H
       clear H
       have H := H1
       clear H1
       replace H := Option.bind_eq_some_iff.mp H
       obtain ⟨t251, A90, H⟩ := H
       replace H : (if t251 = true then (spec_l3Part.l0 k1 a0 (wrap64 (x3_1 + 1))) else (if (wrap64 (bt a0 x3_1)) = 45 then (spec_l3Part.l0 k1 a0 (wrap64 (x3_1 + 1))) else (some false))) = some r := H
       have A9 := Aside0.mk A90
       clear A90
       by_cases c10 : t251 = true
       ·subst c10
        have H1 : (spec_l3Part.l0 k1 a0 (wrap64 (x3_1 + 1))) = some r := by rw [if_pos rfl] at H; exact H
        clear H
        have H := H1
        clear H1
        have H' := Aside0.mk H
        clear H
        have p4 : 0 ≤ (x3_1 : Int) := of_decide_eq_true zm
        have q4 : x3_1 < (a0.size : Int) := of_decide_eq_true zm
        have hx4 := bt_at a0 x3_1
        replace p4 := eq_true p4
        replace q4 := eq_true q4
        go_wp2_with (first | ((with_reducible refine gate_callee (f := 93) rfl ?_); refine goesL_ (some 16) rfl rfl Tryz.func93 zi rfl #[.int .i64 (wrap64 (bt a0 x3_1)), .int .i64 97, .int .i64 122] rfl zo ?_; (with_reducible refine (spec_l1In.calls (wrap64 (bt a0 x3_1)) 97 122 false _ A5.out).mono ?_); rintro e w' ⟨rfl, ⟨nd, rfl⟩⟩; refine ⟨_, rfl, ?_⟩) | (go_at_call 93; (with_reducible refine (spec_l1In.calls (wrap64 (bt a0 x3_1)) 65 90 false _ A7.out).mono ?_); rintro e w' ⟨rfl, ⟨nd, rfl⟩⟩) | (go_at_call 93; (with_reducible refine (spec_l1In.calls (wrap64 (bt a0 x3_1)) 48 57 true _ A9.out).mono ?_); rintro e w' ⟨rfl, ⟨nd, rfl⟩⟩))
        go_roundg k1
        case measure => have := HK1.out; omega
        case rel => exact ⟨(wrap64 (x3_1 + 1)), zj, H', ⟨zn⟩, zk⟩
       ·replace c10 := Bool.eq_false_iff.mpr c10
        subst c10
        have H1 : (if (wrap64 (bt a0 x3_1)) = 45 then (spec_l3Part.l0 k1 a0 (wrap64 (x3_1 + 1))) else (some false)) = some r := by rw [if_neg (show ¬ (false = true) by decide)] at H; exact H
        clear H
        have H := H1
        clear H1
        by_cases c11 : (wrap64 (bt a0 x3_1)) = 45
        ·rw [if_pos c11] at H
         have c11b0 : ((wrap64 (bt a0 x3_1)) == 45) = true := beq_iff_eq.mpr c11
         have c11b1 : ((wrap64 (bt a0 x3_1)) != 45) = false := bne_eq_false_iff_eq.mpr c11
         clear c11
         have H' := Aside0.mk H
         clear H
         have p4 : 0 ≤ (x3_1 : Int) := of_decide_eq_true zm
         have q4 : x3_1 < (a0.size : Int) := of_decide_eq_true zm
         have hx4 := bt_at a0 x3_1
         replace p4 := eq_true p4
         replace q4 := eq_true q4
         go_wp2_with (first | ((with_reducible refine gate_callee (f := 93) rfl ?_); refine goesL_ (some 16) rfl rfl Tryz.func93 zi rfl #[.int .i64 (wrap64 (bt a0 x3_1)), .int .i64 97, .int .i64 122] rfl zo ?_; (with_reducible refine (spec_l1In.calls (wrap64 (bt a0 x3_1)) 97 122 false _ A5.out).mono ?_); rintro e w' ⟨rfl, ⟨nd, rfl⟩⟩; refine ⟨_, rfl, ?_⟩) | (go_at_call 93; (with_reducible refine (spec_l1In.calls (wrap64 (bt a0 x3_1)) 65 90 false _ A7.out).mono ?_); rintro e w' ⟨rfl, ⟨nd, rfl⟩⟩) | (go_at_call 93; (with_reducible refine (spec_l1In.calls (wrap64 (bt a0 x3_1)) 48 57 false _ A9.out).mono ?_); rintro e w' ⟨rfl, ⟨nd, rfl⟩⟩))
         go_roundg k1
         case measure => have := HK1.out; omega
         case rel => exact ⟨(wrap64 (x3_1 + 1)), zj, H', ⟨zn⟩, zk⟩
        ·rw [if_neg c11] at H
         have c11b0 : ((wrap64 (bt a0 x3_1)) == 45) = false := beq_eq_false_iff_ne.mpr c11
         have c11b1 : ((wrap64 (bt a0 x3_1)) != 45) = true := bne_iff_ne.mpr c11
         obtain rfl := Option.some.inj H
         have p4 : 0 ≤ (x3_1 : Int) := of_decide_eq_true zm
         have q4 : x3_1 < (a0.size : Int) := of_decide_eq_true zm
         have hx4 := bt_at a0 x3_1
         replace p4 := eq_true p4
         replace q4 := eq_true q4
         go_wp2_with (first | ((with_reducible refine gate_callee (f := 93) rfl ?_); refine goesL_ (some 16) rfl rfl Tryz.func93 zi rfl #[.int .i64 (wrap64 (bt a0 x3_1)), .int .i64 97, .int .i64 122] rfl zo ?_; (with_reducible refine (spec_l1In.calls (wrap64 (bt a0 x3_1)) 97 122 false _ A5.out).mono ?_); rintro e w' ⟨rfl, ⟨nd, rfl⟩⟩; refine ⟨_, rfl, ?_⟩) | (go_at_call 93; (with_reducible refine (spec_l1In.calls (wrap64 (bt a0 x3_1)) 65 90 false _ A7.out).mono ?_); rintro e w' ⟨rfl, ⟨nd, rfl⟩⟩) | (go_at_call 93; (with_reducible refine (spec_l1In.calls (wrap64 (bt a0 x3_1)) 48 57 false _ A9.out).mono ?_); rintro e w' ⟨rfl, ⟨nd, rfl⟩⟩))
         go_ret
         exact ⟨zj, zk⟩
    ·rw [if_neg c3] at H
     exact absurd H (by simp)
   ·rw [if_neg c2] at H
    have c2b0 : decide (x3_1 < (a0.size : Int)) = false := decide_eq_false c2
    clear c2
    replace H := Option.bind_eq_some_iff.mp H
    obtain ⟨t246, A120, H⟩ := H
    replace H : (if t246 = true then ((spec_l3Digits.f k1 a0).bind fun t247 => (if t247 = true then ((spec_l3Number.f k1 a0).bind fun t248 => (some (decide (t248 ≥ 0)))) else (some true))) else (some false)) = some r := H
    have A12 := Aside0.mk A120
    clear A120
    by_cases c13 : t246 = true
    ·subst c13
     have H1 : ((spec_l3Digits.f k1 a0).bind fun t247 => (if t247 = true then ((spec_l3Number.f k1 a0).bind fun t248 => (some (decide (t248 ≥ 0)))) else (some true))) = some r := by rw [if_pos rfl] at H; exact H
     clear H
     have H := H1
     clear H1
     replace H := Option.bind_eq_some_iff.mp H
     obtain ⟨t247, A140, H⟩ := H
     replace H : (if t247 = true then ((spec_l3Number.f k1 a0).bind fun t248 => (some (decide (t248 ≥ 0)))) else (some true)) = some r := H
     have A14 := Aside0.mk A140
     clear A140
     by_cases c15 : t247 = true
     ·subst c15
      have H1 : ((spec_l3Number.f k1 a0).bind fun t248 => (some (decide (t248 ≥ 0)))) = some r := by rw [if_pos rfl] at H; exact H
      clear H
      have H := H1
      clear H1
      replace H := Option.bind_eq_some_iff.mp H
      obtain ⟨t248, A160, H⟩ := H
      replace H : (some (decide (t248 ≥ 0))) = some r := H
      have A16 := Aside0.mk A160
      clear A160
      obtain rfl := Option.some.inj H
      go_wp2_with (first | ((with_reducible refine gate_callee (f := 93) rfl ?_); refine goesL_ (some 34) rfl rfl Tryz.func93 zi rfl #[.int .i64 (a0.size : Int), .int .i64 1, .int .i64 8] rfl zo ?_; (with_reducible refine (spec_l1In.calls (a0.size : Int) 1 8 true _ A12.out).mono ?_); rintro e w' ⟨rfl, ⟨nd, rfl⟩⟩; refine ⟨_, rfl, ?_⟩) | (go_at_call 107; (with_reducible refine (spec_l3Digits.calls k1 a0 true _ A14.out).mono ?_); rintro e w' ⟨rfl, ⟨nd, rfl⟩⟩) | (go_at_call 87; (with_reducible refine (spec_l3Number.calls k1 a0 t248 _ A16.out).mono ?_); rintro e w' ⟨rfl, ⟨nd, rfl⟩⟩))
      go_ret
      exact ⟨zj, zk⟩
     ·replace c15 := Bool.eq_false_iff.mpr c15
      subst c15
      have H1 : (some true) = some r := by rw [if_neg (show ¬ (false = true) by decide)] at H; exact H
      clear H
      have H := H1
      clear H1
      obtain rfl := Option.some.inj H
      go_wp2_with (first | ((with_reducible refine gate_callee (f := 93) rfl ?_); refine goesL_ (some 34) rfl rfl Tryz.func93 zi rfl #[.int .i64 (a0.size : Int), .int .i64 1, .int .i64 8] rfl zo ?_; (with_reducible refine (spec_l1In.calls (a0.size : Int) 1 8 true _ A12.out).mono ?_); rintro e w' ⟨rfl, ⟨nd, rfl⟩⟩; refine ⟨_, rfl, ?_⟩) | (go_at_call 107; (with_reducible refine (spec_l3Digits.calls k1 a0 false _ A14.out).mono ?_); rintro e w' ⟨rfl, ⟨nd, rfl⟩⟩))
      go_ret
      exact ⟨zj, zk⟩
    ·replace c13 := Bool.eq_false_iff.mpr c13
     subst c13
     have H1 : (some false) = some r := by rw [if_neg (show ¬ (false = true) by decide)] at H; exact H
     clear H
     have H := H1
     clear H1
     obtain rfl := Option.some.inj H
     go_wp2_with (first | ((with_reducible refine gate_callee (f := 93) rfl ?_); refine goesL_ (some 34) rfl rfl Tryz.func93 zi rfl #[.int .i64 (a0.size : Int), .int .i64 1, .int .i64 8] rfl zo ?_; (with_reducible refine (spec_l1In.calls (a0.size : Int) 1 8 false _ A12.out).mono ?_); rintro e w' ⟨rfl, ⟨nd, rfl⟩⟩; refine ⟨_, rfl, ?_⟩))
     go_ret
     exact ⟨zj, zk⟩
end Go.Proofs.YtgdknepphkhnlaaGreatDoor.X

namespace Go.Proofs.YtgdknepphkhnlaaGreatDoor.X
open Go.RowKit Go.Proofs.YtgdknepphkhnlaaGreatDoorW.PrintWords Go.Proofs.YtgdknepphkhnlaaGreatDoorW.PrintLast Go.Proofs.YtgdknepphkhnlaaGreatDoorW.PrintMore
attribute [local go_sem] max2_int min2_int max_two min_two max_three min_three max_four min_four
set_option linter.unusedVariables false
set_option linter.unusedSimpArgs false
def spec_l3Pre.l0 : Nat → List ByteArray → Int → Option (Bool)
 | 0, _, _ => none
 | k + 1, x3, x4 => if x4 < (x3.length : Int) then (if 0 ≤ x4 then ((spec_l3Part.f k (rdOf ByteArray.empty x3 x4)).bind fun t256 => (if t256 = true then (spec_l3Pre.l0 k x3 (wrap64 (x4 + 1))) else (some false))) else (none)) else (some (decide ((x3.length : Int) ≤ 4)))
def spec_l3Pre.f (k : Nat) (a0 : ByteArray) : Option (Bool) := (spec_l3Split.f k a0 46).bind fun t252 => (spec_l3Pre.l0 k t252 0)
set_option maxHeartbeats 8000000 in
set_option maxRecDepth 100000 in
theorem spec_l3Pre.calls (k : Nat) (a0 : ByteArray) (r : Bool) (w : World) (h : spec_l3Pre.f k a0 = some r) :
  Calls Tryz.prog 94 #[.string a0] w fun e w' => e = .returned (.bool r) ∧ Below w.heap.size w w' := by
 have HB := Aside0.mk (Below.refl w.heap.size w)
 have H : ((spec_l3Split.f k a0 46).bind fun t252 => (spec_l3Pre.l0 k t252 0)) = some r := h
 clear h
 replace H := Option.bind_eq_some_iff.mp H
 obtain ⟨t252, A20, H⟩ := H
 replace H : (spec_l3Pre.l0 k t252 0) = some r := H
 have A2 := Aside0.mk A20
 clear A20
 have H' := Aside0.mk H
 clear H
 go_enter Tryz.func94, Tryz.ntmps94
 go_wp2_with (first | ((with_reducible refine gate_callee (f := 56) rfl ?_); refine goesL_ (some 6) rfl rfl Tryz.func56 zi rfl #[.string a0, .int .u8 46] rfl zo ?_; (with_reducible refine (spec_l3Split.calls k a0 46 t252 _ A2.out).mono ?_); rintro e w3 ⟨v253, rfl, ho0, hb⟩; refine ⟨_, rfl, ?_⟩; have n0_ := Aside0.mk (Kd.R_lower ho0 (below_size zp)); have n1_ := Aside0.mk (below_step zp hb); clear HB; have HO254 := n0_; have HB := n1_; clear n0_ n1_; (try clear hb); (try clear hb2); (try clear hk); (try clear hi); (try clear ho0)))
 go_loopg [4] k (fun kq v4 w' => ∃ (x4_1 : Int), v4 = .int .i64 x4_1 ∧ Aside0 (spec_l3Pre.l0 kq t252 x4_1 = some r) ∧ Aside0 (kq ≤ k) ∧ Aside0 (Kd.R Kd.string 9 w' w.heap.size (fun _ => True) v253 t252) ∧ Aside0 (Below w.heap.size w w'))
 case atStart => exact ⟨(0), zj, H', ⟨Nat.le_refl _⟩, ⟨by (with_reducible repeat (first | apply Kd.R_alloc | apply Kd.R_drewN | apply Kd.R_drew)); exact HO254.out⟩, ⟨zp⟩⟩
 case round =>
  clear H'
  try clear p2
  obtain ⟨x4_1, rfl, HA, HK1, HO_3, HB⟩ := hrel
  cases gk with
  | zero => exact absurd HA.out (by simp [spec_l3Pre.l0])
  | succ k1 =>
   have H := HA.out
   clear HA
   simp only [spec_l3Pre.l0] at H
   by_cases c4 : x4_1 < (t252.length : Int)
   ·rw [if_pos c4] at H
    have c4b0 : decide (x4_1 < (t252.length : Int)) = true := decide_eq_true c4
    clear c4
    by_cases c5 : 0 ≤ x4_1
    ·rw [if_pos c5] at H
     have c5b0 : decide (0 ≤ x4_1) = true := decide_eq_true c5
     clear c5
     replace H := Option.bind_eq_some_iff.mp H
     obtain ⟨t256, A60, H⟩ := H
     replace H : (if t256 = true then (spec_l3Pre.l0 k1 t252 (wrap64 (x4_1 + 1))) else (some false)) = some r := H
     have A6 := Aside0.mk A60
     clear A60
     by_cases c7 : t256 = true
     ·subst c7
      have H1 : (spec_l3Pre.l0 k1 t252 (wrap64 (x4_1 + 1))) = some r := by rw [if_pos rfl] at H; exact H
      clear H
      have H := H1
      clear H1
      have H' := Aside0.mk H
      clear H
      obtain ⟨Ao8, co8, eo8⟩ := Kd.R_slice HO_3.out
      subst eo8
      have p255 : 0 ≤ (x4_1 : Int) := of_decide_eq_true zm
      have q255 : x4_1 < (t252.length : Int) := of_decide_eq_true zm
      obtain ⟨ad255, e255, hx255_0⟩ := Kd.at_string (Kd.R_reads' HO_3.out).2.2 x4_1 p255 q255
      cases e255
      replace p255 := eq_true p255
      replace q255 := eq_true q255
      go_wp2_with (first | ((with_reducible refine gate_callee (f := 109) rfl ?_); refine goesL_ (some 17) rfl rfl Tryz.func109 zi rfl #[.string (rdOf ByteArray.empty t252 x4_1)] rfl zo ?_; (with_reducible refine (spec_l3Part.calls k1 (rdOf ByteArray.empty t252 x4_1) true _ A6.out).mono ?_); rintro e w' ⟨rfl, ⟨nd, rfl⟩⟩; refine ⟨_, rfl, ?_⟩))
      go_roundg k1
      case measure => have := HK1.out; omega
      case rel => exact ⟨(wrap64 (x4_1 + 1)), zj, H', ⟨zn⟩, ⟨zq⟩, ⟨zp⟩⟩
     ·replace c7 := Bool.eq_false_iff.mpr c7
      subst c7
      have H1 : (some false) = some r := by rw [if_neg (show ¬ (false = true) by decide)] at H; exact H
      clear H
      have H := H1
      clear H1
      obtain rfl := Option.some.inj H
      obtain ⟨Ao9, co9, eo9⟩ := Kd.R_slice HO_3.out
      subst eo9
      have p255 : 0 ≤ (x4_1 : Int) := of_decide_eq_true zm
      have q255 : x4_1 < (t252.length : Int) := of_decide_eq_true zm
      obtain ⟨ad255, e255, hx255_0⟩ := Kd.at_string (Kd.R_reads' HO_3.out).2.2 x4_1 p255 q255
      cases e255
      replace p255 := eq_true p255
      replace q255 := eq_true q255
      go_wp2_with (first | ((with_reducible refine gate_callee (f := 109) rfl ?_); refine goesL_ (some 17) rfl rfl Tryz.func109 zi rfl #[.string (rdOf ByteArray.empty t252 x4_1)] rfl zo ?_; (with_reducible refine (spec_l3Part.calls k1 (rdOf ByteArray.empty t252 x4_1) false _ A6.out).mono ?_); rintro e w' ⟨rfl, ⟨nd, rfl⟩⟩; refine ⟨_, rfl, ?_⟩))
      go_ret
      exact ⟨zr, zp⟩
    ·rw [if_neg c5] at H
     exact absurd H (by simp)
   ·rw [if_neg c4] at H
    have c4b0 : decide (x4_1 < (t252.length : Int)) = false := decide_eq_false c4
    clear c4
    obtain rfl := Option.some.inj H
    obtain ⟨Ao10, co10, eo10⟩ := Kd.R_slice HO_3.out
    subst eo10
    go_wp2
    go_ret
    exact ⟨zr, zp⟩
end Go.Proofs.YtgdknepphkhnlaaGreatDoor.X

namespace Go.Proofs.YtgdknepphkhnlaaGreatDoor.X
open Go.RowKit Go.Proofs.YtgdknepphkhnlaaGreatDoorW.PrintWords Go.Proofs.YtgdknepphkhnlaaGreatDoorW.PrintLast Go.Proofs.YtgdknepphkhnlaaGreatDoorW.PrintMore
attribute [local go_sem] max2_int min2_int max_two min_two max_three min_three max_four min_four
set_option linter.unusedVariables false
set_option linter.unusedSimpArgs false
def spec_VersionOk.f (k : Nat) (a0_0 : Int) (a0_1 : Int) (a0_2 : Int) (a0_3 : ByteArray) : Option (Bool) := (spec_l1In.f a0_0 0 1000000).bind fun t258 => (if t258 = true then ((spec_l1In.f a0_1 0 1000000).bind fun t259 => (if t259 = true then ((spec_l1In.f a0_2 0 1000000).bind fun t260 => (if t260 = true then (if a0_3.toList = ([] : List UInt8) then (some true) else ((spec_l3Pre.f k a0_3).bind fun t261 => (some t261))) else (some false))) else (some false))) else (some false))
set_option maxHeartbeats 8000000 in
set_option maxRecDepth 100000 in
theorem spec_VersionOk.calls (k : Nat) (a0_0 : Int) (a0_1 : Int) (a0_2 : Int) (a0_3 : ByteArray) (r : Bool) (w : World) (h : spec_VersionOk.f k a0_0 a0_1 a0_2 a0_3 = some r) :
  Calls Tryz.prog 68 #[.agg #[.int .i64 a0_0, .int .i64 a0_1, .int .i64 a0_2, .string a0_3]] w fun e w' => e = .returned (.bool r) ∧ Below w.heap.size w w' := by
 have hu25 := Tryz.underlying25
 have HB := Aside0.mk (Below.refl w.heap.size w)
 have H : ((spec_l1In.f a0_0 0 1000000).bind fun t258 => (if t258 = true then ((spec_l1In.f a0_1 0 1000000).bind fun t259 => (if t259 = true then ((spec_l1In.f a0_2 0 1000000).bind fun t260 => (if t260 = true then (if a0_3.toList = ([] : List UInt8) then (some true) else ((spec_l3Pre.f k a0_3).bind fun t261 => (some t261))) else (some false))) else (some false))) else (some false))) = some r := h
 clear h
 replace H := Option.bind_eq_some_iff.mp H
 obtain ⟨t258, A20, H⟩ := H
 replace H : (if t258 = true then ((spec_l1In.f a0_1 0 1000000).bind fun t259 => (if t259 = true then ((spec_l1In.f a0_2 0 1000000).bind fun t260 => (if t260 = true then (if a0_3.toList = ([] : List UInt8) then (some true) else ((spec_l3Pre.f k a0_3).bind fun t261 => (some t261))) else (some false))) else (some false))) else (some false)) = some r := H
 have A2 := Aside0.mk A20
 clear A20
 by_cases c3 : t258 = true
 ·subst c3
  have H1 : ((spec_l1In.f a0_1 0 1000000).bind fun t259 => (if t259 = true then ((spec_l1In.f a0_2 0 1000000).bind fun t260 => (if t260 = true then (if a0_3.toList = ([] : List UInt8) then (some true) else ((spec_l3Pre.f k a0_3).bind fun t261 => (some t261))) else (some false))) else (some false))) = some r := by rw [if_pos rfl] at H; exact H
  clear H
  have H := H1
  clear H1
  replace H := Option.bind_eq_some_iff.mp H
  obtain ⟨t259, A40, H⟩ := H
  replace H : (if t259 = true then ((spec_l1In.f a0_2 0 1000000).bind fun t260 => (if t260 = true then (if a0_3.toList = ([] : List UInt8) then (some true) else ((spec_l3Pre.f k a0_3).bind fun t261 => (some t261))) else (some false))) else (some false)) = some r := H
  have A4 := Aside0.mk A40
  clear A40
  by_cases c5 : t259 = true
  ·subst c5
   have H1 : ((spec_l1In.f a0_2 0 1000000).bind fun t260 => (if t260 = true then (if a0_3.toList = ([] : List UInt8) then (some true) else ((spec_l3Pre.f k a0_3).bind fun t261 => (some t261))) else (some false))) = some r := by rw [if_pos rfl] at H; exact H
   clear H
   have H := H1
   clear H1
   replace H := Option.bind_eq_some_iff.mp H
   obtain ⟨t260, A60, H⟩ := H
   replace H : (if t260 = true then (if a0_3.toList = ([] : List UInt8) then (some true) else ((spec_l3Pre.f k a0_3).bind fun t261 => (some t261))) else (some false)) = some r := H
   have A6 := Aside0.mk A60
   clear A60
   by_cases c7 : t260 = true
   ·subst c7
    have H1 : (if a0_3.toList = ([] : List UInt8) then (some true) else ((spec_l3Pre.f k a0_3).bind fun t261 => (some t261))) = some r := by rw [if_pos rfl] at H; exact H
    clear H
    have H := H1
    clear H1
    by_cases c8 : a0_3.toList = ([] : List UInt8)
    ·rw [if_pos c8] at H
     have c8b0 : (a0_3.toList == ([] : List UInt8)) = true := beq_iff_eq.mpr c8
     have c8b1 : (a0_3.toList != ([] : List UInt8)) = false := bne_eq_false_iff_eq.mpr c8
     clear c8
     obtain rfl := Option.some.inj H
     go_enter Tryz.func68, Tryz.ntmps68
     go_wp2_with (first | ((with_reducible refine gate_dst (N := 1) rfl ?_); refine box_event zw (N := 1) zw (cs := #[.int .i64 a0_0, .int .i64 a0_1, .int .i64 a0_2, .string a0_3]) (t := 25) zx ?_; intro gb257 hg w9 hbox hb; have n0_ := Aside0.mk (below_step zp hb); have n1_ := Aside0.mk hbox; have n2_ := Aside0.mk ((z3s : w.heap.size ≤ gb257)); have n3_ := Aside0.mk ((z3s : w.heap.size ≤ gb257)); clear HB; have HB := n0_; have BK257 := n1_; have GW257 := n2_; have GE257 := n3_; clear n0_ n1_ n2_ n3_; clear hb hbox hg; obtain ⟨hcz10_0, hcz10_1, hcz10_2, hcz10_3, hfz10_0, hfz10_1, hfz10_2, hfz10_3⟩ := zd BK257.out) | ((with_reducible refine gate_callee (f := 93) rfl ?_); refine goesL_ (some 5) rfl rfl Tryz.func93 zi rfl #[.int .i64 a0_0, .int .i64 0, .int .i64 1000000] rfl zo ?_; (with_reducible refine (spec_l1In.calls a0_0 0 1000000 true _ A2.out).mono ?_); rintro e w' ⟨rfl, ⟨nd, rfl⟩⟩; refine ⟨_, rfl, ?_⟩) | (go_at_call 93; (with_reducible refine (spec_l1In.calls a0_1 0 1000000 true _ A4.out).mono ?_); rintro e w' ⟨rfl, ⟨nd, rfl⟩⟩) | (go_at_call 93; (with_reducible refine (spec_l1In.calls a0_2 0 1000000 true _ A6.out).mono ?_); rintro e w' ⟨rfl, ⟨nd, rfl⟩⟩))
     go_ret
     exact ⟨zr, z2g⟩
    ·rw [if_neg c8] at H
     have c8b0 : (a0_3.toList == ([] : List UInt8)) = false := beq_eq_false_iff_ne.mpr c8
     have c8b1 : (a0_3.toList != ([] : List UInt8)) = true := bne_iff_ne.mpr c8
     replace H := Option.bind_eq_some_iff.mp H
     obtain ⟨t261, A110, H⟩ := H
     replace H : (some t261) = some r := H
     have A11 := Aside0.mk A110
     clear A110
     obtain rfl := Option.some.inj H
     go_enter Tryz.func68, Tryz.ntmps68
     go_wp2_with (first | ((with_reducible refine gate_dst (N := 1) rfl ?_); refine box_event zw (N := 1) zw (cs := #[.int .i64 a0_0, .int .i64 a0_1, .int .i64 a0_2, .string a0_3]) (t := 25) zx ?_; intro gb257 hg w12 hbox hb; have n0_ := Aside0.mk (below_step zp hb); have n1_ := Aside0.mk hbox; have n2_ := Aside0.mk ((z3s : w.heap.size ≤ gb257)); have n3_ := Aside0.mk ((z3s : w.heap.size ≤ gb257)); clear HB; have HB := n0_; have BK257 := n1_; have GW257 := n2_; have GE257 := n3_; clear n0_ n1_ n2_ n3_; clear hb hbox hg; obtain ⟨hcz13_0, hcz13_1, hcz13_2, hcz13_3, hfz13_0, hfz13_1, hfz13_2, hfz13_3⟩ := zd BK257.out) | ((with_reducible refine gate_callee (f := 93) rfl ?_); refine goesL_ (some 5) rfl rfl Tryz.func93 zi rfl #[.int .i64 a0_0, .int .i64 0, .int .i64 1000000] rfl zo ?_; (with_reducible refine (spec_l1In.calls a0_0 0 1000000 true _ A2.out).mono ?_); rintro e w' ⟨rfl, ⟨nd, rfl⟩⟩; refine ⟨_, rfl, ?_⟩) | (go_at_call 93; (with_reducible refine (spec_l1In.calls a0_1 0 1000000 true _ A4.out).mono ?_); rintro e w' ⟨rfl, ⟨nd, rfl⟩⟩) | (go_at_call 93; (with_reducible refine (spec_l1In.calls a0_2 0 1000000 true _ A6.out).mono ?_); rintro e w' ⟨rfl, ⟨nd, rfl⟩⟩) | (go_at_call 94; (with_reducible refine (spec_l3Pre.calls k a0_3 t261 _ A11.out).mono ?_); rintro e w14 ⟨rfl, hb⟩; have n0_ := Aside0.mk (blk_below (g := gb257) (o := .cells #[.int .i64 a0_0, .int .i64 a0_1, .int .i64 a0_2, .string a0_3] 25 (0, 0)) (by (with_reducible repeat (first | refine blk_drewN ?_ _ | refine blk_drew ?_ | refine blk_alloc ?_ _)); exact BK257.out) hb); have n1_ := Aside0.mk (below_step z2g hb); clear BK257; clear HB; have BK257 := n0_; have HB := n1_; clear n0_ n1_; (try clear hb); (try clear hb2); (try clear hk); (try clear hi)))
     go_ret
     exact ⟨zr, z2g⟩
   ·replace c7 := Bool.eq_false_iff.mpr c7
    subst c7
    have H1 : (some false) = some r := by rw [if_neg (show ¬ (false = true) by decide)] at H; exact H
    clear H
    have H := H1
    clear H1
    obtain rfl := Option.some.inj H
    go_enter Tryz.func68, Tryz.ntmps68
    go_wp2_with (first | ((with_reducible refine gate_dst (N := 1) rfl ?_); refine box_event zw (N := 1) zw (cs := #[.int .i64 a0_0, .int .i64 a0_1, .int .i64 a0_2, .string a0_3]) (t := 25) zx ?_; intro gb257 hg w15 hbox hb; have n0_ := Aside0.mk (below_step zp hb); have n1_ := Aside0.mk hbox; have n2_ := Aside0.mk ((z3s : w.heap.size ≤ gb257)); have n3_ := Aside0.mk ((z3s : w.heap.size ≤ gb257)); clear HB; have HB := n0_; have BK257 := n1_; have GW257 := n2_; have GE257 := n3_; clear n0_ n1_ n2_ n3_; clear hb hbox hg; obtain ⟨hcz16_0, hcz16_1, hcz16_2, hcz16_3, hfz16_0, hfz16_1, hfz16_2, hfz16_3⟩ := zd BK257.out) | ((with_reducible refine gate_callee (f := 93) rfl ?_); refine goesL_ (some 5) rfl rfl Tryz.func93 zi rfl #[.int .i64 a0_0, .int .i64 0, .int .i64 1000000] rfl zo ?_; (with_reducible refine (spec_l1In.calls a0_0 0 1000000 true _ A2.out).mono ?_); rintro e w' ⟨rfl, ⟨nd, rfl⟩⟩; refine ⟨_, rfl, ?_⟩) | (go_at_call 93; (with_reducible refine (spec_l1In.calls a0_1 0 1000000 true _ A4.out).mono ?_); rintro e w' ⟨rfl, ⟨nd, rfl⟩⟩) | (go_at_call 93; (with_reducible refine (spec_l1In.calls a0_2 0 1000000 false _ A6.out).mono ?_); rintro e w' ⟨rfl, ⟨nd, rfl⟩⟩))
    go_ret
    exact ⟨zr, z2g⟩
  ·replace c5 := Bool.eq_false_iff.mpr c5
   subst c5
   have H1 : (some false) = some r := by rw [if_neg (show ¬ (false = true) by decide)] at H; exact H
   clear H
   have H := H1
   clear H1
   obtain rfl := Option.some.inj H
   go_enter Tryz.func68, Tryz.ntmps68
   go_wp2_with (first | ((with_reducible refine gate_dst (N := 1) rfl ?_); refine box_event zw (N := 1) zw (cs := #[.int .i64 a0_0, .int .i64 a0_1, .int .i64 a0_2, .string a0_3]) (t := 25) zx ?_; intro gb257 hg w17 hbox hb; have n0_ := Aside0.mk (below_step zp hb); have n1_ := Aside0.mk hbox; have n2_ := Aside0.mk ((z3s : w.heap.size ≤ gb257)); have n3_ := Aside0.mk ((z3s : w.heap.size ≤ gb257)); clear HB; have HB := n0_; have BK257 := n1_; have GW257 := n2_; have GE257 := n3_; clear n0_ n1_ n2_ n3_; clear hb hbox hg; obtain ⟨hcz18_0, hcz18_1, hcz18_2, hcz18_3, hfz18_0, hfz18_1, hfz18_2, hfz18_3⟩ := zd BK257.out) | ((with_reducible refine gate_callee (f := 93) rfl ?_); refine goesL_ (some 5) rfl rfl Tryz.func93 zi rfl #[.int .i64 a0_0, .int .i64 0, .int .i64 1000000] rfl zo ?_; (with_reducible refine (spec_l1In.calls a0_0 0 1000000 true _ A2.out).mono ?_); rintro e w' ⟨rfl, ⟨nd, rfl⟩⟩; refine ⟨_, rfl, ?_⟩) | (go_at_call 93; (with_reducible refine (spec_l1In.calls a0_1 0 1000000 false _ A4.out).mono ?_); rintro e w' ⟨rfl, ⟨nd, rfl⟩⟩))
   go_ret
   exact ⟨zr, z2g⟩
 ·replace c3 := Bool.eq_false_iff.mpr c3
  subst c3
  have H1 : (some false) = some r := by rw [if_neg (show ¬ (false = true) by decide)] at H; exact H
  clear H
  have H := H1
  clear H1
  obtain rfl := Option.some.inj H
  go_enter Tryz.func68, Tryz.ntmps68
  go_wp2_with (first | ((with_reducible refine gate_dst (N := 1) rfl ?_); refine box_event zw (N := 1) zw (cs := #[.int .i64 a0_0, .int .i64 a0_1, .int .i64 a0_2, .string a0_3]) (t := 25) zx ?_; intro gb257 hg w19 hbox hb; have n0_ := Aside0.mk (below_step zp hb); have n1_ := Aside0.mk hbox; have n2_ := Aside0.mk ((z3s : w.heap.size ≤ gb257)); have n3_ := Aside0.mk ((z3s : w.heap.size ≤ gb257)); clear HB; have HB := n0_; have BK257 := n1_; have GW257 := n2_; have GE257 := n3_; clear n0_ n1_ n2_ n3_; clear hb hbox hg; obtain ⟨hcz20_0, hcz20_1, hcz20_2, hcz20_3, hfz20_0, hfz20_1, hfz20_2, hfz20_3⟩ := zd BK257.out) | ((with_reducible refine gate_callee (f := 93) rfl ?_); refine goesL_ (some 5) rfl rfl Tryz.func93 zi rfl #[.int .i64 a0_0, .int .i64 0, .int .i64 1000000] rfl zo ?_; (with_reducible refine (spec_l1In.calls a0_0 0 1000000 false _ A2.out).mono ?_); rintro e w' ⟨rfl, ⟨nd, rfl⟩⟩; refine ⟨_, rfl, ?_⟩))
  go_ret
  exact ⟨zr, z2g⟩
end Go.Proofs.YtgdknepphkhnlaaGreatDoor.X

namespace Go.Proofs.YtgdknepphkhnlaaGreatDoor.X
open Go.RowKit Go.Proofs.YtgdknepphkhnlaaGreatDoorW.PrintWords Go.Proofs.YtgdknepphkhnlaaGreatDoorW.PrintLast Go.Proofs.YtgdknepphkhnlaaGreatDoorW.PrintMore
attribute [local go_sem] max2_int min2_int max_two min_two max_three min_three max_four min_four
set_option linter.unusedVariables false
set_option linter.unusedSimpArgs false
def spec_Fits.f (k : Nat) (a0 : ByteArray) (a1_0 : Int) (a1_1 : Int) (a1_2 : Int) (a1_3 : ByteArray) : Option (Bool) := (spec_MajorOf.f k a0).bind fun t263 => (if t263 > 0 then ((spec_VersionOk.f k a1_0 a1_1 a1_2 a1_3).bind fun t264 => (if t264 = true then (if a1_0 = t263 then (some true) else (if t263 = 1 then (some (a1_0 == 0)) else (some false))) else (some false))) else (some false))
set_option maxHeartbeats 8000000 in
set_option maxRecDepth 100000 in
theorem spec_Fits.calls (k : Nat) (a0 : ByteArray) (a1_0 : Int) (a1_1 : Int) (a1_2 : Int) (a1_3 : ByteArray) (r : Bool) (w : World) (h : spec_Fits.f k a0 a1_0 a1_1 a1_2 a1_3 = some r) :
  Calls Tryz.prog 33 #[.string a0, .agg #[.int .i64 a1_0, .int .i64 a1_1, .int .i64 a1_2, .string a1_3]] w fun e w' => e = .returned (.bool r) ∧ Below w.heap.size w w' := by
 have hu25 := Tryz.underlying25
 have HB := Aside0.mk (Below.refl w.heap.size w)
 have H : ((spec_MajorOf.f k a0).bind fun t263 => (if t263 > 0 then ((spec_VersionOk.f k a1_0 a1_1 a1_2 a1_3).bind fun t264 => (if t264 = true then (if a1_0 = t263 then (some true) else (if t263 = 1 then (some (a1_0 == 0)) else (some false))) else (some false))) else (some false))) = some r := h
 clear h
 replace H := Option.bind_eq_some_iff.mp H
 obtain ⟨t263, A30, H⟩ := H
 replace H : (if t263 > 0 then ((spec_VersionOk.f k a1_0 a1_1 a1_2 a1_3).bind fun t264 => (if t264 = true then (if a1_0 = t263 then (some true) else (if t263 = 1 then (some (a1_0 == 0)) else (some false))) else (some false))) else (some false)) = some r := H
 have A3 := Aside0.mk A30
 clear A30
 by_cases c4 : t263 > 0
 ·rw [if_pos c4] at H
  have c4b0 : decide (0 < t263) = true := decide_eq_true c4
  clear c4
  replace H := Option.bind_eq_some_iff.mp H
  obtain ⟨t264, A50, H⟩ := H
  replace H : (if t264 = true then (if a1_0 = t263 then (some true) else (if t263 = 1 then (some (a1_0 == 0)) else (some false))) else (some false)) = some r := H
  have A5 := Aside0.mk A50
  clear A50
  by_cases c6 : t264 = true
  ·subst c6
   have H1 : (if a1_0 = t263 then (some true) else (if t263 = 1 then (some (a1_0 == 0)) else (some false))) = some r := by rw [if_pos rfl] at H; exact H
   clear H
   have H := H1
   clear H1
   by_cases c7 : a1_0 = t263
   ·rw [if_pos c7] at H
    have c7b0 : (a1_0 == t263) = true := beq_iff_eq.mpr c7
    have c7b1 : (a1_0 != t263) = false := bne_eq_false_iff_eq.mpr c7
    clear c7
    obtain rfl := Option.some.inj H
    go_enter Tryz.func33, Tryz.ntmps33
    go_wp2_with (first | ((with_reducible refine gate_dst (N := 3) rfl ?_); refine box_event zw (N := 3) zw (cs := #[.int .i64 a1_0, .int .i64 a1_1, .int .i64 a1_2, .string a1_3]) (t := 25) zx ?_; intro gb262 hg w8 hbox hb; have n0_ := Aside0.mk (below_step zp hb); have n1_ := Aside0.mk hbox; have n2_ := Aside0.mk ((z3s : w.heap.size ≤ gb262)); have n3_ := Aside0.mk ((z3s : w.heap.size ≤ gb262)); clear HB; have HB := n0_; have BK262 := n1_; have GW262 := n2_; have GE262 := n3_; clear n0_ n1_ n2_ n3_; clear hb hbox hg) | ((with_reducible refine gate_callee (f := 67) rfl ?_); refine goesL_ (some 7) rfl rfl Tryz.func67 zi rfl #[.string a0] rfl zo ?_; (with_reducible refine (spec_MajorOf.calls k a0 t263 _ A3.out).mono ?_); rintro e w9 ⟨rfl, hb⟩; refine ⟨_, rfl, ?_⟩; have n0_ := Aside0.mk (blk_below (g := gb262) (o := .cells #[.int .i64 a1_0, .int .i64 a1_1, .int .i64 a1_2, .string a1_3] 25 (0, 0)) z2h hb); have n1_ := Aside0.mk (below_step z2i hb); clear BK262; clear HB; have BK262 := n0_; have HB := n1_; clear n0_ n1_; (try clear hb); (try clear hb2); (try clear hk); (try clear hi); obtain ⟨hcz10_0, hcz10_1, hcz10_2, hcz10_3, hfz10_0, hfz10_1, hfz10_2, hfz10_3⟩ := zd BK262.out) | (go_at_call 68; (with_reducible refine (spec_VersionOk.calls k a1_0 a1_1 a1_2 a1_3 true _ A5.out).mono ?_); rintro e w11 ⟨rfl, hb⟩; have n0_ := Aside0.mk (blk_below (g := gb262) (o := .cells #[.int .i64 a1_0, .int .i64 a1_1, .int .i64 a1_2, .string a1_3] 25 (0, 0)) z2h hb); have n1_ := Aside0.mk (below_step z2i hb); clear BK262; clear HB; have BK262 := n0_; have HB := n1_; clear n0_ n1_; (try clear hb); (try clear hb2); (try clear hk); (try clear hi); obtain ⟨hcz12_0, hcz12_1, hcz12_2, hcz12_3, hfz12_0, hfz12_1, hfz12_2, hfz12_3⟩ := zd BK262.out))
    go_ret
    exact ⟨zr, z2i⟩
   ·rw [if_neg c7] at H
    have c7b0 : (a1_0 == t263) = false := beq_eq_false_iff_ne.mpr c7
    have c7b1 : (a1_0 != t263) = true := bne_iff_ne.mpr c7
    by_cases c13 : t263 = 1
    ·rw [if_pos c13] at H
     have c13b0 : (t263 == 1) = true := beq_iff_eq.mpr c13
     have c13b1 : (t263 != 1) = false := bne_eq_false_iff_eq.mpr c13
     clear c13
     obtain rfl := Option.some.inj H
     go_enter Tryz.func33, Tryz.ntmps33
     go_wp2_with (first | ((with_reducible refine gate_dst (N := 3) rfl ?_); refine box_event zw (N := 3) zw (cs := #[.int .i64 a1_0, .int .i64 a1_1, .int .i64 a1_2, .string a1_3]) (t := 25) zx ?_; intro gb262 hg w14 hbox hb; have n0_ := Aside0.mk (below_step zp hb); have n1_ := Aside0.mk hbox; have n2_ := Aside0.mk ((z3s : w.heap.size ≤ gb262)); have n3_ := Aside0.mk ((z3s : w.heap.size ≤ gb262)); clear HB; have HB := n0_; have BK262 := n1_; have GW262 := n2_; have GE262 := n3_; clear n0_ n1_ n2_ n3_; clear hb hbox hg) | ((with_reducible refine gate_callee (f := 67) rfl ?_); refine goesL_ (some 7) rfl rfl Tryz.func67 zi rfl #[.string a0] rfl zo ?_; (with_reducible refine (spec_MajorOf.calls k a0 t263 _ A3.out).mono ?_); rintro e w15 ⟨rfl, hb⟩; refine ⟨_, rfl, ?_⟩; have n0_ := Aside0.mk (blk_below (g := gb262) (o := .cells #[.int .i64 a1_0, .int .i64 a1_1, .int .i64 a1_2, .string a1_3] 25 (0, 0)) z2h hb); have n1_ := Aside0.mk (below_step z2i hb); clear BK262; clear HB; have BK262 := n0_; have HB := n1_; clear n0_ n1_; (try clear hb); (try clear hb2); (try clear hk); (try clear hi); obtain ⟨hcz16_0, hcz16_1, hcz16_2, hcz16_3, hfz16_0, hfz16_1, hfz16_2, hfz16_3⟩ := zd BK262.out) | (go_at_call 68; (with_reducible refine (spec_VersionOk.calls k a1_0 a1_1 a1_2 a1_3 true _ A5.out).mono ?_); rintro e w17 ⟨rfl, hb⟩; have n0_ := Aside0.mk (blk_below (g := gb262) (o := .cells #[.int .i64 a1_0, .int .i64 a1_1, .int .i64 a1_2, .string a1_3] 25 (0, 0)) z2h hb); have n1_ := Aside0.mk (below_step z2i hb); clear BK262; clear HB; have BK262 := n0_; have HB := n1_; clear n0_ n1_; (try clear hb); (try clear hb2); (try clear hk); (try clear hi); obtain ⟨hcz18_0, hcz18_1, hcz18_2, hcz18_3, hfz18_0, hfz18_1, hfz18_2, hfz18_3⟩ := zd BK262.out))
     go_ret
     exact ⟨zr, z2i⟩
    ·rw [if_neg c13] at H
     have c13b0 : (t263 == 1) = false := beq_eq_false_iff_ne.mpr c13
     have c13b1 : (t263 != 1) = true := bne_iff_ne.mpr c13
     obtain rfl := Option.some.inj H
     go_enter Tryz.func33, Tryz.ntmps33
     go_wp2_with (first | ((with_reducible refine gate_dst (N := 3) rfl ?_); refine box_event zw (N := 3) zw (cs := #[.int .i64 a1_0, .int .i64 a1_1, .int .i64 a1_2, .string a1_3]) (t := 25) zx ?_; intro gb262 hg w19 hbox hb; have n0_ := Aside0.mk (below_step zp hb); have n1_ := Aside0.mk hbox; have n2_ := Aside0.mk ((z3s : w.heap.size ≤ gb262)); have n3_ := Aside0.mk ((z3s : w.heap.size ≤ gb262)); clear HB; have HB := n0_; have BK262 := n1_; have GW262 := n2_; have GE262 := n3_; clear n0_ n1_ n2_ n3_; clear hb hbox hg) | ((with_reducible refine gate_callee (f := 67) rfl ?_); refine goesL_ (some 7) rfl rfl Tryz.func67 zi rfl #[.string a0] rfl zo ?_; (with_reducible refine (spec_MajorOf.calls k a0 t263 _ A3.out).mono ?_); rintro e w20 ⟨rfl, hb⟩; refine ⟨_, rfl, ?_⟩; have n0_ := Aside0.mk (blk_below (g := gb262) (o := .cells #[.int .i64 a1_0, .int .i64 a1_1, .int .i64 a1_2, .string a1_3] 25 (0, 0)) z2h hb); have n1_ := Aside0.mk (below_step z2i hb); clear BK262; clear HB; have BK262 := n0_; have HB := n1_; clear n0_ n1_; (try clear hb); (try clear hb2); (try clear hk); (try clear hi); obtain ⟨hcz21_0, hcz21_1, hcz21_2, hcz21_3, hfz21_0, hfz21_1, hfz21_2, hfz21_3⟩ := zd BK262.out) | (go_at_call 68; (with_reducible refine (spec_VersionOk.calls k a1_0 a1_1 a1_2 a1_3 true _ A5.out).mono ?_); rintro e w22 ⟨rfl, hb⟩; have n0_ := Aside0.mk (blk_below (g := gb262) (o := .cells #[.int .i64 a1_0, .int .i64 a1_1, .int .i64 a1_2, .string a1_3] 25 (0, 0)) z2h hb); have n1_ := Aside0.mk (below_step z2i hb); clear BK262; clear HB; have BK262 := n0_; have HB := n1_; clear n0_ n1_; (try clear hb); (try clear hb2); (try clear hk); (try clear hi); obtain ⟨hcz23_0, hcz23_1, hcz23_2, hcz23_3, hfz23_0, hfz23_1, hfz23_2, hfz23_3⟩ := zd BK262.out))
     go_ret
     exact ⟨zr, z2i⟩
  ·replace c6 := Bool.eq_false_iff.mpr c6
   subst c6
   have H1 : (some false) = some r := by rw [if_neg (show ¬ (false = true) by decide)] at H; exact H
   clear H
   have H := H1
   clear H1
   obtain rfl := Option.some.inj H
   go_enter Tryz.func33, Tryz.ntmps33
   go_wp2_with (first | ((with_reducible refine gate_dst (N := 3) rfl ?_); refine box_event zw (N := 3) zw (cs := #[.int .i64 a1_0, .int .i64 a1_1, .int .i64 a1_2, .string a1_3]) (t := 25) zx ?_; intro gb262 hg w24 hbox hb; have n0_ := Aside0.mk (below_step zp hb); have n1_ := Aside0.mk hbox; have n2_ := Aside0.mk ((z3s : w.heap.size ≤ gb262)); have n3_ := Aside0.mk ((z3s : w.heap.size ≤ gb262)); clear HB; have HB := n0_; have BK262 := n1_; have GW262 := n2_; have GE262 := n3_; clear n0_ n1_ n2_ n3_; clear hb hbox hg) | ((with_reducible refine gate_callee (f := 67) rfl ?_); refine goesL_ (some 7) rfl rfl Tryz.func67 zi rfl #[.string a0] rfl zo ?_; (with_reducible refine (spec_MajorOf.calls k a0 t263 _ A3.out).mono ?_); rintro e w25 ⟨rfl, hb⟩; refine ⟨_, rfl, ?_⟩; have n0_ := Aside0.mk (blk_below (g := gb262) (o := .cells #[.int .i64 a1_0, .int .i64 a1_1, .int .i64 a1_2, .string a1_3] 25 (0, 0)) z2h hb); have n1_ := Aside0.mk (below_step z2i hb); clear BK262; clear HB; have BK262 := n0_; have HB := n1_; clear n0_ n1_; (try clear hb); (try clear hb2); (try clear hk); (try clear hi); obtain ⟨hcz26_0, hcz26_1, hcz26_2, hcz26_3, hfz26_0, hfz26_1, hfz26_2, hfz26_3⟩ := zd BK262.out) | (go_at_call 68; (with_reducible refine (spec_VersionOk.calls k a1_0 a1_1 a1_2 a1_3 false _ A5.out).mono ?_); rintro e w27 ⟨rfl, hb⟩; have n0_ := Aside0.mk (blk_below (g := gb262) (o := .cells #[.int .i64 a1_0, .int .i64 a1_1, .int .i64 a1_2, .string a1_3] 25 (0, 0)) z2h hb); have n1_ := Aside0.mk (below_step z2i hb); clear BK262; clear HB; have BK262 := n0_; have HB := n1_; clear n0_ n1_; (try clear hb); (try clear hb2); (try clear hk); (try clear hi)))
   go_ret
   exact ⟨zr, z2i⟩
 ·rw [if_neg c4] at H
  have c4b0 : decide (0 < t263) = false := decide_eq_false c4
  clear c4
  obtain rfl := Option.some.inj H
  go_enter Tryz.func33, Tryz.ntmps33
  go_wp2_with (first | ((with_reducible refine gate_dst (N := 3) rfl ?_); refine box_event zw (N := 3) zw (cs := #[.int .i64 a1_0, .int .i64 a1_1, .int .i64 a1_2, .string a1_3]) (t := 25) zx ?_; intro gb262 hg w28 hbox hb; have n0_ := Aside0.mk (below_step zp hb); have n1_ := Aside0.mk hbox; have n2_ := Aside0.mk ((z3s : w.heap.size ≤ gb262)); have n3_ := Aside0.mk ((z3s : w.heap.size ≤ gb262)); clear HB; have HB := n0_; have BK262 := n1_; have GW262 := n2_; have GE262 := n3_; clear n0_ n1_ n2_ n3_; clear hb hbox hg) | ((with_reducible refine gate_callee (f := 67) rfl ?_); refine goesL_ (some 7) rfl rfl Tryz.func67 zi rfl #[.string a0] rfl zo ?_; (with_reducible refine (spec_MajorOf.calls k a0 t263 _ A3.out).mono ?_); rintro e w29 ⟨rfl, hb⟩; refine ⟨_, rfl, ?_⟩; have n0_ := Aside0.mk (blk_below (g := gb262) (o := .cells #[.int .i64 a1_0, .int .i64 a1_1, .int .i64 a1_2, .string a1_3] 25 (0, 0)) z2h hb); have n1_ := Aside0.mk (below_step z2i hb); clear BK262; clear HB; have BK262 := n0_; have HB := n1_; clear n0_ n1_; (try clear hb); (try clear hb2); (try clear hk); (try clear hi)))
  go_ret
  exact ⟨zr, z2i⟩
end Go.Proofs.YtgdknepphkhnlaaGreatDoor.X

namespace Go.Proofs.YtgdknepphkhnlaaGreatDoor.X
open Go.RowKit Go.Proofs.YtgdknepphkhnlaaGreatDoorW.PrintWords Go.Proofs.YtgdknepphkhnlaaGreatDoorW.PrintLast Go.Proofs.YtgdknepphkhnlaaGreatDoorW.PrintMore
attribute [local go_sem] max2_int min2_int max_two min_two max_three min_three max_four min_four
set_option linter.unusedVariables false
set_option linter.unusedSimpArgs false
def spec_NeedOk.f (k : Nat) (a0_0 : ByteArray) (a0_1 : Int) (a0_2 : Int) (a0_3 : Int) (a0_4 : ByteArray) : Option (Bool) := (spec_Fits.f k a0_0 a0_1 a0_2 a0_3 a0_4).bind fun t266 => (some t266)
set_option maxHeartbeats 8000000 in
set_option maxRecDepth 100000 in
theorem spec_NeedOk.calls (k : Nat) (a0_0 : ByteArray) (a0_1 : Int) (a0_2 : Int) (a0_3 : Int) (a0_4 : ByteArray) (r : Bool) (w : World) (h : spec_NeedOk.f k a0_0 a0_1 a0_2 a0_3 a0_4 = some r) :
  Calls Tryz.prog 69 #[.agg #[.string a0_0, .int .i64 a0_1, .int .i64 a0_2, .int .i64 a0_3, .string a0_4]] w fun e w' => e = .returned (.bool r) ∧ Below w.heap.size w w' := by
 have hu35 := Tryz.underlying35
 have hu25 := Tryz.underlying25
 have HB := Aside0.mk (Below.refl w.heap.size w)
 have H : ((spec_Fits.f k a0_0 a0_1 a0_2 a0_3 a0_4).bind fun t266 => (some t266)) = some r := h
 clear h
 replace H := Option.bind_eq_some_iff.mp H
 obtain ⟨t266, A20, H⟩ := H
 replace H : (some t266) = some r := H
 have A2 := Aside0.mk A20
 clear A20
 obtain rfl := Option.some.inj H
 go_enter Tryz.func69, Tryz.ntmps69
 go_wp2_with (first | ((with_reducible refine gate_dst (N := 1) rfl ?_); refine box_event zw (N := 1) zw (cs := #[.string a0_0, .int .i64 a0_1, .int .i64 a0_2, .int .i64 a0_3, .string a0_4]) (t := 35) zx ?_; intro gb265 hg w3 hbox hb; have n0_ := Aside0.mk (below_step zp hb); have n1_ := Aside0.mk hbox; have n2_ := Aside0.mk ((z3s : w.heap.size ≤ gb265)); have n3_ := Aside0.mk ((z3s : w.heap.size ≤ gb265)); clear HB; have HB := n0_; have BK265 := n1_; have GW265 := n2_; have GE265 := n3_; clear n0_ n1_ n2_ n3_; clear hb hbox hg; obtain ⟨hcz4_0, hcz4_1, hcz4_2, hcz4_3, hcz4_4, hfz4_0, hfz4_1, hfz4_2, hfz4_3, hfz4_4⟩ := ze BK265.out) | ((with_reducible refine gate_callee (f := 33) rfl ?_); refine goesL_ (some 7) rfl rfl Tryz.func33 zi rfl #[.string a0_0, .agg #[.int .i64 a0_1, .int .i64 a0_2, .int .i64 a0_3, .string a0_4]] rfl zo ?_; (with_reducible refine (spec_Fits.calls k a0_0 a0_1 a0_2 a0_3 a0_4 t266 _ A2.out).mono ?_); rintro e w5 ⟨rfl, hb⟩; refine ⟨_, rfl, ?_⟩; have n0_ := Aside0.mk (blk_below (g := gb265) (o := .cells #[.string a0_0, .int .i64 a0_1, .int .i64 a0_2, .int .i64 a0_3, .string a0_4] 35 (0, 0)) (by (with_reducible repeat (first | refine blk_drewN ?_ _ | refine blk_drew ?_ | refine blk_alloc ?_ _)); exact BK265.out) hb); have n1_ := Aside0.mk (below_step (by repeat (first | (with_reducible first | exact HB.out | apply below_alloc | apply pw_below_drewN | apply below_drew1 | refine below_set ?_ GE265.out) | exact HB.out)) hb); clear BK265; clear HB; have BK265 := n0_; have HB := n1_; clear n0_ n1_; (try clear hb); (try clear hb2); (try clear hk); (try clear hi)))
 go_ret
 exact ⟨zr, by repeat (first | (with_reducible first | exact HB.out | apply below_alloc | apply pw_below_drewN | apply below_drew1 | refine below_set ?_ GE265.out) | exact HB.out)⟩
end Go.Proofs.YtgdknepphkhnlaaGreatDoor.X

namespace Go.Proofs.YtgdknepphkhnlaaGreatDoor.X
open Go.RowKit Go.Proofs.YtgdknepphkhnlaaGreatDoorW.PrintWords Go.Proofs.YtgdknepphkhnlaaGreatDoorW.PrintLast Go.Proofs.YtgdknepphkhnlaaGreatDoorW.PrintMore
attribute [local go_sem] max2_int min2_int max_two min_two max_three min_three max_four min_four
set_option linter.unusedVariables false
set_option linter.unusedSimpArgs false
def spec_l5Rising.l0 : Nat → List (S35) → Int → Option (Bool)
 | 0, _, _ => none
 | k + 1, x0, x3 => if x3 < (x0.length : Int) then (if 0 ≤ x3 then ((spec_NeedOk.f k ((rd_T35 x0 x3).f0) ((rd_T35 x0 x3).f1.f0) ((rd_T35 x0 x3).f1.f1) ((rd_T35 x0 x3).f1.f2) ((rd_T35 x0 x3).f1.f3)).bind fun t268 => (if t268 = true then (if x3 > 0 then (if 0 ≤ (wrap64 (x3 - 1)) then (if (wrap64 (x3 - 1)) < (x0.length : Int) then (if ((Op.bytesLess (((rd_T35 x0 (wrap64 (x3 - 1))).f0).toList) (((rd_T35 x0 x3).f0).toList)) = true) then (spec_l5Rising.l0 k x0 (wrap64 (x3 + 1))) else (some false)) else (none)) else (none)) else (spec_l5Rising.l0 k x0 (wrap64 (x3 + 1)))) else (some false))) else (none)) else (some true)
def spec_l5Rising.f (k : Nat) (l0 : List (S35)) : Option (Bool) := spec_l5Rising.l0 k l0 0
def spec_l5Rising.T4 : Bool × List (List Nat × List Nat) := (true, [([], []), ([], []), ([0, 1], [0, 1]), ([2], [2]), ([3], [3]), ([4], [4]), ([5, 4], [5]), ([6], [6]), ([7, 6], [6, 7]), ([8, 6, 6], [6, 8]), ([9], [9]), ([9], [9]), ([11, 9], [9, 11]), ([10, 12, 9], [9, 10, 12]), ([13, 9], [9, 13]), ([14, 9], [9, 14]), ([9], [9]), ([9], [9]), ([16, 17, 9], [9, 16, 17]), ([18, 9], [9, 18]), ([19, 9], [9, 19]), ([15, 20, 9], [9, 15, 20]), ([9, 21, 6], [6, 9, 21]), ([6, 22], [6, 22])])
def spec_l5Rising.B4 : List Nat := [0, 0, 3, 7, 15, 31, 63, 127, 255, 511, 1023, 1023, 3071, 8191, 16383, 32767, 1023, 1023, 197631, 459775, 984063, 2097151, 4194303, 8388607]
theorem spec_l5Rising.tab4 : rtab .any (opsOf Tryz.f34 4) = spec_l5Rising.T4 := by kernel_rfl
theorem spec_l5Rising.bits4 : waitsOk spec_l5Rising.T4.2 spec_l5Rising.B4 = true := by kernel_rfl
set_option maxHeartbeats 8000000 in
set_option maxRecDepth 100000 in
theorem spec_l5Rising.calls (k : Nat) (A0 : Option Addr) (c0 : Nat) (l0 : List (S35)) (r : Bool) (w : World) (hr0 : Kd.C k35 w A0 l0.length l0) (hc0 : l0.length ≤ c0) (h : spec_l5Rising.f k l0 = some r) :
  Calls Tryz.prog 34 #[.slice A0 l0.length c0] w fun e w' => e = .returned (.bool r) ∧ Below w.heap.size w w' := by
 have hu35 := Tryz.underlying35
 have HR0 := Aside0.mk hr0
 have HC0 := Aside0.mk hc0
 clear hr0 hc0
 have HB := Aside0.mk (Below.refl w.heap.size w)
 have H : (spec_l5Rising.l0 k l0 0) = some r := h
 clear h
 have H' := Aside0.mk H
 clear H
 go_enter Tryz.func34, Tryz.ntmps34
 go_wp2
 go_loopg [3] k (fun kq v3 w' => ∃ (x3_1 : Int), v3 = .int .i64 x3_1 ∧ Aside0 (spec_l5Rising.l0 kq l0 x3_1 = some r) ∧ Aside0 (kq ≤ k) ∧ Aside0 (Below w.heap.size w w'))
 case atStart => exact ⟨(0), zj, H', ⟨Nat.le_refl _⟩, ⟨zp⟩⟩
 case round =>
  clear H'
  obtain ⟨x3_1, rfl, HA, HK1, HB⟩ := hrel
  cases gk with
  | zero => exact absurd HA.out (by simp [spec_l5Rising.l0])
  | succ k1 =>
   have H := HA.out
   clear HA
   simp only [spec_l5Rising.l0] at H
   by_cases c2 : x3_1 < (l0.length : Int)
   ·rw [if_pos c2] at H
    have c2b0 : decide (x3_1 < (l0.length : Int)) = true := decide_eq_true c2
    clear c2
    by_cases c3 : 0 ≤ x3_1
    ·rw [if_pos c3] at H
     have c3b0 : decide (0 ≤ x3_1) = true := decide_eq_true c3
     clear c3
     replace H := Option.bind_eq_some_iff.mp H
     obtain ⟨t268, A40, H⟩ := H
     replace H : (if t268 = true then (if x3_1 > 0 then (if 0 ≤ (wrap64 (x3_1 - 1)) then (if (wrap64 (x3_1 - 1)) < (l0.length : Int) then (if ((Op.bytesLess (((rd_T35 l0 (wrap64 (x3_1 - 1))).f0).toList) (((rd_T35 l0 x3_1).f0).toList)) = true) then (spec_l5Rising.l0 k1 l0 (wrap64 (x3_1 + 1))) else (some false)) else (none)) else (none)) else (spec_l5Rising.l0 k1 l0 (wrap64 (x3_1 + 1)))) else (some false)) = some r := H
     have A4 := Aside0.mk A40
     clear A40
     by_cases c5 : t268 = true
     ·subst c5
      have H1 : (if x3_1 > 0 then (if 0 ≤ (wrap64 (x3_1 - 1)) then (if (wrap64 (x3_1 - 1)) < (l0.length : Int) then (if ((Op.bytesLess (((rd_T35 l0 (wrap64 (x3_1 - 1))).f0).toList) (((rd_T35 l0 x3_1).f0).toList)) = true) then (spec_l5Rising.l0 k1 l0 (wrap64 (x3_1 + 1))) else (some false)) else (none)) else (none)) else (spec_l5Rising.l0 k1 l0 (wrap64 (x3_1 + 1)))) = some r := by rw [if_pos rfl] at H; exact H
      clear H
      have H := H1
      clear H1
      by_cases c6 : x3_1 > 0
      ·rw [if_pos c6] at H
       have c6b0 : decide (0 < x3_1) = true := decide_eq_true c6
       clear c6
       obtain ⟨ji7, hji7⟩ : ∃ j_ : Int, (wrap64 (x3_1 - 1)) = j_ := ⟨_, rfl⟩
       replace H : (if 0 ≤ (ji7) then (if (ji7) < (l0.length : Int) then (if ((Op.bytesLess (((rd_T35 l0 (ji7)).f0).toList) (((rd_T35 l0 x3_1).f0).toList)) = true) then (spec_l5Rising.l0 k1 l0 (wrap64 (x3_1 + 1))) else (some false)) else (none)) else (none)) = some r := by first | (rw [hji7] at H; exact H) | (simp only [hji7] at H ⊢; exact H)
       (try rw [hji7] at A4)
       have hji7w : (IntKind.i64.wrap (x3_1 - 1)) = ji7 := (i64_w _).trans hji7
       by_cases c8 : 0 ≤ (ji7)
       ·rw [if_pos c8] at H
        have c8b0 : decide (0 ≤ (ji7)) = true := decide_eq_true c8
        clear c8
        by_cases c9 : (ji7) < (l0.length : Int)
        ·rw [if_pos c9] at H
         have c9b0 : decide ((ji7) < (l0.length : Int)) = true := decide_eq_true c9
         clear c9
         by_cases c10 : ((Op.bytesLess (((rd_T35 l0 (ji7)).f0).toList) (((rd_T35 l0 x3_1).f0).toList)) = true)
         ·rw [if_pos c10] at H
          have c10b0 : (Op.bytesLess (((rd_T35 l0 (ji7)).f0).toList) (((rd_T35 l0 x3_1).f0).toList)) = true := c10
          clear c10
          have H' := Aside0.mk H
          clear H
          try go_wp2
          have n0_ := Aside0.mk (below_drew1 HB.out)
          clear HB
          have HB := n0_
          clear n0_
          have p267 : 0 ≤ (x3_1 : Int) := of_decide_eq_true zm
          have q267 : x3_1 < (l0.length : Int) := of_decide_eq_true zm
          obtain ⟨ad267, e267, hx267_0, hx267_1, hx267_2, hx267_3, hx267_4⟩ := at_T35 HR0.out x3_1 p267 q267
          have hw267_4 := hx267_4
          have hw267_3 := hx267_3
          have hw267_2 := hx267_2
          have hw267_1 := hx267_1
          have hw267_0 := hx267_0
          cases e267
          replace hx267_0 := (HB.out.cell (World.block_lt_of_cell? w _ hx267_0)).trans hx267_0
          replace hx267_1 := (HB.out.cell (World.block_lt_of_cell? w _ hx267_1)).trans hx267_1
          replace hx267_2 := (HB.out.cell (World.block_lt_of_cell? w _ hx267_2)).trans hx267_2
          replace hx267_3 := (HB.out.cell (World.block_lt_of_cell? w _ hx267_3)).trans hx267_3
          replace hx267_4 := (HB.out.cell (World.block_lt_of_cell? w _ hx267_4)).trans hx267_4
          replace p267 := eq_true p267
          replace q267 := eq_true q267
          have p269 : 0 ≤ ((ji7) : Int) := of_decide_eq_true zm
          have q269 : (ji7) < (l0.length : Int) := of_decide_eq_true zm
          obtain ⟨ad269, e269, hx269_0, hx269_1, hx269_2, hx269_3, hx269_4⟩ := at_T35 HR0.out (ji7) p269 q269
          have hw269_4 := hx269_4
          have hw269_3 := hx269_3
          have hw269_2 := hx269_2
          have hw269_1 := hx269_1
          have hw269_0 := hx269_0
          obtain rfl : ad267 = ad269 := (by injection e269)
          replace hx269_0 := (HB.out.cell (World.block_lt_of_cell? w _ hx269_0)).trans hx269_0
          replace hx269_1 := (HB.out.cell (World.block_lt_of_cell? w _ hx269_1)).trans hx269_1
          replace hx269_2 := (HB.out.cell (World.block_lt_of_cell? w _ hx269_2)).trans hx269_2
          replace hx269_3 := (HB.out.cell (World.block_lt_of_cell? w _ hx269_3)).trans hx269_3
          replace hx269_4 := (HB.out.cell (World.block_lt_of_cell? w _ hx269_4)).trans hx269_4
          replace p269 := eq_true p269
          replace q269 := eq_true q269
          have p270 : 0 ≤ (x3_1 : Int) := of_decide_eq_true zm
          have q270 : x3_1 < (l0.length : Int) := of_decide_eq_true zm
          obtain ⟨ad270, e270, hx270_0, hx270_1, hx270_2, hx270_3, hx270_4⟩ := at_T35 HR0.out x3_1 p270 q270
          have hw270_4 := hx270_4
          have hw270_3 := hx270_3
          have hw270_2 := hx270_2
          have hw270_1 := hx270_1
          have hw270_0 := hx270_0
          obtain rfl : ad267 = ad270 := (by injection e270)
          replace hx270_0 := (HB.out.cell (World.block_lt_of_cell? w _ hx270_0)).trans hx270_0
          replace hx270_1 := (HB.out.cell (World.block_lt_of_cell? w _ hx270_1)).trans hx270_1
          replace hx270_2 := (HB.out.cell (World.block_lt_of_cell? w _ hx270_2)).trans hx270_2
          replace hx270_3 := (HB.out.cell (World.block_lt_of_cell? w _ hx270_3)).trans hx270_3
          replace hx270_4 := (HB.out.cell (World.block_lt_of_cell? w _ hx270_4)).trans hx270_4
          replace p270 := eq_true p270
          replace q270 := eq_true q270
          refine start_ (n := 24) (S := fun w' => w'.cell? (ad267.add ((x3_1).toNat * 5)) = some (.string ((rd_T35 l0 x3_1).f0)) ∧ w'.cell? ⟨(ad267.add ((x3_1).toNat * 5)).block, (ad267.add ((x3_1).toNat * 5)).off + 1, none⟩ = some (.int .i64 ((rd_T35 l0 x3_1).f1.f0)) ∧ w'.cell? ⟨(ad267.add ((x3_1).toNat * 5)).block, (ad267.add ((x3_1).toNat * 5)).off + 2, none⟩ = some (.int .i64 ((rd_T35 l0 x3_1).f1.f1)) ∧ w'.cell? ⟨(ad267.add ((x3_1).toNat * 5)).block, (ad267.add ((x3_1).toNat * 5)).off + 3, none⟩ = some (.int .i64 ((rd_T35 l0 x3_1).f1.f2)) ∧ w'.cell? ⟨(ad267.add ((x3_1).toNat * 5)).block, (ad267.add ((x3_1).toNat * 5)).off + 4, none⟩ = some (.string ((rd_T35 l0 x3_1).f1.f3)) ∧ w'.cell? (ad267.add (((ji7)).toNat * 5)) = some (.string ((rd_T35 l0 (ji7)).f0)) ∧ w'.cell? ⟨(ad267.add (((ji7)).toNat * 5)).block, (ad267.add (((ji7)).toNat * 5)).off + 1, none⟩ = some (.int .i64 ((rd_T35 l0 (ji7)).f1.f0)) ∧ w'.cell? ⟨(ad267.add (((ji7)).toNat * 5)).block, (ad267.add (((ji7)).toNat * 5)).off + 2, none⟩ = some (.int .i64 ((rd_T35 l0 (ji7)).f1.f1)) ∧ w'.cell? ⟨(ad267.add (((ji7)).toNat * 5)).block, (ad267.add (((ji7)).toNat * 5)).off + 3, none⟩ = some (.int .i64 ((rd_T35 l0 (ji7)).f1.f2)) ∧ w'.cell? ⟨(ad267.add (((ji7)).toNat * 5)).block, (ad267.add (((ji7)).toNat * 5)).off + 4, none⟩ = some (.string ((rd_T35 l0 (ji7)).f1.f3)) ∧ w'.cell? (ad267.add ((x3_1).toNat * 5)) = some (.string ((rd_T35 l0 x3_1).f0)) ∧ w'.cell? ⟨(ad267.add ((x3_1).toNat * 5)).block, (ad267.add ((x3_1).toNat * 5)).off + 1, none⟩ = some (.int .i64 ((rd_T35 l0 x3_1).f1.f0)) ∧ w'.cell? ⟨(ad267.add ((x3_1).toNat * 5)).block, (ad267.add ((x3_1).toNat * 5)).off + 2, none⟩ = some (.int .i64 ((rd_T35 l0 x3_1).f1.f1)) ∧ w'.cell? ⟨(ad267.add ((x3_1).toNat * 5)).block, (ad267.add ((x3_1).toNat * 5)).off + 3, none⟩ = some (.int .i64 ((rd_T35 l0 x3_1).f1.f2)) ∧ w'.cell? ⟨(ad267.add ((x3_1).toNat * 5)).block, (ad267.add ((x3_1).toNat * 5)).off + 4, none⟩ = some (.string ((rd_T35 l0 x3_1).f1.f3))) (ds := []) #[z4h, z4h, z4h, z4h, z4h, z4h, z4h, z4h, z4h, z4h, z4h, z4h, z4h, z4h, z4h, z4h, z4h, z4h, z4h, z4h, z4h, z4h, z4h, z4h] zi rfl rfl ⟨((HB.out.cell (World.block_lt_of_cell? w _ hw267_0)).trans hw267_0), ((HB.out.cell (World.block_lt_of_cell? w _ hw267_1)).trans hw267_1), ((HB.out.cell (World.block_lt_of_cell? w _ hw267_2)).trans hw267_2), ((HB.out.cell (World.block_lt_of_cell? w _ hw267_3)).trans hw267_3), ((HB.out.cell (World.block_lt_of_cell? w _ hw267_4)).trans hw267_4), ((HB.out.cell (World.block_lt_of_cell? w _ hw269_0)).trans hw269_0), ((HB.out.cell (World.block_lt_of_cell? w _ hw269_1)).trans hw269_1), ((HB.out.cell (World.block_lt_of_cell? w _ hw269_2)).trans hw269_2), ((HB.out.cell (World.block_lt_of_cell? w _ hw269_3)).trans hw269_3), ((HB.out.cell (World.block_lt_of_cell? w _ hw269_4)).trans hw269_4), ((HB.out.cell (World.block_lt_of_cell? w _ hw270_0)).trans hw270_0), ((HB.out.cell (World.block_lt_of_cell? w _ hw270_1)).trans hw270_1), ((HB.out.cell (World.block_lt_of_cell? w _ hw270_2)).trans hw270_2), ((HB.out.cell (World.block_lt_of_cell? w _ hw270_3)).trans hw270_3), ((HB.out.cell (World.block_lt_of_cell? w _ hw270_4)).trans hw270_4)⟩ (fun hHeld => ?_); refine with_tabW spec_l5Rising.tab4 spec_l5Rising.bits4 (fun HT_ HW_ => ?_)
          generalize wr.drew = w11 at HB hx267_0 hx267_1 hx267_2 hx267_3 hx267_4 hx269_0 hx269_1 hx269_2 hx269_3 hx269_4 hx270_0 hx270_1 hx270_2 hx270_3 hx270_4 hHeld ⊢
          refine pure_ (i := 0) (N := some 10) (v := ?_) (a' := ?_) #[z4g, z4h, z4h, z4h, z4h, z4h, z4h, z4h, z4h, z4h, z4h, z4h, z4h, z4h, z4h, z4h, z4h, z4h, z4h, z4h, z4h, z4h, z4h, z4h] rfl rfl (any_of HT_.out zi) (fun _ _ _ h => h) (Or.inl ⟨zw, ?_⟩) ?_ ?_
          rotate_left
          ·intro w'
           go_simp
           with_reducible rfl
          rotate_left
          ·simp only [Act.put, z4i, z4j, z4k, i64_w, i32_w]
           rfl
          refine pure_ (i := 1) (N := some 11) (v := ?_) (a' := ?_) #[z4g, z4g, z4h, z4h, z4h, z4h, z4h, z4h, z4h, z4h, z4h, z4h, z4h, z4h, z4h, z4h, z4h, z4h, z4h, z4h, z4h, z4h, z4h, z4h] rfl rfl (any_of HT_.out zi) (fun _ _ _ h => h) (Or.inl ⟨zw, ?_⟩) ?_ ?_
          rotate_left
          ·intro w'
           go_simp
           with_reducible rfl
          rotate_left
          ·simp only [Act.put, z4i, z4j, z4k, i64_w, i32_w]
           rfl
          refine pure_ (i := 2) (N := some 12) (v := ?_) (a' := ?_) #[z4g, z4g, z4g, z4h, z4h, z4h, z4h, z4h, z4h, z4h, z4h, z4h, z4h, z4h, z4h, z4h, z4h, z4h, z4h, z4h, z4h, z4h, z4h, z4h] rfl rfl (any_of HT_.out zi) (fun _ _ _ h => h) (Or.inl ⟨zw, ?_⟩) ?_ ?_
          rotate_left
          ·intro w'
           go_simp
           with_reducible rfl
          rotate_left
          ·simp only [Act.put, z4i, z4j, z4k, i64_w, i32_w]
           rfl
          refine take_ (i := 3) (N := some 13) (v := ?_) (a' := ?_) #[z4g, z4g, z4g, z4g, z4h, z4h, z4h, z4h, z4h, z4h, z4h, z4h, z4h, z4h, z4h, z4h, z4h, z4h, z4h, z4h, z4h, z4h, z4h, z4h] rfl rfl (take_ofW HT_.out HW_.out zi) (fun _ _ _ h => h) (Or.inl ⟨zw, ?_⟩) hHeld ?_ ?_
          rotate_left
          ·rintro w' ⟨s0, s1, s2, s3, s4, s5, s6, s7, s8, s9, s10, s11, s12, s13, s14⟩
           go_simp
           with_reducible rfl
          rotate_left
          ·simp only [Act.put, z4i, z4j, z4k, i64_w, i32_w]
           rfl
          refine one_ (i := 4) (N := some 14) #[z4g, z4g, z4g, z4g, z4g, z4h, z4h, z4h, z4h, z4h, z4h, z4h, z4h, z4h, z4h, z4h, z4h, z4h, z4h, z4h, z4h, z4h, z4h, z4h] rfl rfl (one_of HT_.out zi) zh (fun K hK => ?_)
          refine goes_ Tryz.func69 zi rfl #[.agg #[.string ((rd_T35 l0 x3_1).f0), .int .i64 ((rd_T35 l0 x3_1).f1.f0), .int .i64 ((rd_T35 l0 x3_1).f1.f1), .int .i64 ((rd_T35 l0 x3_1).f1.f2), .string ((rd_T35 l0 x3_1).f1.f3)]] zw rfl rfl zo ?_
          with_reducible refine (spec_NeedOk.calls k1 ((rd_T35 l0 x3_1).f0) ((rd_T35 l0 x3_1).f1.f0) ((rd_T35 l0 x3_1).f1.f1) ((rd_T35 l0 x3_1).f1.f2) ((rd_T35 l0 x3_1).f1.f3) true _ A4.out).mono ?_
          rintro e w12 ⟨rfl, hb⟩
          refine ⟨_, rfl, ?_⟩
          have n0_ := Aside0.mk (below_step zp hb)
          clear HB
          have HB := n0_
          clear n0_
          (try clear hb)
          (try clear hb2)
          (try clear hk)
          (try clear hi)
          refine hK.out _ _ ⟨((HB.out.cell (World.block_lt_of_cell? w _ hw267_0)).trans hw267_0), ((HB.out.cell (World.block_lt_of_cell? w _ hw267_1)).trans hw267_1), ((HB.out.cell (World.block_lt_of_cell? w _ hw267_2)).trans hw267_2), ((HB.out.cell (World.block_lt_of_cell? w _ hw267_3)).trans hw267_3), ((HB.out.cell (World.block_lt_of_cell? w _ hw267_4)).trans hw267_4), ((HB.out.cell (World.block_lt_of_cell? w _ hw269_0)).trans hw269_0), ((HB.out.cell (World.block_lt_of_cell? w _ hw269_1)).trans hw269_1), ((HB.out.cell (World.block_lt_of_cell? w _ hw269_2)).trans hw269_2), ((HB.out.cell (World.block_lt_of_cell? w _ hw269_3)).trans hw269_3), ((HB.out.cell (World.block_lt_of_cell? w _ hw269_4)).trans hw269_4), ((HB.out.cell (World.block_lt_of_cell? w _ hw270_0)).trans hw270_0), ((HB.out.cell (World.block_lt_of_cell? w _ hw270_1)).trans hw270_1), ((HB.out.cell (World.block_lt_of_cell? w _ hw270_2)).trans hw270_2), ((HB.out.cell (World.block_lt_of_cell? w _ hw270_3)).trans hw270_3), ((HB.out.cell (World.block_lt_of_cell? w _ hw270_4)).trans hw270_4)⟩ (fun hHeld => ?_)
          clear hK K
          refine norm_ (a' := ?_) ?_ ?_
          rotate_left
          ·show Act.put _ (some 14) _ = _
           simp only [Act.put, z4i, z4j, z4k, i64_w, i32_w]
           rfl
          refine pure_ (i := 5) (N := some 15) (v := ?_) (a' := ?_) #[z4g, z4g, z4g, z4g, z4g, z4g, z4h, z4h, z4h, z4h, z4h, z4h, z4h, z4h, z4h, z4h, z4h, z4h, z4h, z4h, z4h, z4h, z4h, z4h] rfl rfl (any_of HT_.out zi) (fun _ _ _ h => h) (Or.inl ⟨zw, ?_⟩) ?_ ?_
          rotate_left
          ·intro w'
           go_simp
           with_reducible rfl
          rotate_left
          ·simp only [Act.put, z4i, z4j, z4k, i64_w, i32_w]
           rfl
          refine pure_ (i := 6) (N := some 16) (v := ?_) (a' := ?_) #[z4g, z4g, z4g, z4g, z4g, z4g, z4g, z4h, z4h, z4h, z4h, z4h, z4h, z4h, z4h, z4h, z4h, z4h, z4h, z4h, z4h, z4h, z4h, z4h] rfl rfl (any_of HT_.out zi) (fun _ _ _ h => h) (Or.inl ⟨zw, ?_⟩) ?_ ?_
          rotate_left
          ·intro w'
           go_simp
           with_reducible rfl
          rotate_left
          ·simp only [Act.put, z4i, z4j, z4k, i64_w, i32_w]
           rfl
          refine pure_ (i := 7) (N := some 17) (v := ?_) (a' := ?_) #[z4g, z4g, z4g, z4g, z4g, z4g, z4g, z4g, z4h, z4h, z4h, z4h, z4h, z4h, z4h, z4h, z4h, z4h, z4h, z4h, z4h, z4h, z4h, z4h] rfl rfl (any_of HT_.out zi) (fun _ _ _ h => h) (Or.inl ⟨zw, ?_⟩) ?_ ?_
          rotate_left
          ·intro w'
           go_simp
           with_reducible rfl
          rotate_left
          ·simp only [Act.put, z4i, z4j, z4k, i64_w, i32_w]
           rfl
          refine pure_ (i := 8) (N := some 18) (v := ?_) (a' := ?_) #[z4g, z4g, z4g, z4g, z4g, z4g, z4g, z4g, z4g, z4h, z4h, z4h, z4h, z4h, z4h, z4h, z4h, z4h, z4h, z4h, z4h, z4h, z4h, z4h] rfl rfl (any_of HT_.out zi) (fun _ _ _ h => h) (Or.inl ⟨zw, ?_⟩) ?_ ?_
          rotate_left
          ·intro w'
           go_simp
           with_reducible rfl
          rotate_left
          ·simp only [Act.put, z4i, z4j, z4k, i64_w, i32_w]
           rfl
          refine pure_ (i := 9) (N := some 19) (v := ?_) (a' := ?_) #[z4g, z4g, z4g, z4g, z4g, z4g, z4g, z4g, z4g, z4g, z4h, z4h, z4h, z4h, z4h, z4h, z4h, z4h, z4h, z4h, z4h, z4h, z4h, z4h] rfl rfl (any_of HT_.out zi) (fun _ _ _ h => h) (Or.inl ⟨zw, ?_⟩) ?_ ?_
          rotate_left
          ·intro w'
           go_simp
           with_reducible rfl
          rotate_left
          ·simp only [Act.put, z4i, z4j, z4k, i64_w, i32_w]
           rfl
          refine pure_ (i := 10) (N := some 20) (v := ?_) (a' := ?_) #[z4g, z4g, z4g, z4g, z4g, z4g, z4g, z4g, z4g, z4g, z4g, z4h, z4h, z4h, z4h, z4h, z4h, z4h, z4h, z4h, z4h, z4h, z4h, z4h] rfl rfl (any_of HT_.out zi) (fun _ _ _ h => h) (Or.inl ⟨zw, ?_⟩) ?_ ?_
          rotate_left
          ·intro w'
           go_simp
           with_reducible rfl
          rotate_left
          ·simp only [Act.put, z4i, z4j, z4k, i64_w, i32_w]
           rfl
          refine pure_ (i := 11) (N := some 21) (v := ?_) (a' := ?_) #[z4g, z4g, z4g, z4g, z4g, z4g, z4g, z4g, z4g, z4g, z4g, z4g, z4h, z4h, z4h, z4h, z4h, z4h, z4h, z4h, z4h, z4h, z4h, z4h] rfl rfl (any_of HT_.out zi) (fun _ _ _ h => h) (Or.inl ⟨zw, ?_⟩) ?_ ?_
          rotate_left
          ·intro w'
           go_simp
           with_reducible rfl
          rotate_left
          ·simp only [Act.put, z4i, z4j, z4k, i64_w, i32_w]
           rfl
          refine pure_ (i := 12) (N := some 22) (v := ?_) (a' := ?_) #[z4g, z4g, z4g, z4g, z4g, z4g, z4g, z4g, z4g, z4g, z4g, z4g, z4g, z4h, z4h, z4h, z4h, z4h, z4h, z4h, z4h, z4h, z4h, z4h] rfl rfl (any_of HT_.out zi) (fun _ _ _ h => h) (Or.inl ⟨zw, ?_⟩) ?_ ?_
          rotate_left
          ·intro w'
           go_simp
           with_reducible rfl
          rotate_left
          ·simp only [Act.put, z4i, z4j, z4k, i64_w, i32_w]
           rfl
          refine pure_ (i := 13) (N := some 23) (v := ?_) (a' := ?_) #[z4g, z4g, z4g, z4g, z4g, z4g, z4g, z4g, z4g, z4g, z4g, z4g, z4g, z4g, z4h, z4h, z4h, z4h, z4h, z4h, z4h, z4h, z4h, z4h] rfl rfl (any_of HT_.out zi) (fun _ _ _ h => h) (Or.inl ⟨zw, ?_⟩) ?_ ?_
          rotate_left
          ·intro w'
           go_simp
           with_reducible rfl
          rotate_left
          ·simp only [Act.put, z4i, z4j, z4k, i64_w, i32_w]
           rfl
          refine pure_ (i := 14) (N := some 24) (v := ?_) (a' := ?_) #[z4g, z4g, z4g, z4g, z4g, z4g, z4g, z4g, z4g, z4g, z4g, z4g, z4g, z4g, z4g, z4h, z4h, z4h, z4h, z4h, z4h, z4h, z4h, z4h] rfl rfl (any_of HT_.out zi) (fun _ _ _ h => h) (Or.inl ⟨zw, ?_⟩) ?_ ?_
          rotate_left
          ·intro w'
           go_simp
           with_reducible rfl
          rotate_left
          ·simp only [Act.put, z4i, z4j, z4k, i64_w, i32_w]
           rfl
          refine pure_ (i := 16) (N := some 26) (v := ?_) (a' := ?_) #[z4g, z4g, z4g, z4g, z4g, z4g, z4g, z4g, z4g, z4g, z4g, z4g, z4g, z4g, z4g, z4h, z4g, z4h, z4h, z4h, z4h, z4h, z4h, z4h] rfl rfl (any_of HT_.out zi) (fun _ _ _ h => h) (Or.inl ⟨zw, ?_⟩) ?_ ?_
          rotate_left
          ·intro w'
           go_simp
           with_reducible rfl
          rotate_left
          ·simp only [Act.put, z4i, z4j, z4k, i64_w, i32_w]
           rfl
          refine pure_ (i := 17) (N := some 27) (v := ?_) (a' := ?_) #[z4g, z4g, z4g, z4g, z4g, z4g, z4g, z4g, z4g, z4g, z4g, z4g, z4g, z4g, z4g, z4h, z4g, z4g, z4h, z4h, z4h, z4h, z4h, z4h] rfl rfl (any_of HT_.out zi) (fun _ _ _ h => h) (Or.inl ⟨zw, ?_⟩) ?_ ?_
          rotate_left
          ·intro w'
           go_simp
           with_reducible rfl
          rotate_left
          ·simp only [Act.put, z4i, z4j, z4k, i64_w, i32_w]
           rfl
          refine pure_ (i := 18) (N := some 28) (v := ?_) (a' := ?_) #[z4g, z4g, z4g, z4g, z4g, z4g, z4g, z4g, z4g, z4g, z4g, z4g, z4g, z4g, z4g, z4h, z4g, z4g, z4g, z4h, z4h, z4h, z4h, z4h] rfl rfl (any_of HT_.out zi) (fun _ _ _ h => h) (Or.inl ⟨zw, ?_⟩) ?_ ?_
          rotate_left
          ·intro w'
           go_simp
           with_reducible rfl
          rotate_left
          ·simp only [Act.put, z4i, z4j, z4k, i64_w, i32_w]
           rfl
          refine pure_ (i := 19) (N := some 29) (v := ?_) (a' := ?_) #[z4g, z4g, z4g, z4g, z4g, z4g, z4g, z4g, z4g, z4g, z4g, z4g, z4g, z4g, z4g, z4h, z4g, z4g, z4g, z4g, z4h, z4h, z4h, z4h] rfl rfl (any_of HT_.out zi) (fun _ _ _ h => h) (Or.inl ⟨zw, ?_⟩) ?_ ?_
          rotate_left
          ·intro w'
           go_simp
           with_reducible rfl
          rotate_left
          ·simp only [Act.put, z4i, z4j, z4k, i64_w, i32_w]
           rfl
          refine take_ (i := 15) (N := some 25) (v := ?_) (a' := ?_) #[z4g, z4g, z4g, z4g, z4g, z4g, z4g, z4g, z4g, z4g, z4g, z4g, z4g, z4g, z4g, z4g, z4g, z4g, z4g, z4g, z4h, z4h, z4h, z4h] rfl rfl (take_ofW HT_.out HW_.out zi) (fun _ _ _ h => h) (Or.inl ⟨zw, ?_⟩) hHeld ?_ ?_
          rotate_left
          ·rintro w' ⟨s0, s1, s2, s3, s4, s5, s6, s7, s8, s9, s10, s11, s12, s13, s14⟩
           go_simp
           with_reducible rfl
          rotate_left
          ·simp only [Act.put, z4i, z4j, z4k, i64_w, i32_w]
           rfl
          refine take_ (i := 20) (N := some 30) (v := ?_) (a' := ?_) #[z4g, z4g, z4g, z4g, z4g, z4g, z4g, z4g, z4g, z4g, z4g, z4g, z4g, z4g, z4g, z4g, z4g, z4g, z4g, z4g, z4g, z4h, z4h, z4h] rfl rfl (take_ofW HT_.out HW_.out zi) (fun _ _ _ h => h) (Or.inl ⟨zw, ?_⟩) hHeld ?_ ?_
          rotate_left
          ·rintro w' ⟨s0, s1, s2, s3, s4, s5, s6, s7, s8, s9, s10, s11, s12, s13, s14⟩
           go_simp
           with_reducible rfl
          rotate_left
          ·simp only [Act.put, z4i, z4j, z4k, i64_w, i32_w]
           rfl
          refine pure_ (i := 21) (N := some 31) (v := ?_) (a' := ?_) #[z4g, z4g, z4g, z4g, z4g, z4g, z4g, z4g, z4g, z4g, z4g, z4g, z4g, z4g, z4g, z4g, z4g, z4g, z4g, z4g, z4g, z4g, z4h, z4h] rfl rfl (any_of HT_.out zi) (fun _ _ _ h => h) (Or.inl ⟨zw, ?_⟩) ?_ ?_
          rotate_left
          ·intro w'
           go_simp
           with_reducible rfl
          rotate_left
          ·simp only [Act.put, z4i, z4j, z4k, i64_w, i32_w]
           rfl
          refine pure_ (i := 22) (N := some 32) (v := ?_) (a' := ?_) #[z4g, z4g, z4g, z4g, z4g, z4g, z4g, z4g, z4g, z4g, z4g, z4g, z4g, z4g, z4g, z4g, z4g, z4g, z4g, z4g, z4g, z4g, z4g, z4h] rfl rfl (any_of HT_.out zi) (fun _ _ _ h => h) (Or.inl ⟨zw, ?_⟩) ?_ ?_
          rotate_left
          ·intro w'
           go_simp
           with_reducible rfl
          rotate_left
          ·simp only [Act.put, z4i, z4j, z4k, i64_w, i32_w]
           rfl
          refine pure_ (i := 23) (N := some 33) (v := ?_) (a' := ?_) #[z4g, z4g, z4g, z4g, z4g, z4g, z4g, z4g, z4g, z4g, z4g, z4g, z4g, z4g, z4g, z4g, z4g, z4g, z4g, z4g, z4g, z4g, z4g, z4g] rfl rfl (any_of HT_.out zi) (fun _ _ _ h => h) (Or.inl ⟨zw, ?_⟩) ?_ ?_
          rotate_left
          ·intro w'
           go_simp
           with_reducible rfl
          rotate_left
          ·simp only [Act.put, z4i, z4j, z4k, i64_w, i32_w]
           rfl
          refine done_ (done_of HT_.out zi) ?_
          try go_wp2
          go_roundg k1
          case measure => have := HK1.out; omega
          case rel => exact ⟨(wrap64 (x3_1 + 1)), zj, H', ⟨zn⟩, ⟨zp⟩⟩
         ·rw [if_neg c10] at H
          have c10b0 : (Op.bytesLess (((rd_T35 l0 (ji7)).f0).toList) (((rd_T35 l0 x3_1).f0).toList)) = false := by simpa using c10
          clear c10
          obtain rfl := Option.some.inj H
          try go_wp2
          have n0_ := Aside0.mk (below_drew1 HB.out)
          clear HB
          have HB := n0_
          clear n0_
          have p267 : 0 ≤ (x3_1 : Int) := of_decide_eq_true zm
          have q267 : x3_1 < (l0.length : Int) := of_decide_eq_true zm
          obtain ⟨ad267, e267, hx267_0, hx267_1, hx267_2, hx267_3, hx267_4⟩ := at_T35 HR0.out x3_1 p267 q267
          have hw267_4 := hx267_4
          have hw267_3 := hx267_3
          have hw267_2 := hx267_2
          have hw267_1 := hx267_1
          have hw267_0 := hx267_0
          cases e267
          replace hx267_0 := (HB.out.cell (World.block_lt_of_cell? w _ hx267_0)).trans hx267_0
          replace hx267_1 := (HB.out.cell (World.block_lt_of_cell? w _ hx267_1)).trans hx267_1
          replace hx267_2 := (HB.out.cell (World.block_lt_of_cell? w _ hx267_2)).trans hx267_2
          replace hx267_3 := (HB.out.cell (World.block_lt_of_cell? w _ hx267_3)).trans hx267_3
          replace hx267_4 := (HB.out.cell (World.block_lt_of_cell? w _ hx267_4)).trans hx267_4
          replace p267 := eq_true p267
          replace q267 := eq_true q267
          have p269 : 0 ≤ ((ji7) : Int) := of_decide_eq_true zm
          have q269 : (ji7) < (l0.length : Int) := of_decide_eq_true zm
          obtain ⟨ad269, e269, hx269_0, hx269_1, hx269_2, hx269_3, hx269_4⟩ := at_T35 HR0.out (ji7) p269 q269
          have hw269_4 := hx269_4
          have hw269_3 := hx269_3
          have hw269_2 := hx269_2
          have hw269_1 := hx269_1
          have hw269_0 := hx269_0
          obtain rfl : ad267 = ad269 := (by injection e269)
          replace hx269_0 := (HB.out.cell (World.block_lt_of_cell? w _ hx269_0)).trans hx269_0
          replace hx269_1 := (HB.out.cell (World.block_lt_of_cell? w _ hx269_1)).trans hx269_1
          replace hx269_2 := (HB.out.cell (World.block_lt_of_cell? w _ hx269_2)).trans hx269_2
          replace hx269_3 := (HB.out.cell (World.block_lt_of_cell? w _ hx269_3)).trans hx269_3
          replace hx269_4 := (HB.out.cell (World.block_lt_of_cell? w _ hx269_4)).trans hx269_4
          replace p269 := eq_true p269
          replace q269 := eq_true q269
          have p270 : 0 ≤ (x3_1 : Int) := of_decide_eq_true zm
          have q270 : x3_1 < (l0.length : Int) := of_decide_eq_true zm
          obtain ⟨ad270, e270, hx270_0, hx270_1, hx270_2, hx270_3, hx270_4⟩ := at_T35 HR0.out x3_1 p270 q270
          have hw270_4 := hx270_4
          have hw270_3 := hx270_3
          have hw270_2 := hx270_2
          have hw270_1 := hx270_1
          have hw270_0 := hx270_0
          obtain rfl : ad267 = ad270 := (by injection e270)
          replace hx270_0 := (HB.out.cell (World.block_lt_of_cell? w _ hx270_0)).trans hx270_0
          replace hx270_1 := (HB.out.cell (World.block_lt_of_cell? w _ hx270_1)).trans hx270_1
          replace hx270_2 := (HB.out.cell (World.block_lt_of_cell? w _ hx270_2)).trans hx270_2
          replace hx270_3 := (HB.out.cell (World.block_lt_of_cell? w _ hx270_3)).trans hx270_3
          replace hx270_4 := (HB.out.cell (World.block_lt_of_cell? w _ hx270_4)).trans hx270_4
          replace p270 := eq_true p270
          replace q270 := eq_true q270
          refine start_ (n := 24) (S := fun w' => w'.cell? (ad267.add ((x3_1).toNat * 5)) = some (.string ((rd_T35 l0 x3_1).f0)) ∧ w'.cell? ⟨(ad267.add ((x3_1).toNat * 5)).block, (ad267.add ((x3_1).toNat * 5)).off + 1, none⟩ = some (.int .i64 ((rd_T35 l0 x3_1).f1.f0)) ∧ w'.cell? ⟨(ad267.add ((x3_1).toNat * 5)).block, (ad267.add ((x3_1).toNat * 5)).off + 2, none⟩ = some (.int .i64 ((rd_T35 l0 x3_1).f1.f1)) ∧ w'.cell? ⟨(ad267.add ((x3_1).toNat * 5)).block, (ad267.add ((x3_1).toNat * 5)).off + 3, none⟩ = some (.int .i64 ((rd_T35 l0 x3_1).f1.f2)) ∧ w'.cell? ⟨(ad267.add ((x3_1).toNat * 5)).block, (ad267.add ((x3_1).toNat * 5)).off + 4, none⟩ = some (.string ((rd_T35 l0 x3_1).f1.f3)) ∧ w'.cell? (ad267.add (((ji7)).toNat * 5)) = some (.string ((rd_T35 l0 (ji7)).f0)) ∧ w'.cell? ⟨(ad267.add (((ji7)).toNat * 5)).block, (ad267.add (((ji7)).toNat * 5)).off + 1, none⟩ = some (.int .i64 ((rd_T35 l0 (ji7)).f1.f0)) ∧ w'.cell? ⟨(ad267.add (((ji7)).toNat * 5)).block, (ad267.add (((ji7)).toNat * 5)).off + 2, none⟩ = some (.int .i64 ((rd_T35 l0 (ji7)).f1.f1)) ∧ w'.cell? ⟨(ad267.add (((ji7)).toNat * 5)).block, (ad267.add (((ji7)).toNat * 5)).off + 3, none⟩ = some (.int .i64 ((rd_T35 l0 (ji7)).f1.f2)) ∧ w'.cell? ⟨(ad267.add (((ji7)).toNat * 5)).block, (ad267.add (((ji7)).toNat * 5)).off + 4, none⟩ = some (.string ((rd_T35 l0 (ji7)).f1.f3)) ∧ w'.cell? (ad267.add ((x3_1).toNat * 5)) = some (.string ((rd_T35 l0 x3_1).f0)) ∧ w'.cell? ⟨(ad267.add ((x3_1).toNat * 5)).block, (ad267.add ((x3_1).toNat * 5)).off + 1, none⟩ = some (.int .i64 ((rd_T35 l0 x3_1).f1.f0)) ∧ w'.cell? ⟨(ad267.add ((x3_1).toNat * 5)).block, (ad267.add ((x3_1).toNat * 5)).off + 2, none⟩ = some (.int .i64 ((rd_T35 l0 x3_1).f1.f1)) ∧ w'.cell? ⟨(ad267.add ((x3_1).toNat * 5)).block, (ad267.add ((x3_1).toNat * 5)).off + 3, none⟩ = some (.int .i64 ((rd_T35 l0 x3_1).f1.f2)) ∧ w'.cell? ⟨(ad267.add ((x3_1).toNat * 5)).block, (ad267.add ((x3_1).toNat * 5)).off + 4, none⟩ = some (.string ((rd_T35 l0 x3_1).f1.f3))) (ds := []) #[z4h, z4h, z4h, z4h, z4h, z4h, z4h, z4h, z4h, z4h, z4h, z4h, z4h, z4h, z4h, z4h, z4h, z4h, z4h, z4h, z4h, z4h, z4h, z4h] zi rfl rfl ⟨((HB.out.cell (World.block_lt_of_cell? w _ hw267_0)).trans hw267_0), ((HB.out.cell (World.block_lt_of_cell? w _ hw267_1)).trans hw267_1), ((HB.out.cell (World.block_lt_of_cell? w _ hw267_2)).trans hw267_2), ((HB.out.cell (World.block_lt_of_cell? w _ hw267_3)).trans hw267_3), ((HB.out.cell (World.block_lt_of_cell? w _ hw267_4)).trans hw267_4), ((HB.out.cell (World.block_lt_of_cell? w _ hw269_0)).trans hw269_0), ((HB.out.cell (World.block_lt_of_cell? w _ hw269_1)).trans hw269_1), ((HB.out.cell (World.block_lt_of_cell? w _ hw269_2)).trans hw269_2), ((HB.out.cell (World.block_lt_of_cell? w _ hw269_3)).trans hw269_3), ((HB.out.cell (World.block_lt_of_cell? w _ hw269_4)).trans hw269_4), ((HB.out.cell (World.block_lt_of_cell? w _ hw270_0)).trans hw270_0), ((HB.out.cell (World.block_lt_of_cell? w _ hw270_1)).trans hw270_1), ((HB.out.cell (World.block_lt_of_cell? w _ hw270_2)).trans hw270_2), ((HB.out.cell (World.block_lt_of_cell? w _ hw270_3)).trans hw270_3), ((HB.out.cell (World.block_lt_of_cell? w _ hw270_4)).trans hw270_4)⟩ (fun hHeld => ?_); refine with_tabW spec_l5Rising.tab4 spec_l5Rising.bits4 (fun HT_ HW_ => ?_)
          generalize wr.drew = w13 at HB hx267_0 hx267_1 hx267_2 hx267_3 hx267_4 hx269_0 hx269_1 hx269_2 hx269_3 hx269_4 hx270_0 hx270_1 hx270_2 hx270_3 hx270_4 hHeld ⊢
          refine pure_ (i := 0) (N := some 10) (v := ?_) (a' := ?_) #[z4g, z4h, z4h, z4h, z4h, z4h, z4h, z4h, z4h, z4h, z4h, z4h, z4h, z4h, z4h, z4h, z4h, z4h, z4h, z4h, z4h, z4h, z4h, z4h] rfl rfl (any_of HT_.out zi) (fun _ _ _ h => h) (Or.inl ⟨zw, ?_⟩) ?_ ?_
          rotate_left
          ·intro w'
           go_simp
           with_reducible rfl
          rotate_left
          ·simp only [Act.put, z4i, z4j, z4k, i64_w, i32_w]
           rfl
          refine pure_ (i := 1) (N := some 11) (v := ?_) (a' := ?_) #[z4g, z4g, z4h, z4h, z4h, z4h, z4h, z4h, z4h, z4h, z4h, z4h, z4h, z4h, z4h, z4h, z4h, z4h, z4h, z4h, z4h, z4h, z4h, z4h] rfl rfl (any_of HT_.out zi) (fun _ _ _ h => h) (Or.inl ⟨zw, ?_⟩) ?_ ?_
          rotate_left
          ·intro w'
           go_simp
           with_reducible rfl
          rotate_left
          ·simp only [Act.put, z4i, z4j, z4k, i64_w, i32_w]
           rfl
          refine pure_ (i := 2) (N := some 12) (v := ?_) (a' := ?_) #[z4g, z4g, z4g, z4h, z4h, z4h, z4h, z4h, z4h, z4h, z4h, z4h, z4h, z4h, z4h, z4h, z4h, z4h, z4h, z4h, z4h, z4h, z4h, z4h] rfl rfl (any_of HT_.out zi) (fun _ _ _ h => h) (Or.inl ⟨zw, ?_⟩) ?_ ?_
          rotate_left
          ·intro w'
           go_simp
           with_reducible rfl
          rotate_left
          ·simp only [Act.put, z4i, z4j, z4k, i64_w, i32_w]
           rfl
          refine take_ (i := 3) (N := some 13) (v := ?_) (a' := ?_) #[z4g, z4g, z4g, z4g, z4h, z4h, z4h, z4h, z4h, z4h, z4h, z4h, z4h, z4h, z4h, z4h, z4h, z4h, z4h, z4h, z4h, z4h, z4h, z4h] rfl rfl (take_ofW HT_.out HW_.out zi) (fun _ _ _ h => h) (Or.inl ⟨zw, ?_⟩) hHeld ?_ ?_
          rotate_left
          ·rintro w' ⟨s0, s1, s2, s3, s4, s5, s6, s7, s8, s9, s10, s11, s12, s13, s14⟩
           go_simp
           with_reducible rfl
          rotate_left
          ·simp only [Act.put, z4i, z4j, z4k, i64_w, i32_w]
           rfl
          refine one_ (i := 4) (N := some 14) #[z4g, z4g, z4g, z4g, z4g, z4h, z4h, z4h, z4h, z4h, z4h, z4h, z4h, z4h, z4h, z4h, z4h, z4h, z4h, z4h, z4h, z4h, z4h, z4h] rfl rfl (one_of HT_.out zi) zh (fun K hK => ?_)
          refine goes_ Tryz.func69 zi rfl #[.agg #[.string ((rd_T35 l0 x3_1).f0), .int .i64 ((rd_T35 l0 x3_1).f1.f0), .int .i64 ((rd_T35 l0 x3_1).f1.f1), .int .i64 ((rd_T35 l0 x3_1).f1.f2), .string ((rd_T35 l0 x3_1).f1.f3)]] zw rfl rfl zo ?_
          with_reducible refine (spec_NeedOk.calls k1 ((rd_T35 l0 x3_1).f0) ((rd_T35 l0 x3_1).f1.f0) ((rd_T35 l0 x3_1).f1.f1) ((rd_T35 l0 x3_1).f1.f2) ((rd_T35 l0 x3_1).f1.f3) true _ A4.out).mono ?_
          rintro e w14 ⟨rfl, hb⟩
          refine ⟨_, rfl, ?_⟩
          have n0_ := Aside0.mk (below_step zp hb)
          clear HB
          have HB := n0_
          clear n0_
          (try clear hb)
          (try clear hb2)
          (try clear hk)
          (try clear hi)
          refine hK.out _ _ ⟨((HB.out.cell (World.block_lt_of_cell? w _ hw267_0)).trans hw267_0), ((HB.out.cell (World.block_lt_of_cell? w _ hw267_1)).trans hw267_1), ((HB.out.cell (World.block_lt_of_cell? w _ hw267_2)).trans hw267_2), ((HB.out.cell (World.block_lt_of_cell? w _ hw267_3)).trans hw267_3), ((HB.out.cell (World.block_lt_of_cell? w _ hw267_4)).trans hw267_4), ((HB.out.cell (World.block_lt_of_cell? w _ hw269_0)).trans hw269_0), ((HB.out.cell (World.block_lt_of_cell? w _ hw269_1)).trans hw269_1), ((HB.out.cell (World.block_lt_of_cell? w _ hw269_2)).trans hw269_2), ((HB.out.cell (World.block_lt_of_cell? w _ hw269_3)).trans hw269_3), ((HB.out.cell (World.block_lt_of_cell? w _ hw269_4)).trans hw269_4), ((HB.out.cell (World.block_lt_of_cell? w _ hw270_0)).trans hw270_0), ((HB.out.cell (World.block_lt_of_cell? w _ hw270_1)).trans hw270_1), ((HB.out.cell (World.block_lt_of_cell? w _ hw270_2)).trans hw270_2), ((HB.out.cell (World.block_lt_of_cell? w _ hw270_3)).trans hw270_3), ((HB.out.cell (World.block_lt_of_cell? w _ hw270_4)).trans hw270_4)⟩ (fun hHeld => ?_)
          clear hK K
          refine norm_ (a' := ?_) ?_ ?_
          rotate_left
          ·show Act.put _ (some 14) _ = _
           simp only [Act.put, z4i, z4j, z4k, i64_w, i32_w]
           rfl
          refine pure_ (i := 5) (N := some 15) (v := ?_) (a' := ?_) #[z4g, z4g, z4g, z4g, z4g, z4g, z4h, z4h, z4h, z4h, z4h, z4h, z4h, z4h, z4h, z4h, z4h, z4h, z4h, z4h, z4h, z4h, z4h, z4h] rfl rfl (any_of HT_.out zi) (fun _ _ _ h => h) (Or.inl ⟨zw, ?_⟩) ?_ ?_
          rotate_left
          ·intro w'
           go_simp
           with_reducible rfl
          rotate_left
          ·simp only [Act.put, z4i, z4j, z4k, i64_w, i32_w]
           rfl
          refine pure_ (i := 6) (N := some 16) (v := ?_) (a' := ?_) #[z4g, z4g, z4g, z4g, z4g, z4g, z4g, z4h, z4h, z4h, z4h, z4h, z4h, z4h, z4h, z4h, z4h, z4h, z4h, z4h, z4h, z4h, z4h, z4h] rfl rfl (any_of HT_.out zi) (fun _ _ _ h => h) (Or.inl ⟨zw, ?_⟩) ?_ ?_
          rotate_left
          ·intro w'
           go_simp
           with_reducible rfl
          rotate_left
          ·simp only [Act.put, z4i, z4j, z4k, i64_w, i32_w]
           rfl
          refine pure_ (i := 7) (N := some 17) (v := ?_) (a' := ?_) #[z4g, z4g, z4g, z4g, z4g, z4g, z4g, z4g, z4h, z4h, z4h, z4h, z4h, z4h, z4h, z4h, z4h, z4h, z4h, z4h, z4h, z4h, z4h, z4h] rfl rfl (any_of HT_.out zi) (fun _ _ _ h => h) (Or.inl ⟨zw, ?_⟩) ?_ ?_
          rotate_left
          ·intro w'
           go_simp
           with_reducible rfl
          rotate_left
          ·simp only [Act.put, z4i, z4j, z4k, i64_w, i32_w]
           rfl
          refine pure_ (i := 8) (N := some 18) (v := ?_) (a' := ?_) #[z4g, z4g, z4g, z4g, z4g, z4g, z4g, z4g, z4g, z4h, z4h, z4h, z4h, z4h, z4h, z4h, z4h, z4h, z4h, z4h, z4h, z4h, z4h, z4h] rfl rfl (any_of HT_.out zi) (fun _ _ _ h => h) (Or.inl ⟨zw, ?_⟩) ?_ ?_
          rotate_left
          ·intro w'
           go_simp
           with_reducible rfl
          rotate_left
          ·simp only [Act.put, z4i, z4j, z4k, i64_w, i32_w]
           rfl
          refine pure_ (i := 9) (N := some 19) (v := ?_) (a' := ?_) #[z4g, z4g, z4g, z4g, z4g, z4g, z4g, z4g, z4g, z4g, z4h, z4h, z4h, z4h, z4h, z4h, z4h, z4h, z4h, z4h, z4h, z4h, z4h, z4h] rfl rfl (any_of HT_.out zi) (fun _ _ _ h => h) (Or.inl ⟨zw, ?_⟩) ?_ ?_
          rotate_left
          ·intro w'
           go_simp
           with_reducible rfl
          rotate_left
          ·simp only [Act.put, z4i, z4j, z4k, i64_w, i32_w]
           rfl
          refine pure_ (i := 10) (N := some 20) (v := ?_) (a' := ?_) #[z4g, z4g, z4g, z4g, z4g, z4g, z4g, z4g, z4g, z4g, z4g, z4h, z4h, z4h, z4h, z4h, z4h, z4h, z4h, z4h, z4h, z4h, z4h, z4h] rfl rfl (any_of HT_.out zi) (fun _ _ _ h => h) (Or.inl ⟨zw, ?_⟩) ?_ ?_
          rotate_left
          ·intro w'
           go_simp
           with_reducible rfl
          rotate_left
          ·simp only [Act.put, z4i, z4j, z4k, i64_w, i32_w]
           rfl
          refine pure_ (i := 11) (N := some 21) (v := ?_) (a' := ?_) #[z4g, z4g, z4g, z4g, z4g, z4g, z4g, z4g, z4g, z4g, z4g, z4g, z4h, z4h, z4h, z4h, z4h, z4h, z4h, z4h, z4h, z4h, z4h, z4h] rfl rfl (any_of HT_.out zi) (fun _ _ _ h => h) (Or.inl ⟨zw, ?_⟩) ?_ ?_
          rotate_left
          ·intro w'
           go_simp
           with_reducible rfl
          rotate_left
          ·simp only [Act.put, z4i, z4j, z4k, i64_w, i32_w]
           rfl
          refine pure_ (i := 12) (N := some 22) (v := ?_) (a' := ?_) #[z4g, z4g, z4g, z4g, z4g, z4g, z4g, z4g, z4g, z4g, z4g, z4g, z4g, z4h, z4h, z4h, z4h, z4h, z4h, z4h, z4h, z4h, z4h, z4h] rfl rfl (any_of HT_.out zi) (fun _ _ _ h => h) (Or.inl ⟨zw, ?_⟩) ?_ ?_
          rotate_left
          ·intro w'
           go_simp
           with_reducible rfl
          rotate_left
          ·simp only [Act.put, z4i, z4j, z4k, i64_w, i32_w]
           rfl
          refine pure_ (i := 13) (N := some 23) (v := ?_) (a' := ?_) #[z4g, z4g, z4g, z4g, z4g, z4g, z4g, z4g, z4g, z4g, z4g, z4g, z4g, z4g, z4h, z4h, z4h, z4h, z4h, z4h, z4h, z4h, z4h, z4h] rfl rfl (any_of HT_.out zi) (fun _ _ _ h => h) (Or.inl ⟨zw, ?_⟩) ?_ ?_
          rotate_left
          ·intro w'
           go_simp
           with_reducible rfl
          rotate_left
          ·simp only [Act.put, z4i, z4j, z4k, i64_w, i32_w]
           rfl
          refine pure_ (i := 14) (N := some 24) (v := ?_) (a' := ?_) #[z4g, z4g, z4g, z4g, z4g, z4g, z4g, z4g, z4g, z4g, z4g, z4g, z4g, z4g, z4g, z4h, z4h, z4h, z4h, z4h, z4h, z4h, z4h, z4h] rfl rfl (any_of HT_.out zi) (fun _ _ _ h => h) (Or.inl ⟨zw, ?_⟩) ?_ ?_
          rotate_left
          ·intro w'
           go_simp
           with_reducible rfl
          rotate_left
          ·simp only [Act.put, z4i, z4j, z4k, i64_w, i32_w]
           rfl
          refine pure_ (i := 16) (N := some 26) (v := ?_) (a' := ?_) #[z4g, z4g, z4g, z4g, z4g, z4g, z4g, z4g, z4g, z4g, z4g, z4g, z4g, z4g, z4g, z4h, z4g, z4h, z4h, z4h, z4h, z4h, z4h, z4h] rfl rfl (any_of HT_.out zi) (fun _ _ _ h => h) (Or.inl ⟨zw, ?_⟩) ?_ ?_
          rotate_left
          ·intro w'
           go_simp
           with_reducible rfl
          rotate_left
          ·simp only [Act.put, z4i, z4j, z4k, i64_w, i32_w]
           rfl
          refine pure_ (i := 17) (N := some 27) (v := ?_) (a' := ?_) #[z4g, z4g, z4g, z4g, z4g, z4g, z4g, z4g, z4g, z4g, z4g, z4g, z4g, z4g, z4g, z4h, z4g, z4g, z4h, z4h, z4h, z4h, z4h, z4h] rfl rfl (any_of HT_.out zi) (fun _ _ _ h => h) (Or.inl ⟨zw, ?_⟩) ?_ ?_
          rotate_left
          ·intro w'
           go_simp
           with_reducible rfl
          rotate_left
          ·simp only [Act.put, z4i, z4j, z4k, i64_w, i32_w]
           rfl
          refine pure_ (i := 18) (N := some 28) (v := ?_) (a' := ?_) #[z4g, z4g, z4g, z4g, z4g, z4g, z4g, z4g, z4g, z4g, z4g, z4g, z4g, z4g, z4g, z4h, z4g, z4g, z4g, z4h, z4h, z4h, z4h, z4h] rfl rfl (any_of HT_.out zi) (fun _ _ _ h => h) (Or.inl ⟨zw, ?_⟩) ?_ ?_
          rotate_left
          ·intro w'
           go_simp
           with_reducible rfl
          rotate_left
          ·simp only [Act.put, z4i, z4j, z4k, i64_w, i32_w]
           rfl
          refine pure_ (i := 19) (N := some 29) (v := ?_) (a' := ?_) #[z4g, z4g, z4g, z4g, z4g, z4g, z4g, z4g, z4g, z4g, z4g, z4g, z4g, z4g, z4g, z4h, z4g, z4g, z4g, z4g, z4h, z4h, z4h, z4h] rfl rfl (any_of HT_.out zi) (fun _ _ _ h => h) (Or.inl ⟨zw, ?_⟩) ?_ ?_
          rotate_left
          ·intro w'
           go_simp
           with_reducible rfl
          rotate_left
          ·simp only [Act.put, z4i, z4j, z4k, i64_w, i32_w]
           rfl
          refine take_ (i := 15) (N := some 25) (v := ?_) (a' := ?_) #[z4g, z4g, z4g, z4g, z4g, z4g, z4g, z4g, z4g, z4g, z4g, z4g, z4g, z4g, z4g, z4g, z4g, z4g, z4g, z4g, z4h, z4h, z4h, z4h] rfl rfl (take_ofW HT_.out HW_.out zi) (fun _ _ _ h => h) (Or.inl ⟨zw, ?_⟩) hHeld ?_ ?_
          rotate_left
          ·rintro w' ⟨s0, s1, s2, s3, s4, s5, s6, s7, s8, s9, s10, s11, s12, s13, s14⟩
           go_simp
           with_reducible rfl
          rotate_left
          ·simp only [Act.put, z4i, z4j, z4k, i64_w, i32_w]
           rfl
          refine take_ (i := 20) (N := some 30) (v := ?_) (a' := ?_) #[z4g, z4g, z4g, z4g, z4g, z4g, z4g, z4g, z4g, z4g, z4g, z4g, z4g, z4g, z4g, z4g, z4g, z4g, z4g, z4g, z4g, z4h, z4h, z4h] rfl rfl (take_ofW HT_.out HW_.out zi) (fun _ _ _ h => h) (Or.inl ⟨zw, ?_⟩) hHeld ?_ ?_
          rotate_left
          ·rintro w' ⟨s0, s1, s2, s3, s4, s5, s6, s7, s8, s9, s10, s11, s12, s13, s14⟩
           go_simp
           with_reducible rfl
          rotate_left
          ·simp only [Act.put, z4i, z4j, z4k, i64_w, i32_w]
           rfl
          refine pure_ (i := 21) (N := some 31) (v := ?_) (a' := ?_) #[z4g, z4g, z4g, z4g, z4g, z4g, z4g, z4g, z4g, z4g, z4g, z4g, z4g, z4g, z4g, z4g, z4g, z4g, z4g, z4g, z4g, z4g, z4h, z4h] rfl rfl (any_of HT_.out zi) (fun _ _ _ h => h) (Or.inl ⟨zw, ?_⟩) ?_ ?_
          rotate_left
          ·intro w'
           go_simp
           with_reducible rfl
          rotate_left
          ·simp only [Act.put, z4i, z4j, z4k, i64_w, i32_w]
           rfl
          refine pure_ (i := 22) (N := some 32) (v := ?_) (a' := ?_) #[z4g, z4g, z4g, z4g, z4g, z4g, z4g, z4g, z4g, z4g, z4g, z4g, z4g, z4g, z4g, z4g, z4g, z4g, z4g, z4g, z4g, z4g, z4g, z4h] rfl rfl (any_of HT_.out zi) (fun _ _ _ h => h) (Or.inl ⟨zw, ?_⟩) ?_ ?_
          rotate_left
          ·intro w'
           go_simp
           with_reducible rfl
          rotate_left
          ·simp only [Act.put, z4i, z4j, z4k, i64_w, i32_w]
           rfl
          refine pure_ (i := 23) (N := some 33) (v := ?_) (a' := ?_) #[z4g, z4g, z4g, z4g, z4g, z4g, z4g, z4g, z4g, z4g, z4g, z4g, z4g, z4g, z4g, z4g, z4g, z4g, z4g, z4g, z4g, z4g, z4g, z4g] rfl rfl (any_of HT_.out zi) (fun _ _ _ h => h) (Or.inl ⟨zw, ?_⟩) ?_ ?_
          rotate_left
          ·intro w'
           go_simp
           with_reducible rfl
          rotate_left
          ·simp only [Act.put, z4i, z4j, z4k, i64_w, i32_w]
           rfl
          refine done_ (done_of HT_.out zi) ?_
          try go_wp2
          go_ret
          exact ⟨by first | rfl | (simp [errW_none, errW_some] <;> rfl) | (simp only [← hji7]; first | rfl | (simp [errW_none, errW_some] <;> rfl)) | (simp [*, errW_none, errW_some] <;> rfl), zp⟩
        ·rw [if_neg c9] at H
         exact absurd H (by simp)
       ·rw [if_neg c8] at H
        exact absurd H (by simp)
      ·rw [if_neg c6] at H
       have c6b0 : decide (0 < x3_1) = false := decide_eq_false c6
       clear c6
       have H' := Aside0.mk H
       clear H
       try go_wp2
       have n0_ := Aside0.mk (below_drew1 HB.out)
       clear HB
       have HB := n0_
       clear n0_
       have p267 : 0 ≤ (x3_1 : Int) := of_decide_eq_true zm
       have q267 : x3_1 < (l0.length : Int) := of_decide_eq_true zm
       obtain ⟨ad267, e267, hx267_0, hx267_1, hx267_2, hx267_3, hx267_4⟩ := at_T35 HR0.out x3_1 p267 q267
       have hw267_4 := hx267_4
       have hw267_3 := hx267_3
       have hw267_2 := hx267_2
       have hw267_1 := hx267_1
       have hw267_0 := hx267_0
       cases e267
       replace hx267_0 := (HB.out.cell (World.block_lt_of_cell? w _ hx267_0)).trans hx267_0
       replace hx267_1 := (HB.out.cell (World.block_lt_of_cell? w _ hx267_1)).trans hx267_1
       replace hx267_2 := (HB.out.cell (World.block_lt_of_cell? w _ hx267_2)).trans hx267_2
       replace hx267_3 := (HB.out.cell (World.block_lt_of_cell? w _ hx267_3)).trans hx267_3
       replace hx267_4 := (HB.out.cell (World.block_lt_of_cell? w _ hx267_4)).trans hx267_4
       replace p267 := eq_true p267
       replace q267 := eq_true q267
       refine start_ (n := 24) (S := fun w' => w'.cell? (ad267.add ((x3_1).toNat * 5)) = some (.string ((rd_T35 l0 x3_1).f0)) ∧ w'.cell? ⟨(ad267.add ((x3_1).toNat * 5)).block, (ad267.add ((x3_1).toNat * 5)).off + 1, none⟩ = some (.int .i64 ((rd_T35 l0 x3_1).f1.f0)) ∧ w'.cell? ⟨(ad267.add ((x3_1).toNat * 5)).block, (ad267.add ((x3_1).toNat * 5)).off + 2, none⟩ = some (.int .i64 ((rd_T35 l0 x3_1).f1.f1)) ∧ w'.cell? ⟨(ad267.add ((x3_1).toNat * 5)).block, (ad267.add ((x3_1).toNat * 5)).off + 3, none⟩ = some (.int .i64 ((rd_T35 l0 x3_1).f1.f2)) ∧ w'.cell? ⟨(ad267.add ((x3_1).toNat * 5)).block, (ad267.add ((x3_1).toNat * 5)).off + 4, none⟩ = some (.string ((rd_T35 l0 x3_1).f1.f3))) (ds := []) #[z4h, z4h, z4h, z4h, z4h, z4h, z4h, z4h, z4h, z4h, z4h, z4h, z4h, z4h, z4h, z4h, z4h, z4h, z4h, z4h, z4h, z4h, z4h, z4h] zi rfl rfl ⟨((HB.out.cell (World.block_lt_of_cell? w _ hw267_0)).trans hw267_0), ((HB.out.cell (World.block_lt_of_cell? w _ hw267_1)).trans hw267_1), ((HB.out.cell (World.block_lt_of_cell? w _ hw267_2)).trans hw267_2), ((HB.out.cell (World.block_lt_of_cell? w _ hw267_3)).trans hw267_3), ((HB.out.cell (World.block_lt_of_cell? w _ hw267_4)).trans hw267_4)⟩ (fun hHeld => ?_); refine with_tabW spec_l5Rising.tab4 spec_l5Rising.bits4 (fun HT_ HW_ => ?_)
       generalize wr.drew = w15 at HB hx267_0 hx267_1 hx267_2 hx267_3 hx267_4 hHeld ⊢
       refine pure_ (i := 0) (N := some 10) (v := ?_) (a' := ?_) #[z4g, z4h, z4h, z4h, z4h, z4h, z4h, z4h, z4h, z4h, z4h, z4h, z4h, z4h, z4h, z4h, z4h, z4h, z4h, z4h, z4h, z4h, z4h, z4h] rfl rfl (any_of HT_.out zi) (fun _ _ _ h => h) (Or.inl ⟨zw, ?_⟩) ?_ ?_
       rotate_left
       ·intro w'
        go_simp
        with_reducible rfl
       rotate_left
       ·simp only [Act.put, z4i, z4j, z4k, i64_w, i32_w]
        rfl
       refine pure_ (i := 1) (N := some 11) (v := ?_) (a' := ?_) #[z4g, z4g, z4h, z4h, z4h, z4h, z4h, z4h, z4h, z4h, z4h, z4h, z4h, z4h, z4h, z4h, z4h, z4h, z4h, z4h, z4h, z4h, z4h, z4h] rfl rfl (any_of HT_.out zi) (fun _ _ _ h => h) (Or.inl ⟨zw, ?_⟩) ?_ ?_
       rotate_left
       ·intro w'
        go_simp
        with_reducible rfl
       rotate_left
       ·simp only [Act.put, z4i, z4j, z4k, i64_w, i32_w]
        rfl
       refine pure_ (i := 2) (N := some 12) (v := ?_) (a' := ?_) #[z4g, z4g, z4g, z4h, z4h, z4h, z4h, z4h, z4h, z4h, z4h, z4h, z4h, z4h, z4h, z4h, z4h, z4h, z4h, z4h, z4h, z4h, z4h, z4h] rfl rfl (any_of HT_.out zi) (fun _ _ _ h => h) (Or.inl ⟨zw, ?_⟩) ?_ ?_
       rotate_left
       ·intro w'
        go_simp
        with_reducible rfl
       rotate_left
       ·simp only [Act.put, z4i, z4j, z4k, i64_w, i32_w]
        rfl
       refine take_ (i := 3) (N := some 13) (v := ?_) (a' := ?_) #[z4g, z4g, z4g, z4g, z4h, z4h, z4h, z4h, z4h, z4h, z4h, z4h, z4h, z4h, z4h, z4h, z4h, z4h, z4h, z4h, z4h, z4h, z4h, z4h] rfl rfl (take_ofW HT_.out HW_.out zi) (fun _ _ _ h => h) (Or.inl ⟨zw, ?_⟩) hHeld ?_ ?_
       rotate_left
       ·rintro w' ⟨s0, s1, s2, s3, s4⟩
        go_simp
        with_reducible rfl
       rotate_left
       ·simp only [Act.put, z4i, z4j, z4k, i64_w, i32_w]
        rfl
       refine one_ (i := 4) (N := some 14) #[z4g, z4g, z4g, z4g, z4g, z4h, z4h, z4h, z4h, z4h, z4h, z4h, z4h, z4h, z4h, z4h, z4h, z4h, z4h, z4h, z4h, z4h, z4h, z4h] rfl rfl (one_of HT_.out zi) zh (fun K hK => ?_)
       refine goes_ Tryz.func69 zi rfl #[.agg #[.string ((rd_T35 l0 x3_1).f0), .int .i64 ((rd_T35 l0 x3_1).f1.f0), .int .i64 ((rd_T35 l0 x3_1).f1.f1), .int .i64 ((rd_T35 l0 x3_1).f1.f2), .string ((rd_T35 l0 x3_1).f1.f3)]] zw rfl rfl zo ?_
       with_reducible refine (spec_NeedOk.calls k1 ((rd_T35 l0 x3_1).f0) ((rd_T35 l0 x3_1).f1.f0) ((rd_T35 l0 x3_1).f1.f1) ((rd_T35 l0 x3_1).f1.f2) ((rd_T35 l0 x3_1).f1.f3) true _ A4.out).mono ?_
       rintro e w16 ⟨rfl, hb⟩
       refine ⟨_, rfl, ?_⟩
       have n0_ := Aside0.mk (below_step zp hb)
       clear HB
       have HB := n0_
       clear n0_
       (try clear hb)
       (try clear hb2)
       (try clear hk)
       (try clear hi)
       refine hK.out _ _ ⟨((HB.out.cell (World.block_lt_of_cell? w _ hw267_0)).trans hw267_0), ((HB.out.cell (World.block_lt_of_cell? w _ hw267_1)).trans hw267_1), ((HB.out.cell (World.block_lt_of_cell? w _ hw267_2)).trans hw267_2), ((HB.out.cell (World.block_lt_of_cell? w _ hw267_3)).trans hw267_3), ((HB.out.cell (World.block_lt_of_cell? w _ hw267_4)).trans hw267_4)⟩ (fun hHeld => ?_)
       clear hK K
       refine norm_ (a' := ?_) ?_ ?_
       rotate_left
       ·show Act.put _ (some 14) _ = _
        simp only [Act.put, z4i, z4j, z4k, i64_w, i32_w]
        rfl
       refine pure_ (i := 5) (N := some 15) (v := ?_) (a' := ?_) #[z4g, z4g, z4g, z4g, z4g, z4g, z4h, z4h, z4h, z4h, z4h, z4h, z4h, z4h, z4h, z4h, z4h, z4h, z4h, z4h, z4h, z4h, z4h, z4h] rfl rfl (any_of HT_.out zi) (fun _ _ _ h => h) (Or.inl ⟨zw, ?_⟩) ?_ ?_
       rotate_left
       ·intro w'
        go_simp
        with_reducible rfl
       rotate_left
       ·simp only [Act.put, z4i, z4j, z4k, i64_w, i32_w]
        rfl
       refine pure_ (i := 6) (N := some 16) (v := ?_) (a' := ?_) #[z4g, z4g, z4g, z4g, z4g, z4g, z4g, z4h, z4h, z4h, z4h, z4h, z4h, z4h, z4h, z4h, z4h, z4h, z4h, z4h, z4h, z4h, z4h, z4h] rfl rfl (any_of HT_.out zi) (fun _ _ _ h => h) (Or.inl ⟨zw, ?_⟩) ?_ ?_
       rotate_left
       ·intro w'
        go_simp
        with_reducible rfl
       rotate_left
       ·simp only [Act.put, z4i, z4j, z4k, i64_w, i32_w]
        rfl
       refine pure_ (i := 7) (N := some 17) (v := ?_) (a' := ?_) #[z4g, z4g, z4g, z4g, z4g, z4g, z4g, z4g, z4h, z4h, z4h, z4h, z4h, z4h, z4h, z4h, z4h, z4h, z4h, z4h, z4h, z4h, z4h, z4h] rfl rfl (any_of HT_.out zi) (fun _ _ _ h => h) (Or.inl ⟨zw, ?_⟩) ?_ ?_
       rotate_left
       ·intro w'
        go_simp
        with_reducible rfl
       rotate_left
       ·simp only [Act.put, z4i, z4j, z4k, i64_w, i32_w]
        rfl
       refine pure_ (i := 8) (N := some 18) (v := ?_) (a' := ?_) #[z4g, z4g, z4g, z4g, z4g, z4g, z4g, z4g, z4g, z4h, z4h, z4h, z4h, z4h, z4h, z4h, z4h, z4h, z4h, z4h, z4h, z4h, z4h, z4h] rfl rfl (any_of HT_.out zi) (fun _ _ _ h => h) (Or.inl ⟨zw, ?_⟩) ?_ ?_
       rotate_left
       ·intro w'
        go_simp
        with_reducible rfl
       rotate_left
       ·simp only [Act.put, z4i, z4j, z4k, i64_w, i32_w]
        rfl
       refine pure_ (i := 9) (N := some 19) (v := ?_) (a' := ?_) #[z4g, z4g, z4g, z4g, z4g, z4g, z4g, z4g, z4g, z4g, z4h, z4h, z4h, z4h, z4h, z4h, z4h, z4h, z4h, z4h, z4h, z4h, z4h, z4h] rfl rfl (any_of HT_.out zi) (fun _ _ _ h => h) (Or.inl ⟨zw, ?_⟩) ?_ ?_
       rotate_left
       ·intro w'
        go_simp
        with_reducible rfl
       rotate_left
       ·simp only [Act.put, z4i, z4j, z4k, i64_w, i32_w]
        rfl
       refine pure_ (i := 10) (N := some 20) (v := undef) (a' := ?_) #[z4g, z4g, z4g, z4g, z4g, z4g, z4g, z4g, z4g, z4g, z4g, z4h, z4h, z4h, z4h, z4h, z4h, z4h, z4h, z4h, z4h, z4h, z4h, z4h] rfl rfl (any_of HT_.out zi) (fun _ _ _ h => h) (Or.inr ⟨zw, rfl⟩) ?_ ?_
       rotate_left
       ·simp only [Act.put, z4i, z4j, z4k, i64_w, i32_w]
        rfl
       refine pure_ (i := 11) (N := some 21) (v := undef) (a' := ?_) #[z4g, z4g, z4g, z4g, z4g, z4g, z4g, z4g, z4g, z4g, z4g, z4g, z4h, z4h, z4h, z4h, z4h, z4h, z4h, z4h, z4h, z4h, z4h, z4h] rfl rfl (any_of HT_.out zi) (fun _ _ _ h => h) (Or.inr ⟨zw, rfl⟩) ?_ ?_
       rotate_left
       ·simp only [Act.put, z4i, z4j, z4k, i64_w, i32_w]
        rfl
       refine pure_ (i := 12) (N := some 22) (v := undef) (a' := ?_) #[z4g, z4g, z4g, z4g, z4g, z4g, z4g, z4g, z4g, z4g, z4g, z4g, z4g, z4h, z4h, z4h, z4h, z4h, z4h, z4h, z4h, z4h, z4h, z4h] rfl rfl (any_of HT_.out zi) (fun _ _ _ h => h) (Or.inr ⟨zw, rfl⟩) ?_ ?_
       rotate_left
       ·simp only [Act.put, z4i, z4j, z4k, i64_w, i32_w]
        rfl
       refine pure_ (i := 13) (N := some 23) (v := undef) (a' := ?_) #[z4g, z4g, z4g, z4g, z4g, z4g, z4g, z4g, z4g, z4g, z4g, z4g, z4g, z4g, z4h, z4h, z4h, z4h, z4h, z4h, z4h, z4h, z4h, z4h] rfl rfl (any_of HT_.out zi) (fun _ _ _ h => h) (Or.inr ⟨zw, rfl⟩) ?_ ?_
       rotate_left
       ·simp only [Act.put, z4i, z4j, z4k, i64_w, i32_w]
        rfl
       refine pure_ (i := 14) (N := some 24) (v := undef) (a' := ?_) #[z4g, z4g, z4g, z4g, z4g, z4g, z4g, z4g, z4g, z4g, z4g, z4g, z4g, z4g, z4g, z4h, z4h, z4h, z4h, z4h, z4h, z4h, z4h, z4h] rfl rfl (any_of HT_.out zi) (fun _ _ _ h => h) (Or.inr ⟨zw, rfl⟩) ?_ ?_
       rotate_left
       ·simp only [Act.put, z4i, z4j, z4k, i64_w, i32_w]
        rfl
       refine pure_ (i := 15) (N := some 25) (v := undef) (a' := ?_) #[z4g, z4g, z4g, z4g, z4g, z4g, z4g, z4g, z4g, z4g, z4g, z4g, z4g, z4g, z4g, z4g, z4h, z4h, z4h, z4h, z4h, z4h, z4h, z4h] rfl rfl (any_of HT_.out zi) (fun _ _ _ h => h) (Or.inr ⟨zw, rfl⟩) ?_ ?_
       rotate_left
       ·simp only [Act.put, z4i, z4j, z4k, i64_w, i32_w]
        rfl
       refine pure_ (i := 16) (N := some 26) (v := undef) (a' := ?_) #[z4g, z4g, z4g, z4g, z4g, z4g, z4g, z4g, z4g, z4g, z4g, z4g, z4g, z4g, z4g, z4g, z4g, z4h, z4h, z4h, z4h, z4h, z4h, z4h] rfl rfl (any_of HT_.out zi) (fun _ _ _ h => h) (Or.inr ⟨zw, rfl⟩) ?_ ?_
       rotate_left
       ·simp only [Act.put, z4i, z4j, z4k, i64_w, i32_w]
        rfl
       refine pure_ (i := 17) (N := some 27) (v := undef) (a' := ?_) #[z4g, z4g, z4g, z4g, z4g, z4g, z4g, z4g, z4g, z4g, z4g, z4g, z4g, z4g, z4g, z4g, z4g, z4g, z4h, z4h, z4h, z4h, z4h, z4h] rfl rfl (any_of HT_.out zi) (fun _ _ _ h => h) (Or.inr ⟨zw, rfl⟩) ?_ ?_
       rotate_left
       ·simp only [Act.put, z4i, z4j, z4k, i64_w, i32_w]
        rfl
       refine pure_ (i := 18) (N := some 28) (v := undef) (a' := ?_) #[z4g, z4g, z4g, z4g, z4g, z4g, z4g, z4g, z4g, z4g, z4g, z4g, z4g, z4g, z4g, z4g, z4g, z4g, z4g, z4h, z4h, z4h, z4h, z4h] rfl rfl (any_of HT_.out zi) (fun _ _ _ h => h) (Or.inr ⟨zw, rfl⟩) ?_ ?_
       rotate_left
       ·simp only [Act.put, z4i, z4j, z4k, i64_w, i32_w]
        rfl
       refine pure_ (i := 19) (N := some 29) (v := undef) (a' := ?_) #[z4g, z4g, z4g, z4g, z4g, z4g, z4g, z4g, z4g, z4g, z4g, z4g, z4g, z4g, z4g, z4g, z4g, z4g, z4g, z4g, z4h, z4h, z4h, z4h] rfl rfl (any_of HT_.out zi) (fun _ _ _ h => h) (Or.inr ⟨zw, rfl⟩) ?_ ?_
       rotate_left
       ·simp only [Act.put, z4i, z4j, z4k, i64_w, i32_w]
        rfl
       refine pure_ (i := 20) (N := some 30) (v := undef) (a' := ?_) #[z4g, z4g, z4g, z4g, z4g, z4g, z4g, z4g, z4g, z4g, z4g, z4g, z4g, z4g, z4g, z4g, z4g, z4g, z4g, z4g, z4g, z4h, z4h, z4h] rfl rfl (any_of HT_.out zi) (fun _ _ _ h => h) (Or.inr ⟨zw, rfl⟩) ?_ ?_
       rotate_left
       ·simp only [Act.put, z4i, z4j, z4k, i64_w, i32_w]
        rfl
       refine pure_ (i := 21) (N := some 31) (v := undef) (a' := ?_) #[z4g, z4g, z4g, z4g, z4g, z4g, z4g, z4g, z4g, z4g, z4g, z4g, z4g, z4g, z4g, z4g, z4g, z4g, z4g, z4g, z4g, z4g, z4h, z4h] rfl rfl (any_of HT_.out zi) (fun _ _ _ h => h) (Or.inr ⟨zw, rfl⟩) ?_ ?_
       rotate_left
       ·simp only [Act.put, z4i, z4j, z4k, i64_w, i32_w]
        rfl
       refine pure_ (i := 22) (N := some 32) (v := ?_) (a' := ?_) #[z4g, z4g, z4g, z4g, z4g, z4g, z4g, z4g, z4g, z4g, z4g, z4g, z4g, z4g, z4g, z4g, z4g, z4g, z4g, z4g, z4g, z4g, z4g, z4h] rfl rfl (any_of HT_.out zi) (fun _ _ _ h => h) (Or.inl ⟨zw, ?_⟩) ?_ ?_
       rotate_left
       ·intro w'
        go_simp
        with_reducible rfl
       rotate_left
       ·simp only [Act.put, z4i, z4j, z4k, i64_w, i32_w]
        rfl
       refine pure_ (i := 23) (N := some 33) (v := ?_) (a' := ?_) #[z4g, z4g, z4g, z4g, z4g, z4g, z4g, z4g, z4g, z4g, z4g, z4g, z4g, z4g, z4g, z4g, z4g, z4g, z4g, z4g, z4g, z4g, z4g, z4g] rfl rfl (any_of HT_.out zi) (fun _ _ _ h => h) (Or.inl ⟨zw, ?_⟩) ?_ ?_
       rotate_left
       ·intro w'
        go_simp
        with_reducible rfl
       rotate_left
       ·simp only [Act.put, z4i, z4j, z4k, i64_w, i32_w]
        rfl
       refine done_ (done_of HT_.out zi) ?_
       try go_wp2
       go_roundg k1
       case measure => have := HK1.out; omega
       case rel => exact ⟨(wrap64 (x3_1 + 1)), zj, H', ⟨zn⟩, ⟨zp⟩⟩
     ·replace c5 := Bool.eq_false_iff.mpr c5
      subst c5
      have H1 : (some false) = some r := by rw [if_neg (show ¬ (false = true) by decide)] at H; exact H
      clear H
      have H := H1
      clear H1
      obtain rfl := Option.some.inj H
      try go_wp2
      have n0_ := Aside0.mk (below_drew1 HB.out)
      clear HB
      have HB := n0_
      clear n0_
      have p267 : 0 ≤ (x3_1 : Int) := of_decide_eq_true zm
      have q267 : x3_1 < (l0.length : Int) := of_decide_eq_true zm
      obtain ⟨ad267, e267, hx267_0, hx267_1, hx267_2, hx267_3, hx267_4⟩ := at_T35 HR0.out x3_1 p267 q267
      have hw267_4 := hx267_4
      have hw267_3 := hx267_3
      have hw267_2 := hx267_2
      have hw267_1 := hx267_1
      have hw267_0 := hx267_0
      cases e267
      replace hx267_0 := (HB.out.cell (World.block_lt_of_cell? w _ hx267_0)).trans hx267_0
      replace hx267_1 := (HB.out.cell (World.block_lt_of_cell? w _ hx267_1)).trans hx267_1
      replace hx267_2 := (HB.out.cell (World.block_lt_of_cell? w _ hx267_2)).trans hx267_2
      replace hx267_3 := (HB.out.cell (World.block_lt_of_cell? w _ hx267_3)).trans hx267_3
      replace hx267_4 := (HB.out.cell (World.block_lt_of_cell? w _ hx267_4)).trans hx267_4
      replace p267 := eq_true p267
      replace q267 := eq_true q267
      refine start_ (n := 24) (S := fun w' => w'.cell? (ad267.add ((x3_1).toNat * 5)) = some (.string ((rd_T35 l0 x3_1).f0)) ∧ w'.cell? ⟨(ad267.add ((x3_1).toNat * 5)).block, (ad267.add ((x3_1).toNat * 5)).off + 1, none⟩ = some (.int .i64 ((rd_T35 l0 x3_1).f1.f0)) ∧ w'.cell? ⟨(ad267.add ((x3_1).toNat * 5)).block, (ad267.add ((x3_1).toNat * 5)).off + 2, none⟩ = some (.int .i64 ((rd_T35 l0 x3_1).f1.f1)) ∧ w'.cell? ⟨(ad267.add ((x3_1).toNat * 5)).block, (ad267.add ((x3_1).toNat * 5)).off + 3, none⟩ = some (.int .i64 ((rd_T35 l0 x3_1).f1.f2)) ∧ w'.cell? ⟨(ad267.add ((x3_1).toNat * 5)).block, (ad267.add ((x3_1).toNat * 5)).off + 4, none⟩ = some (.string ((rd_T35 l0 x3_1).f1.f3))) (ds := []) #[z4h, z4h, z4h, z4h, z4h, z4h, z4h, z4h, z4h, z4h, z4h, z4h, z4h, z4h, z4h, z4h, z4h, z4h, z4h, z4h, z4h, z4h, z4h, z4h] zi rfl rfl ⟨((HB.out.cell (World.block_lt_of_cell? w _ hw267_0)).trans hw267_0), ((HB.out.cell (World.block_lt_of_cell? w _ hw267_1)).trans hw267_1), ((HB.out.cell (World.block_lt_of_cell? w _ hw267_2)).trans hw267_2), ((HB.out.cell (World.block_lt_of_cell? w _ hw267_3)).trans hw267_3), ((HB.out.cell (World.block_lt_of_cell? w _ hw267_4)).trans hw267_4)⟩ (fun hHeld => ?_); refine with_tabW spec_l5Rising.tab4 spec_l5Rising.bits4 (fun HT_ HW_ => ?_)
      generalize wr.drew = w17 at HB hx267_0 hx267_1 hx267_2 hx267_3 hx267_4 hHeld ⊢
      refine pure_ (i := 0) (N := some 10) (v := ?_) (a' := ?_) #[z4g, z4h, z4h, z4h, z4h, z4h, z4h, z4h, z4h, z4h, z4h, z4h, z4h, z4h, z4h, z4h, z4h, z4h, z4h, z4h, z4h, z4h, z4h, z4h] rfl rfl (any_of HT_.out zi) (fun _ _ _ h => h) (Or.inl ⟨zw, ?_⟩) ?_ ?_
      rotate_left
      ·intro w'
       go_simp
       with_reducible rfl
      rotate_left
      ·simp only [Act.put, z4i, z4j, z4k, i64_w, i32_w]
       rfl
      refine pure_ (i := 1) (N := some 11) (v := ?_) (a' := ?_) #[z4g, z4g, z4h, z4h, z4h, z4h, z4h, z4h, z4h, z4h, z4h, z4h, z4h, z4h, z4h, z4h, z4h, z4h, z4h, z4h, z4h, z4h, z4h, z4h] rfl rfl (any_of HT_.out zi) (fun _ _ _ h => h) (Or.inl ⟨zw, ?_⟩) ?_ ?_
      rotate_left
      ·intro w'
       go_simp
       with_reducible rfl
      rotate_left
      ·simp only [Act.put, z4i, z4j, z4k, i64_w, i32_w]
       rfl
      refine pure_ (i := 2) (N := some 12) (v := ?_) (a' := ?_) #[z4g, z4g, z4g, z4h, z4h, z4h, z4h, z4h, z4h, z4h, z4h, z4h, z4h, z4h, z4h, z4h, z4h, z4h, z4h, z4h, z4h, z4h, z4h, z4h] rfl rfl (any_of HT_.out zi) (fun _ _ _ h => h) (Or.inl ⟨zw, ?_⟩) ?_ ?_
      rotate_left
      ·intro w'
       go_simp
       with_reducible rfl
      rotate_left
      ·simp only [Act.put, z4i, z4j, z4k, i64_w, i32_w]
       rfl
      refine take_ (i := 3) (N := some 13) (v := ?_) (a' := ?_) #[z4g, z4g, z4g, z4g, z4h, z4h, z4h, z4h, z4h, z4h, z4h, z4h, z4h, z4h, z4h, z4h, z4h, z4h, z4h, z4h, z4h, z4h, z4h, z4h] rfl rfl (take_ofW HT_.out HW_.out zi) (fun _ _ _ h => h) (Or.inl ⟨zw, ?_⟩) hHeld ?_ ?_
      rotate_left
      ·rintro w' ⟨s0, s1, s2, s3, s4⟩
       go_simp
       with_reducible rfl
      rotate_left
      ·simp only [Act.put, z4i, z4j, z4k, i64_w, i32_w]
       rfl
      refine one_ (i := 4) (N := some 14) #[z4g, z4g, z4g, z4g, z4g, z4h, z4h, z4h, z4h, z4h, z4h, z4h, z4h, z4h, z4h, z4h, z4h, z4h, z4h, z4h, z4h, z4h, z4h, z4h] rfl rfl (one_of HT_.out zi) zh (fun K hK => ?_)
      refine goes_ Tryz.func69 zi rfl #[.agg #[.string ((rd_T35 l0 x3_1).f0), .int .i64 ((rd_T35 l0 x3_1).f1.f0), .int .i64 ((rd_T35 l0 x3_1).f1.f1), .int .i64 ((rd_T35 l0 x3_1).f1.f2), .string ((rd_T35 l0 x3_1).f1.f3)]] zw rfl rfl zo ?_
      with_reducible refine (spec_NeedOk.calls k1 ((rd_T35 l0 x3_1).f0) ((rd_T35 l0 x3_1).f1.f0) ((rd_T35 l0 x3_1).f1.f1) ((rd_T35 l0 x3_1).f1.f2) ((rd_T35 l0 x3_1).f1.f3) false _ A4.out).mono ?_
      rintro e w18 ⟨rfl, hb⟩
      refine ⟨_, rfl, ?_⟩
      have n0_ := Aside0.mk (below_step zp hb)
      clear HB
      have HB := n0_
      clear n0_
      (try clear hb)
      (try clear hb2)
      (try clear hk)
      (try clear hi)
      refine hK.out _ _ ⟨((HB.out.cell (World.block_lt_of_cell? w _ hw267_0)).trans hw267_0), ((HB.out.cell (World.block_lt_of_cell? w _ hw267_1)).trans hw267_1), ((HB.out.cell (World.block_lt_of_cell? w _ hw267_2)).trans hw267_2), ((HB.out.cell (World.block_lt_of_cell? w _ hw267_3)).trans hw267_3), ((HB.out.cell (World.block_lt_of_cell? w _ hw267_4)).trans hw267_4)⟩ (fun hHeld => ?_)
      clear hK K
      refine norm_ (a' := ?_) ?_ ?_
      rotate_left
      ·show Act.put _ (some 14) _ = _
       simp only [Act.put, z4i, z4j, z4k, i64_w, i32_w]
       rfl
      refine pure_ (i := 5) (N := some 15) (v := ?_) (a' := ?_) #[z4g, z4g, z4g, z4g, z4g, z4g, z4h, z4h, z4h, z4h, z4h, z4h, z4h, z4h, z4h, z4h, z4h, z4h, z4h, z4h, z4h, z4h, z4h, z4h] rfl rfl (any_of HT_.out zi) (fun _ _ _ h => h) (Or.inl ⟨zw, ?_⟩) ?_ ?_
      rotate_left
      ·intro w'
       go_simp
       with_reducible rfl
      rotate_left
      ·simp only [Act.put, z4i, z4j, z4k, i64_w, i32_w]
       rfl
      refine pure_ (i := 6) (N := some 16) (v := ?_) (a' := ?_) #[z4g, z4g, z4g, z4g, z4g, z4g, z4g, z4h, z4h, z4h, z4h, z4h, z4h, z4h, z4h, z4h, z4h, z4h, z4h, z4h, z4h, z4h, z4h, z4h] rfl rfl (any_of HT_.out zi) (fun _ _ _ h => h) (Or.inl ⟨zw, ?_⟩) ?_ ?_
      rotate_left
      ·intro w'
       go_simp
       with_reducible rfl
      rotate_left
      ·simp only [Act.put, z4i, z4j, z4k, i64_w, i32_w]
       rfl
      refine pure_ (i := 7) (N := some 17) (v := undef) (a' := ?_) #[z4g, z4g, z4g, z4g, z4g, z4g, z4g, z4g, z4h, z4h, z4h, z4h, z4h, z4h, z4h, z4h, z4h, z4h, z4h, z4h, z4h, z4h, z4h, z4h] rfl rfl (any_of HT_.out zi) (fun _ _ _ h => h) (Or.inr ⟨zw, rfl⟩) ?_ ?_
      rotate_left
      ·simp only [Act.put, z4i, z4j, z4k, i64_w, i32_w]
       rfl
      refine pure_ (i := 8) (N := some 18) (v := undef) (a' := ?_) #[z4g, z4g, z4g, z4g, z4g, z4g, z4g, z4g, z4g, z4h, z4h, z4h, z4h, z4h, z4h, z4h, z4h, z4h, z4h, z4h, z4h, z4h, z4h, z4h] rfl rfl (any_of HT_.out zi) (fun _ _ _ h => h) (Or.inr ⟨zw, rfl⟩) ?_ ?_
      rotate_left
      ·simp only [Act.put, z4i, z4j, z4k, i64_w, i32_w]
       rfl
      refine pure_ (i := 9) (N := some 19) (v := undef) (a' := ?_) #[z4g, z4g, z4g, z4g, z4g, z4g, z4g, z4g, z4g, z4g, z4h, z4h, z4h, z4h, z4h, z4h, z4h, z4h, z4h, z4h, z4h, z4h, z4h, z4h] rfl rfl (any_of HT_.out zi) (fun _ _ _ h => h) (Or.inr ⟨zw, rfl⟩) ?_ ?_
      rotate_left
      ·simp only [Act.put, z4i, z4j, z4k, i64_w, i32_w]
       rfl
      refine pure_ (i := 10) (N := some 20) (v := undef) (a' := ?_) #[z4g, z4g, z4g, z4g, z4g, z4g, z4g, z4g, z4g, z4g, z4g, z4h, z4h, z4h, z4h, z4h, z4h, z4h, z4h, z4h, z4h, z4h, z4h, z4h] rfl rfl (any_of HT_.out zi) (fun _ _ _ h => h) (Or.inr ⟨zw, rfl⟩) ?_ ?_
      rotate_left
      ·simp only [Act.put, z4i, z4j, z4k, i64_w, i32_w]
       rfl
      refine pure_ (i := 11) (N := some 21) (v := undef) (a' := ?_) #[z4g, z4g, z4g, z4g, z4g, z4g, z4g, z4g, z4g, z4g, z4g, z4g, z4h, z4h, z4h, z4h, z4h, z4h, z4h, z4h, z4h, z4h, z4h, z4h] rfl rfl (any_of HT_.out zi) (fun _ _ _ h => h) (Or.inr ⟨zw, rfl⟩) ?_ ?_
      rotate_left
      ·simp only [Act.put, z4i, z4j, z4k, i64_w, i32_w]
       rfl
      refine pure_ (i := 12) (N := some 22) (v := undef) (a' := ?_) #[z4g, z4g, z4g, z4g, z4g, z4g, z4g, z4g, z4g, z4g, z4g, z4g, z4g, z4h, z4h, z4h, z4h, z4h, z4h, z4h, z4h, z4h, z4h, z4h] rfl rfl (any_of HT_.out zi) (fun _ _ _ h => h) (Or.inr ⟨zw, rfl⟩) ?_ ?_
      rotate_left
      ·simp only [Act.put, z4i, z4j, z4k, i64_w, i32_w]
       rfl
      refine pure_ (i := 13) (N := some 23) (v := undef) (a' := ?_) #[z4g, z4g, z4g, z4g, z4g, z4g, z4g, z4g, z4g, z4g, z4g, z4g, z4g, z4g, z4h, z4h, z4h, z4h, z4h, z4h, z4h, z4h, z4h, z4h] rfl rfl (any_of HT_.out zi) (fun _ _ _ h => h) (Or.inr ⟨zw, rfl⟩) ?_ ?_
      rotate_left
      ·simp only [Act.put, z4i, z4j, z4k, i64_w, i32_w]
       rfl
      refine pure_ (i := 14) (N := some 24) (v := undef) (a' := ?_) #[z4g, z4g, z4g, z4g, z4g, z4g, z4g, z4g, z4g, z4g, z4g, z4g, z4g, z4g, z4g, z4h, z4h, z4h, z4h, z4h, z4h, z4h, z4h, z4h] rfl rfl (any_of HT_.out zi) (fun _ _ _ h => h) (Or.inr ⟨zw, rfl⟩) ?_ ?_
      rotate_left
      ·simp only [Act.put, z4i, z4j, z4k, i64_w, i32_w]
       rfl
      refine pure_ (i := 15) (N := some 25) (v := undef) (a' := ?_) #[z4g, z4g, z4g, z4g, z4g, z4g, z4g, z4g, z4g, z4g, z4g, z4g, z4g, z4g, z4g, z4g, z4h, z4h, z4h, z4h, z4h, z4h, z4h, z4h] rfl rfl (any_of HT_.out zi) (fun _ _ _ h => h) (Or.inr ⟨zw, rfl⟩) ?_ ?_
      rotate_left
      ·simp only [Act.put, z4i, z4j, z4k, i64_w, i32_w]
       rfl
      refine pure_ (i := 16) (N := some 26) (v := undef) (a' := ?_) #[z4g, z4g, z4g, z4g, z4g, z4g, z4g, z4g, z4g, z4g, z4g, z4g, z4g, z4g, z4g, z4g, z4g, z4h, z4h, z4h, z4h, z4h, z4h, z4h] rfl rfl (any_of HT_.out zi) (fun _ _ _ h => h) (Or.inr ⟨zw, rfl⟩) ?_ ?_
      rotate_left
      ·simp only [Act.put, z4i, z4j, z4k, i64_w, i32_w]
       rfl
      refine pure_ (i := 17) (N := some 27) (v := undef) (a' := ?_) #[z4g, z4g, z4g, z4g, z4g, z4g, z4g, z4g, z4g, z4g, z4g, z4g, z4g, z4g, z4g, z4g, z4g, z4g, z4h, z4h, z4h, z4h, z4h, z4h] rfl rfl (any_of HT_.out zi) (fun _ _ _ h => h) (Or.inr ⟨zw, rfl⟩) ?_ ?_
      rotate_left
      ·simp only [Act.put, z4i, z4j, z4k, i64_w, i32_w]
       rfl
      refine pure_ (i := 18) (N := some 28) (v := undef) (a' := ?_) #[z4g, z4g, z4g, z4g, z4g, z4g, z4g, z4g, z4g, z4g, z4g, z4g, z4g, z4g, z4g, z4g, z4g, z4g, z4g, z4h, z4h, z4h, z4h, z4h] rfl rfl (any_of HT_.out zi) (fun _ _ _ h => h) (Or.inr ⟨zw, rfl⟩) ?_ ?_
      rotate_left
      ·simp only [Act.put, z4i, z4j, z4k, i64_w, i32_w]
       rfl
      refine pure_ (i := 19) (N := some 29) (v := undef) (a' := ?_) #[z4g, z4g, z4g, z4g, z4g, z4g, z4g, z4g, z4g, z4g, z4g, z4g, z4g, z4g, z4g, z4g, z4g, z4g, z4g, z4g, z4h, z4h, z4h, z4h] rfl rfl (any_of HT_.out zi) (fun _ _ _ h => h) (Or.inr ⟨zw, rfl⟩) ?_ ?_
      rotate_left
      ·simp only [Act.put, z4i, z4j, z4k, i64_w, i32_w]
       rfl
      refine pure_ (i := 20) (N := some 30) (v := undef) (a' := ?_) #[z4g, z4g, z4g, z4g, z4g, z4g, z4g, z4g, z4g, z4g, z4g, z4g, z4g, z4g, z4g, z4g, z4g, z4g, z4g, z4g, z4g, z4h, z4h, z4h] rfl rfl (any_of HT_.out zi) (fun _ _ _ h => h) (Or.inr ⟨zw, rfl⟩) ?_ ?_
      rotate_left
      ·simp only [Act.put, z4i, z4j, z4k, i64_w, i32_w]
       rfl
      refine pure_ (i := 21) (N := some 31) (v := undef) (a' := ?_) #[z4g, z4g, z4g, z4g, z4g, z4g, z4g, z4g, z4g, z4g, z4g, z4g, z4g, z4g, z4g, z4g, z4g, z4g, z4g, z4g, z4g, z4g, z4h, z4h] rfl rfl (any_of HT_.out zi) (fun _ _ _ h => h) (Or.inr ⟨zw, rfl⟩) ?_ ?_
      rotate_left
      ·simp only [Act.put, z4i, z4j, z4k, i64_w, i32_w]
       rfl
      refine pure_ (i := 22) (N := some 32) (v := undef) (a' := ?_) #[z4g, z4g, z4g, z4g, z4g, z4g, z4g, z4g, z4g, z4g, z4g, z4g, z4g, z4g, z4g, z4g, z4g, z4g, z4g, z4g, z4g, z4g, z4g, z4h] rfl rfl (any_of HT_.out zi) (fun _ _ _ h => h) (Or.inr ⟨zw, rfl⟩) ?_ ?_
      rotate_left
      ·simp only [Act.put, z4i, z4j, z4k, i64_w, i32_w]
       rfl
      refine pure_ (i := 23) (N := some 33) (v := ?_) (a' := ?_) #[z4g, z4g, z4g, z4g, z4g, z4g, z4g, z4g, z4g, z4g, z4g, z4g, z4g, z4g, z4g, z4g, z4g, z4g, z4g, z4g, z4g, z4g, z4g, z4g] rfl rfl (any_of HT_.out zi) (fun _ _ _ h => h) (Or.inl ⟨zw, ?_⟩) ?_ ?_
      rotate_left
      ·intro w'
       go_simp
       with_reducible rfl
      rotate_left
      ·simp only [Act.put, z4i, z4j, z4k, i64_w, i32_w]
       rfl
      refine done_ (done_of HT_.out zi) ?_
      try go_wp2
      go_ret
      exact ⟨zr, zp⟩
    ·rw [if_neg c3] at H
     exact absurd H (by simp)
   ·rw [if_neg c2] at H
    have c2b0 : decide (x3_1 < (l0.length : Int)) = false := decide_eq_false c2
    clear c2
    obtain rfl := Option.some.inj H
    go_wp2
    go_ret
    exact ⟨zr, zp⟩
end Go.Proofs.YtgdknepphkhnlaaGreatDoor.X

namespace Go.Proofs.YtgdknepphkhnlaaGreatDoor.X
open Go.RowKit Go.Proofs.YtgdknepphkhnlaaGreatDoorW.PrintWords Go.Proofs.YtgdknepphkhnlaaGreatDoorW.PrintLast Go.Proofs.YtgdknepphkhnlaaGreatDoorW.PrintMore
attribute [local go_sem] max2_int min2_int max_two min_two max_three min_three max_four min_four
set_option linter.unusedVariables false
set_option linter.unusedSimpArgs false
def spec_EntryOk.l0 : Nat → Int → ByteArray → Int → Int → Int → ByteArray → List (S35) → Option (Bool)
 | 0, _, _, _, _, _, _, _ => none
 | k + 1, x3, x272000, x272001, x272002, x272003, x272004, x272005 => if x3 < (x272005.length : Int) then (if 0 ≤ x3 then (if ((rd_T35 x272005 x3).f0).toList = x272000.toList then (some false) else (spec_EntryOk.l0 k (wrap64 (x3 + 1)) x272000 x272001 x272002 x272003 x272004 x272005)) else (none)) else ((spec_Fits.f k x272000 x272001 x272002 x272003 x272004).bind fun t273 => (if t273 = true then (if (x272005.length : Int) ≤ 8 then ((spec_l5Rising.f k x272005).bind fun t274 => (some t274)) else (some false)) else (some false)))
def spec_EntryOk.f (k : Nat) (a0_0 : ByteArray) (a0_1 : Int) (a0_2 : Int) (a0_3 : Int) (a0_4 : ByteArray) (l0_5 : List (S35)) : Option (Bool) := spec_EntryOk.l0 k 0 a0_0 a0_1 a0_2 a0_3 a0_4 l0_5
set_option maxHeartbeats 8000000 in
set_option maxRecDepth 100000 in
theorem spec_EntryOk.calls (k : Nat) (a0_0 : ByteArray) (a0_1 : Int) (a0_2 : Int) (a0_3 : Int) (a0_4 : ByteArray) (A0_5 : Option Addr) (c0_5 : Nat) (l0_5 : List (S35)) (r : Bool) (w : World) (hr0_5 : Kd.C k35 w A0_5 l0_5.length l0_5) (hc0_5 : l0_5.length ≤ c0_5) (h : spec_EntryOk.f k a0_0 a0_1 a0_2 a0_3 a0_4 l0_5 = some r) :
  Calls Tryz.prog 10 #[.agg #[.string a0_0, .int .i64 a0_1, .int .i64 a0_2, .int .i64 a0_3, .string a0_4, .slice A0_5 l0_5.length c0_5]] w fun e w' => e = .returned (.bool r) ∧ Below w.heap.size w w' := by
 have hu28 := Tryz.underlying28
 have hu25 := Tryz.underlying25
 have HR0_5 := Aside0.mk hr0_5
 have HC0_5 := Aside0.mk hc0_5
 clear hr0_5 hc0_5
 have HB := Aside0.mk (Below.refl w.heap.size w)
 have H : (spec_EntryOk.l0 k 0 a0_0 a0_1 a0_2 a0_3 a0_4 l0_5) = some r := h
 clear h
 have H' := Aside0.mk H
 clear H
 go_enter Tryz.func10, Tryz.ntmps10
 go_wp2_with (first | ((with_reducible refine gate_dst (N := 1) rfl ?_); (try (refine gate_guard zw ?_; dsimp only)); refine box_event zw (N := 1) zw (cs := #[.string a0_0, .int .i64 a0_1, .int .i64 a0_2, .int .i64 a0_3, .string a0_4, .slice A0_5 l0_5.length c0_5]) (t := 28) zx ?_; intro gb271 hg w2 hbox hb; have n0_ := Aside0.mk (below_step zp hb); have n1_ := Aside0.mk hbox; have n2_ := Aside0.mk ((z3s : w.heap.size ≤ gb271)); have n3_ := Aside0.mk ((z3s : w.heap.size ≤ gb271)); clear HB; have HB := n0_; have BK271 := n1_; have GW271 := n2_; have GE271 := n3_; clear n0_ n1_ n2_ n3_; clear hb hbox hg))
 repeat (go_quiet (first | ((with_reducible refine gate_dst (N := 1) rfl ?_); (try (refine gate_guard zw ?_; dsimp only)); refine box_event zw (N := 1) zw (cs := #[.string a0_0, .int .i64 a0_1, .int .i64 a0_2, .int .i64 a0_3, .string a0_4, .slice A0_5 l0_5.length c0_5]) (t := 28) zx ?_; intro gb271 hg w2 hbox hb; have n0_ := Aside0.mk (below_step zp hb); have n1_ := Aside0.mk hbox; have n2_ := Aside0.mk ((z3s : w.heap.size ≤ gb271)); have n3_ := Aside0.mk ((z3s : w.heap.size ≤ gb271)); clear HB; have HB := n0_; have BK271 := n1_; have GW271 := n2_; have GE271 := n3_; clear n0_ n1_ n2_ n3_; clear hb hbox hg)); try go_wp2_with (first | ((with_reducible refine gate_dst (N := 1) rfl ?_); (try (refine gate_guard zw ?_; dsimp only)); refine box_event zw (N := 1) zw (cs := #[.string a0_0, .int .i64 a0_1, .int .i64 a0_2, .int .i64 a0_3, .string a0_4, .slice A0_5 l0_5.length c0_5]) (t := 28) zx ?_; intro gb271 hg w2 hbox hb; have n0_ := Aside0.mk (below_step zp hb); have n1_ := Aside0.mk hbox; have n2_ := Aside0.mk ((z3s : w.heap.size ≤ gb271)); have n3_ := Aside0.mk ((z3s : w.heap.size ≤ gb271)); clear HB; have HB := n0_; have BK271 := n1_; have GW271 := n2_; have GE271 := n3_; clear n0_ n1_ n2_ n3_; clear hb hbox hg)))
 go_loopg [3] k (fun kq v3 w' => ∃ (x3_1 : Int), v3 = .int .i64 x3_1 ∧ Aside0 (spec_EntryOk.l0 kq x3_1 a0_0 a0_1 a0_2 a0_3 a0_4 l0_5 = some r) ∧ Aside0 (kq ≤ k) ∧ Aside0 (w'.heap[gb271]? = some (.cells #[.string a0_0, .int .i64 a0_1, .int .i64 a0_2, .int .i64 a0_3, .string a0_4, (.slice A0_5 l0_5.length c0_5)] 28 (0, 0))) ∧ Aside0 (Below w.heap.size w w'))
 case atStart => exact ⟨(0), zj, H', ⟨Nat.le_refl _⟩, ⟨z2j⟩, ⟨z2k⟩⟩
 case round =>
  clear H'
  try clear c1
  try clear p2
  obtain ⟨x3_1, rfl, HA, HK1, BK271, HB⟩ := hrel
  cases gk with
  | zero => exact absurd HA.out (by simp [spec_EntryOk.l0])
  | succ k1 =>
   have H := HA.out
   clear HA
   simp only [spec_EntryOk.l0] at H
   by_cases c3 : x3_1 < (l0_5.length : Int)
   ·rw [if_pos c3] at H
    have c3b0 : decide (x3_1 < (l0_5.length : Int)) = true := decide_eq_true c3
    clear c3
    by_cases c4 : 0 ≤ x3_1
    ·rw [if_pos c4] at H
     have c4b0 : decide (0 ≤ x3_1) = true := decide_eq_true c4
     clear c4
     by_cases c5 : ((rd_T35 l0_5 x3_1).f0).toList = a0_0.toList
     ·rw [if_pos c5] at H
      have c5b0 : (((rd_T35 l0_5 x3_1).f0).toList == a0_0.toList) = true := beq_iff_eq.mpr c5
      have c5b1 : (((rd_T35 l0_5 x3_1).f0).toList != a0_0.toList) = false := bne_eq_false_iff_eq.mpr c5
      clear c5
      obtain rfl := Option.some.inj H
      obtain ⟨hcz6_0, hcz6_1, hcz6_2, hcz6_3, hcz6_4, hcz6_5, hfz6_0, hfz6_1, hfz6_2, hfz6_3, hfz6_4, hfz6_5⟩ := zf BK271.out
      have p272 : 0 ≤ (x3_1 : Int) := of_decide_eq_true zm
      have q272 : x3_1 < (l0_5.length : Int) := of_decide_eq_true zm
      obtain ⟨ad272, e272, hx272_0, hx272_1, hx272_2, hx272_3, hx272_4⟩ := at_T35 HR0_5.out x3_1 p272 q272
      cases e272
      replace hx272_0 := (HB.out.cell (World.block_lt_of_cell? w _ hx272_0)).trans hx272_0
      replace hx272_1 := (HB.out.cell (World.block_lt_of_cell? w _ hx272_1)).trans hx272_1
      replace hx272_2 := (HB.out.cell (World.block_lt_of_cell? w _ hx272_2)).trans hx272_2
      replace hx272_3 := (HB.out.cell (World.block_lt_of_cell? w _ hx272_3)).trans hx272_3
      replace hx272_4 := (HB.out.cell (World.block_lt_of_cell? w _ hx272_4)).trans hx272_4
      replace p272 := eq_true p272
      replace q272 := eq_true q272
      go_wp2
      repeat (go_quiet (fail); try go_wp2)
      go_ret
      exact ⟨zr, z2k⟩
     ·rw [if_neg c5] at H
      have c5b0 : (((rd_T35 l0_5 x3_1).f0).toList == a0_0.toList) = false := beq_eq_false_iff_ne.mpr c5
      have c5b1 : (((rd_T35 l0_5 x3_1).f0).toList != a0_0.toList) = true := bne_iff_ne.mpr c5
      have H' := Aside0.mk H
      clear H
      obtain ⟨hcz7_0, hcz7_1, hcz7_2, hcz7_3, hcz7_4, hcz7_5, hfz7_0, hfz7_1, hfz7_2, hfz7_3, hfz7_4, hfz7_5⟩ := zf BK271.out
      have p272 : 0 ≤ (x3_1 : Int) := of_decide_eq_true zm
      have q272 : x3_1 < (l0_5.length : Int) := of_decide_eq_true zm
      obtain ⟨ad272, e272, hx272_0, hx272_1, hx272_2, hx272_3, hx272_4⟩ := at_T35 HR0_5.out x3_1 p272 q272
      cases e272
      replace hx272_0 := (HB.out.cell (World.block_lt_of_cell? w _ hx272_0)).trans hx272_0
      replace hx272_1 := (HB.out.cell (World.block_lt_of_cell? w _ hx272_1)).trans hx272_1
      replace hx272_2 := (HB.out.cell (World.block_lt_of_cell? w _ hx272_2)).trans hx272_2
      replace hx272_3 := (HB.out.cell (World.block_lt_of_cell? w _ hx272_3)).trans hx272_3
      replace hx272_4 := (HB.out.cell (World.block_lt_of_cell? w _ hx272_4)).trans hx272_4
      replace p272 := eq_true p272
      replace q272 := eq_true q272
      go_wp2
      repeat (go_quiet (fail); try go_wp2)
      go_roundg k1
      case measure => have := HK1.out; omega
      case rel => exact ⟨(wrap64 (x3_1 + 1)), zj, H', ⟨zn⟩, ⟨z2j⟩, ⟨z2k⟩⟩
    ·rw [if_neg c4] at H
     exact absurd H (by simp)
   ·rw [if_neg c3] at H
    have c3b0 : decide (x3_1 < (l0_5.length : Int)) = false := decide_eq_false c3
    clear c3
    replace H := Option.bind_eq_some_iff.mp H
    obtain ⟨t273, A80, H⟩ := H
    replace H : (if t273 = true then (if (l0_5.length : Int) ≤ 8 then ((spec_l5Rising.f k1 l0_5).bind fun t274 => (some t274)) else (some false)) else (some false)) = some r := H
    have A8 := Aside0.mk A80
    clear A80
    by_cases c9 : t273 = true
    ·subst c9
     have H1 : (if (l0_5.length : Int) ≤ 8 then ((spec_l5Rising.f k1 l0_5).bind fun t274 => (some t274)) else (some false)) = some r := by rw [if_pos rfl] at H; exact H
     clear H
     have H := H1
     clear H1
     by_cases c10 : (l0_5.length : Int) ≤ 8
     ·rw [if_pos c10] at H
      have c10b0 : decide ((l0_5.length : Int) ≤ 8) = true := decide_eq_true c10
      have c10b1 : decide (l0_5.length ≤ 8) = true := decide_eq_true zg
      clear c10
      replace H := Option.bind_eq_some_iff.mp H
      obtain ⟨t274, A110, H⟩ := H
      replace H : (some t274) = some r := H
      have A11 := Aside0.mk A110
      clear A110
      obtain rfl := Option.some.inj H
      obtain ⟨hcz12_0, hcz12_1, hcz12_2, hcz12_3, hcz12_4, hcz12_5, hfz12_0, hfz12_1, hfz12_2, hfz12_3, hfz12_4, hfz12_5⟩ := zf BK271.out
      go_wp2_with (first | (go_at_call 33; (with_reducible refine (spec_Fits.calls k1 a0_0 a0_1 a0_2 a0_3 a0_4 true _ A8.out).mono ?_); rintro e w13 ⟨rfl, hb⟩; have n0_ := Aside0.mk (blk_below (g := gb271) (o := .cells #[.string a0_0, .int .i64 a0_1, .int .i64 a0_2, .int .i64 a0_3, .string a0_4, .slice A0_5 l0_5.length c0_5] 28 (0, 0)) z2j hb); have n1_ := Aside0.mk (below_step z2k hb); clear BK271; clear HB; have BK271 := n0_; have HB := n1_; clear n0_ n1_; (try clear hb); (try clear hb2); (try clear hk); (try clear hi); obtain ⟨hcz14_0, hcz14_1, hcz14_2, hcz14_3, hcz14_4, hcz14_5, hfz14_0, hfz14_1, hfz14_2, hfz14_3, hfz14_4, hfz14_5⟩ := zf BK271.out) | (go_at_call 34; (with_reducible refine (spec_l5Rising.calls k1 _ _ l0_5 t274 _ ?side1 ?side2 A11.out).mono ?_); (case side1 => exact z1f); (case side2 => exact HC0_5.out); rintro e w15 ⟨rfl, hb⟩; have n0_ := Aside0.mk (blk_below (g := gb271) (o := .cells #[.string a0_0, .int .i64 a0_1, .int .i64 a0_2, .int .i64 a0_3, .string a0_4, .slice A0_5 l0_5.length c0_5] 28 (0, 0)) z2j hb); have n1_ := Aside0.mk (below_step z2k hb); clear BK271; clear HB; have BK271 := n0_; have HB := n1_; clear n0_ n1_; (try clear hb); (try clear hb2); (try clear hk); (try clear hi)))
      repeat (go_quiet (first | (go_at_call 33; (with_reducible refine (spec_Fits.calls k1 a0_0 a0_1 a0_2 a0_3 a0_4 true _ A8.out).mono ?_); rintro e w13 ⟨rfl, hb⟩; have n0_ := Aside0.mk (blk_below (g := gb271) (o := .cells #[.string a0_0, .int .i64 a0_1, .int .i64 a0_2, .int .i64 a0_3, .string a0_4, .slice A0_5 l0_5.length c0_5] 28 (0, 0)) z2j hb); have n1_ := Aside0.mk (below_step z2k hb); clear BK271; clear HB; have BK271 := n0_; have HB := n1_; clear n0_ n1_; (try clear hb); (try clear hb2); (try clear hk); (try clear hi); obtain ⟨hcz14_0, hcz14_1, hcz14_2, hcz14_3, hcz14_4, hcz14_5, hfz14_0, hfz14_1, hfz14_2, hfz14_3, hfz14_4, hfz14_5⟩ := zf BK271.out) | (go_at_call 34; (with_reducible refine (spec_l5Rising.calls k1 _ _ l0_5 t274 _ ?side1 ?side2 A11.out).mono ?_); (case side1 => exact z1f); (case side2 => exact HC0_5.out); rintro e w15 ⟨rfl, hb⟩; have n0_ := Aside0.mk (blk_below (g := gb271) (o := .cells #[.string a0_0, .int .i64 a0_1, .int .i64 a0_2, .int .i64 a0_3, .string a0_4, .slice A0_5 l0_5.length c0_5] 28 (0, 0)) z2j hb); have n1_ := Aside0.mk (below_step z2k hb); clear BK271; clear HB; have BK271 := n0_; have HB := n1_; clear n0_ n1_; (try clear hb); (try clear hb2); (try clear hk); (try clear hi))); try go_wp2_with (first | (go_at_call 33; (with_reducible refine (spec_Fits.calls k1 a0_0 a0_1 a0_2 a0_3 a0_4 true _ A8.out).mono ?_); rintro e w13 ⟨rfl, hb⟩; have n0_ := Aside0.mk (blk_below (g := gb271) (o := .cells #[.string a0_0, .int .i64 a0_1, .int .i64 a0_2, .int .i64 a0_3, .string a0_4, .slice A0_5 l0_5.length c0_5] 28 (0, 0)) z2j hb); have n1_ := Aside0.mk (below_step z2k hb); clear BK271; clear HB; have BK271 := n0_; have HB := n1_; clear n0_ n1_; (try clear hb); (try clear hb2); (try clear hk); (try clear hi); obtain ⟨hcz14_0, hcz14_1, hcz14_2, hcz14_3, hcz14_4, hcz14_5, hfz14_0, hfz14_1, hfz14_2, hfz14_3, hfz14_4, hfz14_5⟩ := zf BK271.out) | (go_at_call 34; (with_reducible refine (spec_l5Rising.calls k1 _ _ l0_5 t274 _ ?side1 ?side2 A11.out).mono ?_); (case side1 => exact z1f); (case side2 => exact HC0_5.out); rintro e w15 ⟨rfl, hb⟩; have n0_ := Aside0.mk (blk_below (g := gb271) (o := .cells #[.string a0_0, .int .i64 a0_1, .int .i64 a0_2, .int .i64 a0_3, .string a0_4, .slice A0_5 l0_5.length c0_5] 28 (0, 0)) z2j hb); have n1_ := Aside0.mk (below_step z2k hb); clear BK271; clear HB; have BK271 := n0_; have HB := n1_; clear n0_ n1_; (try clear hb); (try clear hb2); (try clear hk); (try clear hi))))
      go_ret
      exact ⟨zr, z2k⟩
     ·rw [if_neg c10] at H
      have c10b0 : decide ((l0_5.length : Int) ≤ 8) = false := decide_eq_false c10
      have c10b1 : decide (l0_5.length ≤ 8) = false := decide_eq_false zg
      clear c10
      obtain rfl := Option.some.inj H
      obtain ⟨hcz16_0, hcz16_1, hcz16_2, hcz16_3, hcz16_4, hcz16_5, hfz16_0, hfz16_1, hfz16_2, hfz16_3, hfz16_4, hfz16_5⟩ := zf BK271.out
      go_wp2_with (first | (go_at_call 33; (with_reducible refine (spec_Fits.calls k1 a0_0 a0_1 a0_2 a0_3 a0_4 true _ A8.out).mono ?_); rintro e w17 ⟨rfl, hb⟩; have n0_ := Aside0.mk (blk_below (g := gb271) (o := .cells #[.string a0_0, .int .i64 a0_1, .int .i64 a0_2, .int .i64 a0_3, .string a0_4, .slice A0_5 l0_5.length c0_5] 28 (0, 0)) z2j hb); have n1_ := Aside0.mk (below_step z2k hb); clear BK271; clear HB; have BK271 := n0_; have HB := n1_; clear n0_ n1_; (try clear hb); (try clear hb2); (try clear hk); (try clear hi); obtain ⟨hcz18_0, hcz18_1, hcz18_2, hcz18_3, hcz18_4, hcz18_5, hfz18_0, hfz18_1, hfz18_2, hfz18_3, hfz18_4, hfz18_5⟩ := zf BK271.out))
      repeat (go_quiet (first | (go_at_call 33; (with_reducible refine (spec_Fits.calls k1 a0_0 a0_1 a0_2 a0_3 a0_4 true _ A8.out).mono ?_); rintro e w17 ⟨rfl, hb⟩; have n0_ := Aside0.mk (blk_below (g := gb271) (o := .cells #[.string a0_0, .int .i64 a0_1, .int .i64 a0_2, .int .i64 a0_3, .string a0_4, .slice A0_5 l0_5.length c0_5] 28 (0, 0)) z2j hb); have n1_ := Aside0.mk (below_step z2k hb); clear BK271; clear HB; have BK271 := n0_; have HB := n1_; clear n0_ n1_; (try clear hb); (try clear hb2); (try clear hk); (try clear hi); obtain ⟨hcz18_0, hcz18_1, hcz18_2, hcz18_3, hcz18_4, hcz18_5, hfz18_0, hfz18_1, hfz18_2, hfz18_3, hfz18_4, hfz18_5⟩ := zf BK271.out)); try go_wp2_with (first | (go_at_call 33; (with_reducible refine (spec_Fits.calls k1 a0_0 a0_1 a0_2 a0_3 a0_4 true _ A8.out).mono ?_); rintro e w17 ⟨rfl, hb⟩; have n0_ := Aside0.mk (blk_below (g := gb271) (o := .cells #[.string a0_0, .int .i64 a0_1, .int .i64 a0_2, .int .i64 a0_3, .string a0_4, .slice A0_5 l0_5.length c0_5] 28 (0, 0)) z2j hb); have n1_ := Aside0.mk (below_step z2k hb); clear BK271; clear HB; have BK271 := n0_; have HB := n1_; clear n0_ n1_; (try clear hb); (try clear hb2); (try clear hk); (try clear hi); obtain ⟨hcz18_0, hcz18_1, hcz18_2, hcz18_3, hcz18_4, hcz18_5, hfz18_0, hfz18_1, hfz18_2, hfz18_3, hfz18_4, hfz18_5⟩ := zf BK271.out)))
      go_ret
      exact ⟨zr, z2k⟩
    ·replace c9 := Bool.eq_false_iff.mpr c9
     subst c9
     have H1 : (some false) = some r := by rw [if_neg (show ¬ (false = true) by decide)] at H; exact H
     clear H
     have H := H1
     clear H1
     obtain rfl := Option.some.inj H
     obtain ⟨hcz19_0, hcz19_1, hcz19_2, hcz19_3, hcz19_4, hcz19_5, hfz19_0, hfz19_1, hfz19_2, hfz19_3, hfz19_4, hfz19_5⟩ := zf BK271.out
     go_wp2_with (first | (go_at_call 33; (with_reducible refine (spec_Fits.calls k1 a0_0 a0_1 a0_2 a0_3 a0_4 false _ A8.out).mono ?_); rintro e w20 ⟨rfl, hb⟩; have n0_ := Aside0.mk (blk_below (g := gb271) (o := .cells #[.string a0_0, .int .i64 a0_1, .int .i64 a0_2, .int .i64 a0_3, .string a0_4, .slice A0_5 l0_5.length c0_5] 28 (0, 0)) z2j hb); have n1_ := Aside0.mk (below_step z2k hb); clear BK271; clear HB; have BK271 := n0_; have HB := n1_; clear n0_ n1_; (try clear hb); (try clear hb2); (try clear hk); (try clear hi)))
     repeat (go_quiet (first | (go_at_call 33; (with_reducible refine (spec_Fits.calls k1 a0_0 a0_1 a0_2 a0_3 a0_4 false _ A8.out).mono ?_); rintro e w20 ⟨rfl, hb⟩; have n0_ := Aside0.mk (blk_below (g := gb271) (o := .cells #[.string a0_0, .int .i64 a0_1, .int .i64 a0_2, .int .i64 a0_3, .string a0_4, .slice A0_5 l0_5.length c0_5] 28 (0, 0)) z2j hb); have n1_ := Aside0.mk (below_step z2k hb); clear BK271; clear HB; have BK271 := n0_; have HB := n1_; clear n0_ n1_; (try clear hb); (try clear hb2); (try clear hk); (try clear hi))); try go_wp2_with (first | (go_at_call 33; (with_reducible refine (spec_Fits.calls k1 a0_0 a0_1 a0_2 a0_3 a0_4 false _ A8.out).mono ?_); rintro e w20 ⟨rfl, hb⟩; have n0_ := Aside0.mk (blk_below (g := gb271) (o := .cells #[.string a0_0, .int .i64 a0_1, .int .i64 a0_2, .int .i64 a0_3, .string a0_4, .slice A0_5 l0_5.length c0_5] 28 (0, 0)) z2j hb); have n1_ := Aside0.mk (below_step z2k hb); clear BK271; clear HB; have BK271 := n0_; have HB := n1_; clear n0_ n1_; (try clear hb); (try clear hb2); (try clear hk); (try clear hi))))
     go_ret
     exact ⟨zr, z2k⟩
end Go.Proofs.YtgdknepphkhnlaaGreatDoor.X
