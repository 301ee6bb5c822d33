/- The law FnRead, as a plain statement: what is read of a drawn text as an entry is right, and has that text; what is read as a name has that name. Conditions: those of the row's reading alone. -/
/- Part 7 of 13 of this claim's texts. -/
import Derived.Test.YtgdknepphkhnlaaGreatDoorCFnRead1
import Derived.Test.YtgdknepphkhnlaaGreatDoorCFnRead3
import Derived.Test.YtgdknepphkhnlaaGreatDoorCFnRead4
import Derived.Test.YtgdknepphkhnlaaGreatDoorCFnRead5
namespace Go.Proofs.YtgdknepphkhnlaaGreatDoor.X
open Go.RowKit Go.Proofs.YtgdknepphkhnlaaGreatDoorW.PrintWords Go.Proofs.YtgdknepphkhnlaaGreatDoorW.PrintLast Go.Proofs.YtgdknepphkhnlaaGreatDoorW.PrintMore
attribute [local go_sem] max2_int min2_int max_two min_two max_three min_three max_four min_four
set_option linter.unusedVariables false
set_option linter.unusedSimpArgs false
def spec_l5Rising.l0 : Nat → List (S35) → Int → Option (Bool)
 | 0, _, _ => none
 | k + 1, x0, x3 => if x3 < (x0.length : Int) then (if 0 ≤ x3 then ((spec_NeedOk.f k ((rd_T35 x0 x3).f0) ((rd_T35 x0 x3).f1.f0) ((rd_T35 x0 x3).f1.f1) ((rd_T35 x0 x3).f1.f2) ((rd_T35 x0 x3).f1.f3)).bind fun t283 => (if t283 = true then (if x3 > 0 then (if 0 ≤ (wrap64 (x3 - 1)) then (if (wrap64 (x3 - 1)) < (x0.length : Int) then (if ((Op.bytesLess (((rd_T35 x0 (wrap64 (x3 - 1))).f0).toList) (((rd_T35 x0 x3).f0).toList)) = true) then (spec_l5Rising.l0 k x0 (wrap64 (x3 + 1))) else (some false)) else (none)) else (none)) else (spec_l5Rising.l0 k x0 (wrap64 (x3 + 1)))) else (some false))) else (none)) else (some true)
def spec_l5Rising.f (k : Nat) (l0 : List (S35)) : Option (Bool) := spec_l5Rising.l0 k l0 0
def spec_l5Rising.T4 : Bool × List (List Nat × List Nat) := (true, [([], []), ([], []), ([0, 1], [0, 1]), ([2], [2]), ([3], [3]), ([4], [4]), ([5, 4], [5]), ([6], [6]), ([7, 6], [6, 7]), ([8, 6, 6], [6, 8]), ([9], [9]), ([9], [9]), ([11, 9], [9, 11]), ([10, 12, 9], [9, 10, 12]), ([13, 9], [9, 13]), ([14, 9], [9, 14]), ([9], [9]), ([9], [9]), ([16, 17, 9], [9, 16, 17]), ([18, 9], [9, 18]), ([19, 9], [9, 19]), ([15, 20, 9], [9, 15, 20]), ([9, 21, 6], [6, 9, 21]), ([6, 22], [6, 22])])
def spec_l5Rising.B4 : List Nat := [0, 0, 3, 7, 15, 31, 63, 127, 255, 511, 1023, 1023, 3071, 8191, 16383, 32767, 1023, 1023, 197631, 459775, 984063, 2097151, 4194303, 8388607]
theorem spec_l5Rising.tab4 : rtab .any (opsOf Tryz.f34 4) = spec_l5Rising.T4 := by kernel_rfl
theorem spec_l5Rising.bits4 : waitsOk spec_l5Rising.T4.2 spec_l5Rising.B4 = true := by kernel_rfl
set_option maxHeartbeats 8000000 in
set_option maxRecDepth 100000 in
theorem spec_l5Rising.calls (k : Nat) (A0 : Option Addr) (c0 : Nat) (l0 : List (S35)) (r : Bool) (w : World) (hr0 : Kd.C k35 w A0 l0.length l0) (hc0 : l0.length ≤ c0) (h : spec_l5Rising.f k l0 = some r) :
  Calls Tryz.prog 34 #[.slice A0 l0.length c0] w fun e w' => e = .returned (.bool r) ∧ Below w.heap.size w w' := by
 have hu35 := Tryz.underlying35
 have HR0 := zn hr0
 have HC0 := zn hc0
 clear hr0 hc0
 have HB := zn (Below.refl w.heap.size w)
 have H := h
 unfold spec_l5Rising.f at H
 clear h
 have H' := zn H
 clear H
 go_enter Tryz.func34, Tryz.ntmps34
 go_wp2
 go_loopg [3] k (fun kq v3 w' => ∃ (x3_1 : Int), v3 = .int .i64 x3_1 ∧ Aside0 (spec_l5Rising.l0 kq l0 x3_1 = some r) ∧ Aside0 (kq ≤ k) ∧ Aside0 (Below w.heap.size w w'))
 case atStart => exact ⟨(0), z1n, H', ⟨Nat.le_refl _⟩, ⟨z1r⟩⟩
 case round =>
  clear H'
  obtain ⟨x3_1, rfl, HA, HK1, HB⟩ := hrel
  cases gk with
  | zero => exact absurd HA.out (by simp [spec_l5Rising.l0])
  | succ k1 =>
   have H := HA.out
   clear HA
   simp only [spec_l5Rising.l0] at H
   by_cases c2 : x3_1 < (l0.length : Int)
   ·rw [if_pos c2] at H
    have c2b0 := decide_eq_true c2
    clear c2
    by_cases c3 : 0 ≤ x3_1
    ·rw [if_pos c3] at H
     have c3b0 := decide_eq_true c3
     clear c3
     obtain ⟨t283, A4, H⟩ := zm H
     try dsimp only at H
     by_cases c5 : t283 = true
     ·subst c5
      rw [if_pos rfl] at H
      by_cases c6 : x3_1 > 0
      ·rw [if_pos c6] at H
       have c6b0 := decide_eq_true c6
       clear c6
       obtain ⟨ji7, hji7⟩ : ∃ j_ : Int, (wrap64 (x3_1 - 1)) = j_ := ⟨_, rfl⟩
       replace H : (if 0 ≤ (ji7) then (if (ji7) < (l0.length : Int) then (if ((Op.bytesLess (((rd_T35 l0 (ji7)).f0).toList) (((rd_T35 l0 x3_1).f0).toList)) = true) then (spec_l5Rising.l0 k1 l0 (wrap64 (x3_1 + 1))) else (some false)) else (none)) else (none)) = some r := by first | (rw [hji7] at H; exact H) | (simp only [hji7] at H ⊢; exact H)
       (try rw [hji7] at A4)
       have hji7w : (IntKind.i64.wrap (x3_1 - 1)) = ji7 := (i64_w _).trans hji7
       by_cases c8 : 0 ≤ (ji7)
       ·rw [if_pos c8] at H
        have c8b0 := decide_eq_true c8
        clear c8
        by_cases c9 : (ji7) < (l0.length : Int)
        ·rw [if_pos c9] at H
         have c9b0 := decide_eq_true c9
         clear c9
         by_cases c10 : ((Op.bytesLess (((rd_T35 l0 (ji7)).f0).toList) (((rd_T35 l0 x3_1).f0).toList)) = true)
         ·rw [if_pos c10] at H
          have c10b0 : (Op.bytesLess (((rd_T35 l0 (ji7)).f0).toList) (((rd_T35 l0 x3_1).f0).toList)) = true := c10
          clear c10
          have H' := zn H
          clear H
          try go_wp2
          replace HB := zn (below_drew1 HB.out)
          have p282 : 0 ≤ (x3_1 : Int) := of_decide_eq_true z1p
          have q282 : x3_1 < (l0.length : Int) := of_decide_eq_true z1p
          obtain ⟨ad282, e282, hx282_0, hx282_1, hx282_2, hx282_3, hx282_4⟩ := at_T35 HR0.out x3_1 p282 q282
          have hw282_4 := hx282_4
          have hw282_3 := hx282_3
          have hw282_2 := hx282_2
          have hw282_1 := hx282_1
          have hw282_0 := hx282_0
          cases e282
          replace hx282_0 := zz HB.out hx282_0
          replace hx282_1 := zz HB.out hx282_1
          replace hx282_2 := zz HB.out hx282_2
          replace hx282_3 := zz HB.out hx282_3
          replace hx282_4 := zz HB.out hx282_4
          replace p282 := eq_true p282
          replace q282 := eq_true q282
          have p284 : 0 ≤ ((ji7) : Int) := of_decide_eq_true z1p
          have q284 : (ji7) < (l0.length : Int) := of_decide_eq_true z1p
          obtain ⟨ad284, e284, hx284_0, hx284_1, hx284_2, hx284_3, hx284_4⟩ := at_T35 HR0.out (ji7) p284 q284
          have hw284_4 := hx284_4
          have hw284_3 := hx284_3
          have hw284_2 := hx284_2
          have hw284_1 := hx284_1
          have hw284_0 := hx284_0
          obtain rfl : ad282 = ad284 := (by injection e284)
          replace hx284_0 := zz HB.out hx284_0
          replace hx284_1 := zz HB.out hx284_1
          replace hx284_2 := zz HB.out hx284_2
          replace hx284_3 := zz HB.out hx284_3
          replace hx284_4 := zz HB.out hx284_4
          replace p284 := eq_true p284
          replace q284 := eq_true q284
          have p285 : 0 ≤ (x3_1 : Int) := of_decide_eq_true z1p
          have q285 : x3_1 < (l0.length : Int) := of_decide_eq_true z1p
          obtain ⟨ad285, e285, hx285_0, hx285_1, hx285_2, hx285_3, hx285_4⟩ := at_T35 HR0.out x3_1 p285 q285
          have hw285_4 := hx285_4
          have hw285_3 := hx285_3
          have hw285_2 := hx285_2
          have hw285_1 := hx285_1
          have hw285_0 := hx285_0
          obtain rfl : ad282 = ad285 := (by injection e285)
          replace hx285_0 := zz HB.out hx285_0
          replace hx285_1 := zz HB.out hx285_1
          replace hx285_2 := zz HB.out hx285_2
          replace hx285_3 := zz HB.out hx285_3
          replace hx285_4 := zz HB.out hx285_4
          replace p285 := eq_true p285
          replace q285 := eq_true q285
          refine start_ (n := 24) (S := fun w' => w'.cell? (ad282.add ((x3_1).toNat * 5)) = some (.string ((rd_T35 l0 x3_1).f0)) ∧ w'.cell? ⟨(ad282.add ((x3_1).toNat * 5)).block, (ad282.add ((x3_1).toNat * 5)).off + 1, none⟩ = some (.int .i64 ((rd_T35 l0 x3_1).f1.f0)) ∧ w'.cell? ⟨(ad282.add ((x3_1).toNat * 5)).block, (ad282.add ((x3_1).toNat * 5)).off + 2, none⟩ = some (.int .i64 ((rd_T35 l0 x3_1).f1.f1)) ∧ w'.cell? ⟨(ad282.add ((x3_1).toNat * 5)).block, (ad282.add ((x3_1).toNat * 5)).off + 3, none⟩ = some (.int .i64 ((rd_T35 l0 x3_1).f1.f2)) ∧ w'.cell? ⟨(ad282.add ((x3_1).toNat * 5)).block, (ad282.add ((x3_1).toNat * 5)).off + 4, none⟩ = some (.string ((rd_T35 l0 x3_1).f1.f3)) ∧ w'.cell? (ad282.add (((ji7)).toNat * 5)) = some (.string ((rd_T35 l0 (ji7)).f0)) ∧ w'.cell? ⟨(ad282.add (((ji7)).toNat * 5)).block, (ad282.add (((ji7)).toNat * 5)).off + 1, none⟩ = some (.int .i64 ((rd_T35 l0 (ji7)).f1.f0)) ∧ w'.cell? ⟨(ad282.add (((ji7)).toNat * 5)).block, (ad282.add (((ji7)).toNat * 5)).off + 2, none⟩ = some (.int .i64 ((rd_T35 l0 (ji7)).f1.f1)) ∧ w'.cell? ⟨(ad282.add (((ji7)).toNat * 5)).block, (ad282.add (((ji7)).toNat * 5)).off + 3, none⟩ = some (.int .i64 ((rd_T35 l0 (ji7)).f1.f2)) ∧ w'.cell? ⟨(ad282.add (((ji7)).toNat * 5)).block, (ad282.add (((ji7)).toNat * 5)).off + 4, none⟩ = some (.string ((rd_T35 l0 (ji7)).f1.f3)) ∧ w'.cell? (ad282.add ((x3_1).toNat * 5)) = some (.string ((rd_T35 l0 x3_1).f0)) ∧ w'.cell? ⟨(ad282.add ((x3_1).toNat * 5)).block, (ad282.add ((x3_1).toNat * 5)).off + 1, none⟩ = some (.int .i64 ((rd_T35 l0 x3_1).f1.f0)) ∧ w'.cell? ⟨(ad282.add ((x3_1).toNat * 5)).block, (ad282.add ((x3_1).toNat * 5)).off + 2, none⟩ = some (.int .i64 ((rd_T35 l0 x3_1).f1.f1)) ∧ w'.cell? ⟨(ad282.add ((x3_1).toNat * 5)).block, (ad282.add ((x3_1).toNat * 5)).off + 3, none⟩ = some (.int .i64 ((rd_T35 l0 x3_1).f1.f2)) ∧ w'.cell? ⟨(ad282.add ((x3_1).toNat * 5)).block, (ad282.add ((x3_1).toNat * 5)).off + 4, none⟩ = some (.string ((rd_T35 l0 x3_1).f1.f3))) (ds := []) #[z9d, z9d, z9d, z9d, z9d, z9d, z9d, z9d, z9d, z9d, z9d, z9d, z9d, z9d, z9d, z9d, z9d, z9d, z9d, z9d, z9d, z9d, z9d, z9d] z1m rfl rfl ⟨(zz HB.out hw282_0), (zz HB.out hw282_1), (zz HB.out hw282_2), (zz HB.out hw282_3), (zz HB.out hw282_4), (zz HB.out hw284_0), (zz HB.out hw284_1), (zz HB.out hw284_2), (zz HB.out hw284_3), (zz HB.out hw284_4), (zz HB.out hw285_0), (zz HB.out hw285_1), (zz HB.out hw285_2), (zz HB.out hw285_3), (zz HB.out hw285_4)⟩ (fun hHeld => ?_); refine with_tabW spec_l5Rising.tab4 spec_l5Rising.bits4 (fun HT_ HW_ => ?_)
          generalize wr.drew = w11 at HB hx282_0 hx282_1 hx282_2 hx282_3 hx282_4 hx284_0 hx284_1 hx284_2 hx284_3 hx284_4 hx285_0 hx285_1 hx285_2 hx285_3 hx285_4 hHeld ⊢
          refine zw 0 (some 10) #[z9c, z9d, z9d, z9d, z9d, z9d, z9d, z9d, z9d, z9d, z9d, z9d, z9d, z9d, z9d, z9d, z9d, z9d, z9d, z9d, z9d, z9d, z9d, z9d] rfl rfl ?_
          refine zw 1 (some 11) #[z9c, z9c, z9d, z9d, z9d, z9d, z9d, z9d, z9d, z9d, z9d, z9d, z9d, z9d, z9d, z9d, z9d, z9d, z9d, z9d, z9d, z9d, z9d, z9d] rfl rfl ?_
          refine zw 2 (some 12) #[z9c, z9c, z9c, z9d, z9d, z9d, z9d, z9d, z9d, z9d, z9d, z9d, z9d, z9d, z9d, z9d, z9d, z9d, z9d, z9d, z9d, z9d, z9d, z9d] rfl rfl ?_
          refine zx 3 (some 13) #[z9c, z9c, z9c, z9c, z9d, z9d, z9d, z9d, z9d, z9d, z9d, z9d, z9d, z9d, z9d, z9d, z9d, z9d, z9d, z9d, z9d, z9d, z9d, z9d] rfl rfl (Or.inl ⟨z2b, z4m⟩) hHeld ?_
          refine one_ (i := 4) (N := some 14) #[z9c, z9c, z9c, z9c, z9c, z9d, z9d, z9d, z9d, z9d, z9d, z9d, z9d, z9d, z9d, z9d, z9d, z9d, z9d, z9d, z9d, z9d, z9d, z9d] rfl rfl (one_of HT_.out z1m) z1l (fun K hK => ?_)
          refine goes_ Tryz.func69 z1m rfl #[.agg #[.string ((rd_T35 l0 x3_1).f0), .int .i64 ((rd_T35 l0 x3_1).f1.f0), .int .i64 ((rd_T35 l0 x3_1).f1.f1), .int .i64 ((rd_T35 l0 x3_1).f1.f2), .string ((rd_T35 l0 x3_1).f1.f3)]] z2b rfl rfl z2d ?_
          with_reducible refine (spec_NeedOk.calls k1 ((rd_T35 l0 x3_1).f0) ((rd_T35 l0 x3_1).f1.f0) ((rd_T35 l0 x3_1).f1.f1) ((rd_T35 l0 x3_1).f1.f2) ((rd_T35 l0 x3_1).f1.f3) true _ A4.out).mono ?_
          rintro e w12 ⟨rfl, hb⟩
          refine ⟨_, rfl, ?_⟩
          replace HB := zn (below_step z1r hb)
          (try clear hb)
          (try clear hb2)
          (try clear hk)
          (try clear hi)
          refine hK.out _ _ ⟨(zz HB.out hw282_0), (zz HB.out hw282_1), (zz HB.out hw282_2), (zz HB.out hw282_3), (zz HB.out hw282_4), (zz HB.out hw284_0), (zz HB.out hw284_1), (zz HB.out hw284_2), (zz HB.out hw284_3), (zz HB.out hw284_4), (zz HB.out hw285_0), (zz HB.out hw285_1), (zz HB.out hw285_2), (zz HB.out hw285_3), (zz HB.out hw285_4)⟩ (fun hHeld => ?_)
          clear hK K
          refine zy (some 14) rfl ?_
          refine zw 5 (some 15) #[z9c, z9c, z9c, z9c, z9c, z9c, z9d, z9d, z9d, z9d, z9d, z9d, z9d, z9d, z9d, z9d, z9d, z9d, z9d, z9d, z9d, z9d, z9d, z9d] rfl rfl ?_
          refine zw 6 (some 16) #[z9c, z9c, z9c, z9c, z9c, z9c, z9c, z9d, z9d, z9d, z9d, z9d, z9d, z9d, z9d, z9d, z9d, z9d, z9d, z9d, z9d, z9d, z9d, z9d] rfl rfl ?_
          refine zw 7 (some 17) #[z9c, z9c, z9c, z9c, z9c, z9c, z9c, z9c, z9d, z9d, z9d, z9d, z9d, z9d, z9d, z9d, z9d, z9d, z9d, z9d, z9d, z9d, z9d, z9d] rfl rfl ?_
          refine zw 8 (some 18) #[z9c, z9c, z9c, z9c, z9c, z9c, z9c, z9c, z9c, z9d, z9d, z9d, z9d, z9d, z9d, z9d, z9d, z9d, z9d, z9d, z9d, z9d, z9d, z9d] rfl rfl ?_
          refine zw 9 (some 19) #[z9c, z9c, z9c, z9c, z9c, z9c, z9c, z9c, z9c, z9c, z9d, z9d, z9d, z9d, z9d, z9d, z9d, z9d, z9d, z9d, z9d, z9d, z9d, z9d] rfl rfl ?_
          refine zw 10 (some 20) #[z9c, z9c, z9c, z9c, z9c, z9c, z9c, z9c, z9c, z9c, z9c, z9d, z9d, z9d, z9d, z9d, z9d, z9d, z9d, z9d, z9d, z9d, z9d, z9d] rfl rfl ?_
          refine zw 11 (some 21) #[z9c, z9c, z9c, z9c, z9c, z9c, z9c, z9c, z9c, z9c, z9c, z9c, z9d, z9d, z9d, z9d, z9d, z9d, z9d, z9d, z9d, z9d, z9d, z9d] rfl rfl ?_
          refine zw 12 (some 22) #[z9c, z9c, z9c, z9c, z9c, z9c, z9c, z9c, z9c, z9c, z9c, z9c, z9c, z9d, z9d, z9d, z9d, z9d, z9d, z9d, z9d, z9d, z9d, z9d] rfl rfl ?_
          refine zw 13 (some 23) #[z9c, z9c, z9c, z9c, z9c, z9c, z9c, z9c, z9c, z9c, z9c, z9c, z9c, z9c, z9d, z9d, z9d, z9d, z9d, z9d, z9d, z9d, z9d, z9d] rfl rfl ?_
          refine zw 14 (some 24) #[z9c, z9c, z9c, z9c, z9c, z9c, z9c, z9c, z9c, z9c, z9c, z9c, z9c, z9c, z9c, z9d, z9d, z9d, z9d, z9d, z9d, z9d, z9d, z9d] rfl rfl ?_
          refine zw 16 (some 26) #[z9c, z9c, z9c, z9c, z9c, z9c, z9c, z9c, z9c, z9c, z9c, z9c, z9c, z9c, z9c, z9d, z9c, z9d, z9d, z9d, z9d, z9d, z9d, z9d] rfl rfl ?_
          refine zw 17 (some 27) #[z9c, z9c, z9c, z9c, z9c, z9c, z9c, z9c, z9c, z9c, z9c, z9c, z9c, z9c, z9c, z9d, z9c, z9c, z9d, z9d, z9d, z9d, z9d, z9d] rfl rfl ?_
          refine zw 18 (some 28) #[z9c, z9c, z9c, z9c, z9c, z9c, z9c, z9c, z9c, z9c, z9c, z9c, z9c, z9c, z9c, z9d, z9c, z9c, z9c, z9d, z9d, z9d, z9d, z9d] rfl rfl ?_
          refine zw 19 (some 29) #[z9c, z9c, z9c, z9c, z9c, z9c, z9c, z9c, z9c, z9c, z9c, z9c, z9c, z9c, z9c, z9d, z9c, z9c, z9c, z9c, z9d, z9d, z9d, z9d] rfl rfl ?_
          refine zx 15 (some 25) #[z9c, z9c, z9c, z9c, z9c, z9c, z9c, z9c, z9c, z9c, z9c, z9c, z9c, z9c, z9c, z9c, z9c, z9c, z9c, z9c, z9d, z9d, z9d, z9d] rfl rfl (Or.inl ⟨z2b, z4m⟩) hHeld ?_
          refine zx 20 (some 30) #[z9c, z9c, z9c, z9c, z9c, z9c, z9c, z9c, z9c, z9c, z9c, z9c, z9c, z9c, z9c, z9c, z9c, z9c, z9c, z9c, z9c, z9d, z9d, z9d] rfl rfl (Or.inl ⟨z2b, z4m⟩) hHeld ?_
          refine zw 21 (some 31) #[z9c, z9c, z9c, z9c, z9c, z9c, z9c, z9c, z9c, z9c, z9c, z9c, z9c, z9c, z9c, z9c, z9c, z9c, z9c, z9c, z9c, z9c, z9d, z9d] rfl rfl ?_
          refine zw 22 (some 32) #[z9c, z9c, z9c, z9c, z9c, z9c, z9c, z9c, z9c, z9c, z9c, z9c, z9c, z9c, z9c, z9c, z9c, z9c, z9c, z9c, z9c, z9c, z9c, z9d] rfl rfl ?_
          refine zw 23 (some 33) #[z9c, z9c, z9c, z9c, z9c, z9c, z9c, z9c, z9c, z9c, z9c, z9c, z9c, z9c, z9c, z9c, z9c, z9c, z9c, z9c, z9c, z9c, z9c, z9c] rfl rfl ?_
          refine done_ (done_of HT_.out z1m) ?_
          try go_wp2
          go_roundg k1
          case measure => have := HK1.out; omega
          case rel => exact ⟨(wrap64 (x3_1 + 1)), z1n, H', ⟨z1q⟩, ⟨z1r⟩⟩
         ·rw [if_neg c10] at H
          have c10b0 : (Op.bytesLess (((rd_T35 l0 (ji7)).f0).toList) (((rd_T35 l0 x3_1).f0).toList)) = false := by simpa using c10
          clear c10
          obtain rfl := Option.some.inj H
          try go_wp2
          replace HB := zn (below_drew1 HB.out)
          have p282 : 0 ≤ (x3_1 : Int) := of_decide_eq_true z1p
          have q282 : x3_1 < (l0.length : Int) := of_decide_eq_true z1p
          obtain ⟨ad282, e282, hx282_0, hx282_1, hx282_2, hx282_3, hx282_4⟩ := at_T35 HR0.out x3_1 p282 q282
          have hw282_4 := hx282_4
          have hw282_3 := hx282_3
          have hw282_2 := hx282_2
          have hw282_1 := hx282_1
          have hw282_0 := hx282_0
          cases e282
          replace hx282_0 := zz HB.out hx282_0
          replace hx282_1 := zz HB.out hx282_1
          replace hx282_2 := zz HB.out hx282_2
          replace hx282_3 := zz HB.out hx282_3
          replace hx282_4 := zz HB.out hx282_4
          replace p282 := eq_true p282
          replace q282 := eq_true q282
          have p284 : 0 ≤ ((ji7) : Int) := of_decide_eq_true z1p
          have q284 : (ji7) < (l0.length : Int) := of_decide_eq_true z1p
          obtain ⟨ad284, e284, hx284_0, hx284_1, hx284_2, hx284_3, hx284_4⟩ := at_T35 HR0.out (ji7) p284 q284
          have hw284_4 := hx284_4
          have hw284_3 := hx284_3
          have hw284_2 := hx284_2
          have hw284_1 := hx284_1
          have hw284_0 := hx284_0
          obtain rfl : ad282 = ad284 := (by injection e284)
          replace hx284_0 := zz HB.out hx284_0
          replace hx284_1 := zz HB.out hx284_1
          replace hx284_2 := zz HB.out hx284_2
          replace hx284_3 := zz HB.out hx284_3
          replace hx284_4 := zz HB.out hx284_4
          replace p284 := eq_true p284
          replace q284 := eq_true q284
          have p285 : 0 ≤ (x3_1 : Int) := of_decide_eq_true z1p
          have q285 : x3_1 < (l0.length : Int) := of_decide_eq_true z1p
          obtain ⟨ad285, e285, hx285_0, hx285_1, hx285_2, hx285_3, hx285_4⟩ := at_T35 HR0.out x3_1 p285 q285
          have hw285_4 := hx285_4
          have hw285_3 := hx285_3
          have hw285_2 := hx285_2
          have hw285_1 := hx285_1
          have hw285_0 := hx285_0
          obtain rfl : ad282 = ad285 := (by injection e285)
          replace hx285_0 := zz HB.out hx285_0
          replace hx285_1 := zz HB.out hx285_1
          replace hx285_2 := zz HB.out hx285_2
          replace hx285_3 := zz HB.out hx285_3
          replace hx285_4 := zz HB.out hx285_4
          replace p285 := eq_true p285
          replace q285 := eq_true q285
          refine start_ (n := 24) (S := fun w' => w'.cell? (ad282.add ((x3_1).toNat * 5)) = some (.string ((rd_T35 l0 x3_1).f0)) ∧ w'.cell? ⟨(ad282.add ((x3_1).toNat * 5)).block, (ad282.add ((x3_1).toNat * 5)).off + 1, none⟩ = some (.int .i64 ((rd_T35 l0 x3_1).f1.f0)) ∧ w'.cell? ⟨(ad282.add ((x3_1).toNat * 5)).block, (ad282.add ((x3_1).toNat * 5)).off + 2, none⟩ = some (.int .i64 ((rd_T35 l0 x3_1).f1.f1)) ∧ w'.cell? ⟨(ad282.add ((x3_1).toNat * 5)).block, (ad282.add ((x3_1).toNat * 5)).off + 3, none⟩ = some (.int .i64 ((rd_T35 l0 x3_1).f1.f2)) ∧ w'.cell? ⟨(ad282.add ((x3_1).toNat * 5)).block, (ad282.add ((x3_1).toNat * 5)).off + 4, none⟩ = some (.string ((rd_T35 l0 x3_1).f1.f3)) ∧ w'.cell? (ad282.add (((ji7)).toNat * 5)) = some (.string ((rd_T35 l0 (ji7)).f0)) ∧ w'.cell? ⟨(ad282.add (((ji7)).toNat * 5)).block, (ad282.add (((ji7)).toNat * 5)).off + 1, none⟩ = some (.int .i64 ((rd_T35 l0 (ji7)).f1.f0)) ∧ w'.cell? ⟨(ad282.add (((ji7)).toNat * 5)).block, (ad282.add (((ji7)).toNat * 5)).off + 2, none⟩ = some (.int .i64 ((rd_T35 l0 (ji7)).f1.f1)) ∧ w'.cell? ⟨(ad282.add (((ji7)).toNat * 5)).block, (ad282.add (((ji7)).toNat * 5)).off + 3, none⟩ = some (.int .i64 ((rd_T35 l0 (ji7)).f1.f2)) ∧ w'.cell? ⟨(ad282.add (((ji7)).toNat * 5)).block, (ad282.add (((ji7)).toNat * 5)).off + 4, none⟩ = some (.string ((rd_T35 l0 (ji7)).f1.f3)) ∧ w'.cell? (ad282.add ((x3_1).toNat * 5)) = some (.string ((rd_T35 l0 x3_1).f0)) ∧ w'.cell? ⟨(ad282.add ((x3_1).toNat * 5)).block, (ad282.add ((x3_1).toNat * 5)).off + 1, none⟩ = some (.int .i64 ((rd_T35 l0 x3_1).f1.f0)) ∧ w'.cell? ⟨(ad282.add ((x3_1).toNat * 5)).block, (ad282.add ((x3_1).toNat * 5)).off + 2, none⟩ = some (.int .i64 ((rd_T35 l0 x3_1).f1.f1)) ∧ w'.cell? ⟨(ad282.add ((x3_1).toNat * 5)).block, (ad282.add ((x3_1).toNat * 5)).off + 3, none⟩ = some (.int .i64 ((rd_T35 l0 x3_1).f1.f2)) ∧ w'.cell? ⟨(ad282.add ((x3_1).toNat * 5)).block, (ad282.add ((x3_1).toNat * 5)).off + 4, none⟩ = some (.string ((rd_T35 l0 x3_1).f1.f3))) (ds := []) #[z9d, z9d, z9d, z9d, z9d, z9d, z9d, z9d, z9d, z9d, z9d, z9d, z9d, z9d, z9d, z9d, z9d, z9d, z9d, z9d, z9d, z9d, z9d, z9d] z1m rfl rfl ⟨(zz HB.out hw282_0), (zz HB.out hw282_1), (zz HB.out hw282_2), (zz HB.out hw282_3), (zz HB.out hw282_4), (zz HB.out hw284_0), (zz HB.out hw284_1), (zz HB.out hw284_2), (zz HB.out hw284_3), (zz HB.out hw284_4), (zz HB.out hw285_0), (zz HB.out hw285_1), (zz HB.out hw285_2), (zz HB.out hw285_3), (zz HB.out hw285_4)⟩ (fun hHeld => ?_); refine with_tabW spec_l5Rising.tab4 spec_l5Rising.bits4 (fun HT_ HW_ => ?_)
          generalize wr.drew = w13 at HB hx282_0 hx282_1 hx282_2 hx282_3 hx282_4 hx284_0 hx284_1 hx284_2 hx284_3 hx284_4 hx285_0 hx285_1 hx285_2 hx285_3 hx285_4 hHeld ⊢
          refine zw 0 (some 10) #[z9c, z9d, z9d, z9d, z9d, z9d, z9d, z9d, z9d, z9d, z9d, z9d, z9d, z9d, z9d, z9d, z9d, z9d, z9d, z9d, z9d, z9d, z9d, z9d] rfl rfl ?_
          refine zw 1 (some 11) #[z9c, z9c, z9d, z9d, z9d, z9d, z9d, z9d, z9d, z9d, z9d, z9d, z9d, z9d, z9d, z9d, z9d, z9d, z9d, z9d, z9d, z9d, z9d, z9d] rfl rfl ?_
          refine zw 2 (some 12) #[z9c, z9c, z9c, z9d, z9d, z9d, z9d, z9d, z9d, z9d, z9d, z9d, z9d, z9d, z9d, z9d, z9d, z9d, z9d, z9d, z9d, z9d, z9d, z9d] rfl rfl ?_
          refine zx 3 (some 13) #[z9c, z9c, z9c, z9c, z9d, z9d, z9d, z9d, z9d, z9d, z9d, z9d, z9d, z9d, z9d, z9d, z9d, z9d, z9d, z9d, z9d, z9d, z9d, z9d] rfl rfl (Or.inl ⟨z2b, z4m⟩) hHeld ?_
          refine one_ (i := 4) (N := some 14) #[z9c, z9c, z9c, z9c, z9c, z9d, z9d, z9d, z9d, z9d, z9d, z9d, z9d, z9d, z9d, z9d, z9d, z9d, z9d, z9d, z9d, z9d, z9d, z9d] rfl rfl (one_of HT_.out z1m) z1l (fun K hK => ?_)
          refine goes_ Tryz.func69 z1m rfl #[.agg #[.string ((rd_T35 l0 x3_1).f0), .int .i64 ((rd_T35 l0 x3_1).f1.f0), .int .i64 ((rd_T35 l0 x3_1).f1.f1), .int .i64 ((rd_T35 l0 x3_1).f1.f2), .string ((rd_T35 l0 x3_1).f1.f3)]] z2b rfl rfl z2d ?_
          with_reducible refine (spec_NeedOk.calls k1 ((rd_T35 l0 x3_1).f0) ((rd_T35 l0 x3_1).f1.f0) ((rd_T35 l0 x3_1).f1.f1) ((rd_T35 l0 x3_1).f1.f2) ((rd_T35 l0 x3_1).f1.f3) true _ A4.out).mono ?_
          rintro e w14 ⟨rfl, hb⟩
          refine ⟨_, rfl, ?_⟩
          replace HB := zn (below_step z1r hb)
          (try clear hb)
          (try clear hb2)
          (try clear hk)
          (try clear hi)
          refine hK.out _ _ ⟨(zz HB.out hw282_0), (zz HB.out hw282_1), (zz HB.out hw282_2), (zz HB.out hw282_3), (zz HB.out hw282_4), (zz HB.out hw284_0), (zz HB.out hw284_1), (zz HB.out hw284_2), (zz HB.out hw284_3), (zz HB.out hw284_4), (zz HB.out hw285_0), (zz HB.out hw285_1), (zz HB.out hw285_2), (zz HB.out hw285_3), (zz HB.out hw285_4)⟩ (fun hHeld => ?_)
          clear hK K
          refine zy (some 14) rfl ?_
          refine zw 5 (some 15) #[z9c, z9c, z9c, z9c, z9c, z9c, z9d, z9d, z9d, z9d, z9d, z9d, z9d, z9d, z9d, z9d, z9d, z9d, z9d, z9d, z9d, z9d, z9d, z9d] rfl rfl ?_
          refine zw 6 (some 16) #[z9c, z9c, z9c, z9c, z9c, z9c, z9c, z9d, z9d, z9d, z9d, z9d, z9d, z9d, z9d, z9d, z9d, z9d, z9d, z9d, z9d, z9d, z9d, z9d] rfl rfl ?_
          refine zw 7 (some 17) #[z9c, z9c, z9c, z9c, z9c, z9c, z9c, z9c, z9d, z9d, z9d, z9d, z9d, z9d, z9d, z9d, z9d, z9d, z9d, z9d, z9d, z9d, z9d, z9d] rfl rfl ?_
          refine zw 8 (some 18) #[z9c, z9c, z9c, z9c, z9c, z9c, z9c, z9c, z9c, z9d, z9d, z9d, z9d, z9d, z9d, z9d, z9d, z9d, z9d, z9d, z9d, z9d, z9d, z9d] rfl rfl ?_
          refine zw 9 (some 19) #[z9c, z9c, z9c, z9c, z9c, z9c, z9c, z9c, z9c, z9c, z9d, z9d, z9d, z9d, z9d, z9d, z9d, z9d, z9d, z9d, z9d, z9d, z9d, z9d] rfl rfl ?_
          refine zw 10 (some 20) #[z9c, z9c, z9c, z9c, z9c, z9c, z9c, z9c, z9c, z9c, z9c, z9d, z9d, z9d, z9d, z9d, z9d, z9d, z9d, z9d, z9d, z9d, z9d, z9d] rfl rfl ?_
          refine zw 11 (some 21) #[z9c, z9c, z9c, z9c, z9c, z9c, z9c, z9c, z9c, z9c, z9c, z9c, z9d, z9d, z9d, z9d, z9d, z9d, z9d, z9d, z9d, z9d, z9d, z9d] rfl rfl ?_
          refine zw 12 (some 22) #[z9c, z9c, z9c, z9c, z9c, z9c, z9c, z9c, z9c, z9c, z9c, z9c, z9c, z9d, z9d, z9d, z9d, z9d, z9d, z9d, z9d, z9d, z9d, z9d] rfl rfl ?_
          refine zw 13 (some 23) #[z9c, z9c, z9c, z9c, z9c, z9c, z9c, z9c, z9c, z9c, z9c, z9c, z9c, z9c, z9d, z9d, z9d, z9d, z9d, z9d, z9d, z9d, z9d, z9d] rfl rfl ?_
          refine zw 14 (some 24) #[z9c, z9c, z9c, z9c, z9c, z9c, z9c, z9c, z9c, z9c, z9c, z9c, z9c, z9c, z9c, z9d, z9d, z9d, z9d, z9d, z9d, z9d, z9d, z9d] rfl rfl ?_
          refine zw 16 (some 26) #[z9c, z9c, z9c, z9c, z9c, z9c, z9c, z9c, z9c, z9c, z9c, z9c, z9c, z9c, z9c, z9d, z9c, z9d, z9d, z9d, z9d, z9d, z9d, z9d] rfl rfl ?_
          refine zw 17 (some 27) #[z9c, z9c, z9c, z9c, z9c, z9c, z9c, z9c, z9c, z9c, z9c, z9c, z9c, z9c, z9c, z9d, z9c, z9c, z9d, z9d, z9d, z9d, z9d, z9d] rfl rfl ?_
          refine zw 18 (some 28) #[z9c, z9c, z9c, z9c, z9c, z9c, z9c, z9c, z9c, z9c, z9c, z9c, z9c, z9c, z9c, z9d, z9c, z9c, z9c, z9d, z9d, z9d, z9d, z9d] rfl rfl ?_
          refine zw 19 (some 29) #[z9c, z9c, z9c, z9c, z9c, z9c, z9c, z9c, z9c, z9c, z9c, z9c, z9c, z9c, z9c, z9d, z9c, z9c, z9c, z9c, z9d, z9d, z9d, z9d] rfl rfl ?_
          refine zx 15 (some 25) #[z9c, z9c, z9c, z9c, z9c, z9c, z9c, z9c, z9c, z9c, z9c, z9c, z9c, z9c, z9c, z9c, z9c, z9c, z9c, z9c, z9d, z9d, z9d, z9d] rfl rfl (Or.inl ⟨z2b, z4m⟩) hHeld ?_
          refine zx 20 (some 30) #[z9c, z9c, z9c, z9c, z9c, z9c, z9c, z9c, z9c, z9c, z9c, z9c, z9c, z9c, z9c, z9c, z9c, z9c, z9c, z9c, z9c, z9d, z9d, z9d] rfl rfl (Or.inl ⟨z2b, z4m⟩) hHeld ?_
          refine zw 21 (some 31) #[z9c, z9c, z9c, z9c, z9c, z9c, z9c, z9c, z9c, z9c, z9c, z9c, z9c, z9c, z9c, z9c, z9c, z9c, z9c, z9c, z9c, z9c, z9d, z9d] rfl rfl ?_
          refine zw 22 (some 32) #[z9c, z9c, z9c, z9c, z9c, z9c, z9c, z9c, z9c, z9c, z9c, z9c, z9c, z9c, z9c, z9c, z9c, z9c, z9c, z9c, z9c, z9c, z9c, z9d] rfl rfl ?_
          refine zw 23 (some 33) #[z9c, z9c, z9c, z9c, z9c, z9c, z9c, z9c, z9c, z9c, z9c, z9c, z9c, z9c, z9c, z9c, z9c, z9c, z9c, z9c, z9c, z9c, z9c, z9c] rfl rfl ?_
          refine done_ (done_of HT_.out z1m) ?_
          try go_wp2
          go_ret
          exact ⟨by first | rfl | (simp [errW_none, errW_some] <;> rfl) | (simp only [← hji7]; first | rfl | (simp [errW_none, errW_some] <;> rfl)) | (simp [*, errW_none, errW_some] <;> rfl), z1r⟩
        ·rw [if_neg c9] at H
         exact absurd H (by simp)
       ·rw [if_neg c8] at H
        exact absurd H (by simp)
      ·rw [if_neg c6] at H
       have c6b0 := decide_eq_false c6
       clear c6
       have H' := zn H
       clear H
       try go_wp2
       replace HB := zn (below_drew1 HB.out)
       have p282 : 0 ≤ (x3_1 : Int) := of_decide_eq_true z1p
       have q282 : x3_1 < (l0.length : Int) := of_decide_eq_true z1p
       obtain ⟨ad282, e282, hx282_0, hx282_1, hx282_2, hx282_3, hx282_4⟩ := at_T35 HR0.out x3_1 p282 q282
       have hw282_4 := hx282_4
       have hw282_3 := hx282_3
       have hw282_2 := hx282_2
       have hw282_1 := hx282_1
       have hw282_0 := hx282_0
       cases e282
       replace hx282_0 := zz HB.out hx282_0
       replace hx282_1 := zz HB.out hx282_1
       replace hx282_2 := zz HB.out hx282_2
       replace hx282_3 := zz HB.out hx282_3
       replace hx282_4 := zz HB.out hx282_4
       replace p282 := eq_true p282
       replace q282 := eq_true q282
       refine start_ (n := 24) (S := fun w' => w'.cell? (ad282.add ((x3_1).toNat * 5)) = some (.string ((rd_T35 l0 x3_1).f0)) ∧ w'.cell? ⟨(ad282.add ((x3_1).toNat * 5)).block, (ad282.add ((x3_1).toNat * 5)).off + 1, none⟩ = some (.int .i64 ((rd_T35 l0 x3_1).f1.f0)) ∧ w'.cell? ⟨(ad282.add ((x3_1).toNat * 5)).block, (ad282.add ((x3_1).toNat * 5)).off + 2, none⟩ = some (.int .i64 ((rd_T35 l0 x3_1).f1.f1)) ∧ w'.cell? ⟨(ad282.add ((x3_1).toNat * 5)).block, (ad282.add ((x3_1).toNat * 5)).off + 3, none⟩ = some (.int .i64 ((rd_T35 l0 x3_1).f1.f2)) ∧ w'.cell? ⟨(ad282.add ((x3_1).toNat * 5)).block, (ad282.add ((x3_1).toNat * 5)).off + 4, none⟩ = some (.string ((rd_T35 l0 x3_1).f1.f3))) (ds := []) #[z9d, z9d, z9d, z9d, z9d, z9d, z9d, z9d, z9d, z9d, z9d, z9d, z9d, z9d, z9d, z9d, z9d, z9d, z9d, z9d, z9d, z9d, z9d, z9d] z1m rfl rfl ⟨(zz HB.out hw282_0), (zz HB.out hw282_1), (zz HB.out hw282_2), (zz HB.out hw282_3), (zz HB.out hw282_4)⟩ (fun hHeld => ?_); refine with_tabW spec_l5Rising.tab4 spec_l5Rising.bits4 (fun HT_ HW_ => ?_)
       generalize wr.drew = w15 at HB hx282_0 hx282_1 hx282_2 hx282_3 hx282_4 hHeld ⊢
       refine zw 0 (some 10) #[z9c, z9d, z9d, z9d, z9d, z9d, z9d, z9d, z9d, z9d, z9d, z9d, z9d, z9d, z9d, z9d, z9d, z9d, z9d, z9d, z9d, z9d, z9d, z9d] rfl rfl ?_
       refine zw 1 (some 11) #[z9c, z9c, z9d, z9d, z9d, z9d, z9d, z9d, z9d, z9d, z9d, z9d, z9d, z9d, z9d, z9d, z9d, z9d, z9d, z9d, z9d, z9d, z9d, z9d] rfl rfl ?_
       refine zw 2 (some 12) #[z9c, z9c, z9c, z9d, z9d, z9d, z9d, z9d, z9d, z9d, z9d, z9d, z9d, z9d, z9d, z9d, z9d, z9d, z9d, z9d, z9d, z9d, z9d, z9d] rfl rfl ?_
       refine zx 3 (some 13) #[z9c, z9c, z9c, z9c, z9d, z9d, z9d, z9d, z9d, z9d, z9d, z9d, z9d, z9d, z9d, z9d, z9d, z9d, z9d, z9d, z9d, z9d, z9d, z9d] rfl rfl (Or.inl ⟨z2b, z2e⟩) hHeld ?_
       refine one_ (i := 4) (N := some 14) #[z9c, z9c, z9c, z9c, z9c, z9d, z9d, z9d, z9d, z9d, z9d, z9d, z9d, z9d, z9d, z9d, z9d, z9d, z9d, z9d, z9d, z9d, z9d, z9d] rfl rfl (one_of HT_.out z1m) z1l (fun K hK => ?_)
       refine goes_ Tryz.func69 z1m rfl #[.agg #[.string ((rd_T35 l0 x3_1).f0), .int .i64 ((rd_T35 l0 x3_1).f1.f0), .int .i64 ((rd_T35 l0 x3_1).f1.f1), .int .i64 ((rd_T35 l0 x3_1).f1.f2), .string ((rd_T35 l0 x3_1).f1.f3)]] z2b rfl rfl z2d ?_
       with_reducible refine (spec_NeedOk.calls k1 ((rd_T35 l0 x3_1).f0) ((rd_T35 l0 x3_1).f1.f0) ((rd_T35 l0 x3_1).f1.f1) ((rd_T35 l0 x3_1).f1.f2) ((rd_T35 l0 x3_1).f1.f3) true _ A4.out).mono ?_
       rintro e w16 ⟨rfl, hb⟩
       refine ⟨_, rfl, ?_⟩
       replace HB := zn (below_step z1r hb)
       (try clear hb)
       (try clear hb2)
       (try clear hk)
       (try clear hi)
       refine hK.out _ _ ⟨(zz HB.out hw282_0), (zz HB.out hw282_1), (zz HB.out hw282_2), (zz HB.out hw282_3), (zz HB.out hw282_4)⟩ (fun hHeld => ?_)
       clear hK K
       refine zy (some 14) rfl ?_
       refine zw 5 (some 15) #[z9c, z9c, z9c, z9c, z9c, z9c, z9d, z9d, z9d, z9d, z9d, z9d, z9d, z9d, z9d, z9d, z9d, z9d, z9d, z9d, z9d, z9d, z9d, z9d] rfl rfl ?_
       refine zw 6 (some 16) #[z9c, z9c, z9c, z9c, z9c, z9c, z9c, z9d, z9d, z9d, z9d, z9d, z9d, z9d, z9d, z9d, z9d, z9d, z9d, z9d, z9d, z9d, z9d, z9d] rfl rfl ?_
       refine zw 7 (some 17) #[z9c, z9c, z9c, z9c, z9c, z9c, z9c, z9c, z9d, z9d, z9d, z9d, z9d, z9d, z9d, z9d, z9d, z9d, z9d, z9d, z9d, z9d, z9d, z9d] rfl rfl ?_
       refine zw 8 (some 18) #[z9c, z9c, z9c, z9c, z9c, z9c, z9c, z9c, z9c, z9d, z9d, z9d, z9d, z9d, z9d, z9d, z9d, z9d, z9d, z9d, z9d, z9d, z9d, z9d] rfl rfl ?_
       refine zw 9 (some 19) #[z9c, z9c, z9c, z9c, z9c, z9c, z9c, z9c, z9c, z9c, z9d, z9d, z9d, z9d, z9d, z9d, z9d, z9d, z9d, z9d, z9d, z9d, z9d, z9d] rfl rfl ?_
       refine pure_ (i := 10) (N := some 20) (v := undef) (a' := ?_) #[z9c, z9c, z9c, z9c, z9c, z9c, z9c, z9c, z9c, z9c, z9c, z9d, z9d, z9d, z9d, z9d, z9d, z9d, z9d, z9d, z9d, z9d, z9d, z9d] rfl rfl (any_of HT_.out z1m) (fun _ _ _ h => h) (Or.inr ⟨z2b, rfl⟩) ?_ ?_
       rotate_left
       ·simp only [Act.put, z9e, z9f, z9g, i64_w, i32_w]
        rfl
       refine pure_ (i := 11) (N := some 21) (v := undef) (a' := ?_) #[z9c, z9c, z9c, z9c, z9c, z9c, z9c, z9c, z9c, z9c, z9c, z9c, z9d, z9d, z9d, z9d, z9d, z9d, z9d, z9d, z9d, z9d, z9d, z9d] rfl rfl (any_of HT_.out z1m) (fun _ _ _ h => h) (Or.inr ⟨z2b, rfl⟩) ?_ ?_
       rotate_left
       ·simp only [Act.put, z9e, z9f, z9g, i64_w, i32_w]
        rfl
       refine pure_ (i := 12) (N := some 22) (v := undef) (a' := ?_) #[z9c, z9c, z9c, z9c, z9c, z9c, z9c, z9c, z9c, z9c, z9c, z9c, z9c, z9d, z9d, z9d, z9d, z9d, z9d, z9d, z9d, z9d, z9d, z9d] rfl rfl (any_of HT_.out z1m) (fun _ _ _ h => h) (Or.inr ⟨z2b, rfl⟩) ?_ ?_
       rotate_left
       ·simp only [Act.put, z9e, z9f, z9g, i64_w, i32_w]
        rfl
       refine pure_ (i := 13) (N := some 23) (v := undef) (a' := ?_) #[z9c, z9c, z9c, z9c, z9c, z9c, z9c, z9c, z9c, z9c, z9c, z9c, z9c, z9c, z9d, z9d, z9d, z9d, z9d, z9d, z9d, z9d, z9d, z9d] rfl rfl (any_of HT_.out z1m) (fun _ _ _ h => h) (Or.inr ⟨z2b, rfl⟩) ?_ ?_
       rotate_left
       ·simp only [Act.put, z9e, z9f, z9g, i64_w, i32_w]
        rfl
       refine pure_ (i := 14) (N := some 24) (v := undef) (a' := ?_) #[z9c, z9c, z9c, z9c, z9c, z9c, z9c, z9c, z9c, z9c, z9c, z9c, z9c, z9c, z9c, z9d, z9d, z9d, z9d, z9d, z9d, z9d, z9d, z9d] rfl rfl (any_of HT_.out z1m) (fun _ _ _ h => h) (Or.inr ⟨z2b, rfl⟩) ?_ ?_
       rotate_left
       ·simp only [Act.put, z9e, z9f, z9g, i64_w, i32_w]
        rfl
       refine pure_ (i := 15) (N := some 25) (v := undef) (a' := ?_) #[z9c, z9c, z9c, z9c, z9c, z9c, z9c, z9c, z9c, z9c, z9c, z9c, z9c, z9c, z9c, z9c, z9d, z9d, z9d, z9d, z9d, z9d, z9d, z9d] rfl rfl (any_of HT_.out z1m) (fun _ _ _ h => h) (Or.inr ⟨z2b, rfl⟩) ?_ ?_
       rotate_left
       ·simp only [Act.put, z9e, z9f, z9g, i64_w, i32_w]
        rfl
       refine pure_ (i := 16) (N := some 26) (v := undef) (a' := ?_) #[z9c, z9c, z9c, z9c, z9c, z9c, z9c, z9c, z9c, z9c, z9c, z9c, z9c, z9c, z9c, z9c, z9c, z9d, z9d, z9d, z9d, z9d, z9d, z9d] rfl rfl (any_of HT_.out z1m) (fun _ _ _ h => h) (Or.inr ⟨z2b, rfl⟩) ?_ ?_
       rotate_left
       ·simp only [Act.put, z9e, z9f, z9g, i64_w, i32_w]
        rfl
       refine pure_ (i := 17) (N := some 27) (v := undef) (a' := ?_) #[z9c, z9c, z9c, z9c, z9c, z9c, z9c, z9c, z9c, z9c, z9c, z9c, z9c, z9c, z9c, z9c, z9c, z9c, z9d, z9d, z9d, z9d, z9d, z9d] rfl rfl (any_of HT_.out z1m) (fun _ _ _ h => h) (Or.inr ⟨z2b, rfl⟩) ?_ ?_
       rotate_left
       ·simp only [Act.put, z9e, z9f, z9g, i64_w, i32_w]
        rfl
       refine pure_ (i := 18) (N := some 28) (v := undef) (a' := ?_) #[z9c, z9c, z9c, z9c, z9c, z9c, z9c, z9c, z9c, z9c, z9c, z9c, z9c, z9c, z9c, z9c, z9c, z9c, z9c, z9d, z9d, z9d, z9d, z9d] rfl rfl (any_of HT_.out z1m) (fun _ _ _ h => h) (Or.inr ⟨z2b, rfl⟩) ?_ ?_
       rotate_left
       ·simp only [Act.put, z9e, z9f, z9g, i64_w, i32_w]
        rfl
       refine pure_ (i := 19) (N := some 29) (v := undef) (a' := ?_) #[z9c, z9c, z9c, z9c, z9c, z9c, z9c, z9c, z9c, z9c, z9c, z9c, z9c, z9c, z9c, z9c, z9c, z9c, z9c, z9c, z9d, z9d, z9d, z9d] rfl rfl (any_of HT_.out z1m) (fun _ _ _ h => h) (Or.inr ⟨z2b, rfl⟩) ?_ ?_
       rotate_left
       ·simp only [Act.put, z9e, z9f, z9g, i64_w, i32_w]
        rfl
       refine pure_ (i := 20) (N := some 30) (v := undef) (a' := ?_) #[z9c, z9c, z9c, z9c, z9c, z9c, z9c, z9c, z9c, z9c, z9c, z9c, z9c, z9c, z9c, z9c, z9c, z9c, z9c, z9c, z9c, z9d, z9d, z9d] rfl rfl (any_of HT_.out z1m) (fun _ _ _ h => h) (Or.inr ⟨z2b, rfl⟩) ?_ ?_
       rotate_left
       ·simp only [Act.put, z9e, z9f, z9g, i64_w, i32_w]
        rfl
       refine pure_ (i := 21) (N := some 31) (v := undef) (a' := ?_) #[z9c, z9c, z9c, z9c, z9c, z9c, z9c, z9c, z9c, z9c, z9c, z9c, z9c, z9c, z9c, z9c, z9c, z9c, z9c, z9c, z9c, z9c, z9d, z9d] rfl rfl (any_of HT_.out z1m) (fun _ _ _ h => h) (Or.inr ⟨z2b, rfl⟩) ?_ ?_
       rotate_left
       ·simp only [Act.put, z9e, z9f, z9g, i64_w, i32_w]
        rfl
       refine zw 22 (some 32) #[z9c, z9c, z9c, z9c, z9c, z9c, z9c, z9c, z9c, z9c, z9c, z9c, z9c, z9c, z9c, z9c, z9c, z9c, z9c, z9c, z9c, z9c, z9c, z9d] rfl rfl ?_
       refine zw 23 (some 33) #[z9c, z9c, z9c, z9c, z9c, z9c, z9c, z9c, z9c, z9c, z9c, z9c, z9c, z9c, z9c, z9c, z9c, z9c, z9c, z9c, z9c, z9c, z9c, z9c] rfl rfl ?_
       refine done_ (done_of HT_.out z1m) ?_
       try go_wp2
       go_roundg k1
       case measure => have := HK1.out; omega
       case rel => exact ⟨(wrap64 (x3_1 + 1)), z1n, H', ⟨z1q⟩, ⟨z1r⟩⟩
     ·replace c5 := Bool.eq_false_iff.mpr c5
      subst c5
      rw [if_neg zk] at H
      obtain rfl := Option.some.inj H
      try go_wp2
      replace HB := zn (below_drew1 HB.out)
      have p282 : 0 ≤ (x3_1 : Int) := of_decide_eq_true z1p
      have q282 : x3_1 < (l0.length : Int) := of_decide_eq_true z1p
      obtain ⟨ad282, e282, hx282_0, hx282_1, hx282_2, hx282_3, hx282_4⟩ := at_T35 HR0.out x3_1 p282 q282
      have hw282_4 := hx282_4
      have hw282_3 := hx282_3
      have hw282_2 := hx282_2
      have hw282_1 := hx282_1
      have hw282_0 := hx282_0
      cases e282
      replace hx282_0 := zz HB.out hx282_0
      replace hx282_1 := zz HB.out hx282_1
      replace hx282_2 := zz HB.out hx282_2
      replace hx282_3 := zz HB.out hx282_3
      replace hx282_4 := zz HB.out hx282_4
      replace p282 := eq_true p282
      replace q282 := eq_true q282
      refine start_ (n := 24) (S := fun w' => w'.cell? (ad282.add ((x3_1).toNat * 5)) = some (.string ((rd_T35 l0 x3_1).f0)) ∧ w'.cell? ⟨(ad282.add ((x3_1).toNat * 5)).block, (ad282.add ((x3_1).toNat * 5)).off + 1, none⟩ = some (.int .i64 ((rd_T35 l0 x3_1).f1.f0)) ∧ w'.cell? ⟨(ad282.add ((x3_1).toNat * 5)).block, (ad282.add ((x3_1).toNat * 5)).off + 2, none⟩ = some (.int .i64 ((rd_T35 l0 x3_1).f1.f1)) ∧ w'.cell? ⟨(ad282.add ((x3_1).toNat * 5)).block, (ad282.add ((x3_1).toNat * 5)).off + 3, none⟩ = some (.int .i64 ((rd_T35 l0 x3_1).f1.f2)) ∧ w'.cell? ⟨(ad282.add ((x3_1).toNat * 5)).block, (ad282.add ((x3_1).toNat * 5)).off + 4, none⟩ = some (.string ((rd_T35 l0 x3_1).f1.f3))) (ds := []) #[z9d, z9d, z9d, z9d, z9d, z9d, z9d, z9d, z9d, z9d, z9d, z9d, z9d, z9d, z9d, z9d, z9d, z9d, z9d, z9d, z9d, z9d, z9d, z9d] z1m rfl rfl ⟨(zz HB.out hw282_0), (zz HB.out hw282_1), (zz HB.out hw282_2), (zz HB.out hw282_3), (zz HB.out hw282_4)⟩ (fun hHeld => ?_); refine with_tabW spec_l5Rising.tab4 spec_l5Rising.bits4 (fun HT_ HW_ => ?_)
      generalize wr.drew = w17 at HB hx282_0 hx282_1 hx282_2 hx282_3 hx282_4 hHeld ⊢
      refine zw 0 (some 10) #[z9c, z9d, z9d, z9d, z9d, z9d, z9d, z9d, z9d, z9d, z9d, z9d, z9d, z9d, z9d, z9d, z9d, z9d, z9d, z9d, z9d, z9d, z9d, z9d] rfl rfl ?_
      refine zw 1 (some 11) #[z9c, z9c, z9d, z9d, z9d, z9d, z9d, z9d, z9d, z9d, z9d, z9d, z9d, z9d, z9d, z9d, z9d, z9d, z9d, z9d, z9d, z9d, z9d, z9d] rfl rfl ?_
      refine zw 2 (some 12) #[z9c, z9c, z9c, z9d, z9d, z9d, z9d, z9d, z9d, z9d, z9d, z9d, z9d, z9d, z9d, z9d, z9d, z9d, z9d, z9d, z9d, z9d, z9d, z9d] rfl rfl ?_
      refine zx 3 (some 13) #[z9c, z9c, z9c, z9c, z9d, z9d, z9d, z9d, z9d, z9d, z9d, z9d, z9d, z9d, z9d, z9d, z9d, z9d, z9d, z9d, z9d, z9d, z9d, z9d] rfl rfl (Or.inl ⟨z2b, z2e⟩) hHeld ?_
      refine one_ (i := 4) (N := some 14) #[z9c, z9c, z9c, z9c, z9c, z9d, z9d, z9d, z9d, z9d, z9d, z9d, z9d, z9d, z9d, z9d, z9d, z9d, z9d, z9d, z9d, z9d, z9d, z9d] rfl rfl (one_of HT_.out z1m) z1l (fun K hK => ?_)
      refine goes_ Tryz.func69 z1m rfl #[.agg #[.string ((rd_T35 l0 x3_1).f0), .int .i64 ((rd_T35 l0 x3_1).f1.f0), .int .i64 ((rd_T35 l0 x3_1).f1.f1), .int .i64 ((rd_T35 l0 x3_1).f1.f2), .string ((rd_T35 l0 x3_1).f1.f3)]] z2b rfl rfl z2d ?_
      with_reducible refine (spec_NeedOk.calls k1 ((rd_T35 l0 x3_1).f0) ((rd_T35 l0 x3_1).f1.f0) ((rd_T35 l0 x3_1).f1.f1) ((rd_T35 l0 x3_1).f1.f2) ((rd_T35 l0 x3_1).f1.f3) false _ A4.out).mono ?_
      rintro e w18 ⟨rfl, hb⟩
      refine ⟨_, rfl, ?_⟩
      replace HB := zn (below_step z1r hb)
      (try clear hb)
      (try clear hb2)
      (try clear hk)
      (try clear hi)
      refine hK.out _ _ ⟨(zz HB.out hw282_0), (zz HB.out hw282_1), (zz HB.out hw282_2), (zz HB.out hw282_3), (zz HB.out hw282_4)⟩ (fun hHeld => ?_)
      clear hK K
      refine zy (some 14) rfl ?_
      refine zw 5 (some 15) #[z9c, z9c, z9c, z9c, z9c, z9c, z9d, z9d, z9d, z9d, z9d, z9d, z9d, z9d, z9d, z9d, z9d, z9d, z9d, z9d, z9d, z9d, z9d, z9d] rfl rfl ?_
      refine zw 6 (some 16) #[z9c, z9c, z9c, z9c, z9c, z9c, z9c, z9d, z9d, z9d, z9d, z9d, z9d, z9d, z9d, z9d, z9d, z9d, z9d, z9d, z9d, z9d, z9d, z9d] rfl rfl ?_
      refine pure_ (i := 7) (N := some 17) (v := undef) (a' := ?_) #[z9c, z9c, z9c, z9c, z9c, z9c, z9c, z9c, z9d, z9d, z9d, z9d, z9d, z9d, z9d, z9d, z9d, z9d, z9d, z9d, z9d, z9d, z9d, z9d] rfl rfl (any_of HT_.out z1m) (fun _ _ _ h => h) (Or.inr ⟨z2b, rfl⟩) ?_ ?_
      rotate_left
      ·simp only [Act.put, z9e, z9f, z9g, i64_w, i32_w]
       rfl
      refine pure_ (i := 8) (N := some 18) (v := undef) (a' := ?_) #[z9c, z9c, z9c, z9c, z9c, z9c, z9c, z9c, z9c, z9d, z9d, z9d, z9d, z9d, z9d, z9d, z9d, z9d, z9d, z9d, z9d, z9d, z9d, z9d] rfl rfl (any_of HT_.out z1m) (fun _ _ _ h => h) (Or.inr ⟨z2b, rfl⟩) ?_ ?_
      rotate_left
      ·simp only [Act.put, z9e, z9f, z9g, i64_w, i32_w]
       rfl
      refine pure_ (i := 9) (N := some 19) (v := undef) (a' := ?_) #[z9c, z9c, z9c, z9c, z9c, z9c, z9c, z9c, z9c, z9c, z9d, z9d, z9d, z9d, z9d, z9d, z9d, z9d, z9d, z9d, z9d, z9d, z9d, z9d] rfl rfl (any_of HT_.out z1m) (fun _ _ _ h => h) (Or.inr ⟨z2b, rfl⟩) ?_ ?_
      rotate_left
      ·simp only [Act.put, z9e, z9f, z9g, i64_w, i32_w]
       rfl
      refine pure_ (i := 10) (N := some 20) (v := undef) (a' := ?_) #[z9c, z9c, z9c, z9c, z9c, z9c, z9c, z9c, z9c, z9c, z9c, z9d, z9d, z9d, z9d, z9d, z9d, z9d, z9d, z9d, z9d, z9d, z9d, z9d] rfl rfl (any_of HT_.out z1m) (fun _ _ _ h => h) (Or.inr ⟨z2b, rfl⟩) ?_ ?_
      rotate_left
      ·simp only [Act.put, z9e, z9f, z9g, i64_w, i32_w]
       rfl
      refine pure_ (i := 11) (N := some 21) (v := undef) (a' := ?_) #[z9c, z9c, z9c, z9c, z9c, z9c, z9c, z9c, z9c, z9c, z9c, z9c, z9d, z9d, z9d, z9d, z9d, z9d, z9d, z9d, z9d, z9d, z9d, z9d] rfl rfl (any_of HT_.out z1m) (fun _ _ _ h => h) (Or.inr ⟨z2b, rfl⟩) ?_ ?_
      rotate_left
      ·simp only [Act.put, z9e, z9f, z9g, i64_w, i32_w]
       rfl
      refine pure_ (i := 12) (N := some 22) (v := undef) (a' := ?_) #[z9c, z9c, z9c, z9c, z9c, z9c, z9c, z9c, z9c, z9c, z9c, z9c, z9c, z9d, z9d, z9d, z9d, z9d, z9d, z9d, z9d, z9d, z9d, z9d] rfl rfl (any_of HT_.out z1m) (fun _ _ _ h => h) (Or.inr ⟨z2b, rfl⟩) ?_ ?_
      rotate_left
      ·simp only [Act.put, z9e, z9f, z9g, i64_w, i32_w]
       rfl
      refine pure_ (i := 13) (N := some 23) (v := undef) (a' := ?_) #[z9c, z9c, z9c, z9c, z9c, z9c, z9c, z9c, z9c, z9c, z9c, z9c, z9c, z9c, z9d, z9d, z9d, z9d, z9d, z9d, z9d, z9d, z9d, z9d] rfl rfl (any_of HT_.out z1m) (fun _ _ _ h => h) (Or.inr ⟨z2b, rfl⟩) ?_ ?_
      rotate_left
      ·simp only [Act.put, z9e, z9f, z9g, i64_w, i32_w]
       rfl
      refine pure_ (i := 14) (N := some 24) (v := undef) (a' := ?_) #[z9c, z9c, z9c, z9c, z9c, z9c, z9c, z9c, z9c, z9c, z9c, z9c, z9c, z9c, z9c, z9d, z9d, z9d, z9d, z9d, z9d, z9d, z9d, z9d] rfl rfl (any_of HT_.out z1m) (fun _ _ _ h => h) (Or.inr ⟨z2b, rfl⟩) ?_ ?_
      rotate_left
      ·simp only [Act.put, z9e, z9f, z9g, i64_w, i32_w]
       rfl
      refine pure_ (i := 15) (N := some 25) (v := undef) (a' := ?_) #[z9c, z9c, z9c, z9c, z9c, z9c, z9c, z9c, z9c, z9c, z9c, z9c, z9c, z9c, z9c, z9c, z9d, z9d, z9d, z9d, z9d, z9d, z9d, z9d] rfl rfl (any_of HT_.out z1m) (fun _ _ _ h => h) (Or.inr ⟨z2b, rfl⟩) ?_ ?_
      rotate_left
      ·simp only [Act.put, z9e, z9f, z9g, i64_w, i32_w]
       rfl
      refine pure_ (i := 16) (N := some 26) (v := undef) (a' := ?_) #[z9c, z9c, z9c, z9c, z9c, z9c, z9c, z9c, z9c, z9c, z9c, z9c, z9c, z9c, z9c, z9c, z9c, z9d, z9d, z9d, z9d, z9d, z9d, z9d] rfl rfl (any_of HT_.out z1m) (fun _ _ _ h => h) (Or.inr ⟨z2b, rfl⟩) ?_ ?_
      rotate_left
      ·simp only [Act.put, z9e, z9f, z9g, i64_w, i32_w]
       rfl
      refine pure_ (i := 17) (N := some 27) (v := undef) (a' := ?_) #[z9c, z9c, z9c, z9c, z9c, z9c, z9c, z9c, z9c, z9c, z9c, z9c, z9c, z9c, z9c, z9c, z9c, z9c, z9d, z9d, z9d, z9d, z9d, z9d] rfl rfl (any_of HT_.out z1m) (fun _ _ _ h => h) (Or.inr ⟨z2b, rfl⟩) ?_ ?_
      rotate_left
      ·simp only [Act.put, z9e, z9f, z9g, i64_w, i32_w]
       rfl
      refine pure_ (i := 18) (N := some 28) (v := undef) (a' := ?_) #[z9c, z9c, z9c, z9c, z9c, z9c, z9c, z9c, z9c, z9c, z9c, z9c, z9c, z9c, z9c, z9c, z9c, z9c, z9c, z9d, z9d, z9d, z9d, z9d] rfl rfl (any_of HT_.out z1m) (fun _ _ _ h => h) (Or.inr ⟨z2b, rfl⟩) ?_ ?_
      rotate_left
      ·simp only [Act.put, z9e, z9f, z9g, i64_w, i32_w]
       rfl
      refine pure_ (i := 19) (N := some 29) (v := undef) (a' := ?_) #[z9c, z9c, z9c, z9c, z9c, z9c, z9c, z9c, z9c, z9c, z9c, z9c, z9c, z9c, z9c, z9c, z9c, z9c, z9c, z9c, z9d, z9d, z9d, z9d] rfl rfl (any_of HT_.out z1m) (fun _ _ _ h => h) (Or.inr ⟨z2b, rfl⟩) ?_ ?_
      rotate_left
      ·simp only [Act.put, z9e, z9f, z9g, i64_w, i32_w]
       rfl
      refine pure_ (i := 20) (N := some 30) (v := undef) (a' := ?_) #[z9c, z9c, z9c, z9c, z9c, z9c, z9c, z9c, z9c, z9c, z9c, z9c, z9c, z9c, z9c, z9c, z9c, z9c, z9c, z9c, z9c, z9d, z9d, z9d] rfl rfl (any_of HT_.out z1m) (fun _ _ _ h => h) (Or.inr ⟨z2b, rfl⟩) ?_ ?_
      rotate_left
      ·simp only [Act.put, z9e, z9f, z9g, i64_w, i32_w]
       rfl
      refine pure_ (i := 21) (N := some 31) (v := undef) (a' := ?_) #[z9c, z9c, z9c, z9c, z9c, z9c, z9c, z9c, z9c, z9c, z9c, z9c, z9c, z9c, z9c, z9c, z9c, z9c, z9c, z9c, z9c, z9c, z9d, z9d] rfl rfl (any_of HT_.out z1m) (fun _ _ _ h => h) (Or.inr ⟨z2b, rfl⟩) ?_ ?_
      rotate_left
      ·simp only [Act.put, z9e, z9f, z9g, i64_w, i32_w]
       rfl
      refine pure_ (i := 22) (N := some 32) (v := undef) (a' := ?_) #[z9c, z9c, z9c, z9c, z9c, z9c, z9c, z9c, z9c, z9c, z9c, z9c, z9c, z9c, z9c, z9c, z9c, z9c, z9c, z9c, z9c, z9c, z9c, z9d] rfl rfl (any_of HT_.out z1m) (fun _ _ _ h => h) (Or.inr ⟨z2b, rfl⟩) ?_ ?_
      rotate_left
      ·simp only [Act.put, z9e, z9f, z9g, i64_w, i32_w]
       rfl
      refine zw 23 (some 33) #[z9c, z9c, z9c, z9c, z9c, z9c, z9c, z9c, z9c, z9c, z9c, z9c, z9c, z9c, z9c, z9c, z9c, z9c, z9c, z9c, z9c, z9c, z9c, z9c] rfl rfl ?_
      refine done_ (done_of HT_.out z1m) ?_
      try go_wp2
      go_ret
      exact ⟨z1t, z1r⟩
    ·rw [if_neg c3] at H
     exact absurd H (by simp)
   ·rw [if_neg c2] at H
    have c2b0 := decide_eq_false c2
    clear c2
    obtain rfl := Option.some.inj H
    go_wp2
    go_ret
    exact ⟨z1t, z1r⟩
def spec_EntryOk.l0 : Nat → Int → ByteArray → Int → Int → Int → ByteArray → List (S35) → Option (Bool)
 | 0, _, _, _, _, _, _, _ => none
 | k + 1, x3, x287000, x287001, x287002, x287003, x287004, x287005 => if x3 < (x287005.length : Int) then (if 0 ≤ x3 then (if ((rd_T35 x287005 x3).f0).toList = x287000.toList then (some false) else (spec_EntryOk.l0 k (wrap64 (x3 + 1)) x287000 x287001 x287002 x287003 x287004 x287005)) else (none)) else ((spec_Fits.f k x287000 x287001 x287002 x287003 x287004).bind fun t288 => (if t288 = true then (if (x287005.length : Int) ≤ 8 then ((spec_l5Rising.f k x287005).bind fun t289 => (some t289)) else (some false)) else (some false)))
def spec_EntryOk.f (k : Nat) (a0_0 : ByteArray) (a0_1 : Int) (a0_2 : Int) (a0_3 : Int) (a0_4 : ByteArray) (l0_5 : List (S35)) : Option (Bool) := spec_EntryOk.l0 k 0 a0_0 a0_1 a0_2 a0_3 a0_4 l0_5
set_option maxHeartbeats 8000000 in
set_option maxRecDepth 100000 in
theorem spec_EntryOk.calls (k : Nat) (a0_0 : ByteArray) (a0_1 : Int) (a0_2 : Int) (a0_3 : Int) (a0_4 : ByteArray) (A0_5 : Option Addr) (c0_5 : Nat) (l0_5 : List (S35)) (r : Bool) (w : World) (hr0_5 : Kd.C k35 w A0_5 l0_5.length l0_5) (hc0_5 : l0_5.length ≤ c0_5) (h : spec_EntryOk.f k a0_0 a0_1 a0_2 a0_3 a0_4 l0_5 = some r) :
  Calls Tryz.prog 10 #[.agg #[.string a0_0, .int .i64 a0_1, .int .i64 a0_2, .int .i64 a0_3, .string a0_4, .slice A0_5 l0_5.length c0_5]] w fun e w' => e = .returned (.bool r) ∧ Below w.heap.size w w' := by
 have hu28 := Tryz.underlying28
 have hu25 := Tryz.underlying25
 have HR0_5 := zn hr0_5
 have HC0_5 := zn hc0_5
 clear hr0_5 hc0_5
 have HB := zn (Below.refl w.heap.size w)
 have H := h
 unfold spec_EntryOk.f at H
 clear h
 have H' := zn H
 clear H
 go_enter Tryz.func10, Tryz.ntmps10
 go_wp2_with (first | ((with_reducible refine zr 1 rfl ?_); (try (refine gate_guard z2b ?_; dsimp only)); refine zt 28 #[.string a0_0, .int .i64 a0_1, .int .i64 a0_2, .int .i64 a0_3, .string a0_4, .slice A0_5 l0_5.length c0_5] ?_; intro gb286 hg w2 hbox hb; have n_ := zv (below_step z1r hb) hbox (z8j : w.heap.size ≤ gb286) (z8j : w.heap.size ≤ gb286); clear HB; obtain ⟨HB, BK286, GW286, GE286⟩ := n_; clear hb hbox hg))
 repeat (go_quiet (first | ((with_reducible refine zr 1 rfl ?_); (try (refine gate_guard z2b ?_; dsimp only)); refine zt 28 #[.string a0_0, .int .i64 a0_1, .int .i64 a0_2, .int .i64 a0_3, .string a0_4, .slice A0_5 l0_5.length c0_5] ?_; intro gb286 hg w2 hbox hb; have n_ := zv (below_step z1r hb) hbox (z8j : w.heap.size ≤ gb286) (z8j : w.heap.size ≤ gb286); clear HB; obtain ⟨HB, BK286, GW286, GE286⟩ := n_; clear hb hbox hg)); try go_wp2_with (first | ((with_reducible refine zr 1 rfl ?_); (try (refine gate_guard z2b ?_; dsimp only)); refine zt 28 #[.string a0_0, .int .i64 a0_1, .int .i64 a0_2, .int .i64 a0_3, .string a0_4, .slice A0_5 l0_5.length c0_5] ?_; intro gb286 hg w2 hbox hb; have n_ := zv (below_step z1r hb) hbox (z8j : w.heap.size ≤ gb286) (z8j : w.heap.size ≤ gb286); clear HB; obtain ⟨HB, BK286, GW286, GE286⟩ := n_; clear hb hbox hg)))
 go_loopg [3] k (fun kq v3 w' => ∃ (x3_1 : Int), v3 = .int .i64 x3_1 ∧ Aside0 (spec_EntryOk.l0 kq x3_1 a0_0 a0_1 a0_2 a0_3 a0_4 l0_5 = some r) ∧ Aside0 (kq ≤ k) ∧ Aside0 (w'.heap[gb286]? = some (.cells #[.string a0_0, .int .i64 a0_1, .int .i64 a0_2, .int .i64 a0_3, .string a0_4, (.slice A0_5 l0_5.length c0_5)] 28 (0, 0))) ∧ Aside0 (Below w.heap.size w w'))
 case atStart => exact ⟨(0), z1n, H', ⟨Nat.le_refl _⟩, ⟨by (repeat refine z1a ?_); exact BK286.out⟩, ⟨z4n⟩⟩
 case round =>
  clear H'
  try clear c1
  try clear p2
  obtain ⟨x3_1, rfl, HA, HK1, BK286, HB⟩ := hrel
  cases gk with
  | zero => exact absurd HA.out (by simp [spec_EntryOk.l0])
  | succ k1 =>
   have H := HA.out
   clear HA
   simp only [spec_EntryOk.l0] at H
   by_cases c3 : x3_1 < (l0_5.length : Int)
   ·rw [if_pos c3] at H
    have c3b0 := decide_eq_true c3
    clear c3
    by_cases c4 : 0 ≤ x3_1
    ·rw [if_pos c4] at H
     have c4b0 := decide_eq_true c4
     clear c4
     by_cases c5 : ((rd_T35 l0_5 x3_1).f0).toList = a0_0.toList
     ·rw [if_pos c5] at H
      have c5b0 := beq_iff_eq.mpr c5
      have c5b1 := bne_eq_false_iff_eq.mpr c5
      clear c5
      obtain rfl := Option.some.inj H
      obtain ⟨hcz6_0, hcz6_1, hcz6_2, hcz6_3, hcz6_4, hcz6_5, hfz6_0, hfz6_1, hfz6_2, hfz6_3, hfz6_4, hfz6_5⟩ := zh BK286.out
      have p287 : 0 ≤ (x3_1 : Int) := of_decide_eq_true z1p
      have q287 : x3_1 < (l0_5.length : Int) := of_decide_eq_true z1p
      obtain ⟨ad287, e287, hx287_0, hx287_1, hx287_2, hx287_3, hx287_4⟩ := at_T35 HR0_5.out x3_1 p287 q287
      cases e287
      replace hx287_0 := zz HB.out hx287_0
      replace hx287_1 := zz HB.out hx287_1
      replace hx287_2 := zz HB.out hx287_2
      replace hx287_3 := zz HB.out hx287_3
      replace hx287_4 := zz HB.out hx287_4
      replace p287 := eq_true p287
      replace q287 := eq_true q287
      go_wp2
      repeat (go_quiet (fail); try go_wp2)
      go_ret
      exact ⟨z1t, z4n⟩
     ·rw [if_neg c5] at H
      have c5b0 := beq_eq_false_iff_ne.mpr c5
      have c5b1 := bne_iff_ne.mpr c5
      have H' := zn H
      clear H
      obtain ⟨hcz7_0, hcz7_1, hcz7_2, hcz7_3, hcz7_4, hcz7_5, hfz7_0, hfz7_1, hfz7_2, hfz7_3, hfz7_4, hfz7_5⟩ := zh BK286.out
      have p287 : 0 ≤ (x3_1 : Int) := of_decide_eq_true z1p
      have q287 : x3_1 < (l0_5.length : Int) := of_decide_eq_true z1p
      obtain ⟨ad287, e287, hx287_0, hx287_1, hx287_2, hx287_3, hx287_4⟩ := at_T35 HR0_5.out x3_1 p287 q287
      cases e287
      replace hx287_0 := zz HB.out hx287_0
      replace hx287_1 := zz HB.out hx287_1
      replace hx287_2 := zz HB.out hx287_2
      replace hx287_3 := zz HB.out hx287_3
      replace hx287_4 := zz HB.out hx287_4
      replace p287 := eq_true p287
      replace q287 := eq_true q287
      go_wp2
      repeat (go_quiet (fail); try go_wp2)
      go_roundg k1
      case measure => have := HK1.out; omega
      case rel => exact ⟨(wrap64 (x3_1 + 1)), z1n, H', ⟨z1q⟩, ⟨by (repeat refine z1a ?_); exact BK286.out⟩, ⟨z4n⟩⟩
    ·rw [if_neg c4] at H
     exact absurd H (by simp)
   ·rw [if_neg c3] at H
    have c3b0 := decide_eq_false c3
    clear c3
    obtain ⟨t288, A8, H⟩ := zm H
    try dsimp only at H
    by_cases c9 : t288 = true
    ·subst c9
     rw [if_pos rfl] at H
     by_cases c10 : (l0_5.length : Int) ≤ 8
     ·rw [if_pos c10] at H
      have c10b0 := decide_eq_true c10
      have c10b1 : decide (l0_5.length ≤ 8) = true := decide_eq_true z1k
      clear c10
      obtain ⟨t289, A11, H⟩ := zm H
      try dsimp only at H
      obtain rfl := Option.some.inj H
      obtain ⟨hcz12_0, hcz12_1, hcz12_2, hcz12_3, hcz12_4, hcz12_5, hfz12_0, hfz12_1, hfz12_2, hfz12_3, hfz12_4, hfz12_5⟩ := zh BK286.out
      go_wp2_with (first | (go_at_call 33; (with_reducible refine (spec_Fits.calls k1 a0_0 a0_1 a0_2 a0_3 a0_4 true _ A8.out).mono ?_); rintro e w13 ⟨rfl, hb⟩; have n_ := zo (blk_below (zu BK286.out) hb) (below_step z4n hb); clear BK286 HB; obtain ⟨BK286, HB⟩ := n_; (try clear hb); obtain ⟨hcz14_0, hcz14_1, hcz14_2, hcz14_3, hcz14_4, hcz14_5, hfz14_0, hfz14_1, hfz14_2, hfz14_3, hfz14_4, hfz14_5⟩ := zh BK286.out) | (go_at_call 34; (with_reducible refine (spec_l5Rising.calls k1 _ _ l0_5 t289 _ ?side1 ?side2 A11.out).mono ?_); (case side1 => exact z2g); (case side2 => exact HC0_5.out); rintro e w15 ⟨rfl, hb⟩; have n_ := zo (blk_below (zu BK286.out) hb) (below_step z4n hb); clear BK286 HB; obtain ⟨BK286, HB⟩ := n_; (try clear hb)))
      repeat (go_quiet (first | (go_at_call 33; (with_reducible refine (spec_Fits.calls k1 a0_0 a0_1 a0_2 a0_3 a0_4 true _ A8.out).mono ?_); rintro e w13 ⟨rfl, hb⟩; have n_ := zo (blk_below (zu BK286.out) hb) (below_step z4n hb); clear BK286 HB; obtain ⟨BK286, HB⟩ := n_; (try clear hb); obtain ⟨hcz14_0, hcz14_1, hcz14_2, hcz14_3, hcz14_4, hcz14_5, hfz14_0, hfz14_1, hfz14_2, hfz14_3, hfz14_4, hfz14_5⟩ := zh BK286.out) | (go_at_call 34; (with_reducible refine (spec_l5Rising.calls k1 _ _ l0_5 t289 _ ?side1 ?side2 A11.out).mono ?_); (case side1 => exact z2g); (case side2 => exact HC0_5.out); rintro e w15 ⟨rfl, hb⟩; have n_ := zo (blk_below (zu BK286.out) hb) (below_step z4n hb); clear BK286 HB; obtain ⟨BK286, HB⟩ := n_; (try clear hb))); try go_wp2_with (first | (go_at_call 33; (with_reducible refine (spec_Fits.calls k1 a0_0 a0_1 a0_2 a0_3 a0_4 true _ A8.out).mono ?_); rintro e w13 ⟨rfl, hb⟩; have n_ := zo (blk_below (zu BK286.out) hb) (below_step z4n hb); clear BK286 HB; obtain ⟨BK286, HB⟩ := n_; (try clear hb); obtain ⟨hcz14_0, hcz14_1, hcz14_2, hcz14_3, hcz14_4, hcz14_5, hfz14_0, hfz14_1, hfz14_2, hfz14_3, hfz14_4, hfz14_5⟩ := zh BK286.out) | (go_at_call 34; (with_reducible refine (spec_l5Rising.calls k1 _ _ l0_5 t289 _ ?side1 ?side2 A11.out).mono ?_); (case side1 => exact z2g); (case side2 => exact HC0_5.out); rintro e w15 ⟨rfl, hb⟩; have n_ := zo (blk_below (zu BK286.out) hb) (below_step z4n hb); clear BK286 HB; obtain ⟨BK286, HB⟩ := n_; (try clear hb))))
      go_ret
      exact ⟨z1t, z4n⟩
     ·rw [if_neg c10] at H
      have c10b0 := decide_eq_false c10
      have c10b1 : decide (l0_5.length ≤ 8) = false := decide_eq_false z1k
      clear c10
      obtain rfl := Option.some.inj H
      obtain ⟨hcz16_0, hcz16_1, hcz16_2, hcz16_3, hcz16_4, hcz16_5, hfz16_0, hfz16_1, hfz16_2, hfz16_3, hfz16_4, hfz16_5⟩ := zh BK286.out
      go_wp2_with (first | (go_at_call 33; (with_reducible refine (spec_Fits.calls k1 a0_0 a0_1 a0_2 a0_3 a0_4 true _ A8.out).mono ?_); rintro e w17 ⟨rfl, hb⟩; have n_ := zo (blk_below (zu BK286.out) hb) (below_step z4n hb); clear BK286 HB; obtain ⟨BK286, HB⟩ := n_; (try clear hb); obtain ⟨hcz18_0, hcz18_1, hcz18_2, hcz18_3, hcz18_4, hcz18_5, hfz18_0, hfz18_1, hfz18_2, hfz18_3, hfz18_4, hfz18_5⟩ := zh BK286.out))
      repeat (go_quiet (first | (go_at_call 33; (with_reducible refine (spec_Fits.calls k1 a0_0 a0_1 a0_2 a0_3 a0_4 true _ A8.out).mono ?_); rintro e w17 ⟨rfl, hb⟩; have n_ := zo (blk_below (zu BK286.out) hb) (below_step z4n hb); clear BK286 HB; obtain ⟨BK286, HB⟩ := n_; (try clear hb); obtain ⟨hcz18_0, hcz18_1, hcz18_2, hcz18_3, hcz18_4, hcz18_5, hfz18_0, hfz18_1, hfz18_2, hfz18_3, hfz18_4, hfz18_5⟩ := zh BK286.out)); try go_wp2_with (first | (go_at_call 33; (with_reducible refine (spec_Fits.calls k1 a0_0 a0_1 a0_2 a0_3 a0_4 true _ A8.out).mono ?_); rintro e w17 ⟨rfl, hb⟩; have n_ := zo (blk_below (zu BK286.out) hb) (below_step z4n hb); clear BK286 HB; obtain ⟨BK286, HB⟩ := n_; (try clear hb); obtain ⟨hcz18_0, hcz18_1, hcz18_2, hcz18_3, hcz18_4, hcz18_5, hfz18_0, hfz18_1, hfz18_2, hfz18_3, hfz18_4, hfz18_5⟩ := zh BK286.out)))
      go_ret
      exact ⟨z1t, z4n⟩
    ·replace c9 := Bool.eq_false_iff.mpr c9
     subst c9
     rw [if_neg zk] at H
     obtain rfl := Option.some.inj H
     obtain ⟨hcz19_0, hcz19_1, hcz19_2, hcz19_3, hcz19_4, hcz19_5, hfz19_0, hfz19_1, hfz19_2, hfz19_3, hfz19_4, hfz19_5⟩ := zh BK286.out
     go_wp2_with (first | (go_at_call 33; (with_reducible refine (spec_Fits.calls k1 a0_0 a0_1 a0_2 a0_3 a0_4 false _ A8.out).mono ?_); rintro e w20 ⟨rfl, hb⟩; have n_ := zo (blk_below (zu BK286.out) hb) (below_step z4n hb); clear BK286 HB; obtain ⟨BK286, HB⟩ := n_; (try clear hb)))
     repeat (go_quiet (first | (go_at_call 33; (with_reducible refine (spec_Fits.calls k1 a0_0 a0_1 a0_2 a0_3 a0_4 false _ A8.out).mono ?_); rintro e w20 ⟨rfl, hb⟩; have n_ := zo (blk_below (zu BK286.out) hb) (below_step z4n hb); clear BK286 HB; obtain ⟨BK286, HB⟩ := n_; (try clear hb))); try go_wp2_with (first | (go_at_call 33; (with_reducible refine (spec_Fits.calls k1 a0_0 a0_1 a0_2 a0_3 a0_4 false _ A8.out).mono ?_); rintro e w20 ⟨rfl, hb⟩; have n_ := zo (blk_below (zu BK286.out) hb) (below_step z4n hb); clear BK286 HB; obtain ⟨BK286, HB⟩ := n_; (try clear hb))))
     go_ret
     exact ⟨z1t, z4n⟩
mutual
def spec_GetNum.l0 : Nat → List Int → Int → Int → Int → Option (Int × Int × Bool)
 | 0, _, _, _, _ => none
 | k + 1, x0, x1, x7, x8 => if x8 < 5 then (if x1 ≥ 0 then (if x1 < (x0.length : Int) then (spec_GetNum.j1 k x0 x1 x7 x8 (decide ((wrap64 (x1 + x8)) < (x0.length : Int)))) else (spec_GetNum.j1 k x0 x1 x7 x8 false)) else (spec_GetNum.j1 k x0 x1 x7 x8 false)) else (spec_GetNum.j1 k x0 x1 x7 x8 false)
def spec_GetNum.j1 : Nat → List Int → Int → Int → Int → Bool → Option (Int × Int × Bool)
 | 0, _, _, _, _, _ => none
 | k + 1, x0, x1, x7, x8, x29 => if x29 = true then (if 0 ≤ (wrap64 (x1 + x8)) then (if (wrap64 (x1 + x8)) < (x0.length : Int) then (if 0 ≤ (IntKind.u64.wrap (wrap64 (7 * x8))) then (if (wrap64 (rd x0 (wrap64 (x1 + x8)))) > 127 then (spec_GetNum.l0 k x0 x1 (Go.bits .or .i64 x7 (shl .i64 (Go.bits .and .i64 (wrap64 (rd x0 (wrap64 (x1 + x8)))) 127) (IntKind.u64.wrap (wrap64 (7 * x8))))) (wrap64 (x8 + 1))) else (if x8 > 0 then (if (wrap64 (rd x0 (wrap64 (x1 + x8)))) = 0 then (some (0, 0, false)) else (if (Go.bits .or .i64 x7 (shl .i64 (Go.bits .and .i64 (wrap64 (rd x0 (wrap64 (x1 + x8)))) 127) (IntKind.u64.wrap (wrap64 (7 * x8))))) > 1000000000 then (some (0, 0, false)) else (some (Go.bits .or .i64 x7 (shl .i64 (Go.bits .and .i64 (wrap64 (rd x0 (wrap64 (x1 + x8)))) 127) (IntKind.u64.wrap (wrap64 (7 * x8)))), wrap64 ((wrap64 (x1 + x8)) + 1), true)))) else (if (Go.bits .or .i64 x7 (shl .i64 (Go.bits .and .i64 (wrap64 (rd x0 (wrap64 (x1 + x8)))) 127) (IntKind.u64.wrap (wrap64 (7 * x8))))) > 1000000000 then (some (0, 0, false)) else (some (Go.bits .or .i64 x7 (shl .i64 (Go.bits .and .i64 (wrap64 (rd x0 (wrap64 (x1 + x8)))) 127) (IntKind.u64.wrap (wrap64 (7 * x8)))), wrap64 ((wrap64 (x1 + x8)) + 1), true))))) else (none)) else (none)) else (none)) else (some (0, 0, false))
end
def spec_GetNum.f (k : Nat) (l0 : List Int) (a1 : Int) : Option (Int × Int × Bool) := spec_GetNum.l0 k l0 a1 0 0
set_option maxHeartbeats 8000000 in
set_option maxRecDepth 100000 in
theorem spec_GetNum.calls (k : Nat) (A0 : Option Addr) (c0 : Nat) (l0 : List Int) (a1 : Int) (r1 : Int) (r2 : Int) (r3 : Bool) (w : World) (hr0 : Kd.C (Kd.int .u8) w A0 l0.length l0) (hc0 : l0.length ≤ c0) (h : spec_GetNum.f k l0 a1 = some (r1, r2, r3)) :
  Calls Tryz.prog 79 #[.slice A0 l0.length c0, .int .i64 a1] w fun e w' => e = .returned (.tuple #[.int .i64 r1, .int .i64 r2, .bool r3]) ∧ Drawn0 w w' := by
 have HR0 := zn hr0
 have HC0 := zn hc0
 clear hr0 hc0
 have H := h
 unfold spec_GetNum.f at H
 clear h
 have H' := zn H
 clear H
 go_enter Tryz.func79, Tryz.ntmps79
 go_wp2
 go_loopg [7, 8] k (fun kq v7 v8 w' => ∃ (x7_1 : Int) (x8_1 : Int), v7 = .int .i64 x7_1 ∧ v8 = .int .i64 x8_1 ∧ Aside0 (spec_GetNum.l0 kq l0 a1 x7_1 x8_1 = some (r1, r2, r3)) ∧ Aside0 (kq ≤ k) ∧ Drawn0 w w')
 case atStart => exact ⟨(0), (0), z1n, z1n, H', ⟨Nat.le_refl _⟩, z1o⟩
 case round =>
  clear H'
  try clear p2
  obtain ⟨x7_1, x8_1, rfl, rfl, HA, HK1, ⟨m1, rfl⟩⟩ := hrel
  cases gk with
  | zero => exact absurd HA.out (by simp [spec_GetNum.l0])
  | succ k1 =>
   have H := HA.out
   clear HA
   simp only [spec_GetNum.l0] at H
   have HC3 := zn H
   clear H
   go_upto_region 3 with (fail)
   go_cut [29] (fun v29 wc => ∃ (kq : Nat) (x29_2 : Bool), v29 = .bool x29_2 ∧ Aside0 (spec_GetNum.j1 kq l0 a1 x7_1 x8_1 x29_2 = some (r1, r2, r3)) ∧ Aside0 (kq ≤ k1) ∧ Drawn0 w wc)
   case first =>
    have H := HC3.out
    clear HC3
    by_cases c4 : x8_1 < 5
    ·rw [if_pos c4] at H
     have c4b0 := decide_eq_true c4
     clear c4
     (first | rw [c4b0] | (simp only [i64_w, i32_w]; rw [c4b0]) | skip)
     by_cases c5 : a1 ≥ 0
     ·rw [if_pos c5] at H
      have c5b0 := decide_eq_true c5
      clear c5
      by_cases c6 : a1 < (l0.length : Int)
      ·rw [if_pos c6] at H
       have c6b0 := decide_eq_true c6
       clear c6
       have H' := zn H
       clear H
       go_wp2
       go_meet
       case rel => exact ⟨_, (decide ((wrap64 (a1 + x8_1)) < (l0.length : Int))), z1n, H', ⟨z3b⟩, z1o⟩
      ·rw [if_neg c6] at H
       have c6b0 := decide_eq_false c6
       clear c6
       have H' := zn H
       clear H
       go_wp2
       go_meet
       case rel => exact ⟨_, (false), z1n, H', ⟨z3b⟩, z1o⟩
     ·rw [if_neg c5] at H
      have c5b0 := decide_eq_false c5
      clear c5
      have H' := zn H
      clear H
      go_wp2
      go_meet
      case rel => exact ⟨_, (false), z1n, H', ⟨z3b⟩, z1o⟩
    ·rw [if_neg c4] at H
     have c4b0 := decide_eq_false c4
     clear c4
     (first | rw [c4b0] | (simp only [i64_w, i32_w]; rw [c4b0]) | skip)
     have H' := zn H
     clear H
     go_wp2
     go_meet
     case rel => exact ⟨_, (false), z1n, H', ⟨z3b⟩, z1o⟩
   case rest =>
    clear HC3
    try clear p2
    try clear c4
    try clear c4b0
    try clear c5
    try clear c5b0
    try clear c6
    try clear c6b0
    try clear p6
    try clear p2
    obtain ⟨kq, x29_2, rfl, HA, HJ2, ⟨mc2, rfl⟩⟩ := hcut
    cases kq with
    | zero => exact absurd HA.out (by simp [spec_GetNum.j1])
    | succ kj2 =>
     have H := HA.out
     clear HA
     simp only [spec_GetNum.j1] at H
     by_cases c7 : x29_2 = true
     ·subst c7
      rw [if_pos rfl] at H
      obtain ⟨ji8, hji8⟩ : ∃ j_ : Int, (wrap64 (a1 + x8_1)) = j_ := ⟨_, rfl⟩
      replace H : (if 0 ≤ (ji8) then (if (ji8) < (l0.length : Int) then (if 0 ≤ (IntKind.u64.wrap (wrap64 (7 * x8_1))) then (if (wrap64 (rd l0 (ji8))) > 127 then (spec_GetNum.l0 kj2 l0 a1 (Go.bits .or .i64 x7_1 (shl .i64 (Go.bits .and .i64 (wrap64 (rd l0 (ji8))) 127) (IntKind.u64.wrap (wrap64 (7 * x8_1))))) (wrap64 (x8_1 + 1))) else (if x8_1 > 0 then (if (wrap64 (rd l0 (ji8))) = 0 then (some (0, 0, false)) else (if (Go.bits .or .i64 x7_1 (shl .i64 (Go.bits .and .i64 (wrap64 (rd l0 (ji8))) 127) (IntKind.u64.wrap (wrap64 (7 * x8_1))))) > 1000000000 then (some (0, 0, false)) else (some (Go.bits .or .i64 x7_1 (shl .i64 (Go.bits .and .i64 (wrap64 (rd l0 (ji8))) 127) (IntKind.u64.wrap (wrap64 (7 * x8_1)))), wrap64 ((ji8) + 1), true)))) else (if (Go.bits .or .i64 x7_1 (shl .i64 (Go.bits .and .i64 (wrap64 (rd l0 (ji8))) 127) (IntKind.u64.wrap (wrap64 (7 * x8_1))))) > 1000000000 then (some (0, 0, false)) else (some (Go.bits .or .i64 x7_1 (shl .i64 (Go.bits .and .i64 (wrap64 (rd l0 (ji8))) 127) (IntKind.u64.wrap (wrap64 (7 * x8_1)))), wrap64 ((ji8) + 1), true))))) else (none)) else (none)) else (none)) = some (r1, r2, r3) := by first | (rw [hji8] at H; exact H) | (simp only [hji8] at H ⊢; exact H)
      have hji8w : (IntKind.i64.wrap (a1 + x8_1)) = ji8 := (i64_w _).trans hji8
      by_cases c9 : 0 ≤ (ji8)
      ·rw [if_pos c9] at H
       have c9b0 := decide_eq_true c9
       clear c9
       by_cases c10 : (ji8) < (l0.length : Int)
       ·rw [if_pos c10] at H
        have c10b0 := decide_eq_true c10
        clear c10
        obtain ⟨ji11, hji11⟩ : ∃ j_ : Int, (IntKind.u64.wrap (wrap64 (7 * x8_1))) = j_ := ⟨_, rfl⟩
        replace H : (if 0 ≤ (ji11) then (if (wrap64 (rd l0 (ji8))) > 127 then (spec_GetNum.l0 kj2 l0 a1 (Go.bits .or .i64 x7_1 (shl .i64 (Go.bits .and .i64 (wrap64 (rd l0 (ji8))) 127) (ji11))) (wrap64 (x8_1 + 1))) else (if x8_1 > 0 then (if (wrap64 (rd l0 (ji8))) = 0 then (some (0, 0, false)) else (if (Go.bits .or .i64 x7_1 (shl .i64 (Go.bits .and .i64 (wrap64 (rd l0 (ji8))) 127) (ji11))) > 1000000000 then (some (0, 0, false)) else (some (Go.bits .or .i64 x7_1 (shl .i64 (Go.bits .and .i64 (wrap64 (rd l0 (ji8))) 127) (ji11)), wrap64 ((ji8) + 1), true)))) else (if (Go.bits .or .i64 x7_1 (shl .i64 (Go.bits .and .i64 (wrap64 (rd l0 (ji8))) 127) (ji11))) > 1000000000 then (some (0, 0, false)) else (some (Go.bits .or .i64 x7_1 (shl .i64 (Go.bits .and .i64 (wrap64 (rd l0 (ji8))) 127) (ji11)), wrap64 ((ji8) + 1), true))))) else (none)) = some (r1, r2, r3) := by first | (rw [hji11] at H; exact H) | (simp only [hji11] at H ⊢; exact H)
        by_cases c12 : 0 ≤ (ji11)
        ·rw [if_pos c12] at H
         have c12b0 := eq_true c12
         have c12b1 := decide_eq_true c12
         clear c12
         obtain ⟨ji13, hji13⟩ : ∃ j_ : Int, (shl .i64 (Go.bits .and .i64 (wrap64 (rd l0 (ji8))) 127) (ji11)) = j_ := ⟨_, rfl⟩
         replace H : (if (wrap64 (rd l0 (ji8))) > 127 then (spec_GetNum.l0 kj2 l0 a1 (Go.bits .or .i64 x7_1 (ji13)) (wrap64 (x8_1 + 1))) else (if x8_1 > 0 then (if (wrap64 (rd l0 (ji8))) = 0 then (some (0, 0, false)) else (if (Go.bits .or .i64 x7_1 (ji13)) > 1000000000 then (some (0, 0, false)) else (some (Go.bits .or .i64 x7_1 (ji13), wrap64 ((ji8) + 1), true)))) else (if (Go.bits .or .i64 x7_1 (ji13)) > 1000000000 then (some (0, 0, false)) else (some (Go.bits .or .i64 x7_1 (ji13), wrap64 ((ji8) + 1), true))))) = some (r1, r2, r3) := by first | (rw [hji13] at H; exact H) | (simp only [hji13] at H ⊢; exact H)
         have hji13_ : (IntKind.i64.wrap ((Go.bits .and .i64 (wrap64 (rd l0 (ji8))) 127) * 2 ^ min (ji11).toNat 64)) = ji13 := hji13
         have hji13z : (ji11) ≤ 64 → (IntKind.i64.wrap ((Go.bits .and .i64 (wrap64 (rd l0 (ji8))) 127) * 2 ^ (ji11).toNat)) = ji13 := shl_small hji13
         have hji13y : (wrap64 ((Go.bits .and .i64 (wrap64 (rd l0 (ji8))) 127) * 2 ^ min (ji11).toNat 64)) = ji13 := (i64_w _).symm.trans hji13_
         have hji13x : (ji11) ≤ 64 → (wrap64 ((Go.bits .and .i64 (wrap64 (rd l0 (ji8))) 127) * 2 ^ (ji11).toNat)) = ji13 := fun h_ => (i64_w _).symm.trans (hji13z h_)
         by_cases c14 : (wrap64 (rd l0 (ji8))) > 127
         ·rw [if_pos c14] at H
          have c14b0 := decide_eq_true c14
          clear c14
          have H' := zn H
          clear H
          have p486 : 0 ≤ ((ji8) : Int) := of_decide_eq_true z1p
          have q486 : (ji8) < (l0.length : Int) := of_decide_eq_true z1p
          obtain ⟨ad486, e486, hx486_0⟩ := Kd.at_int HR0.out (ji8) p486 q486
          cases e486
          replace p486 := eq_true p486
          replace q486 := eq_true q486
          go_wp2
          go_roundg kj2
          case measure => have := HK1.out; have := HJ2.out; omega
          case rel => exact ⟨(Go.bits .or .i64 x7_1 (ji13)), (wrap64 (x8_1 + 1)), (by first | rfl | (simp; done) | (simp only [← hji13] <;> (first | rfl | simp)) | (simp [*]; done)), z1n, H', ⟨by have := HK1.out; have := HJ2.out; omega⟩, z1o⟩
         ·rw [if_neg c14] at H
          have c14b0 := decide_eq_false c14
          clear c14
          by_cases c15 : x8_1 > 0
          ·rw [if_pos c15] at H
           have c15b0 := decide_eq_true c15
           clear c15
           by_cases c16 : (wrap64 (rd l0 (ji8))) = 0
           ·rw [if_pos c16] at H
            have c16b0 := beq_iff_eq.mpr c16
            have c16b1 := bne_eq_false_iff_eq.mpr c16
            clear c16
            simp only [Option.some.injEq, Prod.mk.injEq] at H
            obtain ⟨rfl, rfl, rfl⟩ := H
            have p486 : 0 ≤ ((ji8) : Int) := of_decide_eq_true z1p
            have q486 : (ji8) < (l0.length : Int) := of_decide_eq_true z1p
            obtain ⟨ad486, e486, hx486_0⟩ := Kd.at_int HR0.out (ji8) p486 q486
            cases e486
            replace p486 := eq_true p486
            replace q486 := eq_true q486
            go_wp2
            go_ret3
            exact ⟨z4o, z1o⟩
           ·rw [if_neg c16] at H
            have c16b0 := beq_eq_false_iff_ne.mpr c16
            have c16b1 := bne_iff_ne.mpr c16
            by_cases c17 : (Go.bits .or .i64 x7_1 (ji13)) > 1000000000
            ·rw [if_pos c17] at H
             have c17b0 := decide_eq_true c17
             clear c17
             simp only [Option.some.injEq, Prod.mk.injEq] at H
             obtain ⟨rfl, rfl, rfl⟩ := H
             have p486 : 0 ≤ ((ji8) : Int) := of_decide_eq_true z1p
             have q486 : (ji8) < (l0.length : Int) := of_decide_eq_true z1p
             obtain ⟨ad486, e486, hx486_0⟩ := Kd.at_int HR0.out (ji8) p486 q486
             cases e486
             replace p486 := eq_true p486
             replace q486 := eq_true q486
             go_wp2
             go_ret3
             exact ⟨z4o, z1o⟩
            ·rw [if_neg c17] at H
             have c17b0 := decide_eq_false c17
             clear c17
             simp only [Option.some.injEq, Prod.mk.injEq] at H
             obtain ⟨rfl, rfl, rfl⟩ := H
             have p486 : 0 ≤ ((ji8) : Int) := of_decide_eq_true z1p
             have q486 : (ji8) < (l0.length : Int) := of_decide_eq_true z1p
             obtain ⟨ad486, e486, hx486_0⟩ := Kd.at_int HR0.out (ji8) p486 q486
             cases e486
             replace p486 := eq_true p486
             replace q486 := eq_true q486
             go_wp2
             go_ret3
             exact ⟨z4o, z1o⟩
          ·rw [if_neg c15] at H
           have c15b0 := decide_eq_false c15
           clear c15
           by_cases c18 : (Go.bits .or .i64 x7_1 (ji13)) > 1000000000
           ·rw [if_pos c18] at H
            have c18b0 := decide_eq_true c18
            clear c18
            simp only [Option.some.injEq, Prod.mk.injEq] at H
            obtain ⟨rfl, rfl, rfl⟩ := H
            have p486 : 0 ≤ ((ji8) : Int) := of_decide_eq_true z1p
            have q486 : (ji8) < (l0.length : Int) := of_decide_eq_true z1p
            obtain ⟨ad486, e486, hx486_0⟩ := Kd.at_int HR0.out (ji8) p486 q486
            cases e486
            replace p486 := eq_true p486
            replace q486 := eq_true q486
            go_wp2
            go_ret3
            exact ⟨z4o, z1o⟩
           ·rw [if_neg c18] at H
            have c18b0 := decide_eq_false c18
            clear c18
            simp only [Option.some.injEq, Prod.mk.injEq] at H
            obtain ⟨rfl, rfl, rfl⟩ := H
            have p486 : 0 ≤ ((ji8) : Int) := of_decide_eq_true z1p
            have q486 : (ji8) < (l0.length : Int) := of_decide_eq_true z1p
            obtain ⟨ad486, e486, hx486_0⟩ := Kd.at_int HR0.out (ji8) p486 q486
            cases e486
            replace p486 := eq_true p486
            replace q486 := eq_true q486
            go_wp2
            go_ret3
            exact ⟨z4o, z1o⟩
        ·rw [if_neg c12] at H
         exact absurd H (by simp)
       ·rw [if_neg c10] at H
        exact absurd H (by simp)
      ·rw [if_neg c9] at H
       exact absurd H (by simp)
     ·replace c7 := Bool.eq_false_iff.mpr c7
      subst c7
      rw [if_neg zk] at H
      simp only [Option.some.injEq, Prod.mk.injEq] at H
      obtain ⟨rfl, rfl, rfl⟩ := H
      go_wp2
      go_ret3
      exact ⟨z1n, z1o⟩
def spec_GetText.f (k : Nat) (l0 : List Int) (a1 : Int) : Option (ByteArray × Int × Bool) := (spec_GetNum.f k l0 a1).bind fun bt487 => (if bt487.2.2 = true then (if bt487.1 > (wrap64 ((l0.length : Int) - bt487.2.1)) then (some ((⟨#[]⟩ : ByteArray), 0, false)) else (if 0 ≤ bt487.2.1 then (if bt487.2.1 ≤ (wrap64 (bt487.2.1 + bt487.1)) then (if (wrap64 (bt487.2.1 + bt487.1)) ≤ (l0.length : Int) then (some (strOfNums ((l0.take ((wrap64 (bt487.2.1 + bt487.1)) : Int).toNat).drop (bt487.2.1 : Int).toNat), wrap64 (bt487.2.1 + bt487.1), true)) else (none)) else (none)) else (none))) else (some ((⟨#[]⟩ : ByteArray), 0, false)))
set_option maxHeartbeats 8000000 in
set_option maxRecDepth 100000 in
theorem spec_GetText.calls (k : Nat) (A0 : Option Addr) (c0 : Nat) (l0 : List Int) (a1 : Int) (r1 : ByteArray) (r2 : Int) (r3 : Bool) (w : World) (hr0 : Kd.C (Kd.int .u8) w A0 l0.length l0) (hc0 : l0.length ≤ c0) (h : spec_GetText.f k l0 a1 = some (r1, r2, r3)) :
  Calls Tryz.prog 43 #[.slice A0 l0.length c0, .int .i64 a1] w fun e w' => e = .returned (.tuple #[.string r1, .int .i64 r2, .bool r3]) ∧ Drawn0 w w' := by
 have HR0 := zn hr0
 have HC0 := zn hc0
 clear hr0 hc0
 have H := h
 unfold spec_GetText.f at H
 clear h
 obtain ⟨⟨t487, t488, t489⟩, A3, H⟩ := zm H
 try dsimp only at H
 by_cases c4 : t489 = true
 ·subst c4
  rw [if_pos rfl] at H
  by_cases c5 : t487 > (wrap64 ((l0.length : Int) - t488))
  ·rw [if_pos c5] at H
   have c5b0 := decide_eq_true c5
   clear c5
   simp only [Option.some.injEq, Prod.mk.injEq] at H
   obtain ⟨rfl, rfl, rfl⟩ := H
   go_enter Tryz.func43, Tryz.ntmps43
   go_wp2_with (first | ((with_reducible refine zi 79 rfl ?_); refine zj (some 13) Tryz.func79 #[.slice A0 l0.length c0, .int .i64 a1] rfl ?_; (with_reducible refine (spec_GetNum.calls k _ _ l0 a1 t487 t488 true _ ?side1 ?side2 A3.out).mono ?_); (case side1 => exact z3d); (case side2 => exact HC0.out); rintro e w' ⟨rfl, ⟨nd, rfl⟩⟩; refine ⟨_, rfl, ?_⟩))
   go_ret3
   exact ⟨z1n, z1o⟩
  ·rw [if_neg c5] at H
   have c5b0 := decide_eq_false c5
   clear c5
   by_cases c6 : 0 ≤ t488
   ·rw [if_pos c6] at H
    have c6b0 := eq_true c6
    have c6b1 := decide_eq_true c6
    clear c6
    by_cases c7 : t488 ≤ (wrap64 (t488 + t487))
    ·rw [if_pos c7] at H
     have c7b0 := eq_true c7
     have c7b1 := decide_eq_true c7
     by_cases c8 : (wrap64 (t488 + t487)) ≤ (l0.length : Int)
     ·rw [if_pos c8] at H
      have c8b0 := eq_true c8
      have c8b1 := decide_eq_true c8
      simp only [Option.some.injEq, Prod.mk.injEq] at H
      obtain ⟨rfl, rfl, rfl⟩ := H
      go_enter Tryz.func43, Tryz.ntmps43
      go_wp2_with (first | ((with_reducible refine zi 79 rfl ?_); refine zj (some 13) Tryz.func79 #[.slice A0 l0.length c0, .int .i64 a1] rfl ?_; (with_reducible refine (spec_GetNum.calls k _ _ l0 a1 t487 t488 true _ ?side1 ?side2 A3.out).mono ?_); (case side1 => exact z3d); (case side2 => exact HC0.out); rintro e w' ⟨rfl, ⟨nd, rfl⟩⟩; refine ⟨_, rfl, ?_⟩; obtain ⟨i09, hi09, _, hsz9, _⟩ := info_parts info5; obtain ⟨A9, hcut9, hA9, hC9⟩ := print_mid_of (P := Tryz.prog) (Value.int .u8) 0 22 5 .i64 .i64 Tryz.underlying22 hi09 hsz9 A0 c0 l0 t488 (wrap64 (t488 + t487)) (of_decide_eq_true z1p) (by first | omega | exact of_decide_eq_true z1p) (of_decide_eq_true z1p) HC0.out; have HR490 := zn (Kd.C_of_reads (h1 := fun _ => rfl) (hA9 _ (Kd.reads_of_C HR0.out))); have HC490 := zn hC9; clear hA9 hC9 hi09 hsz9; have hcv10 := Kd.C_string (P := Tryz.prog) (A := A9) (c := (c0 - t488.toNat)) Tryz.underlying22 Tryz.underlying5 Tryz.underlying9 HR490.out; have hcv11 : ∀ (n_ : Nat), n_ = ((l0.take ((wrap64 (t488 + t487)) : Int).toNat).drop (t488 : Int).toNat).length → ∀ m_, (convert 22 9 (.slice A9 n_ (c0 - t488.toNat))).run Tryz.prog (w.drewN m_) = .ok (.string (strOfNums ((l0.take ((wrap64 (t488 + t487)) : Int).toNat).drop (t488 : Int).toNat))) (w.drewN m_) := fun n_ hn_ m_ => hn_ ▸ Kd.C_string (P := Tryz.prog) (A := A9) (c := (c0 - t488.toNat)) Tryz.underlying22 Tryz.underlying5 Tryz.underlying9 (Kd.C_drewN HR490.out m_)))
      go_ret3
      exact ⟨z1n, z1o⟩
     ·rw [if_neg c8] at H
      exact absurd H (by simp)
    ·rw [if_neg c7] at H
     exact absurd H (by simp)
   ·rw [if_neg c6] at H
    exact absurd H (by simp)
 ·replace c4 := Bool.eq_false_iff.mpr c4
  subst c4
  rw [if_neg zk] at H
  simp only [Option.some.injEq, Prod.mk.injEq] at H
  obtain ⟨rfl, rfl, rfl⟩ := H
  go_enter Tryz.func43, Tryz.ntmps43
  go_wp2_with (first | ((with_reducible refine zi 79 rfl ?_); refine zj (some 13) Tryz.func79 #[.slice A0 l0.length c0, .int .i64 a1] rfl ?_; (with_reducible refine (spec_GetNum.calls k _ _ l0 a1 t487 t488 false _ ?side1 ?side2 A3.out).mono ?_); (case side1 => exact z3d); (case side2 => exact HC0.out); rintro e w' ⟨rfl, ⟨nd, rfl⟩⟩; refine ⟨_, rfl, ?_⟩))
  go_ret3
  exact ⟨z1n, z1o⟩
mutual
def spec_GetTexts.j0 : Nat → List Int → Int → Int → Bool → Option (List ByteArray × Int × Bool)
 | 0, _, _, _, _ => none
 | k + 1, x0, x7, x8, x27 => if x27 = true then (some ((([] : List ByteArray)), 0, false)) else (spec_GetTexts.l0 k x0 x7 x8 (([] : List ByteArray)) 0)
def spec_GetTexts.l0 : Nat → List Int → Int → Int → List ByteArray → Int → Option (List ByteArray × Int × Bool)
 | 0, _, _, _, _, _ => none
 | k + 1, x0, x7, x8, x10, x11 => if x11 < x7 then ((spec_GetText.f k x0 x8).bind fun bt500 => (if bt500.2.2 = true then (if x10.length < 8796093022208 then (spec_GetTexts.l0 k x0 x7 bt500.2.1 (x10 ++ [bt500.1]) (wrap64 (x11 + 1))) else (none)) else (some ((([] : List ByteArray)), 0, false)))) else (some (x10, x8, true))
end
def spec_GetTexts.f (k : Nat) (l0 : List Int) (a1 : Int) : Option (List ByteArray × Int × Bool) := (spec_GetNum.f k l0 a1).bind fun bt491 => (if bt491.2.2 = true then (spec_GetTexts.j0 k l0 bt491.1 bt491.2.1 (decide (bt491.1 > 200))) else (spec_GetTexts.j0 k l0 bt491.1 bt491.2.1 true))
set_option maxHeartbeats 8000000 in
set_option maxRecDepth 100000 in
theorem spec_GetTexts.calls (k : Nat) (A0 : Option Addr) (c0 : Nat) (l0 : List Int) (a1 : Int) (r1 : List ByteArray) (r2 : Int) (r3 : Bool) (w : World) (hr0 : Kd.C (Kd.int .u8) w A0 l0.length l0) (hc0 : l0.length ≤ c0) (h : spec_GetTexts.f k l0 a1 = some (r1, r2, r3)) :
  Calls Tryz.prog 44 #[.slice A0 l0.length c0, .int .i64 a1] w fun e w' => ∃ v0_ : Value, e = .returned (.tuple #[v0_, .int .i64 r2, .bool r3]) ∧ Kd.R Kd.string 9 w' w.heap.size (fun _ => True) v0_ r1 ∧ Below w.heap.size w w' := by
 have HR0 := zn hr0
 have HC0 := zn hc0
 clear hr0 hc0
 have HB := zn (Below.refl w.heap.size w)
 have H := h
 unfold spec_GetTexts.f at H
 clear h
 obtain ⟨⟨t491, t492, t493⟩, A3, H⟩ := zm H
 try dsimp only at H
 have HC4 := zn H
 clear H
 go_enter Tryz.func44, Tryz.ntmps44
 go_upto_region 2 with (first | ((with_reducible refine zi 79 rfl ?_); refine zj (some 18) Tryz.func79 #[.slice A0 l0.length c0, .int .i64 a1] rfl ?_; (with_reducible refine (spec_GetNum.calls k _ _ l0 a1 t491 t492 t493 _ ?side1 ?side2 A3.out).mono ?_); (case side1 => exact z3d); (case side2 => exact HC0.out); rintro e w' ⟨rfl, ⟨nd, rfl⟩⟩; refine ⟨_, rfl, ?_⟩))
 (try simp only [Act.put, z9e, z9f, z9g])
 go_cut [27] (fun v27 wc => ∃ (kq : Nat) (x27_3 : Bool), v27 = .bool x27_3 ∧ Aside0 (spec_GetTexts.j0 kq l0 t491 t492 x27_3 = some (r1, r2, r3)) ∧ Aside0 (kq ≤ k) ∧ Aside0 (Below w.heap.size w wc))
 case first =>
  have H := HC4.out
  clear HC4
  by_cases c5 : t493 = true
  ·subst c5
   rw [if_pos rfl] at H
   have H' := zn H
   clear H
   go_wp2
   go_meet
   case rel => exact ⟨_, (decide (t491 > 200)), z1n, H', ⟨z1v⟩, ⟨z1r⟩⟩
  ·replace c5 := Bool.eq_false_iff.mpr c5
   subst c5
   rw [if_neg zk] at H
   have H' := zn H
   clear H
   go_wp2
   go_meet
   case rel => exact ⟨_, (true), z1n, H', ⟨z1v⟩, ⟨z1r⟩⟩
 case rest =>
  clear HC4
  try clear p2
  try clear c4
  try clear c5
  obtain ⟨kq, x27_3, rfl, HA, HJ3, HB⟩ := hcut
  cases kq with
  | zero => exact absurd HA.out (by simp [spec_GetTexts.j0])
  | succ kj3 =>
   have H := HA.out
   clear HA
   simp only [spec_GetTexts.j0] at H
   by_cases c6 : x27_3 = true
   ·subst c6
    rw [if_pos rfl] at H
    obtain ⟨y494, hy494⟩ : ∃ y_ : List ByteArray, y_ = (([] : List ByteArray)) := ⟨_, rfl⟩
    replace H : (some (y494, 0, false)) = some (r1, r2, r3) := by first | (rw [hy494]; with_reducible exact H) | (have H2_ := (Option.bind_some _ _).symm.trans H; rw [hy494]; with_reducible exact H2_) | (have H2_ := (Option.bind_some _ _).symm.trans H; with_reducible exact H2_) | with_reducible exact H | (rw [hy494]; exact H) | exact H
    have Ny494 := zn hy494
    clear hy494
    simp only [Option.some.injEq, Prod.mk.injEq] at H
    obtain ⟨rfl, rfl, rfl⟩ := H
    go_wp2_with (first | ((with_reducible refine zr 28 rfl ?_); refine Kd.R_lit Kd.string _ 9 ?hg (N := 28) ?hd (xs := ([] : List ByteArray)) (inner := []) (ok := fun _ => True) (okp := fun _ => True) ?hr ?hp (fun _ hk => hk) trivial (Below.refl _ _) (Nat.le_refl _) (by simp) ?_; (case hd => exact z2b); (case hg => exact z2b); (case hr => exact z3t); (case hp => exact (Reps.none _ _)); intro v495 w7 ho8 hb hg_ hnew_; clear hg_ hnew_; (first | rw [← Ny494.out] at ho8 | (simp only [Int.reduceToNat] at ho8; rw [← Ny494.out] at ho8)); have n_ := zo (Kd.R_lower ho8 (below_size z1r)) (below_step z1r hb); clear HB; obtain ⟨HO496, HB⟩ := n_; clear hb ho8))
    go_ret3
    exact ⟨_, z1t, by (with_reducible repeat (first | apply Kd.R_alloc | apply Kd.R_drewN | apply Kd.R_drew)); exact HO496.out, z1r⟩
   ·replace c6 := Bool.eq_false_iff.mpr c6
    subst c6
    rw [if_neg zk] at H
    obtain ⟨y497, hy497⟩ : ∃ y_ : List ByteArray, y_ = (([] : List ByteArray)) := ⟨_, rfl⟩
    replace H : (spec_GetTexts.l0 kj3 l0 t491 t492 y497 0) = some (r1, r2, r3) := by first | (rw [hy497]; with_reducible exact H) | (have H2_ := (Option.bind_some _ _).symm.trans H; rw [hy497]; with_reducible exact H2_) | (have H2_ := (Option.bind_some _ _).symm.trans H; with_reducible exact H2_) | with_reducible exact H | (rw [hy497]; exact H) | exact H
    have Ny497 := zn hy497
    clear hy497
    have H' := zn H
    clear H
    go_wp2_with (first | ((with_reducible refine zr 29 rfl ?_); refine Kd.R_lit Kd.string _ 9 ?hg (N := 29) ?hd (xs := ([] : List ByteArray)) (inner := []) (ok := fun _ => True) (okp := fun _ => True) ?hr ?hp (fun _ hk => hk) trivial (Below.refl _ _) (Nat.le_refl _) (by simp) ?_; (case hd => exact z2b); (case hg => exact z2b); (case hr => exact z3t); (case hp => exact (Reps.none _ _)); intro v498 w9 ho10 hb hg_ hnew_; clear hg_ hnew_; (first | rw [← Ny497.out] at ho10 | (simp only [Int.reduceToNat] at ho10; rw [← Ny497.out] at ho10)); have n_ := zo (Kd.R_lower ho10 (below_size z1r)) (below_step z1r hb); clear HB; obtain ⟨HO499, HB⟩ := n_; clear hb ho10))
    go_loopg [8, 10, 11] kj3 (fun kq v8 v10 v11 w' => ∃ (x8_2 : Int) (x10_2 : List ByteArray) (x11_2 : Int), v8 = .int .i64 x8_2 ∧ v11 = .int .i64 x11_2 ∧ Aside0 (spec_GetTexts.l0 kq l0 t491 x8_2 x10_2 x11_2 = some (r1, r2, r3)) ∧ Aside0 (kq ≤ kj3) ∧ Aside0 (Kd.R Kd.string 9 w' w.heap.size (fun _ => True) v10 x10_2) ∧ Aside0 (Below w.heap.size w w'))
    case atStart => exact ⟨(t492), (y497), (0), z1n, z1n, H', ⟨Nat.le_refl _⟩, ⟨by (with_reducible repeat (first | apply Kd.R_alloc | apply Kd.R_drewN | apply Kd.R_drew)); exact HO499.out⟩, ⟨z1r⟩⟩
    case round =>
     clear H'
     try clear p2
     try clear c4
     try clear c5
     try clear c6
     try clear c7
     try clear p2
     obtain ⟨x8_2, x10_2, x11_2, rfl, rfl, HA, HK2, HO_10, HB⟩ := hrel
     cases gk with
     | zero => exact absurd HA.out (by simp [spec_GetTexts.l0])
     | succ k2 =>
      have H := HA.out
      clear HA
      simp only [spec_GetTexts.l0] at H
      by_cases c11 : x11_2 < t491
      ·rw [if_pos c11] at H
       have c11b0 := decide_eq_true c11
       clear c11
       obtain ⟨⟨t500, t501, t502⟩, A12, H⟩ := zm H
       try dsimp only at H
       by_cases c13 : t502 = true
       ·subst c13
        rw [if_pos rfl] at H
        by_cases c14 : x10_2.length < 8796093022208
        ·rw [if_pos c14] at H
         have LMc14 := zn c14
         clear c14
         obtain ⟨y503, hy503⟩ : ∃ y_ : List ByteArray, y_ = (x10_2 ++ [t500]) := ⟨_, rfl⟩
         replace H : (spec_GetTexts.l0 k2 l0 t491 t501 y503 (wrap64 (x11_2 + 1))) = some (r1, r2, r3) := by first | (rw [hy503]; with_reducible exact H) | (have H2_ := (Option.bind_some _ _).symm.trans H; rw [hy503]; with_reducible exact H2_) | (have H2_ := (Option.bind_some _ _).symm.trans H; with_reducible exact H2_) | with_reducible exact H | (rw [hy503]; exact H) | exact H
         have Ny503 := zn hy503
         clear hy503
         have H' := zn H
         clear H
         go_wp2_with (first | ((with_reducible refine zi 43 rfl ?_); refine zj (some 38) Tryz.func43 #[.slice A0 l0.length c0, .int .i64 x8_2] rfl ?_; (with_reducible refine (spec_GetText.calls k2 _ _ l0 x8_2 t500 t501 true _ ?side1 ?side2 A12.out).mono ?_); (case side1 => exact z3g); (case side2 => exact HC0.out); rintro e w' ⟨rfl, ⟨nd, rfl⟩⟩; refine ⟨_, rfl, ?_⟩) | ((with_reducible refine gate_builtin (b := .append) (xs := #[.tmp 45, .tmp 47]) rfl ?_); at_builtin; refine Kd.R_append Kd.string (w0 := w) w.heap.size rfl (.tmp 45) (.tmp 47) 55 9 (.string ⟨#[]⟩) 16 rfl Tryz.underlying55 info9 rfl z1l z1k u10 x10_2 t500 [.string t500] (fun _ => True) (fun _ => False) rfl rfl ?aP (fun _ hk => hk.elim) ?aF ?aO ?aB ?aS ?aL ?_; (case aP => exact rfl); (case aB => exact z1r); (case aF => exact (fun _ _ => trivial)); (case aO => exact z3f); (case aS => exact (below_size z1r)); (case aL => have := LMc14.out; omega); intro v504 w15 ho hb hg hat; rw [← Ny503.out] at ho; have n_ := zo hb ho; clear HB HO_10; obtain ⟨HB, HO505⟩ := n_; clear ho hb hg hat))
         go_roundg k2
         case measure => have := HJ3.out; have := HK2.out; omega
         case rel => exact ⟨(t501), (y503), (wrap64 (x11_2 + 1)), z1n, z1n, H', ⟨by have := HJ3.out; have := HK2.out; omega⟩, ⟨by (with_reducible repeat (first | apply Kd.R_alloc | apply Kd.R_drewN | apply Kd.R_drew)); exact HO505.out⟩, ⟨z1r⟩⟩
        ·rw [if_neg c14] at H
         exact absurd H (by simp)
       ·replace c13 := Bool.eq_false_iff.mpr c13
        subst c13
        rw [if_neg zk] at H
        obtain ⟨y506, hy506⟩ : ∃ y_ : List ByteArray, y_ = (([] : List ByteArray)) := ⟨_, rfl⟩
        replace H : (some (y506, 0, false)) = some (r1, r2, r3) := by first | (rw [hy506]; with_reducible exact H) | (have H2_ := (Option.bind_some _ _).symm.trans H; rw [hy506]; with_reducible exact H2_) | (have H2_ := (Option.bind_some _ _).symm.trans H; with_reducible exact H2_) | with_reducible exact H | (rw [hy506]; exact H) | exact H
        have Ny506 := zn hy506
        clear hy506
        simp only [Option.some.injEq, Prod.mk.injEq] at H
        obtain ⟨rfl, rfl, rfl⟩ := H
        go_wp2_with (first | ((with_reducible refine zi 43 rfl ?_); refine zj (some 38) Tryz.func43 #[.slice A0 l0.length c0, .int .i64 x8_2] rfl ?_; (with_reducible refine (spec_GetText.calls k2 _ _ l0 x8_2 t500 t501 false _ ?side1 ?side2 A12.out).mono ?_); (case side1 => exact z3g); (case side2 => exact HC0.out); rintro e w' ⟨rfl, ⟨nd, rfl⟩⟩; refine ⟨_, rfl, ?_⟩) | ((with_reducible refine zr 44 rfl ?_); refine Kd.R_lit Kd.string _ 9 ?hg (N := 44) ?hd (xs := ([] : List ByteArray)) (inner := []) (ok := fun _ => True) (okp := fun _ => True) ?hr ?hp (fun _ hk => hk) trivial (Below.refl _ _) (Nat.le_refl _) (by simp) ?_; (case hd => exact z2b); (case hg => exact z2b); (case hr => exact z3t); (case hp => exact (Reps.none _ _)); intro v507 w16 ho17 hb hg_ hnew_; clear hg_ hnew_; (first | rw [← Ny506.out] at ho17 | (simp only [Int.reduceToNat] at ho17; rw [← Ny506.out] at ho17)); have n_ := z1c (Kd.R_elder' z3f (Kd.R_base ho17) hb) (Kd.R_lower (Kd.R_new' ho17 (Kd.R_lt z3f)) (below_size z1r)) (below_step z1r hb); clear HO_10 HB; obtain ⟨HO_10, HO508, HB⟩ := n_; clear hb ho17))
        go_ret3
        exact ⟨_, z1t, by (with_reducible repeat (first | apply Kd.R_alloc | apply Kd.R_drewN | apply Kd.R_drew)); exact Kd.R_mono HO508.out (fun _ hk => trivial), z1r⟩
      ·rw [if_neg c11] at H
       have c11b0 := decide_eq_false c11
       clear c11
       simp only [Option.some.injEq, Prod.mk.injEq] at H
       obtain ⟨rfl, rfl, rfl⟩ := H
       go_wp2
       go_ret3
       exact ⟨_, z1t, z3f, z1r⟩
mutual
def spec_GetEntry.j0 : Nat → List ByteArray → Bool → ByteArray → Int → Int → Int → ByteArray → ByteArray → Int → Int → Int → ByteArray → Option (ByteArray × Int × Int × Int × ByteArray × (List (S35)) × Bool)
 | 0, _, _, _, _, _, _, _, _, _, _, _, _ => none
 | k + 1, x9, x54, x511000, x511001, x511002, x511003, x511004, x529000, x529001, x529002, x529003, x529004 => if x54 = true then (some (x511000, x511001, x511002, x511003, x511004, ([] : List (S35)), false)) else (spec_GetEntry.l0 k x9 0 x511000 x511001 x511002 x511003 x511004 x529000 x529001 x529002 x529003 x529004 ([] : List (S35)))
def spec_GetEntry.l0 : Nat → List ByteArray → Int → ByteArray → Int → Int → Int → ByteArray → ByteArray → Int → Int → Int → ByteArray → List (S35) → Option (ByteArray × Int × Int × Int × ByteArray × (List (S35)) × Bool)
 | 0, _, _, _, _, _, _, _, _, _, _, _, _, _ => none
 | k + 1, x9, x15, x511000, x511001, x511002, x511003, x511004, x530000, x530001, x530002, x530003, x530004, x530005 => if x15 < (x9.length : Int) then (if 0 ≤ x15 then ((spec_ParseName.f k (rdOf ByteArray.empty x9 x15)).bind fun bt531 => (if bt531.2.2.2.2.2 = true then (if x530005.length < 2513169434916 then (spec_GetEntry.l0 k x9 (wrap64 (x15 + 1)) x511000 x511001 x511002 x511003 x511004 x530000 x530001 x530002 x530003 x530004 (x530005 ++ [(⟨bt531.1, (⟨bt531.2.1, bt531.2.2.1, bt531.2.2.2.1, bt531.2.2.2.2.1⟩ : S25)⟩ : S35)])) else (none)) else (some (x511000, x511001, x511002, x511003, x511004, ([] : List (S35)), false)))) else (none)) else ((spec_EntryOk.f k x530000 x530001 x530002 x530003 x530004 x530005).bind fun t541 => (if t541 = true then (some (x530000, x530001, x530002, x530003, x530004, x530005, true)) else (some (x511000, x511001, x511002, x511003, x511004, ([] : List (S35)), false))))
end
def spec_GetEntry.f (k : Nat) (a0 : ByteArray) : Option (ByteArray × Int × Int × Int × ByteArray × (List (S35)) × Bool) := if a0.size ≤ 9223372036854775807 then ((some (bytesOf a0 : List Int)).bind fun y511 => ((spec_GetText.f k y511 0).bind fun bt514 => ((spec_GetTexts.f k y511 bt514.2.1).bind fun bt517 => ((spec_ParseName.f k bt514.1).bind fun bt522 => (if bt514.2.2 = true then (if bt517.2.2 = true then (if bt522.2.2.2.2.2 = true then (spec_GetEntry.j0 k bt517.1 (bt517.2.1 != (y511.length : Int)) (⟨#[]⟩ : ByteArray) 0 0 0 (⟨#[]⟩ : ByteArray) bt522.1 bt522.2.1 bt522.2.2.1 bt522.2.2.2.1 bt522.2.2.2.2.1) else (spec_GetEntry.j0 k bt517.1 true (⟨#[]⟩ : ByteArray) 0 0 0 (⟨#[]⟩ : ByteArray) bt522.1 bt522.2.1 bt522.2.2.1 bt522.2.2.2.1 bt522.2.2.2.2.1)) else (spec_GetEntry.j0 k bt517.1 true (⟨#[]⟩ : ByteArray) 0 0 0 (⟨#[]⟩ : ByteArray) bt522.1 bt522.2.1 bt522.2.2.1 bt522.2.2.2.1 bt522.2.2.2.2.1)) else (spec_GetEntry.j0 k bt517.1 true (⟨#[]⟩ : ByteArray) 0 0 0 (⟨#[]⟩ : ByteArray) bt522.1 bt522.2.1 bt522.2.2.1 bt522.2.2.2.1 bt522.2.2.2.2.1)))))) else (none)
set_option maxHeartbeats 8000000 in
set_option maxRecDepth 100000 in
theorem spec_GetEntry.calls (k : Nat) (a0 : ByteArray) (r1 : ByteArray) (r2 : Int) (r3 : Int) (r4 : Int) (r5 : ByteArray) (r6 : List (S35)) (r7 : Bool) (w : World) (h : spec_GetEntry.f k a0 = some (r1, r2, r3, r4, r5, r6, r7)) :
  Calls Tryz.prog 18 #[.string a0] w fun e w' => ∃ v5_ : Value, e = .returned (.tuple #[.agg #[.string r1, .int .i64 r2, .int .i64 r3, .int .i64 r4, .string r5, v5_], .bool r7]) ∧ Kd.R k35 35 w' w.heap.size (fun _ => True) v5_ r6 ∧ Below w.heap.size w w' := by
 have hu28 := Tryz.underlying28
 have hu35 := Tryz.underlying35
 have hu25 := Tryz.underlying25
 have HB := zn (Below.refl w.heap.size w)
 have H := h
 unfold spec_GetEntry.f at H
 clear h
 by_cases c2 : a0.size ≤ 9223372036854775807
 ·rw [if_pos c2] at H
  have c2b0 := eq_true c2
  have c2b1 := decide_eq_true c2
  try have c2b2 : (9223372036854775807 < a0.size) = False := eq_false (Nat.not_lt.2 c2)
  clear c2
  obtain ⟨y511, hy511⟩ : ∃ y_ : List Int, y_ = (bytesOf a0) := ⟨_, rfl⟩
  replace H : ((spec_GetText.f k y511 0).bind fun bt514 => ((spec_GetTexts.f k y511 bt514.2.1).bind fun bt517 => ((spec_ParseName.f k bt514.1).bind fun bt522 => (if bt514.2.2 = true then (if bt517.2.2 = true then (if bt522.2.2.2.2.2 = true then (spec_GetEntry.j0 k bt517.1 (bt517.2.1 != (y511.length : Int)) (⟨#[]⟩ : ByteArray) 0 0 0 (⟨#[]⟩ : ByteArray) bt522.1 bt522.2.1 bt522.2.2.1 bt522.2.2.2.1 bt522.2.2.2.2.1) else (spec_GetEntry.j0 k bt517.1 true (⟨#[]⟩ : ByteArray) 0 0 0 (⟨#[]⟩ : ByteArray) bt522.1 bt522.2.1 bt522.2.2.1 bt522.2.2.2.1 bt522.2.2.2.2.1)) else (spec_GetEntry.j0 k bt517.1 true (⟨#[]⟩ : ByteArray) 0 0 0 (⟨#[]⟩ : ByteArray) bt522.1 bt522.2.1 bt522.2.2.1 bt522.2.2.2.1 bt522.2.2.2.2.1)) else (spec_GetEntry.j0 k bt517.1 true (⟨#[]⟩ : ByteArray) 0 0 0 (⟨#[]⟩ : ByteArray) bt522.1 bt522.2.1 bt522.2.2.1 bt522.2.2.2.1 bt522.2.2.2.2.1))))) = some (r1, r2, r3, r4, r5, r6, r7) := by first | (rw [hy511]; with_reducible exact H) | (have H2_ := (Option.bind_some _ _).symm.trans H; rw [hy511]; with_reducible exact H2_) | (have H2_ := (Option.bind_some _ _).symm.trans H; with_reducible exact H2_) | with_reducible exact H | (rw [hy511]; exact H) | exact H
  have Ny511 := zn hy511
  clear hy511
  obtain ⟨⟨t514, t515, t516⟩, A3, H⟩ := zm H
  try dsimp only at H
  obtain ⟨⟨t517, t518, t519⟩, A4, H⟩ := zm H
  try dsimp only at H
  obtain ⟨⟨t522, t523, t524, t525, t526, t527⟩, A5, H⟩ := zm H
  try dsimp only at H
  have HC6 := zn H
  clear H
  go_enter Tryz.func18, Tryz.ntmps18
  go_upto_region 6 with (first | ((with_reducible refine zr 2 rfl ?_); (try (refine gate_guard z2b ?_; dsimp only)); refine zt 28 #[.string ⟨#[]⟩, .int .i64 0, .int .i64 0, .int .i64 0, .string ⟨#[]⟩, .slice none 0 0] ?_; intro gb509 hg w7 hbox hb; have n_ := zv (below_step z1r hb) hbox (z8j : w.heap.size ≤ gb509) (z8j : w.heap.size ≤ gb509); clear HB; obtain ⟨HB, BK509, GW509, GE509⟩ := n_; clear hb hbox hg) | ((with_reducible refine zr 4 rfl ?_); (try (refine gate_guard z2b ?_; dsimp only)); refine zt 28 #[.string ⟨#[]⟩, .int .i64 0, .int .i64 0, .int .i64 0, .string ⟨#[]⟩, .slice none 0 0] ?_; intro gb510 hg w8 hbox hb; have n_ := z1b (blk_below (zu BK509.out) hb) (below_step z4p hb) hbox ((by rw [hg]; exact (below_size z4p) : w.heap.size ≤ gb510)) ((by rw [hg]; exact (below_size z4p) : w.heap.size ≤ gb510)) (z4q : gb509 ≠ gb510) (z4r : gb510 ≠ gb509); clear BK509 HB; obtain ⟨BK509, HB, BK510, GW510, GE510, NB509_510, NB510_509⟩ := n_; clear hb hbox hg; have hnb9 := NB510_509.out; have hnc9 := NB509_510.out; obtain ⟨hcz10_0, hcz10_1, hcz10_2, hcz10_3, hcz10_4, hcz10_5, hfz10_0, hfz10_1, hfz10_2, hfz10_3, hfz10_4, hfz10_5⟩ := zh BK510.out) | ((with_reducible refine zr 20 rfl ?_); (try (refine gate_guard z2b ?_; dsimp only)); refine Y.conv_event ?hg (N := 20) ?hd 9 22 5 (.tmp 19) ?ho a0 ?hx Tryz.underlying9 Tryz.underlying22 Tryz.underlying5 y511 Ny511.out (of_decide_eq_true z1p) ?_; (case hd => exact z2b); (case hg => exact z2b); (case ho => exact z2b); (case hx => exact z2b); intro Av511 cv511 w11 hC hcap hb; have n_ := z1h (blk_below (g := gb509) (o := .cells #[.string ⟨#[]⟩, .int .i64 0, .int .i64 0, .int .i64 0, .string ⟨#[]⟩, .slice none 0 0] 28 (0, 0)) (by (repeat (first | refine z1a ?_ | refine blk_far ?_ NB509_510.out _)); exact BK509.out) hb) (blk_below (g := gb510) (o := .cells #[.string ⟨#[]⟩, .int .i64 0, .int .i64 0, .int .i64 0, .string ⟨#[]⟩, .slice none 0 0] 28 (0, 0)) (by (repeat refine z1a ?_); refine blk_put (cs := #[.string ⟨#[]⟩, .int .i64 0, .int .i64 0, .int .i64 0, .string ⟨#[]⟩, .slice none 0 0]) ?_ 5 _ rfl; (repeat refine z1a ?_); refine blk_put (cs := #[.string ⟨#[]⟩, .int .i64 0, .int .i64 0, .int .i64 0, .string ⟨#[]⟩, .slice none 0 0]) ?_ 4 _ rfl; (repeat refine z1a ?_); refine blk_put (cs := #[.string ⟨#[]⟩, .int .i64 0, .int .i64 0, .int .i64 0, .string ⟨#[]⟩, .slice none 0 0]) ?_ 3 _ rfl; (repeat refine z1a ?_); refine blk_put (cs := #[.string ⟨#[]⟩, .int .i64 0, .int .i64 0, .int .i64 0, .string ⟨#[]⟩, .slice none 0 0]) ?_ 2 _ rfl; (repeat refine z1a ?_); refine blk_put (cs := #[.string ⟨#[]⟩, .int .i64 0, .int .i64 0, .int .i64 0, .string ⟨#[]⟩, .slice none 0 0]) ?_ 1 _ rfl; (repeat refine z1a ?_); refine blk_put (cs := #[.string ⟨#[]⟩, .int .i64 0, .int .i64 0, .int .i64 0, .string ⟨#[]⟩, .slice none 0 0]) ?_ 0 _ rfl; (repeat refine z1a ?_); exact BK510.out) hb) (below_step z4s hb) hC hcap; clear BK509 BK510 HB; obtain ⟨BK509, BK510, HB, HRv511, HCv511⟩ := n_; clear hb hC hcap) | ((with_reducible refine zi 43 rfl ?_); refine zj (some 23) Tryz.func43 #[.slice Av511 y511.length cv511, .int .i64 0] rfl ?_; (with_reducible refine (spec_GetText.calls k _ _ y511 0 t514 t515 t516 _ ?side1 ?side2 A3.out).mono ?_); (case side1 => repeat (first | exact z4t | (with_reducible refine Kd.C_alloc ?_ _) | (with_reducible refine Kd.C_drewN ?_ _) | (with_reducible refine Kd.C_drew ?_))); (case side2 => exact HCv511.out); rintro e w' ⟨rfl, ⟨nd, rfl⟩⟩; refine ⟨_, rfl, ?_⟩; (try (rw [drewN_self w11]; generalize hq_ : World.drewN w11 _ = w11; have n0_ : Aside0 (w11.heap[gb509]? = some (.cells #[.string ⟨#[]⟩, .int .i64 0, .int .i64 0, .int .i64 0, .string ⟨#[]⟩, .slice none 0 0] 28 (0, 0))) := ⟨by rw [← hq_]; exact (by (repeat refine z1a ?_); exact BK509.out)⟩; have n1_ : Aside0 (w11.heap[gb510]? = some (.cells #[.string ⟨#[]⟩, .int .i64 0, .int .i64 0, .int .i64 0, .string ⟨#[]⟩, .slice none 0 0] 28 (0, 0))) := ⟨by rw [← hq_]; exact (by (repeat refine z1a ?_); exact BK510.out)⟩; have n2_ : Aside0 (Below w.heap.size w w11) := ⟨by rw [← hq_]; exact z4s⟩; have n3_ : Aside0 (Kd.C (Kd.int .u8) w11 Av511 y511.length y511) := ⟨by rw [← hq_]; exact z4t⟩; clear BK509 BK510 HB HRv511 hq_; have BK509 := n0_; have BK510 := n1_; have HB := n2_; have HRv511 := n3_; clear n0_ n1_ n2_ n3_))) | ((with_reducible refine zi 44 rfl ?_); refine zj (some 30) Tryz.func44 #[.slice Av511 y511.length cv511, .int .i64 t515] rfl ?_; (with_reducible refine (spec_GetTexts.calls k _ _ y511 t515 t517 t518 t519 _ ?side1 ?side2 A4.out).mono ?_); (case side1 => repeat (first | exact z4t | (with_reducible refine Kd.C_alloc ?_ _) | (with_reducible refine Kd.C_drewN ?_ _) | (with_reducible refine Kd.C_drew ?_))); (case side2 => exact HCv511.out); rintro e w12 ⟨v520, rfl, ho0, hb⟩; refine ⟨_, rfl, ?_⟩; have n_ := z1h (Kd.R_lower ho0 (below_size z4s)) (blk_below (zu BK509.out) hb) (blk_below (zu BK510.out) hb) (Kd.C_below z4t hb) (below_step z4s hb); clear BK509 BK510 HRv511 HB; obtain ⟨HO521, BK509, BK510, HRv511, HB⟩ := n_; (try clear hb); (try clear ho0)) | ((with_reducible refine zi 24 rfl ?_); refine zj (some 36) Tryz.func24 #[.string t514] rfl ?_; (with_reducible refine (spec_ParseName.calls k t514 t522 t523 t524 t525 t526 t527 _ A5.out).mono ?_); rintro e w13 ⟨rfl, hb⟩; refine ⟨_, rfl, ?_⟩; have n_ := z1h (Kd.R_below (by (with_reducible repeat (first | apply Kd.R_alloc | apply Kd.R_drewN | apply Kd.R_drew)); exact HO521.out) hb) (blk_below (zu BK509.out) hb) (blk_below (zu BK510.out) hb) (Kd.C_below z4t hb) (below_step z4s hb); clear HO521 BK509 BK510 HRv511 HB; obtain ⟨HO521, BK509, BK510, HRv511, HB⟩ := n_; (try clear hb)) | ((with_reducible refine zr 12 rfl ?_); (try (refine gate_guard z2b ?_; dsimp only)); refine zt 35 #[.string ⟨#[]⟩, .int .i64 0, .int .i64 0, .int .i64 0, .string ⟨#[]⟩] ?_; intro gb528 hg w14 hbox hb; have n_ := z1g (Kd.R_below (by (with_reducible repeat (first | apply Kd.R_alloc | apply Kd.R_drewN | apply Kd.R_drew)); exact HO521.out) hb) (z1g (blk_below (zu BK509.out) hb) (z1g (blk_below (zu BK510.out) hb) (z1g (Kd.C_below z4t hb) (z1g (below_step z4s hb) (z1g hbox (z1g ((by rw [hg]; exact (below_size z4s) : w.heap.size ≤ gb528)) (z1e ((by rw [hg]; exact (below_size z4s) : w.heap.size ≤ gb528)) (z4q : gb509 ≠ gb528) (z4r : gb528 ≠ gb509) (z4u : gb510 ≠ gb528) (z4v : gb528 ≠ gb510) ((by rw [hg]; exact blk_lt (zu BK509.out) : gb509 < gb528)) ((by rw [hg]; exact blk_lt (zu BK510.out) : gb510 < gb528)) ((by rw [hg]; exact Y.conv_far z4t : ∀ ad, Av511 = some ad → 0 < y511.length → ad.block < gb528))))))))); clear HO521 BK509 BK510 HRv511 HB; obtain ⟨HO521, BK509, BK510, HRv511, HB, BK528, GW528, GE528, NB509_528, NB528_509, NB510_528, NB528_510, NL509_528, NL510_528, HFv511⟩ := n_; clear hb hbox hg; have hnb15 := NB528_509.out; have hnc15 := NB509_528.out; have hnb16 := NB528_510.out; have hnc16 := NB510_528.out; obtain ⟨hcz17_0, hcz17_1, hcz17_2, hcz17_3, hcz17_4, hfz17_0, hfz17_1, hfz17_2, hfz17_3, hfz17_4⟩ := zg BK528.out))
  (try simp only [Act.put, z9e, z9f, z9g])
  go_cut [54] (fun v54 wc => ∃ (kq : Nat) (x54_5 : Bool), v54 = .bool x54_5 ∧ Aside0 (spec_GetEntry.j0 kq t517 x54_5 (⟨#[]⟩ : ByteArray) 0 0 0 (⟨#[]⟩ : ByteArray) t522 t523 t524 t525 t526 = some (r1, r2, r3, r4, r5, r6, r7)) ∧ Aside0 (kq ≤ k) ∧ Aside0 (Kd.R Kd.string 9 wc w.heap.size (fun _ => True) v520 t517) ∧ Aside0 (wc.heap[gb509]? = some (.cells #[.string ⟨#[]⟩, .int .i64 0, .int .i64 0, .int .i64 0, .string ⟨#[]⟩, (.slice none 0 0)] 28 (0, 0))) ∧ Aside0 (wc.heap[gb510]? = some (.cells #[.string ⟨#[]⟩, .int .i64 0, .int .i64 0, .int .i64 0, .string ⟨#[]⟩, (.slice none 0 0)] 28 (0, 0))) ∧ Aside0 (wc.heap[gb528]? = some (.cells #[.string t522, .int .i64 t523, .int .i64 t524, .int .i64 t525, .string t526] 35 (0, 0))) ∧ Aside0 (Below w.heap.size w wc))
  case first =>
   have H := HC6.out
   clear HC6
   by_cases c18 : t516 = true
   ·subst c18
    rw [if_pos rfl] at H
    by_cases c19 : t519 = true
    ·subst c19
     rw [if_pos rfl] at H
     by_cases c20 : t527 = true
     ·subst c20
      rw [if_pos rfl] at H
      have H' := zn H
      clear H
      go_wp2
      go_meet
      case rel => exact ⟨_, ((t518 != (y511.length : Int))), z1n, H', ⟨z1v⟩, ⟨z8s⟩, ⟨z4w⟩, ⟨z4x⟩, ⟨z4y⟩, ⟨z4z⟩⟩
     ·replace c20 := Bool.eq_false_iff.mpr c20
      subst c20
      rw [if_neg zk] at H
      have H' := zn H
      clear H
      go_wp2
      go_meet
      case rel => exact ⟨_, (true), z1n, H', ⟨z1v⟩, ⟨z8s⟩, ⟨z4w⟩, ⟨z4x⟩, ⟨z4y⟩, ⟨z4z⟩⟩
    ·replace c19 := Bool.eq_false_iff.mpr c19
     subst c19
     rw [if_neg zk] at H
     have H' := zn H
     clear H
     go_wp2
     go_meet
     case rel => exact ⟨_, (true), z1n, H', ⟨z1v⟩, ⟨z8s⟩, ⟨z4w⟩, ⟨z4x⟩, ⟨z4y⟩, ⟨z4z⟩⟩
   ·replace c18 := Bool.eq_false_iff.mpr c18
    subst c18
    rw [if_neg zk] at H
    have H' := zn H
    clear H
    go_wp2
    go_meet
    case rel => exact ⟨_, (true), z1n, H', ⟨z1v⟩, ⟨z8s⟩, ⟨z4w⟩, ⟨z4x⟩, ⟨z4y⟩, ⟨z4z⟩⟩
  case rest =>
   clear HC6
   try clear c1
   try clear c2
   try clear c2b0
   try clear c2b1
   try clear c2b2
   try clear p2
   try clear c4
   try clear c9
   try clear c15
   try clear c16
   try clear c18
   try clear c19
   try clear c20
   try clear hcz10_0
   try clear hcz10_1
   try clear hcz10_2
   try clear hcz10_3
   try clear hcz10_4
   try clear hcz10_5
   try clear hcz17_0
   try clear hcz17_1
   try clear hcz17_2
   try clear hcz17_3
   try clear hcz17_4
   try clear hfz10_0
   try clear hfz10_1
   try clear hfz10_2
   try clear hfz10_3
   try clear hfz10_4
   try clear hfz10_5
   try clear hfz17_0
   try clear hfz17_1
   try clear hfz17_2
   try clear hfz17_3
   try clear hfz17_4
   obtain ⟨kq, x54_5, rfl, HA, HJ5, HO_9, BK509, BK510, BK528, HB⟩ := hcut
   cases kq with
   | zero => exact absurd HA.out (by simp [spec_GetEntry.j0])
   | succ kj5 =>
    have H := HA.out
    clear HA
    simp only [spec_GetEntry.j0] at H
    by_cases c21 : x54_5 = true
    ·subst c21
     rw [if_pos rfl] at H
     simp only [Option.some.injEq, Prod.mk.injEq] at H
     obtain ⟨rfl, rfl, rfl, rfl, rfl, rfl, rfl⟩ := H
     have hnb22 := NB510_509.out
     have hnc22 := NB509_510.out
     have hnb23 := NB510_528.out
     have hnc23 := NB528_510.out
     obtain ⟨hcz24_0, hcz24_1, hcz24_2, hcz24_3, hcz24_4, hcz24_5, hfz24_0, hfz24_1, hfz24_2, hfz24_3, hfz24_4, hfz24_5⟩ := zh BK510.out
     have hnb25 := NB509_528.out
     have hnc25 := NB528_509.out
     obtain ⟨hcz26_0, hcz26_1, hcz26_2, hcz26_3, hcz26_4, hcz26_5, hfz26_0, hfz26_1, hfz26_2, hfz26_3, hfz26_4, hfz26_5⟩ := zh BK509.out
     go_wp2
     refine bodyPost_ret (results_ct rfl _ _ gb509 28 #[.string ⟨#[]⟩, .int .i64 0, .int .i64 0, .int .i64 0, .string ⟨#[]⟩, .slice none 0 0] (0, 0) _ rfl (by (repeat refine z1a ?_); refine blk_put (cs := #[.string ⟨#[]⟩, .int .i64 0, .int .i64 0, .int .i64 0, .string ⟨#[]⟩, .slice none 0 0]) ?_ 5 _ rfl; (repeat refine z1a ?_); refine blk_put (cs := #[.string ⟨#[]⟩, .int .i64 0, .int .i64 0, .int .i64 0, .string ⟨#[]⟩, .slice none 0 0]) ?_ 4 _ rfl; (repeat refine z1a ?_); refine blk_put (cs := #[.string ⟨#[]⟩, .int .i64 0, .int .i64 0, .int .i64 0, .string ⟨#[]⟩, .slice none 0 0]) ?_ 3 _ rfl; (repeat refine z1a ?_); refine blk_put (cs := #[.string ⟨#[]⟩, .int .i64 0, .int .i64 0, .int .i64 0, .string ⟨#[]⟩, .slice none 0 0]) ?_ 2 _ rfl; (repeat refine z1a ?_); refine blk_put (cs := #[.string ⟨#[]⟩, .int .i64 0, .int .i64 0, .int .i64 0, .string ⟨#[]⟩, .slice none 0 0]) ?_ 1 _ rfl; (repeat refine z1a ?_); refine blk_put (cs := #[.string ⟨#[]⟩, .int .i64 0, .int .i64 0, .int .i64 0, .string ⟨#[]⟩, .slice none 0 0]) ?_ 0 _ rfl; (repeat refine z1a ?_); exact BK509.out) Tryz.underlying28 rfl z1m) rfl ?_
     exact ⟨_, z1t, z2p, z4z⟩
    ·replace c21 := Bool.eq_false_iff.mpr c21
     subst c21
     rw [if_neg zk] at H
     have H' := zn H
     clear H
     have hnb27 := NB528_509.out
     have hnc27 := NB509_528.out
     have hnb28 := NB528_510.out
     have hnc28 := NB510_528.out
     obtain ⟨hcz29_0, hcz29_1, hcz29_2, hcz29_3, hcz29_4, hfz29_0, hfz29_1, hfz29_2, hfz29_3, hfz29_4⟩ := zg BK528.out
     go_wp2_with (first | ((with_reducible refine zr 14 rfl ?_); (try (refine gate_guard z2b ?_; dsimp only)); refine zt 28 #[.string ⟨#[]⟩, .int .i64 0, .int .i64 0, .int .i64 0, .string ⟨#[]⟩, .slice none 0 0] ?_; intro gb529 hg w30 hbox hb; have n_ := z1g (Kd.R_below z5a hb) (z1g (blk_below (zu BK509.out) hb) (z1g (blk_below (zu BK510.out) hb) (z1g (blk_below (zu BK528.out) hb) (z1g (below_step z4z hb) (z1g hbox (z1e ((by rw [hg]; exact (below_size z4z) : w.heap.size ≤ gb529)) ((by rw [hg]; exact (below_size z4z) : w.heap.size ≤ gb529)) (z4q : gb509 ≠ gb529) (z4r : gb529 ≠ gb509) (z4u : gb510 ≠ gb529) (z4v : gb529 ≠ gb510) (z5b : gb528 ≠ gb529) (z5c : gb529 ≠ gb528))))))); clear HO_9 BK509 BK510 BK528 HB; obtain ⟨HO_9, BK509, BK510, BK528, HB, BK529, GW529, GE529, NB509_529, NB529_509, NB510_529, NB529_510, NB528_529, NB529_528⟩ := n_; clear hb hbox hg; have hnb31 := NB529_509.out; have hnc31 := NB509_529.out; have hnb32 := NB529_510.out; have hnc32 := NB510_529.out; have hnb33 := NB529_528.out; have hnc33 := NB528_529.out; obtain ⟨hcz34_0, hcz34_1, hcz34_2, hcz34_3, hcz34_4, hcz34_5, hfz34_0, hfz34_1, hfz34_2, hfz34_3, hfz34_4, hfz34_5⟩ := zh BK529.out))
     go_loopg [15] kj5 (fun kq v15 w' => ∃ (x15_2 : Int) (x510000_2 : ByteArray) (x510001_2 : Int) (x510002_2 : Int) (x510003_2 : Int) (x510004_2 : ByteArray) (x530005_2 : List (S35)) (u530005 : Value), v15 = .int .i64 x15_2 ∧ Aside0 (spec_GetEntry.l0 kq t517 x15_2 (⟨#[]⟩ : ByteArray) 0 0 0 (⟨#[]⟩ : ByteArray) t522 t523 t524 t525 t526 x530005_2 = some (r1, r2, r3, r4, r5, r6, r7)) ∧ Aside0 (kq ≤ kj5) ∧ Aside0 (Kd.R Kd.string 9 w' w.heap.size (fun _ => True) v520 t517) ∧ Aside0 (Kd.R k35 35 w' w.heap.size (fun k_ => k_ ≠ gb528) u530005 x530005_2) ∧ Aside0 (w'.heap[gb509]? = some (.cells #[.string x510000_2, .int .i64 x510001_2, .int .i64 x510002_2, .int .i64 x510003_2, .string x510004_2, (.slice none 0 0)] 28 (0, 0))) ∧ Aside0 (w'.heap[gb510]? = some (.cells #[.string ⟨#[]⟩, .int .i64 0, .int .i64 0, .int .i64 0, .string ⟨#[]⟩, (.slice none 0 0)] 28 (0, 0))) ∧ Aside0 (w'.heap[gb528]? = some (.cells #[.string t522, .int .i64 t523, .int .i64 t524, .int .i64 t525, .string t526] 35 (0, 0))) ∧ Aside0 (w'.heap[gb529]? = some (.cells #[.string t522, .int .i64 t523, .int .i64 t524, .int .i64 t525, .string t526, u530005] 28 (0, 0))) ∧ Aside0 (Below w.heap.size w w'))
     case atStart => exact ⟨(0), ((⟨#[]⟩ : ByteArray)), (0), (0), (0), ((⟨#[]⟩ : ByteArray)), (([] : List (S35))), (.slice none 0 0), z1n, H', ⟨Nat.le_refl _⟩, ⟨by (with_reducible repeat (first | apply Kd.R_alloc | apply Kd.R_drewN | apply Kd.R_drew)); exact Kd.R_mono (z1d gb529 5 (z1d gb529 4 (z1d gb529 3 (z1d gb529 2 (z1d gb529 1 (z1d gb529 0 (Kd.R_types HO_9.out BK529.out z1l) (.string t522)) (.int .i64 t523)) (.int .i64 t524)) (.int .i64 t525)) (.string t526)) (.slice none 0 0)) (fun _ hk => trivial)⟩, ⟨z2p⟩, ⟨by (repeat (first | refine z1a ?_ | refine blk_far ?_ NB509_529.out _)); exact BK509.out⟩, ⟨by (repeat (first | refine z1a ?_ | refine blk_far ?_ NB510_529.out _)); exact BK510.out⟩, ⟨by (repeat (first | refine z1a ?_ | refine blk_far ?_ NB528_529.out _)); exact BK528.out⟩, ⟨by (repeat refine z1a ?_); refine blk_put (cs := #[.string t522, .int .i64 t523, .int .i64 t524, .int .i64 t525, .string t526, .slice none 0 0]) ?_ 5 _ rfl; (repeat refine z1a ?_); refine blk_put (cs := #[.string t522, .int .i64 t523, .int .i64 t524, .int .i64 t525, .string ⟨#[]⟩, .slice none 0 0]) ?_ 4 _ rfl; (repeat refine z1a ?_); refine blk_put (cs := #[.string t522, .int .i64 t523, .int .i64 t524, .int .i64 0, .string ⟨#[]⟩, .slice none 0 0]) ?_ 3 _ rfl; (repeat refine z1a ?_); refine blk_put (cs := #[.string t522, .int .i64 t523, .int .i64 0, .int .i64 0, .string ⟨#[]⟩, .slice none 0 0]) ?_ 2 _ rfl; (repeat refine z1a ?_); refine blk_put (cs := #[.string t522, .int .i64 0, .int .i64 0, .int .i64 0, .string ⟨#[]⟩, .slice none 0 0]) ?_ 1 _ rfl; (repeat refine z1a ?_); refine blk_put (cs := #[.string ⟨#[]⟩, .int .i64 0, .int .i64 0, .int .i64 0, .string ⟨#[]⟩, .slice none 0 0]) ?_ 0 _ rfl; (repeat refine z1a ?_); exact BK529.out⟩, ⟨z5d⟩⟩
     case round =>
      clear H'
      try clear c1
      try clear c2
      try clear c2b0
      try clear c2b1
      try clear c2b2
      try clear p2
      try clear c3
      try clear c4
      try clear c9
      try clear c15
      try clear c16
      try clear c18
      try clear c19
      try clear c20
      try clear c21
      try clear c22
      try clear c23
      try clear c24
      try clear c25
      try clear c27
      try clear c28
      try clear c31
      try clear c32
      try clear c33
      try clear hcz10_0
      try clear hcz10_1
      try clear hcz10_2
      try clear hcz10_3
      try clear hcz10_4
      try clear hcz10_5
      try clear hcz17_0
      try clear hcz17_1
      try clear hcz17_2
      try clear hcz17_3
      try clear hcz17_4
      try clear hcz24_0
      try clear hcz24_1
      try clear hcz24_2
      try clear hcz24_3
      try clear hcz24_4
      try clear hcz24_5
      try clear hcz26_0
      try clear hcz26_1
      try clear hcz26_2
      try clear hcz26_3
      try clear hcz26_4
      try clear hcz26_5
      try clear hcz29_0
      try clear hcz29_1
      try clear hcz29_2
      try clear hcz29_3
      try clear hcz29_4
      try clear hcz34_0
      try clear hcz34_1
      try clear hcz34_2
      try clear hcz34_3
      try clear hcz34_4
      try clear hcz34_5
      try clear hfz10_0
      try clear hfz10_1
      try clear hfz10_2
      try clear hfz10_3
      try clear hfz10_4
      try clear hfz10_5
      try clear hfz17_0
      try clear hfz17_1
      try clear hfz17_2
      try clear hfz17_3
      try clear hfz17_4
      try clear hfz24_0
      try clear hfz24_1
      try clear hfz24_2
      try clear hfz24_3
      try clear hfz24_4
      try clear hfz24_5
      try clear hfz26_0
      try clear hfz26_1
      try clear hfz26_2
      try clear hfz26_3
      try clear hfz26_4
      try clear hfz26_5
      try clear hfz29_0
      try clear hfz29_1
      try clear hfz29_2
      try clear hfz29_3
      try clear hfz29_4
      try clear hfz34_0
      try clear hfz34_1
      try clear hfz34_2
      try clear hfz34_3
      try clear hfz34_4
      try clear hfz34_5
      try clear p2
      obtain ⟨x15_2, x510000_2, x510001_2, x510002_2, x510003_2, x510004_2, x530005_2, u530005, rfl, HA, HK2, HO_9, HO_530005, BK509, BK510, BK528, BK529, HB⟩ := hrel
      cases gk with
      | zero => exact absurd HA.out (by simp [spec_GetEntry.l0])
      | succ k2 =>
       have H := HA.out
       clear HA
       simp only [spec_GetEntry.l0] at H
       by_cases c35 : x15_2 < (t517.length : Int)
       ·rw [if_pos c35] at H
        have c35b0 := decide_eq_true c35
        clear c35
        by_cases c36 : 0 ≤ x15_2
        ·rw [if_pos c36] at H
         have c36b0 := decide_eq_true c36
         clear c36
         obtain ⟨⟨t531, t532, t533, t534, t535, t536⟩, A37, H⟩ := zm H
         try dsimp only at H
         by_cases c38 : t536 = true
         ·subst c38
          rw [if_pos rfl] at H
          by_cases c39 : x530005_2.length < 2513169434916
          ·rw [if_pos c39] at H
           have LMc39 := zn c39
           clear c39
           obtain ⟨y538, hy538⟩ : ∃ y_ : List (S35), y_ = (x530005_2 ++ [(⟨t531, (⟨t532, t533, t534, t535⟩ : S25)⟩ : S35)]) := ⟨_, rfl⟩
           replace H : (spec_GetEntry.l0 k2 t517 (wrap64 (x15_2 + 1)) (⟨#[]⟩ : ByteArray) 0 0 0 (⟨#[]⟩ : ByteArray) t522 t523 t524 t525 t526 y538) = some (r1, r2, r3, r4, r5, r6, r7) := by first | (rw [hy538]; with_reducible exact H) | (have H2_ := (Option.bind_some _ _).symm.trans H; rw [hy538]; with_reducible exact H2_) | (have H2_ := (Option.bind_some _ _).symm.trans H; with_reducible exact H2_) | with_reducible exact H | (rw [hy538]; exact H) | exact H
           have Ny538 := zn hy538
           clear hy538
           have H' := zn H
           clear H
           obtain ⟨Ao40, co40, eo40⟩ := Kd.R_slice HO_9.out
           subst eo40
           have p530 : 0 ≤ (x15_2 : Int) := of_decide_eq_true z1p
           have q530 : x15_2 < (t517.length : Int) := of_decide_eq_true z1p
           obtain ⟨ad530, e530, hx530_0⟩ := Kd.at_string (Kd.R_reads' HO_9.out).2.2 x15_2 p530 q530
           cases e530
           replace p530 := eq_true p530
           replace q530 := eq_true q530
           go_wp2_with (first | ((with_reducible refine zi 24 rfl ?_); refine zj (some 72) Tryz.func24 #[.string (rdOf ByteArray.empty t517 x15_2)] rfl ?_; (with_reducible refine (spec_ParseName.calls k2 (rdOf ByteArray.empty t517 x15_2) t531 t532 t533 t534 t535 true _ A37.out).mono ?_); rintro e w41 ⟨rfl, hb⟩; refine ⟨_, rfl, ?_⟩; have n_ := z1b (Kd.R_below z5a hb) (Kd.R_below z5e hb) (blk_below (zu BK509.out) hb) (blk_below (zu BK510.out) hb) (blk_below (zu BK528.out) hb) (blk_below (zu BK529.out) hb) (below_step z5d hb); clear HO_9 HO_530005 BK509 BK510 BK528 BK529 HB; obtain ⟨HO_9, HO_530005, BK509, BK510, BK528, BK529, HB⟩ := n_; (try clear hb)) | ((with_reducible refine zr 16 rfl ?_); (try (refine gate_guard z2b ?_; dsimp only)); refine zt 35 #[.string ⟨#[]⟩, .int .i64 0, .int .i64 0, .int .i64 0, .string ⟨#[]⟩] ?_; intro gb537 hg w42 hbox hb; have n_ := z1g (Kd.R_below z5a hb) (z1g (Kd.R_below (Kd.R_elderB z5e gb537 (Nat.le_of_eq hg.symm)) hb) (z1g (blk_below (zu BK509.out) hb) (z1g (blk_below (zu BK510.out) hb) (z1g (blk_below (zu BK528.out) hb) (z1g (blk_below (zu BK529.out) hb) (z1g (below_step z5d hb) (z1g hbox (z1g (z8t : w.heap.size ≤ gb537) (z1g (z8t : w.heap.size ≤ gb537) (z1e (z4q : gb509 ≠ gb537) (z4r : gb537 ≠ gb509) (z4u : gb510 ≠ gb537) (z4v : gb537 ≠ gb510) (z5b : gb528 ≠ gb537) (z5c : gb537 ≠ gb528) ((by rw [hg]; exact Nat.ne_of_lt (blk_lt (zu BK529.out)) : gb529 ≠ gb537)) ((by rw [hg]; exact Nat.ne_of_gt (blk_lt (zu BK529.out)) : gb537 ≠ gb529)))))))))))); clear HO_9 HO_530005 BK509 BK510 BK528 BK529 HB; obtain ⟨HO_9, HO_530005, BK509, BK510, BK528, BK529, HB, BK537, GW537, GE537, NB509_537, NB537_509, NB510_537, NB537_510, NB528_537, NB537_528, NB529_537, NB537_529⟩ := n_; clear hb hbox hg; have hnb43 := NB537_509.out; have hnc43 := NB509_537.out; have hnb44 := NB537_510.out; have hnc44 := NB510_537.out; have hnb45 := NB537_528.out; have hnc45 := NB528_537.out; have hnb46 := NB537_529.out; have hnc46 := NB529_537.out; obtain ⟨hcz47_0, hcz47_1, hcz47_2, hcz47_3, hcz47_4, hfz47_0, hfz47_1, hfz47_2, hfz47_3, hfz47_4⟩ := zg BK537.out; have hnb48 := NB529_509.out; have hnc48 := NB509_529.out; have hnb49 := NB529_510.out; have hnc49 := NB510_529.out; have hnb50 := NB529_528.out; have hnc50 := NB528_529.out; obtain ⟨hcz51_0, hcz51_1, hcz51_2, hcz51_3, hcz51_4, hcz51_5, hfz51_0, hfz51_1, hfz51_2, hfz51_3, hfz51_4, hfz51_5⟩ := zh BK529.out) | ((with_reducible refine gate_builtin (b := .append) (xs := #[.tmp 79, .tmp 81]) rfl ?_); (try (refine gate_guard z2b ?_; dsimp only)); at_builtin; refine Kd.R_append k35 (w0 := w) w.heap.size rfl (.tmp 79) (.tmp 81) 26 35 (.agg #[(.string ⟨#[]⟩), (.int .i64 0), (.int .i64 0), (.int .i64 0), (.string ⟨#[]⟩)]) 56 rfl Tryz.underlying26 info35 rfl z1l z1k u530005 x530005_2 (⟨t531, (⟨t532, t533, t534, t535⟩ : S25)⟩ : S35) [.string t531, .int .i64 t532, .int .i64 t533, .int .i64 t534, .string t535] (fun k_ => k_ ≠ gb528 ∧ k_ ≠ gb537) (fun _ => False) rfl z3t ?aP (fun _ hk => hk.elim) ?aF ?aO ?aB ?aS ?aL ?_; (case aP => exact k35_mkM _ _ _ (⟨t531, (⟨t532, t533, t534, t535⟩ : S25)⟩ : S35)); (case aB => exact z5f); (case aF => exact (fun k_ hk => ⟨Kd.freshB (g := gb528) (o := .cells #[.string t522, .int .i64 t523, .int .i64 t524, .int .i64 t525, .string t526] 35 (0, 0)) (by (repeat (first | refine z1a ?_ | refine blk_far ?_ NB528_537.out _)); exact BK528.out) k_ hk, Kd.freshB (g := gb537) (o := .cells #[.string t531, .int .i64 t532, .int .i64 t533, .int .i64 t534, .string t535] 35 (0, 0)) (by (repeat refine z1a ?_); refine blk_put (cs := #[.string t531, .int .i64 t532, .int .i64 t533, .int .i64 t534, .string ⟨#[]⟩]) ?_ 4 _ rfl; (repeat refine z1a ?_); refine blk_put (cs := #[.string t531, .int .i64 t532, .int .i64 t533, .int .i64 0, .string ⟨#[]⟩]) ?_ 3 _ rfl; (repeat refine z1a ?_); refine blk_put (cs := #[.string t531, .int .i64 t532, .int .i64 0, .int .i64 0, .string ⟨#[]⟩]) ?_ 2 _ rfl; (repeat refine z1a ?_); refine blk_put (cs := #[.string t531, .int .i64 0, .int .i64 0, .int .i64 0, .string ⟨#[]⟩]) ?_ 1 _ rfl; (repeat refine z1a ?_); refine blk_put (cs := #[.string ⟨#[]⟩, .int .i64 0, .int .i64 0, .int .i64 0, .string ⟨#[]⟩]) ?_ 0 _ rfl; (repeat refine z1a ?_); exact BK537.out) k_ hk⟩)); (case aO => exact (by (with_reducible repeat (first | apply Kd.R_alloc | apply Kd.R_drewN | apply Kd.R_drew)); exact Kd.R_mono (z1d gb537 4 (z1d gb537 3 (z1d gb537 2 (z1d gb537 1 (z1d gb537 0 (Kd.R_mono HO_530005.out (fun k_ hk => (⟨hk, hk.2⟩ : _ ∧ k_ ≠ gb537))) (.string t531)) (.int .i64 t532)) (.int .i64 t533)) (.int .i64 t534)) (.string t535)) (fun _ hk => ⟨hk.1.1, hk.1.2⟩))); (case aS => exact (below_size z5f)); (case aL => have := LMc39.out; omega); intro v539 w52 ho hb hg hat; rw [← Ny538.out] at ho; have n_ := z1e (Kd.R_over' (by (with_reducible repeat (first | apply Kd.R_alloc | apply Kd.R_drewN | apply Kd.R_drew)); exact (Kd.R_mono (z1d gb537 4 (z1d gb537 3 (z1d gb537 2 (z1d gb537 1 (z1d gb537 0 (Kd.R_types HO_9.out BK537.out z1l) (.string t531)) (.int .i64 t532)) (.int .i64 t533)) (.int .i64 t534)) (.string t535)) (fun _ h_ => h_.1))) (Kd.R_typed (by (with_reducible repeat (first | apply Kd.R_alloc | apply Kd.R_drewN | apply Kd.R_drew)); exact (Kd.R_mono (z1d gb537 4 (z1d gb537 3 (z1d gb537 2 (z1d gb537 1 (z1d gb537 0 (Kd.R_mono HO_530005.out (fun k_ hk => (⟨hk, hk.2⟩ : _ ∧ k_ ≠ gb537))) (.string t531)) (.int .i64 t532)) (.int .i64 t533)) (.int .i64 t534)) (.string t535)) (fun _ h_ => h_.1)))) z1l hg) (blk_grown (g := gb509) (o := .cells #[.string x510000_2, .int .i64 x510001_2, .int .i64 x510002_2, .int .i64 x510003_2, .string x510004_2, .slice none 0 0] 28 (0, 0)) (by (repeat (first | refine z1a ?_ | refine blk_far ?_ NB509_537.out _)); exact BK509.out) hg (Kd.R_ne HO_530005.out BK509.out z1l)) (blk_grown (g := gb510) (o := .cells #[.string ⟨#[]⟩, .int .i64 0, .int .i64 0, .int .i64 0, .string ⟨#[]⟩, .slice none 0 0] 28 (0, 0)) (by (repeat (first | refine z1a ?_ | refine blk_far ?_ NB510_537.out _)); exact BK510.out) hg (Kd.R_ne HO_530005.out BK510.out z1l)) (blk_grown (g := gb528) (o := .cells #[.string t522, .int .i64 t523, .int .i64 t524, .int .i64 t525, .string t526] 35 (0, 0)) (by (repeat (first | refine z1a ?_ | refine blk_far ?_ NB528_537.out _)); exact BK528.out) hg (Kd.R_away HO_530005.out (fun _ hk => hk.1))) (blk_grown (g := gb529) (o := .cells #[.string t522, .int .i64 t523, .int .i64 t524, .int .i64 t525, .string t526, u530005] 28 (0, 0)) (by (repeat (first | refine z1a ?_ | refine blk_far ?_ NB529_537.out _)); exact BK529.out) hg (Kd.R_ne HO_530005.out BK529.out z1l)) (blk_grown (g := gb537) (o := .cells #[.string t531, .int .i64 t532, .int .i64 t533, .int .i64 t534, .string t535] 35 (0, 0)) (by (repeat refine z1a ?_); refine blk_put (cs := #[.string t531, .int .i64 t532, .int .i64 t533, .int .i64 t534, .string ⟨#[]⟩]) ?_ 4 _ rfl; (repeat refine z1a ?_); refine blk_put (cs := #[.string t531, .int .i64 t532, .int .i64 t533, .int .i64 0, .string ⟨#[]⟩]) ?_ 3 _ rfl; (repeat refine z1a ?_); refine blk_put (cs := #[.string t531, .int .i64 t532, .int .i64 0, .int .i64 0, .string ⟨#[]⟩]) ?_ 2 _ rfl; (repeat refine z1a ?_); refine blk_put (cs := #[.string t531, .int .i64 0, .int .i64 0, .int .i64 0, .string ⟨#[]⟩]) ?_ 1 _ rfl; (repeat refine z1a ?_); refine blk_put (cs := #[.string ⟨#[]⟩, .int .i64 0, .int .i64 0, .int .i64 0, .string ⟨#[]⟩]) ?_ 0 _ rfl; (repeat refine z1a ?_); exact BK537.out) hg (Kd.R_away HO_530005.out (fun _ hk => hk.2))) hb ho; clear HO_9 BK509 BK510 BK528 BK529 BK537 HB HO_530005; obtain ⟨HO_9, BK509, BK510, BK528, BK529, BK537, HB, HO540⟩ := n_; clear ho hb hg hat; obtain ⟨Ao53, co53, eo53⟩ := Kd.R_slice HO540.out; subst eo53; obtain ⟨hcz54_0, hcz54_1, hcz54_2, hcz54_3, hcz54_4, hcz54_5, hfz54_0, hfz54_1, hfz54_2, hfz54_3, hfz54_4, hfz54_5⟩ := zh BK529.out))
           go_roundg k2
           case measure => have := HJ5.out; have := HK2.out; omega
           case rel => exact ⟨(wrap64 (x15_2 + 1)), (x510000_2), (x510001_2), (x510002_2), (x510003_2), (x510004_2), (y538), (.slice Ao53 y538.length co53), z1n, H', ⟨by have := HJ5.out; have := HK2.out; omega⟩, ⟨by (with_reducible repeat (first | apply Kd.R_alloc | apply Kd.R_drewN | apply Kd.R_drew)); exact Kd.R_mono (z1d gb529 5 (Kd.R_types HO_9.out BK529.out z1l) (.slice Ao53 y538.length co53)) (fun _ hk => trivial)⟩, ⟨by (with_reducible repeat (first | apply Kd.R_alloc | apply Kd.R_drewN | apply Kd.R_drew)); exact Kd.R_mono (z1d gb529 5 (Kd.R_types HO540.out BK529.out z1l) (.slice Ao53 y538.length co53)) (fun _ hk => hk.1.1)⟩, ⟨by (repeat refine z1a ?_); refine blk_far ?_ NB509_529.out _; (repeat refine z1a ?_); exact BK509.out⟩, ⟨by (repeat refine z1a ?_); refine blk_far ?_ NB510_529.out _; (repeat refine z1a ?_); exact BK510.out⟩, ⟨by (repeat refine z1a ?_); refine blk_far ?_ NB528_529.out _; (repeat refine z1a ?_); exact BK528.out⟩, ⟨by (repeat refine z1a ?_); refine blk_put (cs := #[.string t522, .int .i64 t523, .int .i64 t524, .int .i64 t525, .string t526, u530005]) ?_ 5 _ rfl; (repeat refine z1a ?_); exact BK529.out⟩, ⟨z5f⟩⟩
          ·rw [if_neg c39] at H
           exact absurd H (by simp)
         ·replace c38 := Bool.eq_false_iff.mpr c38
          subst c38
          rw [if_neg zk] at H
          simp only [Option.some.injEq, Prod.mk.injEq] at H
          obtain ⟨rfl, rfl, rfl, rfl, rfl, rfl, rfl⟩ := H
          obtain ⟨Ao55, co55, eo55⟩ := Kd.R_slice HO_9.out
          subst eo55
          have p530 : 0 ≤ (x15_2 : Int) := of_decide_eq_true z1p
          have q530 : x15_2 < (t517.length : Int) := of_decide_eq_true z1p
          obtain ⟨ad530, e530, hx530_0⟩ := Kd.at_string (Kd.R_reads' HO_9.out).2.2 x15_2 p530 q530
          cases e530
          replace p530 := eq_true p530
          replace q530 := eq_true q530
          go_wp2_with (first | ((with_reducible refine zi 24 rfl ?_); refine zj (some 72) Tryz.func24 #[.string (rdOf ByteArray.empty t517 x15_2)] rfl ?_; (with_reducible refine (spec_ParseName.calls k2 (rdOf ByteArray.empty t517 x15_2) t531 t532 t533 t534 t535 false _ A37.out).mono ?_); rintro e w56 ⟨rfl, hb⟩; refine ⟨_, rfl, ?_⟩; have n_ := z1b (Kd.R_below z5a hb) (Kd.R_below z5e hb) (blk_below (zu BK509.out) hb) (blk_below (zu BK510.out) hb) (blk_below (zu BK528.out) hb) (blk_below (zu BK529.out) hb) (below_step z5d hb); clear HO_9 HO_530005 BK509 BK510 BK528 BK529 HB; obtain ⟨HO_9, HO_530005, BK509, BK510, BK528, BK529, HB⟩ := n_; (try clear hb)) | ((with_reducible refine zr 16 rfl ?_); (try (refine gate_guard z2b ?_; dsimp only)); refine zt 35 #[.string ⟨#[]⟩, .int .i64 0, .int .i64 0, .int .i64 0, .string ⟨#[]⟩] ?_; intro gb537 hg w57 hbox hb; have n_ := z1g (Kd.R_below z5a hb) (z1g (Kd.R_below (Kd.R_elderB z5e gb537 (Nat.le_of_eq hg.symm)) hb) (z1g (blk_below (zu BK509.out) hb) (z1g (blk_below (zu BK510.out) hb) (z1g (blk_below (zu BK528.out) hb) (z1g (blk_below (zu BK529.out) hb) (z1g (below_step z5d hb) (z1g hbox (z1g (z8t : w.heap.size ≤ gb537) (z1g (z8t : w.heap.size ≤ gb537) (z1e (z4q : gb509 ≠ gb537) (z4r : gb537 ≠ gb509) (z4u : gb510 ≠ gb537) (z4v : gb537 ≠ gb510) (z5b : gb528 ≠ gb537) (z5c : gb537 ≠ gb528) ((by rw [hg]; exact Nat.ne_of_lt (blk_lt (zu BK529.out)) : gb529 ≠ gb537)) ((by rw [hg]; exact Nat.ne_of_gt (blk_lt (zu BK529.out)) : gb537 ≠ gb529)))))))))))); clear HO_9 HO_530005 BK509 BK510 BK528 BK529 HB; obtain ⟨HO_9, HO_530005, BK509, BK510, BK528, BK529, HB, BK537, GW537, GE537, NB509_537, NB537_509, NB510_537, NB537_510, NB528_537, NB537_528, NB529_537, NB537_529⟩ := n_; clear hb hbox hg; have hnb58 := NB537_509.out; have hnc58 := NB509_537.out; have hnb59 := NB537_510.out; have hnc59 := NB510_537.out; have hnb60 := NB537_528.out; have hnc60 := NB528_537.out; have hnb61 := NB537_529.out; have hnc61 := NB529_537.out; obtain ⟨hcz62_0, hcz62_1, hcz62_2, hcz62_3, hcz62_4, hfz62_0, hfz62_1, hfz62_2, hfz62_3, hfz62_4⟩ := zg BK537.out; have hnb63 := NB510_509.out; have hnc63 := NB509_510.out; have hnb64 := NB510_528.out; have hnc64 := NB528_510.out; have hnb65 := NB510_529.out; have hnc65 := NB529_510.out; obtain ⟨hcz66_0, hcz66_1, hcz66_2, hcz66_3, hcz66_4, hcz66_5, hfz66_0, hfz66_1, hfz66_2, hfz66_3, hfz66_4, hfz66_5⟩ := zh BK510.out; have hnb67 := NB509_528.out; have hnc67 := NB528_509.out; have hnb68 := NB509_529.out; have hnc68 := NB529_509.out; obtain ⟨hcz69_0, hcz69_1, hcz69_2, hcz69_3, hcz69_4, hcz69_5, hfz69_0, hfz69_1, hfz69_2, hfz69_3, hfz69_4, hfz69_5⟩ := zh BK509.out))
          refine bodyPost_ret (results_ct rfl _ _ gb509 28 #[.string ⟨#[]⟩, .int .i64 0, .int .i64 0, .int .i64 0, .string ⟨#[]⟩, .slice none 0 0] (0, 0) _ rfl (by (repeat refine z1a ?_); refine blk_put (cs := #[.string ⟨#[]⟩, .int .i64 0, .int .i64 0, .int .i64 0, .string ⟨#[]⟩, .slice none 0 0]) ?_ 5 _ rfl; (repeat refine z1a ?_); refine blk_put (cs := #[.string ⟨#[]⟩, .int .i64 0, .int .i64 0, .int .i64 0, .string x510004_2, .slice none 0 0]) ?_ 4 _ rfl; (repeat refine z1a ?_); refine blk_put (cs := #[.string ⟨#[]⟩, .int .i64 0, .int .i64 0, .int .i64 x510003_2, .string x510004_2, .slice none 0 0]) ?_ 3 _ rfl; (repeat refine z1a ?_); refine blk_put (cs := #[.string ⟨#[]⟩, .int .i64 0, .int .i64 x510002_2, .int .i64 x510003_2, .string x510004_2, .slice none 0 0]) ?_ 2 _ rfl; (repeat refine z1a ?_); refine blk_put (cs := #[.string ⟨#[]⟩, .int .i64 x510001_2, .int .i64 x510002_2, .int .i64 x510003_2, .string x510004_2, .slice none 0 0]) ?_ 1 _ rfl; (repeat refine z1a ?_); refine blk_put (cs := #[.string x510000_2, .int .i64 x510001_2, .int .i64 x510002_2, .int .i64 x510003_2, .string x510004_2, .slice none 0 0]) ?_ 0 _ rfl; (repeat (first | refine z1a ?_ | refine blk_far ?_ NB509_537.out _)); exact BK509.out) Tryz.underlying28 rfl z1m) rfl ?_
          exact ⟨_, z1t, z2p, z5f⟩
        ·rw [if_neg c36] at H
         exact absurd H (by simp)
       ·rw [if_neg c35] at H
        have c35b0 := decide_eq_false c35
        clear c35
        obtain ⟨t541, A70, H⟩ := zm H
        try dsimp only at H
        by_cases c71 : t541 = true
        ·subst c71
         rw [if_pos rfl] at H
         simp only [Option.some.injEq, Prod.mk.injEq] at H
         obtain ⟨rfl, rfl, rfl, rfl, rfl, rfl, rfl⟩ := H
         obtain ⟨Ao72, co72, eo72⟩ := Kd.R_slice HO_9.out
         subst eo72
         have hnb73 := NB529_509.out
         have hnc73 := NB509_529.out
         have hnb74 := NB529_510.out
         have hnc74 := NB510_529.out
         have hnb75 := NB529_528.out
         have hnc75 := NB528_529.out
         obtain ⟨hcz76_0, hcz76_1, hcz76_2, hcz76_3, hcz76_4, hcz76_5, hfz76_0, hfz76_1, hfz76_2, hfz76_3, hfz76_4, hfz76_5⟩ := zh BK529.out
         obtain ⟨Ao77, co77, eo77⟩ := Kd.R_slice HO_530005.out
         subst eo77
         go_wp2_with (first | ((with_reducible refine zi 10 rfl ?_); refine zj (some 85) Tryz.func10 #[.agg #[.string t522, .int .i64 t523, .int .i64 t524, .int .i64 t525, .string t526, .slice Ao77 x530005_2.length co77]] rfl ?_; (with_reducible refine (spec_EntryOk.calls k2 t522 t523 t524 t525 t526 _ _ x530005_2 true _ ?side1 ?side2 A70.out).mono ?_); (case side1 => repeat (first | exact (Kd.R_reads' HO_530005.out).2.2 | (with_reducible refine Kd.C_alloc ?_ _) | (with_reducible refine Kd.C_drewN ?_ _) | (with_reducible refine Kd.C_drew ?_))); (case side2 => exact (Kd.R_reads' HO_530005.out).2.1); rintro e w78 ⟨rfl, hb⟩; refine ⟨_, rfl, ?_⟩; have n_ := z1b (Kd.R_below z5a hb) (Kd.R_below z5e hb) (blk_below (zu BK509.out) hb) (blk_below (zu BK510.out) hb) (blk_below (zu BK528.out) hb) (blk_below (zu BK529.out) hb) (below_step z5d hb); clear HO_9 HO_530005 BK509 BK510 BK528 BK529 HB; obtain ⟨HO_9, HO_530005, BK509, BK510, BK528, BK529, HB⟩ := n_; (try clear hb); obtain ⟨hcz79_0, hcz79_1, hcz79_2, hcz79_3, hcz79_4, hcz79_5, hfz79_0, hfz79_1, hfz79_2, hfz79_3, hfz79_4, hfz79_5⟩ := zh BK529.out; have hnb80 := NB509_510.out; have hnc80 := NB510_509.out; have hnb81 := NB509_528.out; have hnc81 := NB528_509.out; obtain ⟨hcz82_0, hcz82_1, hcz82_2, hcz82_3, hcz82_4, hcz82_5, hfz82_0, hfz82_1, hfz82_2, hfz82_3, hfz82_4, hfz82_5⟩ := zh BK509.out))
         refine bodyPost_ret (results_ct rfl _ _ gb509 28 #[.string t522, .int .i64 t523, .int .i64 t524, .int .i64 t525, .string t526, .slice Ao77 x530005_2.length co77] (0, 0) _ rfl (by (repeat refine z1a ?_); refine blk_put (cs := #[.string t522, .int .i64 t523, .int .i64 t524, .int .i64 t525, .string t526, .slice none 0 0]) ?_ 5 _ rfl; (repeat refine z1a ?_); refine blk_put (cs := #[.string t522, .int .i64 t523, .int .i64 t524, .int .i64 t525, .string x510004_2, .slice none 0 0]) ?_ 4 _ rfl; (repeat refine z1a ?_); refine blk_put (cs := #[.string t522, .int .i64 t523, .int .i64 t524, .int .i64 x510003_2, .string x510004_2, .slice none 0 0]) ?_ 3 _ rfl; (repeat refine z1a ?_); refine blk_put (cs := #[.string t522, .int .i64 t523, .int .i64 x510002_2, .int .i64 x510003_2, .string x510004_2, .slice none 0 0]) ?_ 2 _ rfl; (repeat refine z1a ?_); refine blk_put (cs := #[.string t522, .int .i64 x510001_2, .int .i64 x510002_2, .int .i64 x510003_2, .string x510004_2, .slice none 0 0]) ?_ 1 _ rfl; (repeat refine z1a ?_); refine blk_put (cs := #[.string x510000_2, .int .i64 x510001_2, .int .i64 x510002_2, .int .i64 x510003_2, .string x510004_2, .slice none 0 0]) ?_ 0 _ rfl; (repeat refine z1a ?_); exact BK509.out) Tryz.underlying28 rfl z1m) rfl ?_
         exact ⟨_, z1t, by (with_reducible repeat (first | apply Kd.R_alloc | apply Kd.R_drewN | apply Kd.R_drew)); exact Kd.R_mono (z1d gb509 5 (z1d gb509 4 (z1d gb509 3 (z1d gb509 2 (z1d gb509 1 (z1d gb509 0 (Kd.R_types HO_530005.out BK509.out z1l) (.string t522)) (.int .i64 t523)) (.int .i64 t524)) (.int .i64 t525)) (.string t526)) (.slice Ao77 x530005_2.length co77)) (fun _ hk => trivial), z5d⟩
        ·replace c71 := Bool.eq_false_iff.mpr c71
         subst c71
         rw [if_neg zk] at H
         simp only [Option.some.injEq, Prod.mk.injEq] at H
         obtain ⟨rfl, rfl, rfl, rfl, rfl, rfl, rfl⟩ := H
         obtain ⟨Ao83, co83, eo83⟩ := Kd.R_slice HO_9.out
         subst eo83
         have hnb84 := NB529_509.out
         have hnc84 := NB509_529.out
         have hnb85 := NB529_510.out
         have hnc85 := NB510_529.out
         have hnb86 := NB529_528.out
         have hnc86 := NB528_529.out
         obtain ⟨hcz87_0, hcz87_1, hcz87_2, hcz87_3, hcz87_4, hcz87_5, hfz87_0, hfz87_1, hfz87_2, hfz87_3, hfz87_4, hfz87_5⟩ := zh BK529.out
         obtain ⟨Ao88, co88, eo88⟩ := Kd.R_slice HO_530005.out
         subst eo88
         go_wp2_with (first | ((with_reducible refine zi 10 rfl ?_); refine zj (some 85) Tryz.func10 #[.agg #[.string t522, .int .i64 t523, .int .i64 t524, .int .i64 t525, .string t526, .slice Ao88 x530005_2.length co88]] rfl ?_; (with_reducible refine (spec_EntryOk.calls k2 t522 t523 t524 t525 t526 _ _ x530005_2 false _ ?side1 ?side2 A70.out).mono ?_); (case side1 => repeat (first | exact (Kd.R_reads' HO_530005.out).2.2 | (with_reducible refine Kd.C_alloc ?_ _) | (with_reducible refine Kd.C_drewN ?_ _) | (with_reducible refine Kd.C_drew ?_))); (case side2 => exact (Kd.R_reads' HO_530005.out).2.1); rintro e w89 ⟨rfl, hb⟩; refine ⟨_, rfl, ?_⟩; have n_ := z1b (Kd.R_below z5a hb) (Kd.R_below z5e hb) (blk_below (zu BK509.out) hb) (blk_below (zu BK510.out) hb) (blk_below (zu BK528.out) hb) (blk_below (zu BK529.out) hb) (below_step z5d hb); clear HO_9 HO_530005 BK509 BK510 BK528 BK529 HB; obtain ⟨HO_9, HO_530005, BK509, BK510, BK528, BK529, HB⟩ := n_; (try clear hb); have hnb90 := NB510_509.out; have hnc90 := NB509_510.out; have hnb91 := NB510_528.out; have hnc91 := NB528_510.out; obtain ⟨hcz92_0, hcz92_1, hcz92_2, hcz92_3, hcz92_4, hcz92_5, hfz92_0, hfz92_1, hfz92_2, hfz92_3, hfz92_4, hfz92_5⟩ := zh BK510.out; have hnb93 := NB509_528.out; have hnc93 := NB528_509.out; obtain ⟨hcz94_0, hcz94_1, hcz94_2, hcz94_3, hcz94_4, hcz94_5, hfz94_0, hfz94_1, hfz94_2, hfz94_3, hfz94_4, hfz94_5⟩ := zh BK509.out))
         refine bodyPost_ret (results_ct rfl _ _ gb509 28 #[.string ⟨#[]⟩, .int .i64 0, .int .i64 0, .int .i64 0, .string ⟨#[]⟩, .slice none 0 0] (0, 0) _ rfl (by (repeat refine z1a ?_); refine blk_put (cs := #[.string ⟨#[]⟩, .int .i64 0, .int .i64 0, .int .i64 0, .string ⟨#[]⟩, .slice none 0 0]) ?_ 5 _ rfl; (repeat refine z1a ?_); refine blk_put (cs := #[.string ⟨#[]⟩, .int .i64 0, .int .i64 0, .int .i64 0, .string x510004_2, .slice none 0 0]) ?_ 4 _ rfl; (repeat refine z1a ?_); refine blk_put (cs := #[.string ⟨#[]⟩, .int .i64 0, .int .i64 0, .int .i64 x510003_2, .string x510004_2, .slice none 0 0]) ?_ 3 _ rfl; (repeat refine z1a ?_); refine blk_put (cs := #[.string ⟨#[]⟩, .int .i64 0, .int .i64 x510002_2, .int .i64 x510003_2, .string x510004_2, .slice none 0 0]) ?_ 2 _ rfl; (repeat refine z1a ?_); refine blk_put (cs := #[.string ⟨#[]⟩, .int .i64 x510001_2, .int .i64 x510002_2, .int .i64 x510003_2, .string x510004_2, .slice none 0 0]) ?_ 1 _ rfl; (repeat refine z1a ?_); refine blk_put (cs := #[.string x510000_2, .int .i64 x510001_2, .int .i64 x510002_2, .int .i64 x510003_2, .string x510004_2, .slice none 0 0]) ?_ 0 _ rfl; (repeat refine z1a ?_); exact BK509.out) Tryz.underlying28 rfl z1m) rfl ?_
         exact ⟨_, z1t, z2p, z5d⟩
 ·rw [if_neg c2] at H
  exact absurd H (by simp)
end Go.Proofs.YtgdknepphkhnlaaGreatDoor.X
