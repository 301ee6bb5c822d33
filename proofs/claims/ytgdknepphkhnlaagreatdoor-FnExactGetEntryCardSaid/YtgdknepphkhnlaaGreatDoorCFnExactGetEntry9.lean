/- The law FnExactGetEntry, as a plain statement: the program's GetEntry answers as the reference's, and shares no memory with another call's answer. Conditions: those of the row's reading alone. -/
/- Part 10 of 13 of this claim's texts. -/
import Derived.Laws.BitsLemmas
import Derived.Test.YtgdknepphkhnlaaGreatDoorCFnExactGetEntry0
import Derived.Test.YtgdknepphkhnlaaGreatDoorCFnExactGetEntry1
import Derived.Test.YtgdknepphkhnlaaGreatDoorCFnExactGetEntry3
import Derived.Test.YtgdknepphkhnlaaGreatDoorCFnExactGetEntry4
import Derived.Test.YtgdknepphkhnlaaGreatDoorCFnExactGetEntry5
import Derived.Test.YtgdknepphkhnlaaGreatDoorCFnExactGetEntry7
import Derived.Test.YtgdknepphkhnlaaGreatDoorCFnExactGetEntry8
namespace Go.Proofs.YtgdknepphkhnlaaGreatDoor.X
open Go.RowKit Go.Proofs.YtgdknepphkhnlaaGreatDoorW.PrintWords Go.Proofs.YtgdknepphkhnlaaGreatDoorW.PrintLast Go.Proofs.YtgdknepphkhnlaaGreatDoorW.PrintMore
attribute [local go_sem] max2_int min2_int max_two min_two max_three min_three max_four min_four
set_option linter.unusedVariables false
set_option linter.unusedSimpArgs false
def laws_heldNeedS.l0 : Nat → List (S35) → Int → Int → Option (Int)
 | 0, _, _, _ => none
 | k + 1, x0, x1, x5 => if x5 < (x0.length : Int) then (if 0 ≤ x5 then ((laws_markText.f k x1).bind fun t556 => (if ((rd_T35 x0 x5).f0).toList = t556.toList then (if ((rd_T35 x0 x5).f1.f0) = (wrap64 (x1 + 1)) then (if ((rd_T35 x0 x5).f1.f1) = (wrap64 ((wrap64 (x1 + 1)) + 1)) then (if ((rd_T35 x0 x5).f1.f2) = (wrap64 ((wrap64 ((wrap64 (x1 + 1)) + 1)) + 1)) then ((laws_markText.f k (wrap64 ((wrap64 ((wrap64 ((wrap64 (x1 + 1)) + 1)) + 1)) + 1))).bind fun t561 => (if ((rd_T35 x0 x5).f1.f3).toList = t561.toList then (laws_heldNeedS.l0 k x0 (wrap64 ((wrap64 ((wrap64 ((wrap64 ((wrap64 (x1 + 1)) + 1)) + 1)) + 1)) + 1)) (wrap64 (x5 + 1))) else (some (-1)))) else (some (-1))) else (some (-1))) else (some (-1))) else (some (-1)))) else (none)) else (some x1)
def laws_heldNeedS.f (k : Nat) (l0 : List (S35)) (a1 : Int) : Option (Int) := laws_heldNeedS.l0 k l0 a1 0
def laws_heldNeedS.T4 : Bool × List (List Nat × List Nat) := (true, [([], []), ([], []), ([0, 1], [0, 1]), ([2], [2]), ([3], [3]), ([], []), ([5], [5]), ([4, 6], [4, 6])])
def laws_heldNeedS.B4 : List Nat := [0, 0, 3, 7, 15, 0, 32, 127]
theorem laws_heldNeedS.tab4 : rtab .any (opsOf Tryz.f48 4) = laws_heldNeedS.T4 := by kernel_rfl
theorem laws_heldNeedS.bits4 : waitsOk laws_heldNeedS.T4.2 laws_heldNeedS.B4 = true := by kernel_rfl
def laws_heldNeedS.T16 : Bool × List (List Nat × List Nat) := (true, [([], []), ([], []), ([0, 1], [0, 1]), ([2], [2]), ([3], [3]), ([4], [4]), ([], []), ([6], [6]), ([5, 7], [5, 7])])
def laws_heldNeedS.B16 : List Nat := [0, 0, 3, 7, 15, 31, 0, 64, 255]
theorem laws_heldNeedS.tab16 : rtab .any (opsOf Tryz.f48 16) = laws_heldNeedS.T16 := by kernel_rfl
theorem laws_heldNeedS.bits16 : waitsOk laws_heldNeedS.T16.2 laws_heldNeedS.B16 = true := by kernel_rfl
set_option maxHeartbeats 8000000 in
set_option maxRecDepth 100000 in
theorem laws_heldNeedS.calls (k : Nat) (A0 : Option Addr) (c0 : Nat) (l0 : List (S35)) (a1 : Int) (r : Int) (w : World) (hr0 : Kd.C k35 w A0 l0.length l0) (hc0 : l0.length ≤ c0) (h : laws_heldNeedS.f k l0 a1 = some r) :
  Calls Tryz.prog 48 #[.slice A0 l0.length c0, .int .i64 a1] w fun e w' => e = .returned (.int .i64 r) ∧ Below w.heap.size w w' := by
 have HR0 := zi hr0
 have HC0 := zi hc0
 clear hr0 hc0
 have HB := zi (Below.refl w.heap.size w)
 have H := h
 unfold laws_heldNeedS.f at H
 clear h
 have H' := zi H
 clear H
 go_enter Tryz.func48, Tryz.ntmps48
 go_wp2
 go_loopg [1, 5] k (fun kq v1 v5 w' => ∃ (x1_1 : Int) (x5_1 : Int), v1 = .int .i64 x1_1 ∧ v5 = .int .i64 x5_1 ∧ Aside0 (laws_heldNeedS.l0 kq l0 x1_1 x5_1 = some r) ∧ Aside0 (kq ≤ k) ∧ Aside0 (Below w.heap.size w w'))
 case atStart => exact ⟨(a1), (0), z1d, z1d, H', ⟨Nat.le_refl _⟩, ⟨zt⟩⟩
 case round =>
  clear H'
  try clear p2
  obtain ⟨x1_1, x5_1, rfl, rfl, HA, HK1, HB⟩ := hrel
  cases gk with
  | zero => exact absurd HA.out (by simp [laws_heldNeedS.l0])
  | succ k1 =>
   have H := HA.out
   clear HA
   simp only [laws_heldNeedS.l0] at H
   by_cases c3 : x5_1 < (l0.length : Int)
   ·rw [if_pos c3] at H
    have c3b0 := decide_eq_true c3
    clear c3
    by_cases c4 : 0 ≤ x5_1
    ·rw [if_pos c4] at H
     have c4b0 := decide_eq_true c4
     clear c4
     replace H := Option.bind_eq_some_iff.mp H
     obtain ⟨t556, A50, H⟩ := H
     try dsimp only at H
     have A5 := zi A50
     clear A50
     by_cases c6 : ((rd_T35 l0 x5_1).f0).toList = t556.toList
     ·rw [if_pos c6] at H
      have c6b0 : (((rd_T35 l0 x5_1).f0).toList == t556.toList) = true := beq_iff_eq.mpr c6
      have c6b1 : (((rd_T35 l0 x5_1).f0).toList != t556.toList) = false := bne_eq_false_iff_eq.mpr c6
      clear c6
      by_cases c7 : ((rd_T35 l0 x5_1).f1.f0) = (wrap64 (x1_1 + 1))
      ·rw [if_pos c7] at H
       have c7b0 : (((rd_T35 l0 x5_1).f1.f0) == (wrap64 (x1_1 + 1))) = true := beq_iff_eq.mpr c7
       have c7b1 : (((rd_T35 l0 x5_1).f1.f0) != (wrap64 (x1_1 + 1))) = false := bne_eq_false_iff_eq.mpr c7
       clear c7
       by_cases c8 : ((rd_T35 l0 x5_1).f1.f1) = (wrap64 ((wrap64 (x1_1 + 1)) + 1))
       ·rw [if_pos c8] at H
        have c8b0 : (((rd_T35 l0 x5_1).f1.f1) == (wrap64 ((wrap64 (x1_1 + 1)) + 1))) = true := beq_iff_eq.mpr c8
        have c8b1 : (((rd_T35 l0 x5_1).f1.f1) != (wrap64 ((wrap64 (x1_1 + 1)) + 1))) = false := bne_eq_false_iff_eq.mpr c8
        clear c8
        by_cases c9 : ((rd_T35 l0 x5_1).f1.f2) = (wrap64 ((wrap64 ((wrap64 (x1_1 + 1)) + 1)) + 1))
        ·rw [if_pos c9] at H
         have c9b0 : (((rd_T35 l0 x5_1).f1.f2) == (wrap64 ((wrap64 ((wrap64 (x1_1 + 1)) + 1)) + 1))) = true := beq_iff_eq.mpr c9
         have c9b1 : (((rd_T35 l0 x5_1).f1.f2) != (wrap64 ((wrap64 ((wrap64 (x1_1 + 1)) + 1)) + 1))) = false := bne_eq_false_iff_eq.mpr c9
         clear c9
         replace H := Option.bind_eq_some_iff.mp H
         obtain ⟨t561, A100, H⟩ := H
         try dsimp only at H
         have A10 := zi A100
         clear A100
         by_cases c11 : ((rd_T35 l0 x5_1).f1.f3).toList = t561.toList
         ·rw [if_pos c11] at H
          have c11b0 : (((rd_T35 l0 x5_1).f1.f3).toList == t561.toList) = true := beq_iff_eq.mpr c11
          have c11b1 : (((rd_T35 l0 x5_1).f1.f3).toList != t561.toList) = false := bne_eq_false_iff_eq.mpr c11
          clear c11
          have H' := zi H
          clear H
          try go_wp2
          have n0_ := zi (below_drew1 HB.out)
          clear HB
          have HB := n0_
          clear n0_
          have p555 : 0 ≤ (x5_1 : Int) := of_decide_eq_true z1e
          have q555 : x5_1 < (l0.length : Int) := of_decide_eq_true z1e
          obtain ⟨ad555, e555, hx555_0, hx555_1, hx555_2, hx555_3, hx555_4⟩ := at_T35 HR0.out x5_1 p555 q555
          have hw555_4 := hx555_4
          have hw555_3 := hx555_3
          have hw555_2 := hx555_2
          have hw555_1 := hx555_1
          have hw555_0 := hx555_0
          cases e555
          replace hx555_0 := zo HB.out hx555_0
          replace hx555_1 := zo HB.out hx555_1
          replace hx555_2 := zo HB.out hx555_2
          replace hx555_3 := zo HB.out hx555_3
          replace hx555_4 := zo HB.out hx555_4
          replace p555 := eq_true p555
          replace q555 := eq_true q555
          refine start_ (n := 8) (S := fun w' => w'.cell? (ad555.add ((x5_1).toNat * 5)) = some (.string ((rd_T35 l0 x5_1).f0)) ∧ w'.cell? ⟨(ad555.add ((x5_1).toNat * 5)).block, (ad555.add ((x5_1).toNat * 5)).off + 1, none⟩ = some (.int .i64 ((rd_T35 l0 x5_1).f1.f0)) ∧ w'.cell? ⟨(ad555.add ((x5_1).toNat * 5)).block, (ad555.add ((x5_1).toNat * 5)).off + 2, none⟩ = some (.int .i64 ((rd_T35 l0 x5_1).f1.f1)) ∧ w'.cell? ⟨(ad555.add ((x5_1).toNat * 5)).block, (ad555.add ((x5_1).toNat * 5)).off + 3, none⟩ = some (.int .i64 ((rd_T35 l0 x5_1).f1.f2)) ∧ w'.cell? ⟨(ad555.add ((x5_1).toNat * 5)).block, (ad555.add ((x5_1).toNat * 5)).off + 4, none⟩ = some (.string ((rd_T35 l0 x5_1).f1.f3))) (ds := []) #[z7f, z7f, z7f, z7f, z7f, z7f, z7f, z7f] z1a rfl rfl ⟨(zo HB.out hw555_0), (zo HB.out hw555_1), (zo HB.out hw555_2), (zo HB.out hw555_3), (zo HB.out hw555_4)⟩ (fun hHeld => ?_); refine with_tabW laws_heldNeedS.tab4 laws_heldNeedS.bits4 (fun HT_ HW_ => ?_)
          generalize wr.drew = w12 at HB hx555_0 hx555_1 hx555_2 hx555_3 hx555_4 hHeld ⊢
          refine zk 0 (some 12) #[z7e, z7f, z7f, z7f, z7f, z7f, z7f, z7f] rfl rfl ?_
          refine zk 1 (some 13) #[z7e, z7e, z7f, z7f, z7f, z7f, z7f, z7f] rfl rfl ?_
          refine zk 2 (some 14) #[z7e, z7e, z7e, z7f, z7f, z7f, z7f, z7f] rfl rfl ?_
          refine zk 3 (some 15) #[z7e, z7e, z7e, z7e, z7f, z7f, z7f, z7f] rfl rfl ?_
          refine zk 5 (some 17) #[z7e, z7e, z7e, z7e, z7f, z7e, z7f, z7f] rfl rfl ?_
          refine zm 4 (some 16) #[z7e, z7e, z7e, z7e, z7e, z7e, z7f, z7f] rfl rfl (Or.inl ⟨zr, z1z⟩) hHeld ?_
          refine one_ (i := 6) (N := some 18) #[z7e, z7e, z7e, z7e, z7e, z7e, z7e, z7f] rfl rfl (one_of HT_.out z1a) z1g (fun K hK => ?_)
          refine goes_ Tryz.func81 z1a rfl #[.int .i64 x1_1] zr rfl rfl z1b ?_
          with_reducible refine (laws_markText.calls k1 x1_1 t556 _ A5.out).mono ?_
          rintro e w13 ⟨rfl, hb⟩
          refine ⟨_, rfl, ?_⟩
          have n0_ := zi (below_step zt hb)
          clear HB
          have HB := n0_
          clear n0_
          (try clear hb)
          (try clear hb2)
          (try clear hk)
          (try clear hi)
          refine hK.out _ _ ⟨(zo HB.out hw555_0), (zo HB.out hw555_1), (zo HB.out hw555_2), (zo HB.out hw555_3), (zo HB.out hw555_4)⟩ (fun hHeld => ?_)
          clear hK K
          refine zn (some 18) rfl ?_
          refine zk 7 (some 19) #[z7e, z7e, z7e, z7e, z7e, z7e, z7e, z7e] rfl rfl ?_
          refine done_ (done_of HT_.out z1a) ?_
          have p557 : 0 ≤ (x5_1 : Int) := of_decide_eq_true z1e
          have q557 : x5_1 < (l0.length : Int) := of_decide_eq_true z1e
          obtain ⟨ad557, e557, hx557_0, hx557_1, hx557_2, hx557_3, hx557_4⟩ := at_T35 HR0.out x5_1 p557 q557
          obtain rfl : ad555 = ad557 := (by injection e557)
          replace hx557_0 := zo HB.out hx557_0
          replace hx557_1 := zo HB.out hx557_1
          replace hx557_2 := zo HB.out hx557_2
          replace hx557_3 := zo HB.out hx557_3
          replace hx557_4 := zo HB.out hx557_4
          replace p557 := eq_true p557
          replace q557 := eq_true q557
          have p558 : 0 ≤ (x5_1 : Int) := of_decide_eq_true z1e
          have q558 : x5_1 < (l0.length : Int) := of_decide_eq_true z1e
          obtain ⟨ad558, e558, hx558_0, hx558_1, hx558_2, hx558_3, hx558_4⟩ := at_T35 HR0.out x5_1 p558 q558
          obtain rfl : ad555 = ad558 := (by injection e558)
          replace hx558_0 := zo HB.out hx558_0
          replace hx558_1 := zo HB.out hx558_1
          replace hx558_2 := zo HB.out hx558_2
          replace hx558_3 := zo HB.out hx558_3
          replace hx558_4 := zo HB.out hx558_4
          replace p558 := eq_true p558
          replace q558 := eq_true q558
          have p559 : 0 ≤ (x5_1 : Int) := of_decide_eq_true z1e
          have q559 : x5_1 < (l0.length : Int) := of_decide_eq_true z1e
          obtain ⟨ad559, e559, hx559_0, hx559_1, hx559_2, hx559_3, hx559_4⟩ := at_T35 HR0.out x5_1 p559 q559
          obtain rfl : ad555 = ad559 := (by injection e559)
          replace hx559_0 := zo HB.out hx559_0
          replace hx559_1 := zo HB.out hx559_1
          replace hx559_2 := zo HB.out hx559_2
          replace hx559_3 := zo HB.out hx559_3
          replace hx559_4 := zo HB.out hx559_4
          replace p559 := eq_true p559
          replace q559 := eq_true q559
          try go_wp2
          have n0_ := zi (below_drew1 HB.out)
          clear HB
          have HB := n0_
          clear n0_
          have p560 : 0 ≤ (x5_1 : Int) := of_decide_eq_true z1e
          have q560 : x5_1 < (l0.length : Int) := of_decide_eq_true z1e
          obtain ⟨ad560, e560, hx560_0, hx560_1, hx560_2, hx560_3, hx560_4⟩ := at_T35 HR0.out x5_1 p560 q560
          have hw560_4 := hx560_4
          have hw560_3 := hx560_3
          have hw560_2 := hx560_2
          have hw560_1 := hx560_1
          have hw560_0 := hx560_0
          obtain rfl : ad555 = ad560 := (by injection e560)
          replace hx560_0 := zo HB.out hx560_0
          replace hx560_1 := zo HB.out hx560_1
          replace hx560_2 := zo HB.out hx560_2
          replace hx560_3 := zo HB.out hx560_3
          replace hx560_4 := zo HB.out hx560_4
          replace p560 := eq_true p560
          replace q560 := eq_true q560
          refine start_ (n := 9) (S := fun w' => w'.cell? (ad555.add ((x5_1).toNat * 5)) = some (.string ((rd_T35 l0 x5_1).f0)) ∧ w'.cell? ⟨(ad555.add ((x5_1).toNat * 5)).block, (ad555.add ((x5_1).toNat * 5)).off + 1, none⟩ = some (.int .i64 ((rd_T35 l0 x5_1).f1.f0)) ∧ w'.cell? ⟨(ad555.add ((x5_1).toNat * 5)).block, (ad555.add ((x5_1).toNat * 5)).off + 2, none⟩ = some (.int .i64 ((rd_T35 l0 x5_1).f1.f1)) ∧ w'.cell? ⟨(ad555.add ((x5_1).toNat * 5)).block, (ad555.add ((x5_1).toNat * 5)).off + 3, none⟩ = some (.int .i64 ((rd_T35 l0 x5_1).f1.f2)) ∧ w'.cell? ⟨(ad555.add ((x5_1).toNat * 5)).block, (ad555.add ((x5_1).toNat * 5)).off + 4, none⟩ = some (.string ((rd_T35 l0 x5_1).f1.f3))) (ds := []) #[z7f, z7f, z7f, z7f, z7f, z7f, z7f, z7f, z7f] z1a rfl rfl ⟨(zo HB.out hw560_0), (zo HB.out hw560_1), (zo HB.out hw560_2), (zo HB.out hw560_3), (zo HB.out hw560_4)⟩ (fun hHeld => ?_); refine with_tabW laws_heldNeedS.tab16 laws_heldNeedS.bits16 (fun HT_ HW_ => ?_)
          generalize w13.drew = w14 at HB hx560_0 hx560_1 hx560_2 hx560_3 hx560_4 hHeld ⊢
          refine zk 0 (some 52) #[z7e, z7f, z7f, z7f, z7f, z7f, z7f, z7f, z7f] rfl rfl ?_
          refine zk 1 (some 53) #[z7e, z7e, z7f, z7f, z7f, z7f, z7f, z7f, z7f] rfl rfl ?_
          refine zk 2 (some 54) #[z7e, z7e, z7e, z7f, z7f, z7f, z7f, z7f, z7f] rfl rfl ?_
          refine zk 3 (some 55) #[z7e, z7e, z7e, z7e, z7f, z7f, z7f, z7f, z7f] rfl rfl ?_
          refine zk 4 (some 56) #[z7e, z7e, z7e, z7e, z7e, z7f, z7f, z7f, z7f] rfl rfl ?_
          refine zk 6 (some 58) #[z7e, z7e, z7e, z7e, z7e, z7f, z7e, z7f, z7f] rfl rfl ?_
          refine zm 5 (some 57) #[z7e, z7e, z7e, z7e, z7e, z7e, z7e, z7f, z7f] rfl rfl (Or.inl ⟨zr, z1z⟩) hHeld ?_
          refine one_ (i := 7) (N := some 59) #[z7e, z7e, z7e, z7e, z7e, z7e, z7e, z7e, z7f] rfl rfl (one_of HT_.out z1a) z1g (fun K hK => ?_)
          refine goes_ Tryz.func81 z1a rfl #[.int .i64 (wrap64 ((wrap64 ((wrap64 ((wrap64 (x1_1 + 1)) + 1)) + 1)) + 1))] zr rfl rfl z1b ?_
          with_reducible refine (laws_markText.calls k1 (wrap64 ((wrap64 ((wrap64 ((wrap64 (x1_1 + 1)) + 1)) + 1)) + 1)) t561 _ A10.out).mono ?_
          rintro e w15 ⟨rfl, hb⟩
          refine ⟨_, rfl, ?_⟩
          have n0_ := zi (below_step zt hb)
          clear HB
          have HB := n0_
          clear n0_
          (try clear hb)
          (try clear hb2)
          (try clear hk)
          (try clear hi)
          refine hK.out _ _ ⟨(zo HB.out hw560_0), (zo HB.out hw560_1), (zo HB.out hw560_2), (zo HB.out hw560_3), (zo HB.out hw560_4)⟩ (fun hHeld => ?_)
          clear hK K
          refine zn (some 59) rfl ?_
          refine zk 8 (some 60) #[z7e, z7e, z7e, z7e, z7e, z7e, z7e, z7e, z7e] rfl rfl ?_
          refine done_ (done_of HT_.out z1a) ?_
          try go_wp2
          go_roundg k1
          case measure => have := HK1.out; omega
          case rel => exact ⟨(wrap64 ((wrap64 ((wrap64 ((wrap64 ((wrap64 (x1_1 + 1)) + 1)) + 1)) + 1)) + 1)), (wrap64 (x5_1 + 1)), z1d, z1d, H', ⟨z1h⟩, ⟨zt⟩⟩
         ·rw [if_neg c11] at H
          have c11b0 : (((rd_T35 l0 x5_1).f1.f3).toList == t561.toList) = false := beq_eq_false_iff_ne.mpr c11
          have c11b1 : (((rd_T35 l0 x5_1).f1.f3).toList != t561.toList) = true := bne_iff_ne.mpr c11
          obtain rfl := Option.some.inj H
          try go_wp2
          have n0_ := zi (below_drew1 HB.out)
          clear HB
          have HB := n0_
          clear n0_
          have p555 : 0 ≤ (x5_1 : Int) := of_decide_eq_true z1e
          have q555 : x5_1 < (l0.length : Int) := of_decide_eq_true z1e
          obtain ⟨ad555, e555, hx555_0, hx555_1, hx555_2, hx555_3, hx555_4⟩ := at_T35 HR0.out x5_1 p555 q555
          have hw555_4 := hx555_4
          have hw555_3 := hx555_3
          have hw555_2 := hx555_2
          have hw555_1 := hx555_1
          have hw555_0 := hx555_0
          cases e555
          replace hx555_0 := zo HB.out hx555_0
          replace hx555_1 := zo HB.out hx555_1
          replace hx555_2 := zo HB.out hx555_2
          replace hx555_3 := zo HB.out hx555_3
          replace hx555_4 := zo HB.out hx555_4
          replace p555 := eq_true p555
          replace q555 := eq_true q555
          refine start_ (n := 8) (S := fun w' => w'.cell? (ad555.add ((x5_1).toNat * 5)) = some (.string ((rd_T35 l0 x5_1).f0)) ∧ w'.cell? ⟨(ad555.add ((x5_1).toNat * 5)).block, (ad555.add ((x5_1).toNat * 5)).off + 1, none⟩ = some (.int .i64 ((rd_T35 l0 x5_1).f1.f0)) ∧ w'.cell? ⟨(ad555.add ((x5_1).toNat * 5)).block, (ad555.add ((x5_1).toNat * 5)).off + 2, none⟩ = some (.int .i64 ((rd_T35 l0 x5_1).f1.f1)) ∧ w'.cell? ⟨(ad555.add ((x5_1).toNat * 5)).block, (ad555.add ((x5_1).toNat * 5)).off + 3, none⟩ = some (.int .i64 ((rd_T35 l0 x5_1).f1.f2)) ∧ w'.cell? ⟨(ad555.add ((x5_1).toNat * 5)).block, (ad555.add ((x5_1).toNat * 5)).off + 4, none⟩ = some (.string ((rd_T35 l0 x5_1).f1.f3))) (ds := []) #[z7f, z7f, z7f, z7f, z7f, z7f, z7f, z7f] z1a rfl rfl ⟨(zo HB.out hw555_0), (zo HB.out hw555_1), (zo HB.out hw555_2), (zo HB.out hw555_3), (zo HB.out hw555_4)⟩ (fun hHeld => ?_); refine with_tabW laws_heldNeedS.tab4 laws_heldNeedS.bits4 (fun HT_ HW_ => ?_)
          generalize wr.drew = w16 at HB hx555_0 hx555_1 hx555_2 hx555_3 hx555_4 hHeld ⊢
          refine zk 0 (some 12) #[z7e, z7f, z7f, z7f, z7f, z7f, z7f, z7f] rfl rfl ?_
          refine zk 1 (some 13) #[z7e, z7e, z7f, z7f, z7f, z7f, z7f, z7f] rfl rfl ?_
          refine zk 2 (some 14) #[z7e, z7e, z7e, z7f, z7f, z7f, z7f, z7f] rfl rfl ?_
          refine zk 3 (some 15) #[z7e, z7e, z7e, z7e, z7f, z7f, z7f, z7f] rfl rfl ?_
          refine zk 5 (some 17) #[z7e, z7e, z7e, z7e, z7f, z7e, z7f, z7f] rfl rfl ?_
          refine zm 4 (some 16) #[z7e, z7e, z7e, z7e, z7e, z7e, z7f, z7f] rfl rfl (Or.inl ⟨zr, z1z⟩) hHeld ?_
          refine one_ (i := 6) (N := some 18) #[z7e, z7e, z7e, z7e, z7e, z7e, z7e, z7f] rfl rfl (one_of HT_.out z1a) z1g (fun K hK => ?_)
          refine goes_ Tryz.func81 z1a rfl #[.int .i64 x1_1] zr rfl rfl z1b ?_
          with_reducible refine (laws_markText.calls k1 x1_1 t556 _ A5.out).mono ?_
          rintro e w17 ⟨rfl, hb⟩
          refine ⟨_, rfl, ?_⟩
          have n0_ := zi (below_step zt hb)
          clear HB
          have HB := n0_
          clear n0_
          (try clear hb)
          (try clear hb2)
          (try clear hk)
          (try clear hi)
          refine hK.out _ _ ⟨(zo HB.out hw555_0), (zo HB.out hw555_1), (zo HB.out hw555_2), (zo HB.out hw555_3), (zo HB.out hw555_4)⟩ (fun hHeld => ?_)
          clear hK K
          refine zn (some 18) rfl ?_
          refine zk 7 (some 19) #[z7e, z7e, z7e, z7e, z7e, z7e, z7e, z7e] rfl rfl ?_
          refine done_ (done_of HT_.out z1a) ?_
          have p557 : 0 ≤ (x5_1 : Int) := of_decide_eq_true z1e
          have q557 : x5_1 < (l0.length : Int) := of_decide_eq_true z1e
          obtain ⟨ad557, e557, hx557_0, hx557_1, hx557_2, hx557_3, hx557_4⟩ := at_T35 HR0.out x5_1 p557 q557
          obtain rfl : ad555 = ad557 := (by injection e557)
          replace hx557_0 := zo HB.out hx557_0
          replace hx557_1 := zo HB.out hx557_1
          replace hx557_2 := zo HB.out hx557_2
          replace hx557_3 := zo HB.out hx557_3
          replace hx557_4 := zo HB.out hx557_4
          replace p557 := eq_true p557
          replace q557 := eq_true q557
          have p558 : 0 ≤ (x5_1 : Int) := of_decide_eq_true z1e
          have q558 : x5_1 < (l0.length : Int) := of_decide_eq_true z1e
          obtain ⟨ad558, e558, hx558_0, hx558_1, hx558_2, hx558_3, hx558_4⟩ := at_T35 HR0.out x5_1 p558 q558
          obtain rfl : ad555 = ad558 := (by injection e558)
          replace hx558_0 := zo HB.out hx558_0
          replace hx558_1 := zo HB.out hx558_1
          replace hx558_2 := zo HB.out hx558_2
          replace hx558_3 := zo HB.out hx558_3
          replace hx558_4 := zo HB.out hx558_4
          replace p558 := eq_true p558
          replace q558 := eq_true q558
          have p559 : 0 ≤ (x5_1 : Int) := of_decide_eq_true z1e
          have q559 : x5_1 < (l0.length : Int) := of_decide_eq_true z1e
          obtain ⟨ad559, e559, hx559_0, hx559_1, hx559_2, hx559_3, hx559_4⟩ := at_T35 HR0.out x5_1 p559 q559
          obtain rfl : ad555 = ad559 := (by injection e559)
          replace hx559_0 := zo HB.out hx559_0
          replace hx559_1 := zo HB.out hx559_1
          replace hx559_2 := zo HB.out hx559_2
          replace hx559_3 := zo HB.out hx559_3
          replace hx559_4 := zo HB.out hx559_4
          replace p559 := eq_true p559
          replace q559 := eq_true q559
          try go_wp2
          have n0_ := zi (below_drew1 HB.out)
          clear HB
          have HB := n0_
          clear n0_
          have p560 : 0 ≤ (x5_1 : Int) := of_decide_eq_true z1e
          have q560 : x5_1 < (l0.length : Int) := of_decide_eq_true z1e
          obtain ⟨ad560, e560, hx560_0, hx560_1, hx560_2, hx560_3, hx560_4⟩ := at_T35 HR0.out x5_1 p560 q560
          have hw560_4 := hx560_4
          have hw560_3 := hx560_3
          have hw560_2 := hx560_2
          have hw560_1 := hx560_1
          have hw560_0 := hx560_0
          obtain rfl : ad555 = ad560 := (by injection e560)
          replace hx560_0 := zo HB.out hx560_0
          replace hx560_1 := zo HB.out hx560_1
          replace hx560_2 := zo HB.out hx560_2
          replace hx560_3 := zo HB.out hx560_3
          replace hx560_4 := zo HB.out hx560_4
          replace p560 := eq_true p560
          replace q560 := eq_true q560
          refine start_ (n := 9) (S := fun w' => w'.cell? (ad555.add ((x5_1).toNat * 5)) = some (.string ((rd_T35 l0 x5_1).f0)) ∧ w'.cell? ⟨(ad555.add ((x5_1).toNat * 5)).block, (ad555.add ((x5_1).toNat * 5)).off + 1, none⟩ = some (.int .i64 ((rd_T35 l0 x5_1).f1.f0)) ∧ w'.cell? ⟨(ad555.add ((x5_1).toNat * 5)).block, (ad555.add ((x5_1).toNat * 5)).off + 2, none⟩ = some (.int .i64 ((rd_T35 l0 x5_1).f1.f1)) ∧ w'.cell? ⟨(ad555.add ((x5_1).toNat * 5)).block, (ad555.add ((x5_1).toNat * 5)).off + 3, none⟩ = some (.int .i64 ((rd_T35 l0 x5_1).f1.f2)) ∧ w'.cell? ⟨(ad555.add ((x5_1).toNat * 5)).block, (ad555.add ((x5_1).toNat * 5)).off + 4, none⟩ = some (.string ((rd_T35 l0 x5_1).f1.f3))) (ds := []) #[z7f, z7f, z7f, z7f, z7f, z7f, z7f, z7f, z7f] z1a rfl rfl ⟨(zo HB.out hw560_0), (zo HB.out hw560_1), (zo HB.out hw560_2), (zo HB.out hw560_3), (zo HB.out hw560_4)⟩ (fun hHeld => ?_); refine with_tabW laws_heldNeedS.tab16 laws_heldNeedS.bits16 (fun HT_ HW_ => ?_)
          generalize w17.drew = w18 at HB hx560_0 hx560_1 hx560_2 hx560_3 hx560_4 hHeld ⊢
          refine zk 0 (some 52) #[z7e, z7f, z7f, z7f, z7f, z7f, z7f, z7f, z7f] rfl rfl ?_
          refine zk 1 (some 53) #[z7e, z7e, z7f, z7f, z7f, z7f, z7f, z7f, z7f] rfl rfl ?_
          refine zk 2 (some 54) #[z7e, z7e, z7e, z7f, z7f, z7f, z7f, z7f, z7f] rfl rfl ?_
          refine zk 3 (some 55) #[z7e, z7e, z7e, z7e, z7f, z7f, z7f, z7f, z7f] rfl rfl ?_
          refine zk 4 (some 56) #[z7e, z7e, z7e, z7e, z7e, z7f, z7f, z7f, z7f] rfl rfl ?_
          refine zk 6 (some 58) #[z7e, z7e, z7e, z7e, z7e, z7f, z7e, z7f, z7f] rfl rfl ?_
          refine zm 5 (some 57) #[z7e, z7e, z7e, z7e, z7e, z7e, z7e, z7f, z7f] rfl rfl (Or.inl ⟨zr, z1z⟩) hHeld ?_
          refine one_ (i := 7) (N := some 59) #[z7e, z7e, z7e, z7e, z7e, z7e, z7e, z7e, z7f] rfl rfl (one_of HT_.out z1a) z1g (fun K hK => ?_)
          refine goes_ Tryz.func81 z1a rfl #[.int .i64 (wrap64 ((wrap64 ((wrap64 ((wrap64 (x1_1 + 1)) + 1)) + 1)) + 1))] zr rfl rfl z1b ?_
          with_reducible refine (laws_markText.calls k1 (wrap64 ((wrap64 ((wrap64 ((wrap64 (x1_1 + 1)) + 1)) + 1)) + 1)) t561 _ A10.out).mono ?_
          rintro e w19 ⟨rfl, hb⟩
          refine ⟨_, rfl, ?_⟩
          have n0_ := zi (below_step zt hb)
          clear HB
          have HB := n0_
          clear n0_
          (try clear hb)
          (try clear hb2)
          (try clear hk)
          (try clear hi)
          refine hK.out _ _ ⟨(zo HB.out hw560_0), (zo HB.out hw560_1), (zo HB.out hw560_2), (zo HB.out hw560_3), (zo HB.out hw560_4)⟩ (fun hHeld => ?_)
          clear hK K
          refine zn (some 59) rfl ?_
          refine zk 8 (some 60) #[z7e, z7e, z7e, z7e, z7e, z7e, z7e, z7e, z7e] rfl rfl ?_
          refine done_ (done_of HT_.out z1a) ?_
          try go_wp2
          go_ret
          exact ⟨zw, zt⟩
        ·rw [if_neg c9] at H
         have c9b0 : (((rd_T35 l0 x5_1).f1.f2) == (wrap64 ((wrap64 ((wrap64 (x1_1 + 1)) + 1)) + 1))) = false := beq_eq_false_iff_ne.mpr c9
         have c9b1 : (((rd_T35 l0 x5_1).f1.f2) != (wrap64 ((wrap64 ((wrap64 (x1_1 + 1)) + 1)) + 1))) = true := bne_iff_ne.mpr c9
         obtain rfl := Option.some.inj H
         try go_wp2
         have n0_ := zi (below_drew1 HB.out)
         clear HB
         have HB := n0_
         clear n0_
         have p555 : 0 ≤ (x5_1 : Int) := of_decide_eq_true z1e
         have q555 : x5_1 < (l0.length : Int) := of_decide_eq_true z1e
         obtain ⟨ad555, e555, hx555_0, hx555_1, hx555_2, hx555_3, hx555_4⟩ := at_T35 HR0.out x5_1 p555 q555
         have hw555_4 := hx555_4
         have hw555_3 := hx555_3
         have hw555_2 := hx555_2
         have hw555_1 := hx555_1
         have hw555_0 := hx555_0
         cases e555
         replace hx555_0 := zo HB.out hx555_0
         replace hx555_1 := zo HB.out hx555_1
         replace hx555_2 := zo HB.out hx555_2
         replace hx555_3 := zo HB.out hx555_3
         replace hx555_4 := zo HB.out hx555_4
         replace p555 := eq_true p555
         replace q555 := eq_true q555
         refine start_ (n := 8) (S := fun w' => w'.cell? (ad555.add ((x5_1).toNat * 5)) = some (.string ((rd_T35 l0 x5_1).f0)) ∧ w'.cell? ⟨(ad555.add ((x5_1).toNat * 5)).block, (ad555.add ((x5_1).toNat * 5)).off + 1, none⟩ = some (.int .i64 ((rd_T35 l0 x5_1).f1.f0)) ∧ w'.cell? ⟨(ad555.add ((x5_1).toNat * 5)).block, (ad555.add ((x5_1).toNat * 5)).off + 2, none⟩ = some (.int .i64 ((rd_T35 l0 x5_1).f1.f1)) ∧ w'.cell? ⟨(ad555.add ((x5_1).toNat * 5)).block, (ad555.add ((x5_1).toNat * 5)).off + 3, none⟩ = some (.int .i64 ((rd_T35 l0 x5_1).f1.f2)) ∧ w'.cell? ⟨(ad555.add ((x5_1).toNat * 5)).block, (ad555.add ((x5_1).toNat * 5)).off + 4, none⟩ = some (.string ((rd_T35 l0 x5_1).f1.f3))) (ds := []) #[z7f, z7f, z7f, z7f, z7f, z7f, z7f, z7f] z1a rfl rfl ⟨(zo HB.out hw555_0), (zo HB.out hw555_1), (zo HB.out hw555_2), (zo HB.out hw555_3), (zo HB.out hw555_4)⟩ (fun hHeld => ?_); refine with_tabW laws_heldNeedS.tab4 laws_heldNeedS.bits4 (fun HT_ HW_ => ?_)
         generalize wr.drew = w20 at HB hx555_0 hx555_1 hx555_2 hx555_3 hx555_4 hHeld ⊢
         refine zk 0 (some 12) #[z7e, z7f, z7f, z7f, z7f, z7f, z7f, z7f] rfl rfl ?_
         refine zk 1 (some 13) #[z7e, z7e, z7f, z7f, z7f, z7f, z7f, z7f] rfl rfl ?_
         refine zk 2 (some 14) #[z7e, z7e, z7e, z7f, z7f, z7f, z7f, z7f] rfl rfl ?_
         refine zk 3 (some 15) #[z7e, z7e, z7e, z7e, z7f, z7f, z7f, z7f] rfl rfl ?_
         refine zk 5 (some 17) #[z7e, z7e, z7e, z7e, z7f, z7e, z7f, z7f] rfl rfl ?_
         refine zm 4 (some 16) #[z7e, z7e, z7e, z7e, z7e, z7e, z7f, z7f] rfl rfl (Or.inl ⟨zr, z1z⟩) hHeld ?_
         refine one_ (i := 6) (N := some 18) #[z7e, z7e, z7e, z7e, z7e, z7e, z7e, z7f] rfl rfl (one_of HT_.out z1a) z1g (fun K hK => ?_)
         refine goes_ Tryz.func81 z1a rfl #[.int .i64 x1_1] zr rfl rfl z1b ?_
         with_reducible refine (laws_markText.calls k1 x1_1 t556 _ A5.out).mono ?_
         rintro e w21 ⟨rfl, hb⟩
         refine ⟨_, rfl, ?_⟩
         have n0_ := zi (below_step zt hb)
         clear HB
         have HB := n0_
         clear n0_
         (try clear hb)
         (try clear hb2)
         (try clear hk)
         (try clear hi)
         refine hK.out _ _ ⟨(zo HB.out hw555_0), (zo HB.out hw555_1), (zo HB.out hw555_2), (zo HB.out hw555_3), (zo HB.out hw555_4)⟩ (fun hHeld => ?_)
         clear hK K
         refine zn (some 18) rfl ?_
         refine zk 7 (some 19) #[z7e, z7e, z7e, z7e, z7e, z7e, z7e, z7e] rfl rfl ?_
         refine done_ (done_of HT_.out z1a) ?_
         have p557 : 0 ≤ (x5_1 : Int) := of_decide_eq_true z1e
         have q557 : x5_1 < (l0.length : Int) := of_decide_eq_true z1e
         obtain ⟨ad557, e557, hx557_0, hx557_1, hx557_2, hx557_3, hx557_4⟩ := at_T35 HR0.out x5_1 p557 q557
         obtain rfl : ad555 = ad557 := (by injection e557)
         replace hx557_0 := zo HB.out hx557_0
         replace hx557_1 := zo HB.out hx557_1
         replace hx557_2 := zo HB.out hx557_2
         replace hx557_3 := zo HB.out hx557_3
         replace hx557_4 := zo HB.out hx557_4
         replace p557 := eq_true p557
         replace q557 := eq_true q557
         have p558 : 0 ≤ (x5_1 : Int) := of_decide_eq_true z1e
         have q558 : x5_1 < (l0.length : Int) := of_decide_eq_true z1e
         obtain ⟨ad558, e558, hx558_0, hx558_1, hx558_2, hx558_3, hx558_4⟩ := at_T35 HR0.out x5_1 p558 q558
         obtain rfl : ad555 = ad558 := (by injection e558)
         replace hx558_0 := zo HB.out hx558_0
         replace hx558_1 := zo HB.out hx558_1
         replace hx558_2 := zo HB.out hx558_2
         replace hx558_3 := zo HB.out hx558_3
         replace hx558_4 := zo HB.out hx558_4
         replace p558 := eq_true p558
         replace q558 := eq_true q558
         have p559 : 0 ≤ (x5_1 : Int) := of_decide_eq_true z1e
         have q559 : x5_1 < (l0.length : Int) := of_decide_eq_true z1e
         obtain ⟨ad559, e559, hx559_0, hx559_1, hx559_2, hx559_3, hx559_4⟩ := at_T35 HR0.out x5_1 p559 q559
         obtain rfl : ad555 = ad559 := (by injection e559)
         replace hx559_0 := zo HB.out hx559_0
         replace hx559_1 := zo HB.out hx559_1
         replace hx559_2 := zo HB.out hx559_2
         replace hx559_3 := zo HB.out hx559_3
         replace hx559_4 := zo HB.out hx559_4
         replace p559 := eq_true p559
         replace q559 := eq_true q559
         try go_wp2
         go_ret
         exact ⟨zw, zt⟩
       ·rw [if_neg c8] at H
        have c8b0 : (((rd_T35 l0 x5_1).f1.f1) == (wrap64 ((wrap64 (x1_1 + 1)) + 1))) = false := beq_eq_false_iff_ne.mpr c8
        have c8b1 : (((rd_T35 l0 x5_1).f1.f1) != (wrap64 ((wrap64 (x1_1 + 1)) + 1))) = true := bne_iff_ne.mpr c8
        obtain rfl := Option.some.inj H
        try go_wp2
        have n0_ := zi (below_drew1 HB.out)
        clear HB
        have HB := n0_
        clear n0_
        have p555 : 0 ≤ (x5_1 : Int) := of_decide_eq_true z1e
        have q555 : x5_1 < (l0.length : Int) := of_decide_eq_true z1e
        obtain ⟨ad555, e555, hx555_0, hx555_1, hx555_2, hx555_3, hx555_4⟩ := at_T35 HR0.out x5_1 p555 q555
        have hw555_4 := hx555_4
        have hw555_3 := hx555_3
        have hw555_2 := hx555_2
        have hw555_1 := hx555_1
        have hw555_0 := hx555_0
        cases e555
        replace hx555_0 := zo HB.out hx555_0
        replace hx555_1 := zo HB.out hx555_1
        replace hx555_2 := zo HB.out hx555_2
        replace hx555_3 := zo HB.out hx555_3
        replace hx555_4 := zo HB.out hx555_4
        replace p555 := eq_true p555
        replace q555 := eq_true q555
        refine start_ (n := 8) (S := fun w' => w'.cell? (ad555.add ((x5_1).toNat * 5)) = some (.string ((rd_T35 l0 x5_1).f0)) ∧ w'.cell? ⟨(ad555.add ((x5_1).toNat * 5)).block, (ad555.add ((x5_1).toNat * 5)).off + 1, none⟩ = some (.int .i64 ((rd_T35 l0 x5_1).f1.f0)) ∧ w'.cell? ⟨(ad555.add ((x5_1).toNat * 5)).block, (ad555.add ((x5_1).toNat * 5)).off + 2, none⟩ = some (.int .i64 ((rd_T35 l0 x5_1).f1.f1)) ∧ w'.cell? ⟨(ad555.add ((x5_1).toNat * 5)).block, (ad555.add ((x5_1).toNat * 5)).off + 3, none⟩ = some (.int .i64 ((rd_T35 l0 x5_1).f1.f2)) ∧ w'.cell? ⟨(ad555.add ((x5_1).toNat * 5)).block, (ad555.add ((x5_1).toNat * 5)).off + 4, none⟩ = some (.string ((rd_T35 l0 x5_1).f1.f3))) (ds := []) #[z7f, z7f, z7f, z7f, z7f, z7f, z7f, z7f] z1a rfl rfl ⟨(zo HB.out hw555_0), (zo HB.out hw555_1), (zo HB.out hw555_2), (zo HB.out hw555_3), (zo HB.out hw555_4)⟩ (fun hHeld => ?_); refine with_tabW laws_heldNeedS.tab4 laws_heldNeedS.bits4 (fun HT_ HW_ => ?_)
        generalize wr.drew = w22 at HB hx555_0 hx555_1 hx555_2 hx555_3 hx555_4 hHeld ⊢
        refine zk 0 (some 12) #[z7e, z7f, z7f, z7f, z7f, z7f, z7f, z7f] rfl rfl ?_
        refine zk 1 (some 13) #[z7e, z7e, z7f, z7f, z7f, z7f, z7f, z7f] rfl rfl ?_
        refine zk 2 (some 14) #[z7e, z7e, z7e, z7f, z7f, z7f, z7f, z7f] rfl rfl ?_
        refine zk 3 (some 15) #[z7e, z7e, z7e, z7e, z7f, z7f, z7f, z7f] rfl rfl ?_
        refine zk 5 (some 17) #[z7e, z7e, z7e, z7e, z7f, z7e, z7f, z7f] rfl rfl ?_
        refine zm 4 (some 16) #[z7e, z7e, z7e, z7e, z7e, z7e, z7f, z7f] rfl rfl (Or.inl ⟨zr, z1z⟩) hHeld ?_
        refine one_ (i := 6) (N := some 18) #[z7e, z7e, z7e, z7e, z7e, z7e, z7e, z7f] rfl rfl (one_of HT_.out z1a) z1g (fun K hK => ?_)
        refine goes_ Tryz.func81 z1a rfl #[.int .i64 x1_1] zr rfl rfl z1b ?_
        with_reducible refine (laws_markText.calls k1 x1_1 t556 _ A5.out).mono ?_
        rintro e w23 ⟨rfl, hb⟩
        refine ⟨_, rfl, ?_⟩
        have n0_ := zi (below_step zt hb)
        clear HB
        have HB := n0_
        clear n0_
        (try clear hb)
        (try clear hb2)
        (try clear hk)
        (try clear hi)
        refine hK.out _ _ ⟨(zo HB.out hw555_0), (zo HB.out hw555_1), (zo HB.out hw555_2), (zo HB.out hw555_3), (zo HB.out hw555_4)⟩ (fun hHeld => ?_)
        clear hK K
        refine zn (some 18) rfl ?_
        refine zk 7 (some 19) #[z7e, z7e, z7e, z7e, z7e, z7e, z7e, z7e] rfl rfl ?_
        refine done_ (done_of HT_.out z1a) ?_
        have p557 : 0 ≤ (x5_1 : Int) := of_decide_eq_true z1e
        have q557 : x5_1 < (l0.length : Int) := of_decide_eq_true z1e
        obtain ⟨ad557, e557, hx557_0, hx557_1, hx557_2, hx557_3, hx557_4⟩ := at_T35 HR0.out x5_1 p557 q557
        obtain rfl : ad555 = ad557 := (by injection e557)
        replace hx557_0 := zo HB.out hx557_0
        replace hx557_1 := zo HB.out hx557_1
        replace hx557_2 := zo HB.out hx557_2
        replace hx557_3 := zo HB.out hx557_3
        replace hx557_4 := zo HB.out hx557_4
        replace p557 := eq_true p557
        replace q557 := eq_true q557
        have p558 : 0 ≤ (x5_1 : Int) := of_decide_eq_true z1e
        have q558 : x5_1 < (l0.length : Int) := of_decide_eq_true z1e
        obtain ⟨ad558, e558, hx558_0, hx558_1, hx558_2, hx558_3, hx558_4⟩ := at_T35 HR0.out x5_1 p558 q558
        obtain rfl : ad555 = ad558 := (by injection e558)
        replace hx558_0 := zo HB.out hx558_0
        replace hx558_1 := zo HB.out hx558_1
        replace hx558_2 := zo HB.out hx558_2
        replace hx558_3 := zo HB.out hx558_3
        replace hx558_4 := zo HB.out hx558_4
        replace p558 := eq_true p558
        replace q558 := eq_true q558
        try go_wp2
        go_ret
        exact ⟨zw, zt⟩
      ·rw [if_neg c7] at H
       have c7b0 : (((rd_T35 l0 x5_1).f1.f0) == (wrap64 (x1_1 + 1))) = false := beq_eq_false_iff_ne.mpr c7
       have c7b1 : (((rd_T35 l0 x5_1).f1.f0) != (wrap64 (x1_1 + 1))) = true := bne_iff_ne.mpr c7
       obtain rfl := Option.some.inj H
       try go_wp2
       have n0_ := zi (below_drew1 HB.out)
       clear HB
       have HB := n0_
       clear n0_
       have p555 : 0 ≤ (x5_1 : Int) := of_decide_eq_true z1e
       have q555 : x5_1 < (l0.length : Int) := of_decide_eq_true z1e
       obtain ⟨ad555, e555, hx555_0, hx555_1, hx555_2, hx555_3, hx555_4⟩ := at_T35 HR0.out x5_1 p555 q555
       have hw555_4 := hx555_4
       have hw555_3 := hx555_3
       have hw555_2 := hx555_2
       have hw555_1 := hx555_1
       have hw555_0 := hx555_0
       cases e555
       replace hx555_0 := zo HB.out hx555_0
       replace hx555_1 := zo HB.out hx555_1
       replace hx555_2 := zo HB.out hx555_2
       replace hx555_3 := zo HB.out hx555_3
       replace hx555_4 := zo HB.out hx555_4
       replace p555 := eq_true p555
       replace q555 := eq_true q555
       refine start_ (n := 8) (S := fun w' => w'.cell? (ad555.add ((x5_1).toNat * 5)) = some (.string ((rd_T35 l0 x5_1).f0)) ∧ w'.cell? ⟨(ad555.add ((x5_1).toNat * 5)).block, (ad555.add ((x5_1).toNat * 5)).off + 1, none⟩ = some (.int .i64 ((rd_T35 l0 x5_1).f1.f0)) ∧ w'.cell? ⟨(ad555.add ((x5_1).toNat * 5)).block, (ad555.add ((x5_1).toNat * 5)).off + 2, none⟩ = some (.int .i64 ((rd_T35 l0 x5_1).f1.f1)) ∧ w'.cell? ⟨(ad555.add ((x5_1).toNat * 5)).block, (ad555.add ((x5_1).toNat * 5)).off + 3, none⟩ = some (.int .i64 ((rd_T35 l0 x5_1).f1.f2)) ∧ w'.cell? ⟨(ad555.add ((x5_1).toNat * 5)).block, (ad555.add ((x5_1).toNat * 5)).off + 4, none⟩ = some (.string ((rd_T35 l0 x5_1).f1.f3))) (ds := []) #[z7f, z7f, z7f, z7f, z7f, z7f, z7f, z7f] z1a rfl rfl ⟨(zo HB.out hw555_0), (zo HB.out hw555_1), (zo HB.out hw555_2), (zo HB.out hw555_3), (zo HB.out hw555_4)⟩ (fun hHeld => ?_); refine with_tabW laws_heldNeedS.tab4 laws_heldNeedS.bits4 (fun HT_ HW_ => ?_)
       generalize wr.drew = w24 at HB hx555_0 hx555_1 hx555_2 hx555_3 hx555_4 hHeld ⊢
       refine zk 0 (some 12) #[z7e, z7f, z7f, z7f, z7f, z7f, z7f, z7f] rfl rfl ?_
       refine zk 1 (some 13) #[z7e, z7e, z7f, z7f, z7f, z7f, z7f, z7f] rfl rfl ?_
       refine zk 2 (some 14) #[z7e, z7e, z7e, z7f, z7f, z7f, z7f, z7f] rfl rfl ?_
       refine zk 3 (some 15) #[z7e, z7e, z7e, z7e, z7f, z7f, z7f, z7f] rfl rfl ?_
       refine zk 5 (some 17) #[z7e, z7e, z7e, z7e, z7f, z7e, z7f, z7f] rfl rfl ?_
       refine zm 4 (some 16) #[z7e, z7e, z7e, z7e, z7e, z7e, z7f, z7f] rfl rfl (Or.inl ⟨zr, z1z⟩) hHeld ?_
       refine one_ (i := 6) (N := some 18) #[z7e, z7e, z7e, z7e, z7e, z7e, z7e, z7f] rfl rfl (one_of HT_.out z1a) z1g (fun K hK => ?_)
       refine goes_ Tryz.func81 z1a rfl #[.int .i64 x1_1] zr rfl rfl z1b ?_
       with_reducible refine (laws_markText.calls k1 x1_1 t556 _ A5.out).mono ?_
       rintro e w25 ⟨rfl, hb⟩
       refine ⟨_, rfl, ?_⟩
       have n0_ := zi (below_step zt hb)
       clear HB
       have HB := n0_
       clear n0_
       (try clear hb)
       (try clear hb2)
       (try clear hk)
       (try clear hi)
       refine hK.out _ _ ⟨(zo HB.out hw555_0), (zo HB.out hw555_1), (zo HB.out hw555_2), (zo HB.out hw555_3), (zo HB.out hw555_4)⟩ (fun hHeld => ?_)
       clear hK K
       refine zn (some 18) rfl ?_
       refine zk 7 (some 19) #[z7e, z7e, z7e, z7e, z7e, z7e, z7e, z7e] rfl rfl ?_
       refine done_ (done_of HT_.out z1a) ?_
       have p557 : 0 ≤ (x5_1 : Int) := of_decide_eq_true z1e
       have q557 : x5_1 < (l0.length : Int) := of_decide_eq_true z1e
       obtain ⟨ad557, e557, hx557_0, hx557_1, hx557_2, hx557_3, hx557_4⟩ := at_T35 HR0.out x5_1 p557 q557
       obtain rfl : ad555 = ad557 := (by injection e557)
       replace hx557_0 := zo HB.out hx557_0
       replace hx557_1 := zo HB.out hx557_1
       replace hx557_2 := zo HB.out hx557_2
       replace hx557_3 := zo HB.out hx557_3
       replace hx557_4 := zo HB.out hx557_4
       replace p557 := eq_true p557
       replace q557 := eq_true q557
       try go_wp2
       go_ret
       exact ⟨zw, zt⟩
     ·rw [if_neg c6] at H
      have c6b0 : (((rd_T35 l0 x5_1).f0).toList == t556.toList) = false := beq_eq_false_iff_ne.mpr c6
      have c6b1 : (((rd_T35 l0 x5_1).f0).toList != t556.toList) = true := bne_iff_ne.mpr c6
      obtain rfl := Option.some.inj H
      try go_wp2
      have n0_ := zi (below_drew1 HB.out)
      clear HB
      have HB := n0_
      clear n0_
      have p555 : 0 ≤ (x5_1 : Int) := of_decide_eq_true z1e
      have q555 : x5_1 < (l0.length : Int) := of_decide_eq_true z1e
      obtain ⟨ad555, e555, hx555_0, hx555_1, hx555_2, hx555_3, hx555_4⟩ := at_T35 HR0.out x5_1 p555 q555
      have hw555_4 := hx555_4
      have hw555_3 := hx555_3
      have hw555_2 := hx555_2
      have hw555_1 := hx555_1
      have hw555_0 := hx555_0
      cases e555
      replace hx555_0 := zo HB.out hx555_0
      replace hx555_1 := zo HB.out hx555_1
      replace hx555_2 := zo HB.out hx555_2
      replace hx555_3 := zo HB.out hx555_3
      replace hx555_4 := zo HB.out hx555_4
      replace p555 := eq_true p555
      replace q555 := eq_true q555
      refine start_ (n := 8) (S := fun w' => w'.cell? (ad555.add ((x5_1).toNat * 5)) = some (.string ((rd_T35 l0 x5_1).f0)) ∧ w'.cell? ⟨(ad555.add ((x5_1).toNat * 5)).block, (ad555.add ((x5_1).toNat * 5)).off + 1, none⟩ = some (.int .i64 ((rd_T35 l0 x5_1).f1.f0)) ∧ w'.cell? ⟨(ad555.add ((x5_1).toNat * 5)).block, (ad555.add ((x5_1).toNat * 5)).off + 2, none⟩ = some (.int .i64 ((rd_T35 l0 x5_1).f1.f1)) ∧ w'.cell? ⟨(ad555.add ((x5_1).toNat * 5)).block, (ad555.add ((x5_1).toNat * 5)).off + 3, none⟩ = some (.int .i64 ((rd_T35 l0 x5_1).f1.f2)) ∧ w'.cell? ⟨(ad555.add ((x5_1).toNat * 5)).block, (ad555.add ((x5_1).toNat * 5)).off + 4, none⟩ = some (.string ((rd_T35 l0 x5_1).f1.f3))) (ds := []) #[z7f, z7f, z7f, z7f, z7f, z7f, z7f, z7f] z1a rfl rfl ⟨(zo HB.out hw555_0), (zo HB.out hw555_1), (zo HB.out hw555_2), (zo HB.out hw555_3), (zo HB.out hw555_4)⟩ (fun hHeld => ?_); refine with_tabW laws_heldNeedS.tab4 laws_heldNeedS.bits4 (fun HT_ HW_ => ?_)
      generalize wr.drew = w26 at HB hx555_0 hx555_1 hx555_2 hx555_3 hx555_4 hHeld ⊢
      refine zk 0 (some 12) #[z7e, z7f, z7f, z7f, z7f, z7f, z7f, z7f] rfl rfl ?_
      refine zk 1 (some 13) #[z7e, z7e, z7f, z7f, z7f, z7f, z7f, z7f] rfl rfl ?_
      refine zk 2 (some 14) #[z7e, z7e, z7e, z7f, z7f, z7f, z7f, z7f] rfl rfl ?_
      refine zk 3 (some 15) #[z7e, z7e, z7e, z7e, z7f, z7f, z7f, z7f] rfl rfl ?_
      refine zk 5 (some 17) #[z7e, z7e, z7e, z7e, z7f, z7e, z7f, z7f] rfl rfl ?_
      refine zm 4 (some 16) #[z7e, z7e, z7e, z7e, z7e, z7e, z7f, z7f] rfl rfl (Or.inl ⟨zr, z1z⟩) hHeld ?_
      refine one_ (i := 6) (N := some 18) #[z7e, z7e, z7e, z7e, z7e, z7e, z7e, z7f] rfl rfl (one_of HT_.out z1a) z1g (fun K hK => ?_)
      refine goes_ Tryz.func81 z1a rfl #[.int .i64 x1_1] zr rfl rfl z1b ?_
      with_reducible refine (laws_markText.calls k1 x1_1 t556 _ A5.out).mono ?_
      rintro e w27 ⟨rfl, hb⟩
      refine ⟨_, rfl, ?_⟩
      have n0_ := zi (below_step zt hb)
      clear HB
      have HB := n0_
      clear n0_
      (try clear hb)
      (try clear hb2)
      (try clear hk)
      (try clear hi)
      refine hK.out _ _ ⟨(zo HB.out hw555_0), (zo HB.out hw555_1), (zo HB.out hw555_2), (zo HB.out hw555_3), (zo HB.out hw555_4)⟩ (fun hHeld => ?_)
      clear hK K
      refine zn (some 18) rfl ?_
      refine zk 7 (some 19) #[z7e, z7e, z7e, z7e, z7e, z7e, z7e, z7e] rfl rfl ?_
      refine done_ (done_of HT_.out z1a) ?_
      try go_wp2
      go_ret
      exact ⟨zw, zt⟩
    ·rw [if_neg c4] at H
     exact absurd H (by simp)
   ·rw [if_neg c3] at H
    have c3b0 := decide_eq_false c3
    clear c3
    obtain rfl := Option.some.inj H
    go_wp2
    go_ret
    exact ⟨zw, zt⟩
def laws_heldEntry.f (k : Nat) (a0_0 : ByteArray) (a0_1 : Int) (a0_2 : Int) (a0_3 : Int) (a0_4 : ByteArray) (l0_5 : List (S35)) (a1 : Int) : Option (Int) := (laws_heldNeedS.f k l0_5 a1).bind fun t563 => (if t563 < 0 then (some (-1)) else (some t563))
set_option maxHeartbeats 8000000 in
set_option maxRecDepth 100000 in
theorem laws_heldEntry.calls (k : Nat) (a0_0 : ByteArray) (a0_1 : Int) (a0_2 : Int) (a0_3 : Int) (a0_4 : ByteArray) (A0_5 : Option Addr) (c0_5 : Nat) (l0_5 : List (S35)) (a1 : Int) (r : Int) (w : World) (hr0_5 : Kd.C k35 w A0_5 l0_5.length l0_5) (hc0_5 : l0_5.length ≤ c0_5) (h : laws_heldEntry.f k a0_0 a0_1 a0_2 a0_3 a0_4 l0_5 a1 = some r) :
  Calls Tryz.prog 21 #[.agg #[.string a0_0, .int .i64 a0_1, .int .i64 a0_2, .int .i64 a0_3, .string a0_4, .slice A0_5 l0_5.length c0_5], .int .i64 a1] w fun e w' => e = .returned (.int .i64 r) ∧ Below w.heap.size w w' := by
 have hu28 := Tryz.underlying28
 have HR0_5 := zi hr0_5
 have HC0_5 := zi hc0_5
 clear hr0_5 hc0_5
 have HB := zi (Below.refl w.heap.size w)
 have H := h
 unfold laws_heldEntry.f at H
 clear h
 replace H := Option.bind_eq_some_iff.mp H
 obtain ⟨t563, A30, H⟩ := H
 try dsimp only at H
 have A3 := zi A30
 clear A30
 by_cases c4 : t563 < 0
 ·rw [if_pos c4] at H
  have c4b0 := decide_eq_true c4
  clear c4
  obtain rfl := Option.some.inj H
  go_enter Tryz.func21, Tryz.ntmps21
  go_wp2_with (first | ((with_reducible refine gate_dst (N := 2) rfl ?_); refine box_event zr (N := 2) zr (cs := #[.string a0_0, .int .i64 a0_1, .int .i64 a0_2, .int .i64 a0_3, .string a0_4, .slice A0_5 l0_5.length c0_5]) (t := 28) zs ?_; intro gb562 hg w5 hbox hb; have n0_ := zi (below_step zt hb); have n1_ := zi hbox; have n2_ := zi ((z5s : w.heap.size ≤ gb562)); have n3_ := zi ((z5s : w.heap.size ≤ gb562)); clear HB; have HB := n0_; have BK562 := n1_; have GW562 := n2_; have GE562 := n3_; clear n0_ n1_ n2_ n3_; clear hb hbox hg; obtain ⟨hcz6_0, hcz6_1, hcz6_2, hcz6_3, hcz6_4, hcz6_5, hfz6_0, hfz6_1, hfz6_2, hfz6_3, hfz6_4, hfz6_5⟩ := zg BK562.out) | ((with_reducible refine gate_callee (f := 48) rfl ?_); refine goesL_ (some 8) rfl rfl Tryz.func48 z1a rfl #[.slice A0_5 l0_5.length c0_5, .int .i64 a1] rfl z1b ?_; (with_reducible refine (laws_heldNeedS.calls k _ _ l0_5 a1 t563 _ ?side1 ?side2 A3.out).mono ?_); (case side1 => exact z1m); (case side2 => exact HC0_5.out); rintro e w7 ⟨rfl, hb⟩; refine ⟨_, rfl, ?_⟩; have n0_ := zi (blk_below (g := gb562) (o := .cells #[.string a0_0, .int .i64 a0_1, .int .i64 a0_2, .int .i64 a0_3, .string a0_4, .slice A0_5 l0_5.length c0_5] 28 (0, 0)) (by (repeat refine zh ?_); exact BK562.out) hb); have n1_ := zi (below_step z5d hb); clear BK562; clear HB; have BK562 := n0_; have HB := n1_; clear n0_ n1_; (try clear hb); (try clear hb2); (try clear hk); (try clear hi)))
  go_ret
  exact ⟨zw, z5d⟩
 ·rw [if_neg c4] at H
  have c4b0 := decide_eq_false c4
  clear c4
  obtain rfl := Option.some.inj H
  go_enter Tryz.func21, Tryz.ntmps21
  go_wp2_with (first | ((with_reducible refine gate_dst (N := 2) rfl ?_); refine box_event zr (N := 2) zr (cs := #[.string a0_0, .int .i64 a0_1, .int .i64 a0_2, .int .i64 a0_3, .string a0_4, .slice A0_5 l0_5.length c0_5]) (t := 28) zs ?_; intro gb562 hg w8 hbox hb; have n0_ := zi (below_step zt hb); have n1_ := zi hbox; have n2_ := zi ((z5s : w.heap.size ≤ gb562)); have n3_ := zi ((z5s : w.heap.size ≤ gb562)); clear HB; have HB := n0_; have BK562 := n1_; have GW562 := n2_; have GE562 := n3_; clear n0_ n1_ n2_ n3_; clear hb hbox hg; obtain ⟨hcz9_0, hcz9_1, hcz9_2, hcz9_3, hcz9_4, hcz9_5, hfz9_0, hfz9_1, hfz9_2, hfz9_3, hfz9_4, hfz9_5⟩ := zg BK562.out) | ((with_reducible refine gate_callee (f := 48) rfl ?_); refine goesL_ (some 8) rfl rfl Tryz.func48 z1a rfl #[.slice A0_5 l0_5.length c0_5, .int .i64 a1] rfl z1b ?_; (with_reducible refine (laws_heldNeedS.calls k _ _ l0_5 a1 t563 _ ?side1 ?side2 A3.out).mono ?_); (case side1 => exact z1m); (case side2 => exact HC0_5.out); rintro e w10 ⟨rfl, hb⟩; refine ⟨_, rfl, ?_⟩; have n0_ := zi (blk_below (g := gb562) (o := .cells #[.string a0_0, .int .i64 a0_1, .int .i64 a0_2, .int .i64 a0_3, .string a0_4, .slice A0_5 l0_5.length c0_5] 28 (0, 0)) (by (repeat refine zh ?_); exact BK562.out) hb); have n1_ := zi (below_step z5d hb); clear BK562; clear HB; have BK562 := n0_; have HB := n1_; clear n0_ n1_; (try clear hb); (try clear hb2); (try clear hk); (try clear hi)))
  go_ret
  exact ⟨zw, z5d⟩
mutual
def laws_FnExactGetEntry.j0 : Nat → ByteArray → Bool → Bool → ByteArray → Int → Int → Int → ByteArray → List (S35) → ByteArray → Int → Int → Int → ByteArray → List (S35) → Option (Bool)
 | 0, _, _, _, _, _, _, _, _, _, _, _, _, _, _, _ => none
 | k + 1, x0, x4, x32, x574000, x574001, x574002, x574003, x574004, x574005, x584000, x584001, x584002, x584003, x584004, x584005 => if x32 = true then (some false) else ((laws_markEntry.f k x584000 x584001 x584002 x584003 x584004 x584005 1).bind fun bt585 => ((laws_heldEntry.f k x584000 x584001 x584002 x584003 x584004 bt585.2 1).bind fun t587 => (if t587 < 0 then (some false) else (if t587 = bt585.1 then ((impl_GetEntry.f k x0).bind fun bt588 => ((laws_eqEntry.f k bt588.1 bt588.2.1 bt588.2.2.1 bt588.2.2.2.1 bt588.2.2.2.2.1 bt588.2.2.2.2.2.1 x574000 x574001 x574002 x574003 x574004 x574005).bind fun t598 => (if t598 = true then (laws_FnExactGetEntry.j1 k bt585.1 (bt588.2.2.2.2.2.2 != x4) x584000 x584001 x584002 x584003 x584004 bt585.2) else (laws_FnExactGetEntry.j1 k bt585.1 true x584000 x584001 x584002 x584003 x584004 bt585.2)))) else (some false)))))
def laws_FnExactGetEntry.j1 : Nat → Int → Bool → ByteArray → Int → Int → Int → ByteArray → List (S35) → Option (Bool)
 | 0, _, _, _, _, _, _, _, _ => none
 | k + 1, x7, x57, x584000, x584001, x584002, x584003, x584004, x584005 => if x57 = true then (some false) else ((laws_heldEntry.f k x584000 x584001 x584002 x584003 x584004 x584005 1).bind fun t599 => (if t599 < 0 then (some false) else (if t599 = x7 then (some true) else (some false))))
end
def laws_FnExactGetEntry.f (k : Nat) (a0 : ByteArray) : Option (Bool) := if (a0.size : Int) > 1048576 then (some true) else ((spec_GetEntry.f k a0).bind fun bt564 => ((impl_GetEntry.f k a0).bind fun bt574 => ((laws_eqEntry.f k bt574.1 bt574.2.1 bt574.2.2.1 bt574.2.2.2.1 bt574.2.2.2.2.1 bt574.2.2.2.2.2.1 bt564.1 bt564.2.1 bt564.2.2.1 bt564.2.2.2.1 bt564.2.2.2.2.1 bt564.2.2.2.2.2.1).bind fun t584 => (if t584 = true then (laws_FnExactGetEntry.j0 k a0 bt564.2.2.2.2.2.2 (bt574.2.2.2.2.2.2 != bt564.2.2.2.2.2.2) bt564.1 bt564.2.1 bt564.2.2.1 bt564.2.2.2.1 bt564.2.2.2.2.1 bt564.2.2.2.2.2.1 bt574.1 bt574.2.1 bt574.2.2.1 bt574.2.2.2.1 bt574.2.2.2.2.1 bt574.2.2.2.2.2.1) else (laws_FnExactGetEntry.j0 k a0 bt564.2.2.2.2.2.2 true bt564.1 bt564.2.1 bt564.2.2.1 bt564.2.2.2.1 bt564.2.2.2.2.1 bt564.2.2.2.2.2.1 bt574.1 bt574.2.1 bt574.2.2.1 bt574.2.2.2.1 bt574.2.2.2.2.1 bt574.2.2.2.2.2.1)))))
set_option maxHeartbeats 8000000 in
set_option maxRecDepth 100000 in
theorem laws_FnExactGetEntry.calls (k : Nat) (a0 : ByteArray) (r : Bool) (w : World) (hG_ : GlobI w) (h : laws_FnExactGetEntry.f k a0 = some r) :
  Calls Tryz.prog 4 #[.string a0] w fun e w' => e = .returned (.bool r) ∧ Below w.heap.size w w' := by
 have HG_ := zi hG_
 clear hG_
 have hu28 := Tryz.underlying28
 have HB := zi (Below.refl w.heap.size w)
 have H := h
 unfold laws_FnExactGetEntry.f at H
 clear h
 by_cases c2 : (a0.size : Int) > 1048576
 ·rw [if_pos c2] at H
  have c2b0 := decide_eq_true c2
  have c2b1 : decide (1048576 < a0.size) = true := decide_eq_true zq
  clear c2
  obtain rfl := Option.some.inj H
  go_enter Tryz.func4, Tryz.ntmps4
  go_wp2
  go_ret
  exact ⟨zw, zt⟩
 ·rw [if_neg c2] at H
  have c2b0 := decide_eq_false c2
  have c2b1 : decide (1048576 < a0.size) = false := decide_eq_false zq
  clear c2
  replace H := Option.bind_eq_some_iff.mp H
  obtain ⟨⟨t564, t565, t566, t567, t568, t569, t572⟩, A30, H⟩ := H
  try dsimp only at H
  have A3 := zi A30
  clear A30
  replace H := Option.bind_eq_some_iff.mp H
  obtain ⟨⟨t574, t575, t576, t577, t578, t579, t582⟩, A40, H⟩ := H
  try dsimp only at H
  have A4 := zi A40
  clear A40
  have HC5 := zi H
  clear H
  go_enter Tryz.func4, Tryz.ntmps4
  go_upto_region 5 with (first | ((with_reducible refine gate_callee (f := 18) rfl ?_); refine goesL_ (some 16) rfl rfl Tryz.func18 z1a rfl #[.string a0] rfl z1b ?_; (with_reducible refine (spec_GetEntry.calls k a0 t564 t565 t566 t567 t568 t569 t572 _ A3.out).mono ?_); rintro e w6 ⟨v570, rfl, ho0, hb⟩; refine ⟨_, rfl, ?_⟩; have n0_ := zi (Kd.R_lower ho0 (below_size zt)); have n1_ := zi (below_step zt hb); clear HB; have HO571 := n0_; have HB := n1_; clear n0_ n1_; (try clear hb); (try clear hb2); (try clear hk); (try clear hi); (try clear ho0)) | ((with_reducible refine gate_dst (N := 3) rfl ?_); refine box_event zr (N := 3) zr (cs := #[.string (⟨#[]⟩ : ByteArray), .int .i64 0, .int .i64 0, .int .i64 0, .string (⟨#[]⟩ : ByteArray), .slice none 0 0]) (t := 28) zs ?_; intro gb573 hg w7 hbox hb; have n0_ := zi (Kd.R_below (by (with_reducible repeat (first | apply Kd.R_alloc | apply Kd.R_drewN | apply Kd.R_drew)); exact HO571.out) hb); have n1_ := zi (below_step zt hb); have n2_ := zi hbox; have n3_ := zi ((z5s : w.heap.size ≤ gb573)); have n4_ := zi ((z5s : w.heap.size ≤ gb573)); clear HO571; clear HB; have HO571 := n0_; have HB := n1_; have BK573 := n2_; have GW573 := n3_; have GE573 := n4_; clear n0_ n1_ n2_ n3_ n4_; clear hb hbox hg; obtain ⟨hcz8_0, hcz8_1, hcz8_2, hcz8_3, hcz8_4, hcz8_5, hfz8_0, hfz8_1, hfz8_2, hfz8_3, hfz8_4, hfz8_5⟩ := zg BK573.out; obtain ⟨Ao9, co9, eo9⟩ := Kd.R_slice HO571.out; subst eo9) | ((with_reducible refine gate_callee (f := 12) rfl ?_); refine goesL_ (some 21) rfl rfl Tryz.func12 z1a rfl #[.string a0] rfl z1b ?_; (with_reducible refine (impl_GetEntry.calls (hG_ := globI_on HG_.out z2f) k a0 t574 t575 t576 t577 t578 t579 t582 _ A4.out).mono ?_); rintro e w10 ⟨v580, rfl, ho0, hb⟩; refine ⟨_, rfl, ?_⟩; have n0_ := zi (Kd.R_elder' (by (with_reducible repeat (first | apply Kd.R_alloc | apply Kd.R_drewN | apply Kd.R_drew)); exact (Kd.R_mono (Kd.R_far (p := ⟨gb573, 5, none⟩) (Kd.R_far (p := ⟨gb573, 4, none⟩) (Kd.R_far (p := ⟨gb573, 3, none⟩) (Kd.R_far (p := ⟨gb573, 2, none⟩) (Kd.R_far (p := ⟨gb573, 1, none⟩) (Kd.R_far (p := ⟨gb573, 0, none⟩) (Kd.R_types HO571.out BK573.out z1g) (fun _ hk => hk.2) (.string t564)) (fun _ hk => hk.2) (.int .i64 t565)) (fun _ hk => hk.2) (.int .i64 t566)) (fun _ hk => hk.2) (.int .i64 t567)) (fun _ hk => hk.2) (.string t568)) (fun _ hk => hk.2) (.slice Ao9 t569.length co9)) (fun _ h_ => h_.1))) (Kd.R_base ho0) hb); have n1_ := zi (Kd.R_lower (Kd.R_new' ho0 (Kd.R_lt (by (with_reducible repeat (first | apply Kd.R_alloc | apply Kd.R_drewN | apply Kd.R_drew)); exact (Kd.R_mono (Kd.R_far (p := ⟨gb573, 5, none⟩) (Kd.R_far (p := ⟨gb573, 4, none⟩) (Kd.R_far (p := ⟨gb573, 3, none⟩) (Kd.R_far (p := ⟨gb573, 2, none⟩) (Kd.R_far (p := ⟨gb573, 1, none⟩) (Kd.R_far (p := ⟨gb573, 0, none⟩) (Kd.R_types HO571.out BK573.out z1g) (fun _ hk => hk.2) (.string t564)) (fun _ hk => hk.2) (.int .i64 t565)) (fun _ hk => hk.2) (.int .i64 t566)) (fun _ hk => hk.2) (.int .i64 t567)) (fun _ hk => hk.2) (.string t568)) (fun _ hk => hk.2) (.slice Ao9 t569.length co9)) (fun _ h_ => h_.1))))) (below_size z5e)); have n2_ := zi (blk_below (g := gb573) (o := .cells #[.string t564, .int .i64 t565, .int .i64 t566, .int .i64 t567, .string t568, .slice Ao9 t569.length co9] 28 (0, 0)) (by (repeat refine zh ?_); refine blk_put (cs := #[.string t564, .int .i64 t565, .int .i64 t566, .int .i64 t567, .string t568, .slice none 0 0]) ?_ 5 _ rfl; (repeat refine zh ?_); refine blk_put (cs := #[.string t564, .int .i64 t565, .int .i64 t566, .int .i64 t567, .string (⟨#[]⟩ : ByteArray), .slice none 0 0]) ?_ 4 _ rfl; (repeat refine zh ?_); refine blk_put (cs := #[.string t564, .int .i64 t565, .int .i64 t566, .int .i64 0, .string (⟨#[]⟩ : ByteArray), .slice none 0 0]) ?_ 3 _ rfl; (repeat refine zh ?_); refine blk_put (cs := #[.string t564, .int .i64 t565, .int .i64 0, .int .i64 0, .string (⟨#[]⟩ : ByteArray), .slice none 0 0]) ?_ 2 _ rfl; (repeat refine zh ?_); refine blk_put (cs := #[.string t564, .int .i64 0, .int .i64 0, .int .i64 0, .string (⟨#[]⟩ : ByteArray), .slice none 0 0]) ?_ 1 _ rfl; (repeat refine zh ?_); refine blk_put (cs := #[.string (⟨#[]⟩ : ByteArray), .int .i64 0, .int .i64 0, .int .i64 0, .string (⟨#[]⟩ : ByteArray), .slice none 0 0]) ?_ 0 _ rfl; (repeat refine zh ?_); exact BK573.out) hb); have n3_ := zi (below_step z5e hb); clear HO571; clear BK573; clear HB; have HO571 := n0_; have HO581 := n1_; have BK573 := n2_; have HB := n3_; clear n0_ n1_ n2_ n3_; (try clear hb); (try clear hb2); (try clear hk); (try clear hi); (try clear ho0)) | ((with_reducible refine gate_dst (N := 5) rfl ?_); refine box_event zr (N := 5) zr (cs := #[.string (⟨#[]⟩ : ByteArray), .int .i64 0, .int .i64 0, .int .i64 0, .string (⟨#[]⟩ : ByteArray), .slice none 0 0]) (t := 28) zs ?_; intro gb583 hg w11 hbox hb; have n0_ := zi (Kd.R_below (by (with_reducible repeat (first | apply Kd.R_alloc | apply Kd.R_drewN | apply Kd.R_drew)); exact HO571.out) hb); have n1_ := zi (Kd.R_below (by (with_reducible repeat (first | apply Kd.R_alloc | apply Kd.R_drewN | apply Kd.R_drew)); exact HO581.out) hb); have n2_ := zi (blk_below (g := gb573) (o := .cells #[.string t564, .int .i64 t565, .int .i64 t566, .int .i64 t567, .string t568, .slice Ao9 t569.length co9] 28 (0, 0)) z5f hb); have n3_ := zi (below_step z5e hb); have n4_ := zi hbox; have n5_ := zi ((by rw [hg]; exact (below_size z5e) : w.heap.size ≤ gb583)); have n6_ := zi ((by rw [hg]; exact (below_size z5e) : w.heap.size ≤ gb583)); have n7_ := zi ((by rw [hg]; exact Nat.ne_of_lt (blk_lt (g := gb573) (o := .cells #[.string t564, .int .i64 t565, .int .i64 t566, .int .i64 t567, .string t568, .slice Ao9 t569.length co9] 28 (0, 0)) z5f) : gb573 ≠ gb583)); have n8_ := zi ((by rw [hg]; exact Nat.ne_of_gt (blk_lt (g := gb573) (o := .cells #[.string t564, .int .i64 t565, .int .i64 t566, .int .i64 t567, .string t568, .slice Ao9 t569.length co9] 28 (0, 0)) z5f) : gb583 ≠ gb573)); clear HO571; clear HO581; clear BK573; clear HB; have HO571 := n0_; have HO581 := n1_; have BK573 := n2_; have HB := n3_; have BK583 := n4_; have GW583 := n5_; have GE583 := n6_; have NB573_583 := n7_; have NB583_573 := n8_; clear n0_ n1_ n2_ n3_ n4_ n5_ n6_ n7_ n8_; clear hb hbox hg; have hnb12 := NB583_573.out; have hnc12 := NB573_583.out; obtain ⟨hcz13_0, hcz13_1, hcz13_2, hcz13_3, hcz13_4, hcz13_5, hfz13_0, hfz13_1, hfz13_2, hfz13_3, hfz13_4, hfz13_5⟩ := zg BK583.out; obtain ⟨Ao14, co14, eo14⟩ := Kd.R_slice HO581.out; subst eo14))
  (try simp only [Act.put, z7g, z7h, z7i])
  go_cut [32] (fun v32 wc => ∃ (kq : Nat) (x32_4 : Bool), v32 = .bool x32_4 ∧ Aside0 (laws_FnExactGetEntry.j0 kq a0 t572 x32_4 t564 t565 t566 t567 t568 t569 t574 t575 t576 t577 t578 t579 = some r) ∧ Aside0 (kq ≤ k) ∧ Aside0 (Kd.R k35 35 wc w.heap.size (fun k_ => some k_ ≠ ((.slice Ao14 t579.length co14) : Value).ownBlock) (.slice Ao9 t569.length co9) t569) ∧ Aside0 (Kd.R k35 35 wc w.heap.size (fun k_ => some k_ ≠ ((.slice Ao9 t569.length co9) : Value).ownBlock) (.slice Ao14 t579.length co14) t579) ∧ Aside0 (wc.heap[gb573]? = some (.cells #[.string t564, .int .i64 t565, .int .i64 t566, .int .i64 t567, .string t568, (.slice Ao9 t569.length co9)] 28 (0, 0))) ∧ Aside0 (wc.heap[gb583]? = some (.cells #[.string t574, .int .i64 t575, .int .i64 t576, .int .i64 t577, .string t578, (.slice Ao14 t579.length co14)] 28 (0, 0))) ∧ Aside0 (Below w.heap.size w wc))
  case first =>
   have H := HC5.out
   clear HC5
   replace H := Option.bind_eq_some_iff.mp H
   obtain ⟨t584, A150, H⟩ := H
   try dsimp only at H
   have A15 := zi A150
   clear A150
   by_cases c16 : t584 = true
   ·subst c16
    rw [if_pos rfl] at H
    have H' := zi H
    clear H
    have hnb17 := NB583_573.out
    have hnc17 := NB573_583.out
    obtain ⟨hcz18_0, hcz18_1, hcz18_2, hcz18_3, hcz18_4, hcz18_5, hfz18_0, hfz18_1, hfz18_2, hfz18_3, hfz18_4, hfz18_5⟩ := zg BK583.out
    obtain ⟨hcz19_0, hcz19_1, hcz19_2, hcz19_3, hcz19_4, hcz19_5, hfz19_0, hfz19_1, hfz19_2, hfz19_3, hfz19_4, hfz19_5⟩ := zg BK573.out
    go_wp2_with (first | ((with_reducible refine gate_callee (f := 19) rfl ?_); refine goesL_ (some 26) rfl rfl Tryz.func19 z1a rfl #[.agg #[.string t574, .int .i64 t575, .int .i64 t576, .int .i64 t577, .string t578, .slice Ao14 t579.length co14], .agg #[.string t564, .int .i64 t565, .int .i64 t566, .int .i64 t567, .string t568, .slice Ao9 t569.length co9]] rfl z1b ?_; (with_reducible refine (laws_eqEntry.calls k t574 t575 t576 t577 t578 _ _ t579 t564 t565 t566 t567 t568 _ _ t569 true _ ?side1 ?side2 ?side3 ?side4 A15.out).mono ?_); (case side1 => refine (Kd.R_reads' (e := 35) (base := w.heap.size) (ok := fun k_ => (True ∧ some k_ ≠ (.slice Ao9 t569.length co9 : Value).ownBlock)) (n := t579.length) (c := co14) ?_).2.2; exact z7a); (case side2 => exact (Kd.R_reads' HO581.out).2.1); (case side3 => refine (Kd.R_reads' (e := 35) (base := w.heap.size) (ok := fun k_ => (True ∧ some k_ ≠ (.slice Ao14 t579.length co14 : Value).ownBlock)) (n := t569.length) (c := co9) ?_).2.2; exact z7b); (case side4 => exact (Kd.R_reads' HO571.out).2.1); rintro e w20 ⟨rfl, hb⟩; refine ⟨_, rfl, ?_⟩; have n0_ := zi (Kd.R_below z7b hb); have n1_ := zi (Kd.R_below z7a hb); have n2_ := zi (blk_below (g := gb573) (o := .cells #[.string t564, .int .i64 t565, .int .i64 t566, .int .i64 t567, .string t568, .slice Ao9 t569.length co9] 28 (0, 0)) (by (repeat refine zh ?_); refine blk_far ?_ NB573_583.out _; (repeat refine zh ?_); refine blk_far ?_ NB573_583.out _; (repeat refine zh ?_); refine blk_far ?_ NB573_583.out _; (repeat refine zh ?_); refine blk_far ?_ NB573_583.out _; (repeat refine zh ?_); refine blk_far ?_ NB573_583.out _; (repeat refine zh ?_); refine blk_far ?_ NB573_583.out _; (repeat refine zh ?_); exact BK573.out) hb); have n3_ := zi (blk_below (g := gb583) (o := .cells #[.string t574, .int .i64 t575, .int .i64 t576, .int .i64 t577, .string t578, .slice Ao14 t579.length co14] 28 (0, 0)) (by (repeat refine zh ?_); refine blk_put (cs := #[.string t574, .int .i64 t575, .int .i64 t576, .int .i64 t577, .string t578, .slice none 0 0]) ?_ 5 _ rfl; (repeat refine zh ?_); refine blk_put (cs := #[.string t574, .int .i64 t575, .int .i64 t576, .int .i64 t577, .string (⟨#[]⟩ : ByteArray), .slice none 0 0]) ?_ 4 _ rfl; (repeat refine zh ?_); refine blk_put (cs := #[.string t574, .int .i64 t575, .int .i64 t576, .int .i64 0, .string (⟨#[]⟩ : ByteArray), .slice none 0 0]) ?_ 3 _ rfl; (repeat refine zh ?_); refine blk_put (cs := #[.string t574, .int .i64 t575, .int .i64 0, .int .i64 0, .string (⟨#[]⟩ : ByteArray), .slice none 0 0]) ?_ 2 _ rfl; (repeat refine zh ?_); refine blk_put (cs := #[.string t574, .int .i64 0, .int .i64 0, .int .i64 0, .string (⟨#[]⟩ : ByteArray), .slice none 0 0]) ?_ 1 _ rfl; (repeat refine zh ?_); refine blk_put (cs := #[.string (⟨#[]⟩ : ByteArray), .int .i64 0, .int .i64 0, .int .i64 0, .string (⟨#[]⟩ : ByteArray), .slice none 0 0]) ?_ 0 _ rfl; (repeat refine zh ?_); exact BK583.out) hb); have n4_ := zi (below_step z5g hb); clear HO571; clear HO581; clear BK573; clear BK583; clear HB; have HO571 := n0_; have HO581 := n1_; have BK573 := n2_; have BK583 := n3_; have HB := n4_; clear n0_ n1_ n2_ n3_ n4_; (try clear hb); (try clear hb2); (try clear hk); (try clear hi)))
    go_meet
    case rel => exact ⟨_, ((t582 != t572)), z1d, H', ⟨z1q⟩, ⟨by (with_reducible repeat (first | apply Kd.R_alloc | apply Kd.R_drewN | apply Kd.R_drew)); exact Kd.R_mono HO571.out (fun _ hk => hk.2)⟩, ⟨by (with_reducible repeat (first | apply Kd.R_alloc | apply Kd.R_drewN | apply Kd.R_drew)); exact Kd.R_mono HO581.out (fun _ hk => hk.2)⟩, ⟨z5f⟩, ⟨z5h⟩, ⟨z5g⟩⟩
   ·replace c16 := Bool.eq_false_iff.mpr c16
    subst c16
    rw [if_neg zj] at H
    have H' := zi H
    clear H
    have hnb21 := NB583_573.out
    have hnc21 := NB573_583.out
    obtain ⟨hcz22_0, hcz22_1, hcz22_2, hcz22_3, hcz22_4, hcz22_5, hfz22_0, hfz22_1, hfz22_2, hfz22_3, hfz22_4, hfz22_5⟩ := zg BK583.out
    obtain ⟨hcz23_0, hcz23_1, hcz23_2, hcz23_3, hcz23_4, hcz23_5, hfz23_0, hfz23_1, hfz23_2, hfz23_3, hfz23_4, hfz23_5⟩ := zg BK573.out
    go_wp2_with (first | ((with_reducible refine gate_callee (f := 19) rfl ?_); refine goesL_ (some 26) rfl rfl Tryz.func19 z1a rfl #[.agg #[.string t574, .int .i64 t575, .int .i64 t576, .int .i64 t577, .string t578, .slice Ao14 t579.length co14], .agg #[.string t564, .int .i64 t565, .int .i64 t566, .int .i64 t567, .string t568, .slice Ao9 t569.length co9]] rfl z1b ?_; (with_reducible refine (laws_eqEntry.calls k t574 t575 t576 t577 t578 _ _ t579 t564 t565 t566 t567 t568 _ _ t569 false _ ?side1 ?side2 ?side3 ?side4 A15.out).mono ?_); (case side1 => refine (Kd.R_reads' (e := 35) (base := w.heap.size) (ok := fun k_ => (True ∧ some k_ ≠ (.slice Ao9 t569.length co9 : Value).ownBlock)) (n := t579.length) (c := co14) ?_).2.2; exact z7a); (case side2 => exact (Kd.R_reads' HO581.out).2.1); (case side3 => refine (Kd.R_reads' (e := 35) (base := w.heap.size) (ok := fun k_ => (True ∧ some k_ ≠ (.slice Ao14 t579.length co14 : Value).ownBlock)) (n := t569.length) (c := co9) ?_).2.2; exact z7b); (case side4 => exact (Kd.R_reads' HO571.out).2.1); rintro e w24 ⟨rfl, hb⟩; refine ⟨_, rfl, ?_⟩; have n0_ := zi (Kd.R_below z7b hb); have n1_ := zi (Kd.R_below z7a hb); have n2_ := zi (blk_below (g := gb573) (o := .cells #[.string t564, .int .i64 t565, .int .i64 t566, .int .i64 t567, .string t568, .slice Ao9 t569.length co9] 28 (0, 0)) (by (repeat refine zh ?_); refine blk_far ?_ NB573_583.out _; (repeat refine zh ?_); refine blk_far ?_ NB573_583.out _; (repeat refine zh ?_); refine blk_far ?_ NB573_583.out _; (repeat refine zh ?_); refine blk_far ?_ NB573_583.out _; (repeat refine zh ?_); refine blk_far ?_ NB573_583.out _; (repeat refine zh ?_); refine blk_far ?_ NB573_583.out _; (repeat refine zh ?_); exact BK573.out) hb); have n3_ := zi (blk_below (g := gb583) (o := .cells #[.string t574, .int .i64 t575, .int .i64 t576, .int .i64 t577, .string t578, .slice Ao14 t579.length co14] 28 (0, 0)) (by (repeat refine zh ?_); refine blk_put (cs := #[.string t574, .int .i64 t575, .int .i64 t576, .int .i64 t577, .string t578, .slice none 0 0]) ?_ 5 _ rfl; (repeat refine zh ?_); refine blk_put (cs := #[.string t574, .int .i64 t575, .int .i64 t576, .int .i64 t577, .string (⟨#[]⟩ : ByteArray), .slice none 0 0]) ?_ 4 _ rfl; (repeat refine zh ?_); refine blk_put (cs := #[.string t574, .int .i64 t575, .int .i64 t576, .int .i64 0, .string (⟨#[]⟩ : ByteArray), .slice none 0 0]) ?_ 3 _ rfl; (repeat refine zh ?_); refine blk_put (cs := #[.string t574, .int .i64 t575, .int .i64 0, .int .i64 0, .string (⟨#[]⟩ : ByteArray), .slice none 0 0]) ?_ 2 _ rfl; (repeat refine zh ?_); refine blk_put (cs := #[.string t574, .int .i64 0, .int .i64 0, .int .i64 0, .string (⟨#[]⟩ : ByteArray), .slice none 0 0]) ?_ 1 _ rfl; (repeat refine zh ?_); refine blk_put (cs := #[.string (⟨#[]⟩ : ByteArray), .int .i64 0, .int .i64 0, .int .i64 0, .string (⟨#[]⟩ : ByteArray), .slice none 0 0]) ?_ 0 _ rfl; (repeat refine zh ?_); exact BK583.out) hb); have n4_ := zi (below_step z5g hb); clear HO571; clear HO581; clear BK573; clear BK583; clear HB; have HO571 := n0_; have HO581 := n1_; have BK573 := n2_; have BK583 := n3_; have HB := n4_; clear n0_ n1_ n2_ n3_ n4_; (try clear hb); (try clear hb2); (try clear hk); (try clear hi)))
    go_meet
    case rel => exact ⟨_, (true), z1d, H', ⟨z1q⟩, ⟨by (with_reducible repeat (first | apply Kd.R_alloc | apply Kd.R_drewN | apply Kd.R_drew)); exact Kd.R_mono HO571.out (fun _ hk => hk.2)⟩, ⟨by (with_reducible repeat (first | apply Kd.R_alloc | apply Kd.R_drewN | apply Kd.R_drew)); exact Kd.R_mono HO581.out (fun _ hk => hk.2)⟩, ⟨z5f⟩, ⟨z5h⟩, ⟨z5g⟩⟩
  case rest =>
   clear HC5
   try clear c1
   try clear c2
   try clear c2b0
   try clear c2b1
   try clear p2
   try clear c4
   try clear c12
   try clear c16
   try clear c17
   try clear c18
   try clear c19
   try clear c21
   try clear hcz13_0
   try clear hcz13_1
   try clear hcz13_2
   try clear hcz13_3
   try clear hcz13_4
   try clear hcz13_5
   try clear hcz18_0
   try clear hcz18_1
   try clear hcz18_2
   try clear hcz18_3
   try clear hcz18_4
   try clear hcz18_5
   try clear hcz19_0
   try clear hcz19_1
   try clear hcz19_2
   try clear hcz19_3
   try clear hcz19_4
   try clear hcz19_5
   try clear hcz22_0
   try clear hcz22_1
   try clear hcz22_2
   try clear hcz22_3
   try clear hcz22_4
   try clear hcz22_5
   try clear hcz23_0
   try clear hcz23_1
   try clear hcz23_2
   try clear hcz23_3
   try clear hcz23_4
   try clear hcz23_5
   try clear hcz8_0
   try clear hcz8_1
   try clear hcz8_2
   try clear hcz8_3
   try clear hcz8_4
   try clear hcz8_5
   try clear hfz13_0
   try clear hfz13_1
   try clear hfz13_2
   try clear hfz13_3
   try clear hfz13_4
   try clear hfz13_5
   try clear hfz18_0
   try clear hfz18_1
   try clear hfz18_2
   try clear hfz18_3
   try clear hfz18_4
   try clear hfz18_5
   try clear hfz19_0
   try clear hfz19_1
   try clear hfz19_2
   try clear hfz19_3
   try clear hfz19_4
   try clear hfz19_5
   try clear hfz22_0
   try clear hfz22_1
   try clear hfz22_2
   try clear hfz22_3
   try clear hfz22_4
   try clear hfz22_5
   try clear hfz23_0
   try clear hfz23_1
   try clear hfz23_2
   try clear hfz23_3
   try clear hfz23_4
   try clear hfz23_5
   try clear hfz8_0
   try clear hfz8_1
   try clear hfz8_2
   try clear hfz8_3
   try clear hfz8_4
   try clear hfz8_5
   obtain ⟨kq, x32_4, rfl, HA, HJ4, HO_574005, HO_584005, BK573, BK583, HB⟩ := hcut
   cases kq with
   | zero => exact absurd HA.out (by simp [laws_FnExactGetEntry.j0])
   | succ kj4 =>
    have H := HA.out
    clear HA
    simp only [laws_FnExactGetEntry.j0] at H
    by_cases c25 : x32_4 = true
    ·subst c25
     rw [if_pos rfl] at H
     obtain rfl := Option.some.inj H
     go_wp2
     go_ret
     exact ⟨zw, z5g⟩
    ·replace c25 := Bool.eq_false_iff.mpr c25
     subst c25
     rw [if_neg zj] at H
     replace H := Option.bind_eq_some_iff.mp H
     obtain ⟨⟨t585, t586⟩, A260, H⟩ := H
     try dsimp only at H
     have A26 := zi A260
     clear A260
     replace H := Option.bind_eq_some_iff.mp H
     obtain ⟨t587, A270, H⟩ := H
     try dsimp only at H
     have A27 := zi A270
     clear A270
     by_cases c28 : t587 < 0
     ·rw [if_pos c28] at H
      have c28b0 := decide_eq_true c28
      clear c28
      obtain rfl := Option.some.inj H
      have hnb29 := NB583_573.out
      have hnc29 := NB573_583.out
      obtain ⟨hcz30_0, hcz30_1, hcz30_2, hcz30_3, hcz30_4, hcz30_5, hfz30_0, hfz30_1, hfz30_2, hfz30_3, hfz30_4, hfz30_5⟩ := zg BK583.out
      go_wp2_with (first | ((with_reducible refine gate_callee (f := 20) rfl ?_); refine goesL_ (some 35) rfl rfl Tryz.func20 z1a rfl #[.agg #[.string t574, .int .i64 t575, .int .i64 t576, .int .i64 t577, .string t578, .slice Ao14 t579.length co14], .int .i64 1] rfl z1b ?_; (with_reducible refine (laws_markEntry.calls kj4 t574 t575 t576 t577 t578 (fun k_ => some k_ = (.slice Ao14 t579.length co14 : Value).ownBlock) (.slice Ao14 t579.length co14) t579 1 t585 t586 w _ ?side1 ?side2 A26.out).mono ?_); (case side1 => exact z5g); (case side2 => exact Kd.R_tight rfl HO_584005.out); rintro e w31 ⟨rfl, hy0, hb, hkp⟩; refine ⟨_, rfl, ?_⟩; have n0_ := zi (Kd.R_mono (ok' := fun k_ => some k_ ≠ (.slice Ao14 t579.length co14 : Value).ownBlock) (Kd.R_keptB (HO_574005.out) hkp (fun k_ hk_ hs_ => (hk_) hs_)) (fun k_ hk_ => hk_.1)); have n1_ := zi (Kd.R_reok rfl hy0 (fun k_ e_ => HO_584005.out.1 k_ e_)); have n2_ := zi (blk_kept z5f hkp (fun hs_ => (fun e_ => (Kd.R_ne HO_584005.out BK573.out z1g) e_) hs_)); have n3_ := zi (blk_kept z5h hkp (fun hs_ => (fun e_ => (Kd.R_ne HO_584005.out BK583.out z1g) e_) hs_)); have n4_ := zi hb; clear HO_574005; clear HO_584005; clear BK573; clear BK583; clear HB; have HO_574005 := n0_; have HO_584005 := n1_; have BK573 := n2_; have BK583 := n3_; have HB := n4_; clear n0_ n1_ n2_ n3_ n4_; (try clear hb); (try clear hkp); (try clear hy0); obtain ⟨hcz32_0, hcz32_1, hcz32_2, hcz32_3, hcz32_4, hcz32_5, hfz32_0, hfz32_1, hfz32_2, hfz32_3, hfz32_4, hfz32_5⟩ := zg BK583.out) | ((with_reducible refine gate_callee (f := 21) rfl ?_); refine goesL_ (some 38) rfl rfl Tryz.func21 z1a rfl #[.agg #[.string t574, .int .i64 t575, .int .i64 t576, .int .i64 t577, .string t578, .slice Ao14 t586.length co14], .int .i64 1] rfl z5i ?_; (with_reducible refine (laws_heldEntry.calls kj4 t574 t575 t576 t577 t578 _ _ t586 1 t587 _ ?side1 ?side2 A27.out).mono ?_); (case side1 => exact z5l); (case side2 => exact z5m); rintro e w33 ⟨rfl, hb⟩; refine ⟨_, rfl, ?_⟩; have n0_ := zi (Kd.R_below z5j hb); have n1_ := zi (Kd.R_below z5k hb); have n2_ := zi (blk_below (g := gb573) (o := .cells #[.string t564, .int .i64 t565, .int .i64 t566, .int .i64 t567, .string t568, .slice Ao9 t569.length co9] 28 (0, 0)) z5f hb); have n3_ := zi (blk_below (g := gb583) (o := .cells #[.string t574, .int .i64 t575, .int .i64 t576, .int .i64 t577, .string t578, .slice Ao14 t579.length co14] 28 (0, 0)) z5h hb); have n4_ := zi (below_step z5g hb); clear HO_574005; clear HO_584005; clear BK573; clear BK583; clear HB; have HO_574005 := n0_; have HO_584005 := n1_; have BK573 := n2_; have BK583 := n3_; have HB := n4_; clear n0_ n1_ n2_ n3_ n4_; (try clear hb); (try clear hb2); (try clear hk); (try clear hi)))
      go_ret
      exact ⟨zw, z5g⟩
     ·rw [if_neg c28] at H
      have c28b0 := decide_eq_false c28
      clear c28
      by_cases c34 : t587 = t585
      ·rw [if_pos c34] at H
       have c34b0 : (t587 == t585) = true := beq_iff_eq.mpr c34
       have c34b1 : (t587 != t585) = false := bne_eq_false_iff_eq.mpr c34
       clear c34
       replace H := Option.bind_eq_some_iff.mp H
       obtain ⟨⟨t588, t589, t590, t591, t592, t593, t596⟩, A350, H⟩ := H
       try dsimp only at H
       have A35 := zi A350
       clear A350
       have HC36 := zi H
       clear H
       have hnb37 := NB583_573.out
       have hnc37 := NB573_583.out
       obtain ⟨hcz38_0, hcz38_1, hcz38_2, hcz38_3, hcz38_4, hcz38_5, hfz38_0, hfz38_1, hfz38_2, hfz38_3, hfz38_4, hfz38_5⟩ := zg BK583.out
       go_upto_region 16 with (first | ((with_reducible refine gate_callee (f := 20) rfl ?_); refine goesL_ (some 35) rfl rfl Tryz.func20 z1a rfl #[.agg #[.string t574, .int .i64 t575, .int .i64 t576, .int .i64 t577, .string t578, .slice Ao14 t579.length co14], .int .i64 1] rfl z1b ?_; (with_reducible refine (laws_markEntry.calls kj4 t574 t575 t576 t577 t578 (fun k_ => some k_ = (.slice Ao14 t579.length co14 : Value).ownBlock) (.slice Ao14 t579.length co14) t579 1 t585 t586 w _ ?side1 ?side2 A26.out).mono ?_); (case side1 => exact z5g); (case side2 => exact Kd.R_tight rfl HO_584005.out); rintro e w39 ⟨rfl, hy0, hb, hkp⟩; refine ⟨_, rfl, ?_⟩; have n0_ := zi (Kd.R_mono (ok' := fun k_ => some k_ ≠ (.slice Ao14 t579.length co14 : Value).ownBlock) (Kd.R_keptB (HO_574005.out) hkp (fun k_ hk_ hs_ => (hk_) hs_)) (fun k_ hk_ => hk_.1)); have n1_ := zi (Kd.R_reok rfl hy0 (fun k_ e_ => HO_584005.out.1 k_ e_)); have n2_ := zi (blk_kept z5f hkp (fun hs_ => (fun e_ => (Kd.R_ne HO_584005.out BK573.out z1g) e_) hs_)); have n3_ := zi (blk_kept z5h hkp (fun hs_ => (fun e_ => (Kd.R_ne HO_584005.out BK583.out z1g) e_) hs_)); have n4_ := zi hb; clear HO_574005; clear HO_584005; clear BK573; clear BK583; clear HB; have HO_574005 := n0_; have HO_584005 := n1_; have BK573 := n2_; have BK583 := n3_; have HB := n4_; clear n0_ n1_ n2_ n3_ n4_; (try clear hb); (try clear hkp); (try clear hy0); obtain ⟨hcz40_0, hcz40_1, hcz40_2, hcz40_3, hcz40_4, hcz40_5, hfz40_0, hfz40_1, hfz40_2, hfz40_3, hfz40_4, hfz40_5⟩ := zg BK583.out) | ((with_reducible refine gate_callee (f := 21) rfl ?_); refine goesL_ (some 38) rfl rfl Tryz.func21 z1a rfl #[.agg #[.string t574, .int .i64 t575, .int .i64 t576, .int .i64 t577, .string t578, .slice Ao14 t586.length co14], .int .i64 1] rfl z5i ?_; (with_reducible refine (laws_heldEntry.calls kj4 t574 t575 t576 t577 t578 _ _ t586 1 t587 _ ?side1 ?side2 A27.out).mono ?_); (case side1 => exact z5l); (case side2 => exact z5m); rintro e w41 ⟨rfl, hb⟩; refine ⟨_, rfl, ?_⟩; have n0_ := zi (Kd.R_below z5j hb); have n1_ := zi (Kd.R_below z5k hb); have n2_ := zi (blk_below (g := gb573) (o := .cells #[.string t564, .int .i64 t565, .int .i64 t566, .int .i64 t567, .string t568, .slice Ao9 t569.length co9] 28 (0, 0)) z5f hb); have n3_ := zi (blk_below (g := gb583) (o := .cells #[.string t574, .int .i64 t575, .int .i64 t576, .int .i64 t577, .string t578, .slice Ao14 t579.length co14] 28 (0, 0)) z5h hb); have n4_ := zi (below_step z5g hb); clear HO_574005; clear HO_584005; clear BK573; clear BK583; clear HB; have HO_574005 := n0_; have HO_584005 := n1_; have BK573 := n2_; have BK583 := n3_; have HB := n4_; clear n0_ n1_ n2_ n3_ n4_; (try clear hb); (try clear hb2); (try clear hk); (try clear hi)) | ((with_reducible refine gate_callee (f := 12) rfl ?_); refine goesL_ (some 46) rfl rfl Tryz.func12 z1a rfl #[.string a0] rfl z1b ?_; (with_reducible refine (impl_GetEntry.calls (hG_ := globI_on HG_.out z2f) kj4 a0 t588 t589 t590 t591 t592 t593 t596 _ A35.out).mono ?_); rintro e w42 ⟨v594, rfl, ho0, hb⟩; refine ⟨_, rfl, ?_⟩; have n0_ := zi (Kd.R_elder' z5j (Kd.R_base ho0) hb); have n1_ := zi (Kd.R_elder' z5k (Kd.R_base ho0) hb); have n2_ := zi (Kd.R_lower (Kd.R_new' (Kd.R_new' ho0 (Kd.R_lt z5j)) (Kd.R_lt z5k)) (below_size z5g)); have n3_ := zi (blk_below (g := gb573) (o := .cells #[.string t564, .int .i64 t565, .int .i64 t566, .int .i64 t567, .string t568, .slice Ao9 t569.length co9] 28 (0, 0)) z5f hb); have n4_ := zi (blk_below (g := gb583) (o := .cells #[.string t574, .int .i64 t575, .int .i64 t576, .int .i64 t577, .string t578, .slice Ao14 t579.length co14] 28 (0, 0)) z5h hb); have n5_ := zi (below_step z5g hb); clear HO_574005; clear HO_584005; clear BK573; clear BK583; clear HB; have HO_574005 := n0_; have HO_584005 := n1_; have HO595 := n2_; have BK573 := n3_; have BK583 := n4_; have HB := n5_; clear n0_ n1_ n2_ n3_ n4_ n5_; (try clear hb); (try clear hb2); (try clear hk); (try clear hi); (try clear ho0)) | ((with_reducible refine gate_dst (N := 9) rfl ?_); refine box_event zr (N := 9) zr (cs := #[.string (⟨#[]⟩ : ByteArray), .int .i64 0, .int .i64 0, .int .i64 0, .string (⟨#[]⟩ : ByteArray), .slice none 0 0]) (t := 28) zs ?_; intro gb597 hg w43 hbox hb; have n0_ := zi (Kd.R_below z5j hb); have n1_ := zi (Kd.R_below z5k hb); have n2_ := zi (Kd.R_below (by (with_reducible repeat (first | apply Kd.R_alloc | apply Kd.R_drewN | apply Kd.R_drew)); exact HO595.out) hb); have n3_ := zi (blk_below (g := gb573) (o := .cells #[.string t564, .int .i64 t565, .int .i64 t566, .int .i64 t567, .string t568, .slice Ao9 t569.length co9] 28 (0, 0)) z5f hb); have n4_ := zi (blk_below (g := gb583) (o := .cells #[.string t574, .int .i64 t575, .int .i64 t576, .int .i64 t577, .string t578, .slice Ao14 t579.length co14] 28 (0, 0)) z5h hb); have n5_ := zi (below_step z5g hb); have n6_ := zi hbox; have n7_ := zi ((by rw [hg]; exact (below_size z5g) : w.heap.size ≤ gb597)); have n8_ := zi ((by rw [hg]; exact (below_size z5g) : w.heap.size ≤ gb597)); have n9_ := zi ((by rw [hg]; exact Nat.ne_of_lt (blk_lt (g := gb573) (o := .cells #[.string t564, .int .i64 t565, .int .i64 t566, .int .i64 t567, .string t568, .slice Ao9 t569.length co9] 28 (0, 0)) z5f) : gb573 ≠ gb597)); have n10_ := zi ((by rw [hg]; exact Nat.ne_of_gt (blk_lt (g := gb573) (o := .cells #[.string t564, .int .i64 t565, .int .i64 t566, .int .i64 t567, .string t568, .slice Ao9 t569.length co9] 28 (0, 0)) z5f) : gb597 ≠ gb573)); have n11_ := zi ((by rw [hg]; exact Nat.ne_of_lt (blk_lt (g := gb583) (o := .cells #[.string t574, .int .i64 t575, .int .i64 t576, .int .i64 t577, .string t578, .slice Ao14 t579.length co14] 28 (0, 0)) z5h) : gb583 ≠ gb597)); have n12_ := zi ((by rw [hg]; exact Nat.ne_of_gt (blk_lt (g := gb583) (o := .cells #[.string t574, .int .i64 t575, .int .i64 t576, .int .i64 t577, .string t578, .slice Ao14 t579.length co14] 28 (0, 0)) z5h) : gb597 ≠ gb583)); clear HO_574005; clear HO_584005; clear HO595; clear BK573; clear BK583; clear HB; have HO_574005 := n0_; have HO_584005 := n1_; have HO595 := n2_; have BK573 := n3_; have BK583 := n4_; have HB := n5_; have BK597 := n6_; have GW597 := n7_; have GE597 := n8_; have NB573_597 := n9_; have NB597_573 := n10_; have NB583_597 := n11_; have NB597_583 := n12_; clear n0_ n1_ n2_ n3_ n4_ n5_ n6_ n7_ n8_ n9_ n10_ n11_ n12_; clear hb hbox hg; have hnb44 := NB597_573.out; have hnc44 := NB573_597.out; have hnb45 := NB597_583.out; have hnc45 := NB583_597.out; obtain ⟨hcz46_0, hcz46_1, hcz46_2, hcz46_3, hcz46_4, hcz46_5, hfz46_0, hfz46_1, hfz46_2, hfz46_3, hfz46_4, hfz46_5⟩ := zg BK597.out; obtain ⟨Ao47, co47, eo47⟩ := Kd.R_slice HO595.out; subst eo47))
       (try simp only [Act.put, z7g, z7h, z7i])
       go_cut [57] (fun v57 wc => ∃ (kq : Nat) (x57_35 : Bool), v57 = .bool x57_35 ∧ Aside0 (laws_FnExactGetEntry.j1 kq t585 x57_35 t574 t575 t576 t577 t578 t586 = some r) ∧ Aside0 (kq ≤ kj4) ∧ Aside0 (Kd.R k35 35 wc w.heap.size (fun k_ => some k_ ≠ ((.slice Ao14 t579.length co14) : Value).ownBlock ∧ some k_ ≠ ((.slice Ao47 t593.length co47) : Value).ownBlock) (.slice Ao9 t569.length co9) t569) ∧ Aside0 (Kd.R k35 35 wc w.heap.size (fun k_ => some k_ ≠ ((.slice Ao9 t569.length co9) : Value).ownBlock ∧ some k_ ≠ ((.slice Ao47 t593.length co47) : Value).ownBlock) (.slice Ao14 t579.length co14) t586) ∧ Aside0 (Kd.R k35 35 wc w.heap.size (fun k_ => some k_ ≠ ((.slice Ao9 t569.length co9) : Value).ownBlock ∧ some k_ ≠ ((.slice Ao14 t579.length co14) : Value).ownBlock) (.slice Ao47 t593.length co47) t593) ∧ Aside0 (wc.heap[gb573]? = some (.cells #[.string t564, .int .i64 t565, .int .i64 t566, .int .i64 t567, .string t568, (.slice Ao9 t569.length co9)] 28 (0, 0))) ∧ Aside0 (wc.heap[gb583]? = some (.cells #[.string t574, .int .i64 t575, .int .i64 t576, .int .i64 t577, .string t578, (.slice Ao14 t579.length co14)] 28 (0, 0))) ∧ Aside0 (wc.heap[gb597]? = some (.cells #[.string t588, .int .i64 t589, .int .i64 t590, .int .i64 t591, .string t592, (.slice Ao47 t593.length co47)] 28 (0, 0))) ∧ Aside0 (Below w.heap.size w wc))
       case first =>
        have H := HC36.out
        clear HC36
        replace H := Option.bind_eq_some_iff.mp H
        obtain ⟨t598, A480, H⟩ := H
        try dsimp only at H
        have A48 := zi A480
        clear A480
        by_cases c49 : t598 = true
        ·subst c49
         rw [if_pos rfl] at H
         have H' := zi H
         clear H
         have hnb50 := NB597_573.out
         have hnc50 := NB573_597.out
         have hnb51 := NB597_583.out
         have hnc51 := NB583_597.out
         obtain ⟨hcz52_0, hcz52_1, hcz52_2, hcz52_3, hcz52_4, hcz52_5, hfz52_0, hfz52_1, hfz52_2, hfz52_3, hfz52_4, hfz52_5⟩ := zg BK597.out
         have hnb53 := NB573_583.out
         have hnc53 := NB583_573.out
         obtain ⟨hcz54_0, hcz54_1, hcz54_2, hcz54_3, hcz54_4, hcz54_5, hfz54_0, hfz54_1, hfz54_2, hfz54_3, hfz54_4, hfz54_5⟩ := zg BK573.out
         go_wp2_with (first | ((with_reducible refine gate_callee (f := 19) rfl ?_); refine goesL_ (some 51) rfl rfl Tryz.func19 z1a rfl #[.agg #[.string t588, .int .i64 t589, .int .i64 t590, .int .i64 t591, .string t592, .slice Ao47 t593.length co47], .agg #[.string t564, .int .i64 t565, .int .i64 t566, .int .i64 t567, .string t568, .slice Ao9 t569.length co9]] rfl z1b ?_; (with_reducible refine (laws_eqEntry.calls kj4 t588 t589 t590 t591 t592 _ _ t593 t564 t565 t566 t567 t568 _ _ t569 true _ ?side1 ?side2 ?side3 ?side4 A48.out).mono ?_); (case side1 => refine (Kd.R_reads' (e := 35) (base := w.heap.size) (ok := fun k_ => ((True ∧ some k_ ≠ (.slice Ao9 t569.length co9 : Value).ownBlock) ∧ some k_ ≠ (.slice Ao14 t579.length co14 : Value).ownBlock)) (n := t593.length) (c := co47) ?_).2.2; exact z7c); (case side2 => exact (Kd.R_reads' HO595.out).2.1); (case side3 => refine (Kd.R_reads' (e := 35) (base := w.heap.size) (ok := fun k_ => (some k_ ≠ (.slice Ao14 t579.length co14 : Value).ownBlock ∧ some k_ ≠ (.slice Ao47 t593.length co47 : Value).ownBlock)) (n := t569.length) (c := co9) ?_).2.2; exact z7d); (case side4 => exact (Kd.R_reads' HO_574005.out).2.1); rintro e w55 ⟨rfl, hb⟩; refine ⟨_, rfl, ?_⟩; have n0_ := zi (Kd.R_below z7d hb); have n1_ := zi (Kd.R_below (by (with_reducible repeat (first | apply Kd.R_alloc | apply Kd.R_drewN | apply Kd.R_drew)); exact (Kd.R_mono (Kd.R_far (p := ⟨gb597, 5, none⟩) (Kd.R_far (p := ⟨gb597, 4, none⟩) (Kd.R_far (p := ⟨gb597, 3, none⟩) (Kd.R_far (p := ⟨gb597, 2, none⟩) (Kd.R_far (p := ⟨gb597, 1, none⟩) (Kd.R_far (p := ⟨gb597, 0, none⟩) (Kd.R_types HO_584005.out BK597.out z1g) (fun _ hk => hk.2) (.string t588)) (fun _ hk => hk.2) (.int .i64 t589)) (fun _ hk => hk.2) (.int .i64 t590)) (fun _ hk => hk.2) (.int .i64 t591)) (fun _ hk => hk.2) (.string t592)) (fun _ hk => hk.2) (.slice Ao47 t593.length co47)) (fun _ h_ => h_.1))) hb); have n2_ := zi (Kd.R_below z7c hb); have n3_ := zi (blk_below (g := gb573) (o := .cells #[.string t564, .int .i64 t565, .int .i64 t566, .int .i64 t567, .string t568, .slice Ao9 t569.length co9] 28 (0, 0)) (by (repeat refine zh ?_); refine blk_far ?_ NB573_597.out _; (repeat refine zh ?_); refine blk_far ?_ NB573_597.out _; (repeat refine zh ?_); refine blk_far ?_ NB573_597.out _; (repeat refine zh ?_); refine blk_far ?_ NB573_597.out _; (repeat refine zh ?_); refine blk_far ?_ NB573_597.out _; (repeat refine zh ?_); refine blk_far ?_ NB573_597.out _; (repeat refine zh ?_); exact BK573.out) hb); have n4_ := zi (blk_below (g := gb583) (o := .cells #[.string t574, .int .i64 t575, .int .i64 t576, .int .i64 t577, .string t578, .slice Ao14 t579.length co14] 28 (0, 0)) (by (repeat refine zh ?_); refine blk_far ?_ NB583_597.out _; (repeat refine zh ?_); refine blk_far ?_ NB583_597.out _; (repeat refine zh ?_); refine blk_far ?_ NB583_597.out _; (repeat refine zh ?_); refine blk_far ?_ NB583_597.out _; (repeat refine zh ?_); refine blk_far ?_ NB583_597.out _; (repeat refine zh ?_); refine blk_far ?_ NB583_597.out _; (repeat refine zh ?_); exact BK583.out) hb); have n5_ := zi (blk_below (g := gb597) (o := .cells #[.string t588, .int .i64 t589, .int .i64 t590, .int .i64 t591, .string t592, .slice Ao47 t593.length co47] 28 (0, 0)) (by (repeat refine zh ?_); refine blk_put (cs := #[.string t588, .int .i64 t589, .int .i64 t590, .int .i64 t591, .string t592, .slice none 0 0]) ?_ 5 _ rfl; (repeat refine zh ?_); refine blk_put (cs := #[.string t588, .int .i64 t589, .int .i64 t590, .int .i64 t591, .string (⟨#[]⟩ : ByteArray), .slice none 0 0]) ?_ 4 _ rfl; (repeat refine zh ?_); refine blk_put (cs := #[.string t588, .int .i64 t589, .int .i64 t590, .int .i64 0, .string (⟨#[]⟩ : ByteArray), .slice none 0 0]) ?_ 3 _ rfl; (repeat refine zh ?_); refine blk_put (cs := #[.string t588, .int .i64 t589, .int .i64 0, .int .i64 0, .string (⟨#[]⟩ : ByteArray), .slice none 0 0]) ?_ 2 _ rfl; (repeat refine zh ?_); refine blk_put (cs := #[.string t588, .int .i64 0, .int .i64 0, .int .i64 0, .string (⟨#[]⟩ : ByteArray), .slice none 0 0]) ?_ 1 _ rfl; (repeat refine zh ?_); refine blk_put (cs := #[.string (⟨#[]⟩ : ByteArray), .int .i64 0, .int .i64 0, .int .i64 0, .string (⟨#[]⟩ : ByteArray), .slice none 0 0]) ?_ 0 _ rfl; (repeat refine zh ?_); exact BK597.out) hb); have n6_ := zi (below_step z5n hb); clear HO_574005; clear HO_584005; clear HO595; clear BK573; clear BK583; clear BK597; clear HB; have HO_574005 := n0_; have HO_584005 := n1_; have HO595 := n2_; have BK573 := n3_; have BK583 := n4_; have BK597 := n5_; have HB := n6_; clear n0_ n1_ n2_ n3_ n4_ n5_ n6_; (try clear hb); (try clear hb2); (try clear hk); (try clear hi)))
         go_meet
         case rel => exact ⟨_, ((t596 != t572)), z1d, H', ⟨by have := HJ4.out; first | omega | exact Nat.le_refl _⟩, ⟨z5j⟩, ⟨z5k⟩, ⟨by (with_reducible repeat (first | apply Kd.R_alloc | apply Kd.R_drewN | apply Kd.R_drew)); exact Kd.R_mono HO595.out (fun _ hk => ⟨hk.1.2, hk.2⟩)⟩, ⟨z5f⟩, ⟨z5h⟩, ⟨z5o⟩, ⟨z5n⟩⟩
        ·replace c49 := Bool.eq_false_iff.mpr c49
         subst c49
         rw [if_neg zj] at H
         have H' := zi H
         clear H
         have hnb56 := NB597_573.out
         have hnc56 := NB573_597.out
         have hnb57 := NB597_583.out
         have hnc57 := NB583_597.out
         obtain ⟨hcz58_0, hcz58_1, hcz58_2, hcz58_3, hcz58_4, hcz58_5, hfz58_0, hfz58_1, hfz58_2, hfz58_3, hfz58_4, hfz58_5⟩ := zg BK597.out
         have hnb59 := NB573_583.out
         have hnc59 := NB583_573.out
         obtain ⟨hcz60_0, hcz60_1, hcz60_2, hcz60_3, hcz60_4, hcz60_5, hfz60_0, hfz60_1, hfz60_2, hfz60_3, hfz60_4, hfz60_5⟩ := zg BK573.out
         go_wp2_with (first | ((with_reducible refine gate_callee (f := 19) rfl ?_); refine goesL_ (some 51) rfl rfl Tryz.func19 z1a rfl #[.agg #[.string t588, .int .i64 t589, .int .i64 t590, .int .i64 t591, .string t592, .slice Ao47 t593.length co47], .agg #[.string t564, .int .i64 t565, .int .i64 t566, .int .i64 t567, .string t568, .slice Ao9 t569.length co9]] rfl z1b ?_; (with_reducible refine (laws_eqEntry.calls kj4 t588 t589 t590 t591 t592 _ _ t593 t564 t565 t566 t567 t568 _ _ t569 false _ ?side1 ?side2 ?side3 ?side4 A48.out).mono ?_); (case side1 => refine (Kd.R_reads' (e := 35) (base := w.heap.size) (ok := fun k_ => ((True ∧ some k_ ≠ (.slice Ao9 t569.length co9 : Value).ownBlock) ∧ some k_ ≠ (.slice Ao14 t579.length co14 : Value).ownBlock)) (n := t593.length) (c := co47) ?_).2.2; exact z7c); (case side2 => exact (Kd.R_reads' HO595.out).2.1); (case side3 => refine (Kd.R_reads' (e := 35) (base := w.heap.size) (ok := fun k_ => (some k_ ≠ (.slice Ao14 t579.length co14 : Value).ownBlock ∧ some k_ ≠ (.slice Ao47 t593.length co47 : Value).ownBlock)) (n := t569.length) (c := co9) ?_).2.2; exact z7d); (case side4 => exact (Kd.R_reads' HO_574005.out).2.1); rintro e w61 ⟨rfl, hb⟩; refine ⟨_, rfl, ?_⟩; have n0_ := zi (Kd.R_below z7d hb); have n1_ := zi (Kd.R_below (by (with_reducible repeat (first | apply Kd.R_alloc | apply Kd.R_drewN | apply Kd.R_drew)); exact (Kd.R_mono (Kd.R_far (p := ⟨gb597, 5, none⟩) (Kd.R_far (p := ⟨gb597, 4, none⟩) (Kd.R_far (p := ⟨gb597, 3, none⟩) (Kd.R_far (p := ⟨gb597, 2, none⟩) (Kd.R_far (p := ⟨gb597, 1, none⟩) (Kd.R_far (p := ⟨gb597, 0, none⟩) (Kd.R_types HO_584005.out BK597.out z1g) (fun _ hk => hk.2) (.string t588)) (fun _ hk => hk.2) (.int .i64 t589)) (fun _ hk => hk.2) (.int .i64 t590)) (fun _ hk => hk.2) (.int .i64 t591)) (fun _ hk => hk.2) (.string t592)) (fun _ hk => hk.2) (.slice Ao47 t593.length co47)) (fun _ h_ => h_.1))) hb); have n2_ := zi (Kd.R_below z7c hb); have n3_ := zi (blk_below (g := gb573) (o := .cells #[.string t564, .int .i64 t565, .int .i64 t566, .int .i64 t567, .string t568, .slice Ao9 t569.length co9] 28 (0, 0)) (by (repeat refine zh ?_); refine blk_far ?_ NB573_597.out _; (repeat refine zh ?_); refine blk_far ?_ NB573_597.out _; (repeat refine zh ?_); refine blk_far ?_ NB573_597.out _; (repeat refine zh ?_); refine blk_far ?_ NB573_597.out _; (repeat refine zh ?_); refine blk_far ?_ NB573_597.out _; (repeat refine zh ?_); refine blk_far ?_ NB573_597.out _; (repeat refine zh ?_); exact BK573.out) hb); have n4_ := zi (blk_below (g := gb583) (o := .cells #[.string t574, .int .i64 t575, .int .i64 t576, .int .i64 t577, .string t578, .slice Ao14 t579.length co14] 28 (0, 0)) (by (repeat refine zh ?_); refine blk_far ?_ NB583_597.out _; (repeat refine zh ?_); refine blk_far ?_ NB583_597.out _; (repeat refine zh ?_); refine blk_far ?_ NB583_597.out _; (repeat refine zh ?_); refine blk_far ?_ NB583_597.out _; (repeat refine zh ?_); refine blk_far ?_ NB583_597.out _; (repeat refine zh ?_); refine blk_far ?_ NB583_597.out _; (repeat refine zh ?_); exact BK583.out) hb); have n5_ := zi (blk_below (g := gb597) (o := .cells #[.string t588, .int .i64 t589, .int .i64 t590, .int .i64 t591, .string t592, .slice Ao47 t593.length co47] 28 (0, 0)) (by (repeat refine zh ?_); refine blk_put (cs := #[.string t588, .int .i64 t589, .int .i64 t590, .int .i64 t591, .string t592, .slice none 0 0]) ?_ 5 _ rfl; (repeat refine zh ?_); refine blk_put (cs := #[.string t588, .int .i64 t589, .int .i64 t590, .int .i64 t591, .string (⟨#[]⟩ : ByteArray), .slice none 0 0]) ?_ 4 _ rfl; (repeat refine zh ?_); refine blk_put (cs := #[.string t588, .int .i64 t589, .int .i64 t590, .int .i64 0, .string (⟨#[]⟩ : ByteArray), .slice none 0 0]) ?_ 3 _ rfl; (repeat refine zh ?_); refine blk_put (cs := #[.string t588, .int .i64 t589, .int .i64 0, .int .i64 0, .string (⟨#[]⟩ : ByteArray), .slice none 0 0]) ?_ 2 _ rfl; (repeat refine zh ?_); refine blk_put (cs := #[.string t588, .int .i64 0, .int .i64 0, .int .i64 0, .string (⟨#[]⟩ : ByteArray), .slice none 0 0]) ?_ 1 _ rfl; (repeat refine zh ?_); refine blk_put (cs := #[.string (⟨#[]⟩ : ByteArray), .int .i64 0, .int .i64 0, .int .i64 0, .string (⟨#[]⟩ : ByteArray), .slice none 0 0]) ?_ 0 _ rfl; (repeat refine zh ?_); exact BK597.out) hb); have n6_ := zi (below_step z5n hb); clear HO_574005; clear HO_584005; clear HO595; clear BK573; clear BK583; clear BK597; clear HB; have HO_574005 := n0_; have HO_584005 := n1_; have HO595 := n2_; have BK573 := n3_; have BK583 := n4_; have BK597 := n5_; have HB := n6_; clear n0_ n1_ n2_ n3_ n4_ n5_ n6_; (try clear hb); (try clear hb2); (try clear hk); (try clear hi)))
         go_meet
         case rel => exact ⟨_, (true), z1d, H', ⟨by have := HJ4.out; first | omega | exact Nat.le_refl _⟩, ⟨z5j⟩, ⟨z5k⟩, ⟨by (with_reducible repeat (first | apply Kd.R_alloc | apply Kd.R_drewN | apply Kd.R_drew)); exact Kd.R_mono HO595.out (fun _ hk => ⟨hk.1.2, hk.2⟩)⟩, ⟨z5f⟩, ⟨z5h⟩, ⟨z5o⟩, ⟨z5n⟩⟩
       case rest =>
        clear HC36
        try clear c1
        try clear c2
        try clear c2b0
        try clear c2b1
        try clear p2
        try clear c3
        try clear c4
        try clear c5
        try clear c12
        try clear c16
        try clear c17
        try clear c18
        try clear c19
        try clear c20
        try clear c21
        try clear c25
        try clear c28
        try clear c28b0
        try clear c29
        try clear c34
        try clear c34b0
        try clear c34b1
        try clear c37
        try clear c44
        try clear c45
        try clear c49
        try clear c50
        try clear c51
        try clear c53
        try clear c56
        try clear c57
        try clear c59
        try clear hcz13_0
        try clear hcz13_1
        try clear hcz13_2
        try clear hcz13_3
        try clear hcz13_4
        try clear hcz13_5
        try clear hcz18_0
        try clear hcz18_1
        try clear hcz18_2
        try clear hcz18_3
        try clear hcz18_4
        try clear hcz18_5
        try clear hcz19_0
        try clear hcz19_1
        try clear hcz19_2
        try clear hcz19_3
        try clear hcz19_4
        try clear hcz19_5
        try clear hcz22_0
        try clear hcz22_1
        try clear hcz22_2
        try clear hcz22_3
        try clear hcz22_4
        try clear hcz22_5
        try clear hcz23_0
        try clear hcz23_1
        try clear hcz23_2
        try clear hcz23_3
        try clear hcz23_4
        try clear hcz23_5
        try clear hcz30_0
        try clear hcz30_1
        try clear hcz30_2
        try clear hcz30_3
        try clear hcz30_4
        try clear hcz30_5
        try clear hcz32_0
        try clear hcz32_1
        try clear hcz32_2
        try clear hcz32_3
        try clear hcz32_4
        try clear hcz32_5
        try clear hcz38_0
        try clear hcz38_1
        try clear hcz38_2
        try clear hcz38_3
        try clear hcz38_4
        try clear hcz38_5
        try clear hcz40_0
        try clear hcz40_1
        try clear hcz40_2
        try clear hcz40_3
        try clear hcz40_4
        try clear hcz40_5
        try clear hcz46_0
        try clear hcz46_1
        try clear hcz46_2
        try clear hcz46_3
        try clear hcz46_4
        try clear hcz46_5
        try clear hcz52_0
        try clear hcz52_1
        try clear hcz52_2
        try clear hcz52_3
        try clear hcz52_4
        try clear hcz52_5
        try clear hcz54_0
        try clear hcz54_1
        try clear hcz54_2
        try clear hcz54_3
        try clear hcz54_4
        try clear hcz54_5
        try clear hcz58_0
        try clear hcz58_1
        try clear hcz58_2
        try clear hcz58_3
        try clear hcz58_4
        try clear hcz58_5
        try clear hcz60_0
        try clear hcz60_1
        try clear hcz60_2
        try clear hcz60_3
        try clear hcz60_4
        try clear hcz60_5
        try clear hcz8_0
        try clear hcz8_1
        try clear hcz8_2
        try clear hcz8_3
        try clear hcz8_4
        try clear hcz8_5
        try clear hfz13_0
        try clear hfz13_1
        try clear hfz13_2
        try clear hfz13_3
        try clear hfz13_4
        try clear hfz13_5
        try clear hfz18_0
        try clear hfz18_1
        try clear hfz18_2
        try clear hfz18_3
        try clear hfz18_4
        try clear hfz18_5
        try clear hfz19_0
        try clear hfz19_1
        try clear hfz19_2
        try clear hfz19_3
        try clear hfz19_4
        try clear hfz19_5
        try clear hfz22_0
        try clear hfz22_1
        try clear hfz22_2
        try clear hfz22_3
        try clear hfz22_4
        try clear hfz22_5
        try clear hfz23_0
        try clear hfz23_1
        try clear hfz23_2
        try clear hfz23_3
        try clear hfz23_4
        try clear hfz23_5
        try clear hfz30_0
        try clear hfz30_1
        try clear hfz30_2
        try clear hfz30_3
        try clear hfz30_4
        try clear hfz30_5
        try clear hfz32_0
        try clear hfz32_1
        try clear hfz32_2
        try clear hfz32_3
        try clear hfz32_4
        try clear hfz32_5
        try clear hfz38_0
        try clear hfz38_1
        try clear hfz38_2
        try clear hfz38_3
        try clear hfz38_4
        try clear hfz38_5
        try clear hfz40_0
        try clear hfz40_1
        try clear hfz40_2
        try clear hfz40_3
        try clear hfz40_4
        try clear hfz40_5
        try clear hfz46_0
        try clear hfz46_1
        try clear hfz46_2
        try clear hfz46_3
        try clear hfz46_4
        try clear hfz46_5
        try clear hfz52_0
        try clear hfz52_1
        try clear hfz52_2
        try clear hfz52_3
        try clear hfz52_4
        try clear hfz52_5
        try clear hfz54_0
        try clear hfz54_1
        try clear hfz54_2
        try clear hfz54_3
        try clear hfz54_4
        try clear hfz54_5
        try clear hfz58_0
        try clear hfz58_1
        try clear hfz58_2
        try clear hfz58_3
        try clear hfz58_4
        try clear hfz58_5
        try clear hfz60_0
        try clear hfz60_1
        try clear hfz60_2
        try clear hfz60_3
        try clear hfz60_4
        try clear hfz60_5
        try clear hfz8_0
        try clear hfz8_1
        try clear hfz8_2
        try clear hfz8_3
        try clear hfz8_4
        try clear hfz8_5
        try clear p2
        obtain ⟨kq, x57_35, rfl, HA, HJ35, HO_574005, HO_584005, HO_598005, BK573, BK583, BK597, HB⟩ := hcut
        have hl584005_35 := (Kd.R_reads' HO_584005.out).1
        rw [hl584005_35] at HO_584005
        (try simp only [hl584005_35])
        (try simp only [hl584005_35] at BK573)
        (try simp only [hl584005_35] at BK583)
        (try simp only [hl584005_35] at BK597)
        (try simp only [hl584005_35] at HO_574005)
        (try simp only [hl584005_35] at HO_598005)
        cases kq with
        | zero => exact absurd HA.out (by simp [laws_FnExactGetEntry.j1])
        | succ kj35 =>
         have H := HA.out
         clear HA
         simp only [laws_FnExactGetEntry.j1] at H
         by_cases c62 : x57_35 = true
         ·subst c62
          rw [if_pos rfl] at H
          obtain rfl := Option.some.inj H
          go_wp2
          go_ret
          exact ⟨zw, z5n⟩
         ·replace c62 := Bool.eq_false_iff.mpr c62
          subst c62
          rw [if_neg zj] at H
          replace H := Option.bind_eq_some_iff.mp H
          obtain ⟨t599, A630, H⟩ := H
          try dsimp only at H
          have A63 := zi A630
          clear A630
          by_cases c64 : t599 < 0
          ·rw [if_pos c64] at H
           have c64b0 := decide_eq_true c64
           clear c64
           obtain rfl := Option.some.inj H
           have hnb65 := NB583_573.out
           have hnc65 := NB573_583.out
           have hnb66 := NB583_597.out
           have hnc66 := NB597_583.out
           obtain ⟨hcz67_0, hcz67_1, hcz67_2, hcz67_3, hcz67_4, hcz67_5, hfz67_0, hfz67_1, hfz67_2, hfz67_3, hfz67_4, hfz67_5⟩ := zg BK583.out
           go_wp2_with (first | ((with_reducible refine gate_callee (f := 21) rfl ?_); refine goesL_ (some 60) rfl rfl Tryz.func21 z1a rfl #[.agg #[.string t574, .int .i64 t575, .int .i64 t576, .int .i64 t577, .string t578, .slice Ao14 t586.length co14], .int .i64 1] rfl z1b ?_; (with_reducible refine (laws_heldEntry.calls kj35 t574 t575 t576 t577 t578 _ _ t586 1 t599 _ ?side1 ?side2 A63.out).mono ?_); (case side1 => exact z5l); (case side2 => exact (Kd.R_reads' HO_584005.out).2.1); rintro e w68 ⟨rfl, hb⟩; refine ⟨_, rfl, ?_⟩; have n0_ := zi (Kd.R_below z5j hb); have n1_ := zi (Kd.R_below z5k hb); have n2_ := zi (Kd.R_below z5p hb); have n3_ := zi (blk_below (g := gb573) (o := .cells #[.string t564, .int .i64 t565, .int .i64 t566, .int .i64 t567, .string t568, .slice Ao9 t569.length co9] 28 (0, 0)) z5f hb); have n4_ := zi (blk_below (g := gb583) (o := .cells #[.string t574, .int .i64 t575, .int .i64 t576, .int .i64 t577, .string t578, .slice Ao14 t586.length co14] 28 (0, 0)) z5h hb); have n5_ := zi (blk_below (g := gb597) (o := .cells #[.string t588, .int .i64 t589, .int .i64 t590, .int .i64 t591, .string t592, .slice Ao47 t593.length co47] 28 (0, 0)) z5o hb); have n6_ := zi (below_step z5n hb); clear HO_574005; clear HO_584005; clear HO_598005; clear BK573; clear BK583; clear BK597; clear HB; have HO_574005 := n0_; have HO_584005 := n1_; have HO_598005 := n2_; have BK573 := n3_; have BK583 := n4_; have BK597 := n5_; have HB := n6_; clear n0_ n1_ n2_ n3_ n4_ n5_ n6_; (try clear hb); (try clear hb2); (try clear hk); (try clear hi)))
           go_ret
           exact ⟨zw, z5n⟩
          ·rw [if_neg c64] at H
           have c64b0 := decide_eq_false c64
           clear c64
           by_cases c69 : t599 = t585
           ·rw [if_pos c69] at H
            have c69b0 : (t599 == t585) = true := beq_iff_eq.mpr c69
            have c69b1 : (t599 != t585) = false := bne_eq_false_iff_eq.mpr c69
            clear c69
            obtain rfl := Option.some.inj H
            have hnb70 := NB583_573.out
            have hnc70 := NB573_583.out
            have hnb71 := NB583_597.out
            have hnc71 := NB597_583.out
            obtain ⟨hcz72_0, hcz72_1, hcz72_2, hcz72_3, hcz72_4, hcz72_5, hfz72_0, hfz72_1, hfz72_2, hfz72_3, hfz72_4, hfz72_5⟩ := zg BK583.out
            go_wp2_with (first | ((with_reducible refine gate_callee (f := 21) rfl ?_); refine goesL_ (some 60) rfl rfl Tryz.func21 z1a rfl #[.agg #[.string t574, .int .i64 t575, .int .i64 t576, .int .i64 t577, .string t578, .slice Ao14 t586.length co14], .int .i64 1] rfl z1b ?_; (with_reducible refine (laws_heldEntry.calls kj35 t574 t575 t576 t577 t578 _ _ t586 1 t599 _ ?side1 ?side2 A63.out).mono ?_); (case side1 => exact z5l); (case side2 => exact (Kd.R_reads' HO_584005.out).2.1); rintro e w73 ⟨rfl, hb⟩; refine ⟨_, rfl, ?_⟩; have n0_ := zi (Kd.R_below z5j hb); have n1_ := zi (Kd.R_below z5k hb); have n2_ := zi (Kd.R_below z5p hb); have n3_ := zi (blk_below (g := gb573) (o := .cells #[.string t564, .int .i64 t565, .int .i64 t566, .int .i64 t567, .string t568, .slice Ao9 t569.length co9] 28 (0, 0)) z5f hb); have n4_ := zi (blk_below (g := gb583) (o := .cells #[.string t574, .int .i64 t575, .int .i64 t576, .int .i64 t577, .string t578, .slice Ao14 t586.length co14] 28 (0, 0)) z5h hb); have n5_ := zi (blk_below (g := gb597) (o := .cells #[.string t588, .int .i64 t589, .int .i64 t590, .int .i64 t591, .string t592, .slice Ao47 t593.length co47] 28 (0, 0)) z5o hb); have n6_ := zi (below_step z5n hb); clear HO_574005; clear HO_584005; clear HO_598005; clear BK573; clear BK583; clear BK597; clear HB; have HO_574005 := n0_; have HO_584005 := n1_; have HO_598005 := n2_; have BK573 := n3_; have BK583 := n4_; have BK597 := n5_; have HB := n6_; clear n0_ n1_ n2_ n3_ n4_ n5_ n6_; (try clear hb); (try clear hb2); (try clear hk); (try clear hi)))
            go_ret
            exact ⟨zw, z5n⟩
           ·rw [if_neg c69] at H
            have c69b0 : (t599 == t585) = false := beq_eq_false_iff_ne.mpr c69
            have c69b1 : (t599 != t585) = true := bne_iff_ne.mpr c69
            obtain rfl := Option.some.inj H
            have hnb74 := NB583_573.out
            have hnc74 := NB573_583.out
            have hnb75 := NB583_597.out
            have hnc75 := NB597_583.out
            obtain ⟨hcz76_0, hcz76_1, hcz76_2, hcz76_3, hcz76_4, hcz76_5, hfz76_0, hfz76_1, hfz76_2, hfz76_3, hfz76_4, hfz76_5⟩ := zg BK583.out
            go_wp2_with (first | ((with_reducible refine gate_callee (f := 21) rfl ?_); refine goesL_ (some 60) rfl rfl Tryz.func21 z1a rfl #[.agg #[.string t574, .int .i64 t575, .int .i64 t576, .int .i64 t577, .string t578, .slice Ao14 t586.length co14], .int .i64 1] rfl z1b ?_; (with_reducible refine (laws_heldEntry.calls kj35 t574 t575 t576 t577 t578 _ _ t586 1 t599 _ ?side1 ?side2 A63.out).mono ?_); (case side1 => exact z5l); (case side2 => exact (Kd.R_reads' HO_584005.out).2.1); rintro e w77 ⟨rfl, hb⟩; refine ⟨_, rfl, ?_⟩; have n0_ := zi (Kd.R_below z5j hb); have n1_ := zi (Kd.R_below z5k hb); have n2_ := zi (Kd.R_below z5p hb); have n3_ := zi (blk_below (g := gb573) (o := .cells #[.string t564, .int .i64 t565, .int .i64 t566, .int .i64 t567, .string t568, .slice Ao9 t569.length co9] 28 (0, 0)) z5f hb); have n4_ := zi (blk_below (g := gb583) (o := .cells #[.string t574, .int .i64 t575, .int .i64 t576, .int .i64 t577, .string t578, .slice Ao14 t586.length co14] 28 (0, 0)) z5h hb); have n5_ := zi (blk_below (g := gb597) (o := .cells #[.string t588, .int .i64 t589, .int .i64 t590, .int .i64 t591, .string t592, .slice Ao47 t593.length co47] 28 (0, 0)) z5o hb); have n6_ := zi (below_step z5n hb); clear HO_574005; clear HO_584005; clear HO_598005; clear BK573; clear BK583; clear BK597; clear HB; have HO_574005 := n0_; have HO_584005 := n1_; have HO_598005 := n2_; have BK573 := n3_; have BK583 := n4_; have BK597 := n5_; have HB := n6_; clear n0_ n1_ n2_ n3_ n4_ n5_ n6_; (try clear hb); (try clear hb2); (try clear hk); (try clear hi)))
            go_ret
            exact ⟨zw, z5n⟩
      ·rw [if_neg c34] at H
       have c34b0 : (t587 == t585) = false := beq_eq_false_iff_ne.mpr c34
       have c34b1 : (t587 != t585) = true := bne_iff_ne.mpr c34
       obtain rfl := Option.some.inj H
       have hnb78 := NB583_573.out
       have hnc78 := NB573_583.out
       obtain ⟨hcz79_0, hcz79_1, hcz79_2, hcz79_3, hcz79_4, hcz79_5, hfz79_0, hfz79_1, hfz79_2, hfz79_3, hfz79_4, hfz79_5⟩ := zg BK583.out
       go_wp2_with (first | ((with_reducible refine gate_callee (f := 20) rfl ?_); refine goesL_ (some 35) rfl rfl Tryz.func20 z1a rfl #[.agg #[.string t574, .int .i64 t575, .int .i64 t576, .int .i64 t577, .string t578, .slice Ao14 t579.length co14], .int .i64 1] rfl z1b ?_; (with_reducible refine (laws_markEntry.calls kj4 t574 t575 t576 t577 t578 (fun k_ => some k_ = (.slice Ao14 t579.length co14 : Value).ownBlock) (.slice Ao14 t579.length co14) t579 1 t585 t586 w _ ?side1 ?side2 A26.out).mono ?_); (case side1 => exact z5g); (case side2 => exact Kd.R_tight rfl HO_584005.out); rintro e w80 ⟨rfl, hy0, hb, hkp⟩; refine ⟨_, rfl, ?_⟩; have n0_ := zi (Kd.R_mono (ok' := fun k_ => some k_ ≠ (.slice Ao14 t579.length co14 : Value).ownBlock) (Kd.R_keptB (HO_574005.out) hkp (fun k_ hk_ hs_ => (hk_) hs_)) (fun k_ hk_ => hk_.1)); have n1_ := zi (Kd.R_reok rfl hy0 (fun k_ e_ => HO_584005.out.1 k_ e_)); have n2_ := zi (blk_kept z5f hkp (fun hs_ => (fun e_ => (Kd.R_ne HO_584005.out BK573.out z1g) e_) hs_)); have n3_ := zi (blk_kept z5h hkp (fun hs_ => (fun e_ => (Kd.R_ne HO_584005.out BK583.out z1g) e_) hs_)); have n4_ := zi hb; clear HO_574005; clear HO_584005; clear BK573; clear BK583; clear HB; have HO_574005 := n0_; have HO_584005 := n1_; have BK573 := n2_; have BK583 := n3_; have HB := n4_; clear n0_ n1_ n2_ n3_ n4_; (try clear hb); (try clear hkp); (try clear hy0); obtain ⟨hcz81_0, hcz81_1, hcz81_2, hcz81_3, hcz81_4, hcz81_5, hfz81_0, hfz81_1, hfz81_2, hfz81_3, hfz81_4, hfz81_5⟩ := zg BK583.out) | ((with_reducible refine gate_callee (f := 21) rfl ?_); refine goesL_ (some 38) rfl rfl Tryz.func21 z1a rfl #[.agg #[.string t574, .int .i64 t575, .int .i64 t576, .int .i64 t577, .string t578, .slice Ao14 t586.length co14], .int .i64 1] rfl z5i ?_; (with_reducible refine (laws_heldEntry.calls kj4 t574 t575 t576 t577 t578 _ _ t586 1 t587 _ ?side1 ?side2 A27.out).mono ?_); (case side1 => exact z5l); (case side2 => exact z5m); rintro e w82 ⟨rfl, hb⟩; refine ⟨_, rfl, ?_⟩; have n0_ := zi (Kd.R_below z5j hb); have n1_ := zi (Kd.R_below z5k hb); have n2_ := zi (blk_below (g := gb573) (o := .cells #[.string t564, .int .i64 t565, .int .i64 t566, .int .i64 t567, .string t568, .slice Ao9 t569.length co9] 28 (0, 0)) z5f hb); have n3_ := zi (blk_below (g := gb583) (o := .cells #[.string t574, .int .i64 t575, .int .i64 t576, .int .i64 t577, .string t578, .slice Ao14 t579.length co14] 28 (0, 0)) z5h hb); have n4_ := zi (below_step z5g hb); clear HO_574005; clear HO_584005; clear BK573; clear BK583; clear HB; have HO_574005 := n0_; have HO_584005 := n1_; have BK573 := n2_; have BK583 := n3_; have HB := n4_; clear n0_ n1_ n2_ n3_ n4_; (try clear hb); (try clear hb2); (try clear hk); (try clear hi)))
       go_ret
       exact ⟨zw, z5g⟩
def laws_FnExactGetEntry.Pure : Prop := ∀ (a0 : ByteArray), a0.size ≤ 140737488351232 → ∃ k, laws_FnExactGetEntry.f k a0 = some true
theorem laws_FnExactGetEntry.walk (P : laws_FnExactGetEntry.Pure) (a0 : ByteArray) (w : World) (hG_ : GlobI w) (w0 : a0.size ≤ 140737488351232) :
  Calls Tryz.prog 4 #[.string a0] w fun e w' => e = .returned (.bool true) ∧ Below w.heap.size w w' := by
 obtain ⟨k, h⟩ := P a0 w0
 refine (laws_FnExactGetEntry.calls (hG_ := hG_) k a0 true w h).mono ?_
 rintro e w' ⟨rfl, hd⟩
 exact ⟨rfl, hd⟩
end Go.Proofs.YtgdknepphkhnlaaGreatDoor.X

/- Plain lemmas for what the printed functions compute: enough rounds ('Ev'), tests, bounds of whole numbers, lists. No Go, no memory. -/
set_option linter.unusedVariables false
namespace Go.Proofs.YtgdknepphkhnlaaGreatDoor.Z
open Go.RowKit Go.Proofs.YtgdknepphkhnlaaGreatDoorW.PrintWords Go.Proofs.YtgdknepphkhnlaaGreatDoorW.PrintMore
theorem evT {α : Type} {c : Prop} [Decidable c] {f g : Nat → Option α} {r : α} (h : c) (H : Ev f r) : Ev (fun k => if c then f k else g k) r := by
 obtain ⟨K, hK⟩ := H
 exact ⟨K, fun k hk => (if_pos h).trans (hK k hk)⟩
theorem evF {α : Type} {c : Prop} [Decidable c] {f g : Nat → Option α} {r : α} (h : ¬ c) (H : Ev g r) : Ev (fun k => if c then f k else g k) r := by
 obtain ⟨K, hK⟩ := H
 exact ⟨K, fun k hk => (if_neg h).trans (hK k hk)⟩
theorem evI {α : Type} {c : Prop} [Decidable c] {f g : Nat → Option α} {r : α} (H : c → Ev f r) (H' : ¬ c → Ev g r) : Ev (fun k => if c then f k else g k) r := by
 by_cases h : c
 ·exact evT h (H h)
 ·exact evF h (H' h)
theorem evB {α β : Type} {g : Nat → Option α} {f : Nat → α → Option β} {a : α} {r : β} (h : Ev g a) (k : Ev (fun n => f n a) r) : Ev (fun n => (g n).bind (f n)) r := Ev.bind h k
theorem evR {α : Type} {r r' : α} (h : r = r') : Ev (fun _ => some r) r' := h ▸ Ev.now r
theorem evC {α β : Type} {x : Option α} {f : Nat → α → Option β} {a : α} {r : β} (h : x = some a) (k : Ev (fun n => f n a) r) : Ev (fun n => x.bind (f n)) r := by
 subst h
 exact k
theorem evS {α : Type} {g f : Nat → Option α} {r : α} (h : ∀ k, g (k + 1) = f k) (k : Ev f r) : Ev g r := Ev.step h k
theorem evE {α : Type} {g : Nat → Option α} {r r' : α} (h : r = r') (k : Ev g r) : Ev g r' := h ▸ k
theorem ev_one {α : Type} {g : Nat → Option α} {r r' : α} (h : Ev g r) (h' : Ev g r') : r = r' := by
 obtain ⟨K, hK⟩ := h
 obtain ⟨L, hL⟩ := h'
 have a := hK (max K L) (Nat.le_max_left _ _)
 have b := hL (max K L) (Nat.le_max_right _ _)
 rw [a] at b
 exact Option.some.inj b
theorem w64 {x : Int} (h : -9223372036854775808 ≤ x ∧ x ≤ 9223372036854775807) : wrap64 x = x := by unfold wrap64; omega
theorem w64s {i n : Nat} (h : i < n) (hn : n ≤ 9223372036854775807) : wrap64 ((i : Int) + 1) = ((i + 1 : Nat) : Int) := by unfold wrap64; omega
theorem wu64 {x : Int} (h : 0 ≤ x ∧ x ≤ 18446744073709551615) : IntKind.u64.wrap x = x := by
 simp [IntKind.wrap, IntKind.bits, IntKind.signed]
 omega
theorem wi64 (x : Int) : IntKind.i64.wrap x = wrap64 x := by rw [Go.IntKind.wrap_i64]; unfold wrap64; rfl
theorem wraps_i64 (n : Int) (h₀ : 0 ≤ n) (h₁ : n < 2 ^ 63) : IntKind.i64.wrap n = n := by
 rw [wi64, w64]
 have : (2 : Int) ^ 63 = 9223372036854775808 := by decide
 omega
theorem ext_get {α : Type} {l m : List α} (hn : l.length = m.length) (h : ∀ j, j < m.length → l[j]? = m[j]?) : l = m := by
 apply List.ext_getElem?
 intro j
 rcases Nat.lt_or_ge j m.length with hj | hj
 ·exact h j hj
 ·rw [List.getElem?_eq_none zq, List.getElem?_eq_none zq]
theorem rd_get {l : List Int} {i : Nat} (h : i < l.length) : l[i]? = some (rd l (i : Int)) := by
 simp [rd, List.getElem?_eq_getElem h]
theorem rdOf_get {α : Type} {d : α} {l : List α} {i : Nat} (h : i < l.length) : l[i]? = some (rdOf d l (i : Int)) := by
 simp [rdOf, List.getElem?_eq_getElem h]
theorem set_next {α : Type} {l m : List α} {i : Nat} {x : α} (hn : l.length = m.length) (hi : i < m.length) (hx : m[i]? = some x) (h : ∀ j, j < i → l[j]? = m[j]?) : ∀ j, j < i + 1 → (l.set i x)[j]? = m[j]? := by
 intro j hj
 rcases Nat.lt_or_ge j i with h1 | h1
 ·rw [List.getElem?_set_ne zq]
  exact h j h1
 ·obtain rfl : i = j := by omega
  rw [List.getElem?_set_self zq, hx]
end Go.Proofs.YtgdknepphkhnlaaGreatDoor.Z

/- What GetNum computes, the program's and the reference's, step by step: the same. No Go, no memory. -/
set_option linter.unusedVariables false
namespace Go.Proofs.YtgdknepphkhnlaaGreatDoor.Z
open Go.RowKit Go.Proofs.YtgdknepphkhnlaaGreatDoorW.PrintWords Go.Proofs.YtgdknepphkhnlaaGreatDoorW.PrintMore Go.Proofs.YtgdknepphkhnlaaGreatDoor.X
theorem or_comm64 (k : IntKind) (a b : Int) : Go.bits .or k a b = Go.bits .or k b a := by simp [Go.bits, BitVec.or_comm]
theorem and127 {c : Int} (hc : 0 ≤ c ∧ c ≤ 255) : Go.bits .and .i64 (wrap64 c) 127 = c % 128 := by
 rw [w64 zq]
 exact bits_mask .i64 63 z1g wraps_i64 7 z1g c hc.1 zq
theorem shl_at {y : Int} {i : Nat} (hi : i < 5) (hy : 0 ≤ y ∧ y < 128) : shl .i64 y (IntKind.u64.wrap (wrap64 (7 * (i : Int)))) = y * 2 ^ (7 * i) := by
 have h : i = 0 ∨ i = 1 ∨ i = 2 ∨ i = 3 ∨ i = 4 := by omega
 rcases h with rfl | rfl | rfl | rfl | rfl
 all_goals
  unfold shl
  rw [wi64]
  simp [IntKind.wrap, IntKind.bits, IntKind.signed, wrap64]
  omega
theorem gn_step {c n : Int} {i : Nat} (hi : i < 5) (hc : 0 ≤ c ∧ c ≤ 255) (hn : 0 ≤ n ∧ n < 2 ^ (7 * i)) :
  Go.bits .or .i64 n (shl .i64 (Go.bits .and .i64 (wrap64 c) 127) (IntKind.u64.wrap (wrap64 (7 * (i : Int))))) = n + (c % 128) * 2 ^ (7 * i) := by
 rw [and127 hc, shl_at hi zq, or_comm64]
 have hm : 0 ≤ c % 128 ∧ c % 128 < 128 := by omega
 generalize c % 128 = y at hm
 have h : i = 0 ∨ i = 1 ∨ i = 2 ∨ i = 3 ∨ i = 4 := by omega
 rcases h with rfl | rfl | rfl | rfl | rfl
 all_goals
  rw [bits_join .i64 63 z1g wraps_i64 _ _ _ zq (by simp) zq hn.1 hn.2 zq]
  omega
theorem pow_next {n y : Int} {i : Nat} (hi : i < 5) (hn : 0 ≤ n ∧ n < 2 ^ (7 * i)) (hy : 0 ≤ y ∧ y < 128) : 0 ≤ n + y * 2 ^ (7 * i) ∧ n + y * 2 ^ (7 * i) < 2 ^ (7 * (i + 1)) := by
 have h : i = 0 ∨ i = 1 ∨ i = 2 ∨ i = 3 ∨ i = 4 := by omega
 rcases h with rfl | rfl | rfl | rfl | rfl <;> omega
theorem u64_ok {i : Nat} (hi : i < 5) : 0 ≤ IntKind.u64.wrap (wrap64 (7 * (i : Int))) := by
 rw [w64 zq, wu64 zq]
 omega
def GetOk (len : Nat) (a : Int) (r : Int × Int × Bool) : Prop := r = (0, 0, false) ∨ r.2.2 = true ∧ 0 ≤ r.1 ∧ r.1 ≤ 1000000000 ∧ a < r.2.1 ∧ r.2.1 ≤ len ∧ 0 ≤ a
theorem rd_byte {b : List Int} (hb : ∀ x ∈ b, (Lit.int .u8 x).wf = true) (i : Int) : 0 ≤ rd b i ∧ rd b i ≤ 255 := by
 unfold rd
 rcases Nat.lt_or_ge i.toNat b.length with h | h
 ·have h1 := hb _ (List.getElem_mem h)
  rw [List.getD_eq_getElem?_getD, List.getElem?_eq_getElem h]
  simp [Lit.wf, IntKind.min, IntKind.max, IntKind.signed, IntKind.bits] at h1
  simp
  omega
 ·rw [List.getD_eq_getElem?_getD, List.getElem?_eq_none h]
  simp
theorem gn_both (b : List Int) (hb : ∀ x ∈ b, (Lit.int .u8 x).wf = true) (hl : b.length ≤ 140737488355328) (a : Nat) (d : Nat) : ∀ (i : Nat) (n : Int), i + d = 5 → a < b.length → 0 ≤ n ∧ n < 2 ^ (7 * i) →
  ∃ r, Ev (fun k => spec_GetNum.l0 k b (a : Int) n (i : Int)) r ∧ Ev (fun k => impl_GetNum.l0 k b ((a + i : Nat) : Int) n (i : Int)) r ∧ GetOk b.length a r := by
 induction d with
 | zero =>
  intro i n hi ha hn
  refine ⟨(0, 0, false), ?_, ?_, .inl rfl⟩
  ·exact evS (fun k => by rw [spec_GetNum.l0]) (evF zq (evS (fun k => by rw [spec_GetNum.j1]) (evF (by simp) (evR rfl))))
  ·exact evS (fun k => by rw [impl_GetNum.l0]) (evF zq (evS (fun k => by rw [impl_GetNum.j1]) (evF (by simp) (evR rfl))))
 | succ d ih =>
  intro i n hi ha hn
  have hw : wrap64 ((a : Int) + (i : Int)) = ((a + i : Nat) : Int) := by rw [w64 zq]; omega
  by_cases hp : a + i < b.length
  ·have hc := rd_byte hb ((a + i : Nat) : Int)
   have hv := gn_step (i := i) zq hc hn
   have hN := pow_next (i := i) (y := rd b ((a + i : Nat) : Int) % 128) zq hn zq
   have hu := u64_ok (i := i) zq
   have hwc : wrap64 (rd b ((a + i : Nat) : Int)) = rd b ((a + i : Nat) : Int) := w64 zq
   have hs1 : ∀ r, Ev (fun k => spec_GetNum.j1 k b (a : Int) n (i : Int) true) r → Ev (fun k => spec_GetNum.l0 k b (a : Int) n (i : Int)) r := by
    intro r h
    refine evS (fun k => by rw [spec_GetNum.l0]) (evT zq (evT zq (evT zq ?_)))
    rw [hw, decide_eq_true zq]
    exact h
   have hi1 : ∀ r, Ev (fun k => impl_GetNum.j1 k b ((a + i : Nat) : Int) n (i : Int) true) r → Ev (fun k => impl_GetNum.l0 k b ((a + i : Nat) : Int) n (i : Int)) r := by
    intro r h
    refine evS (fun k => by rw [impl_GetNum.l0]) (evT zq ?_)
    rw [decide_eq_true zq]
    exact h
   generalize hN' : n + rd b ((a + i : Nat) : Int) % 128 * 2 ^ (7 * i) = N at *
   by_cases h1 : rd b ((a + i : Nat) : Int) > 127
   ·obtain ⟨r, e1, e2, g⟩ := ih (i + 1) N zq ha hN
    refine ⟨r, hs1 r ?_, hi1 r ?_, g⟩
    ·refine evS (fun k => by rw [spec_GetNum.j1]) (evT rfl ?_)
     rw [hw]
     refine evT zq (evT zq (evT hu ?_))
     rw [hv, hwc, w64s (show i < 6 by omega) zq]
     exact evT h1 e1
    ·refine evS (fun k => by rw [impl_GetNum.j1]) (evT rfl (evT zq (evT zq (evT hu ?_))))
     rw [hv, hwc, w64s (show i < 6 by omega) zq, w64s (show a + i < b.length by omega) zq]
     exact evF zq e2
   ·have hgen : ∀ r : Int × Int × Bool, (if (rd b ((a + i : Nat) : Int) = 0 ∧ 0 < i) ∨ N > 1000000000 then ((0 : Int), (0 : Int), false) else (N, ((a + i + 1 : Nat) : Int), true)) = r →
      Ev (fun k => spec_GetNum.l0 k b (a : Int) n (i : Int)) r ∧ Ev (fun k => impl_GetNum.l0 k b ((a + i : Nat) : Int) n (i : Int)) r := by
     intro r hr
     refine ⟨hs1 r ?_, hi1 r ?_⟩
     ·refine evS (fun k => by rw [spec_GetNum.j1]) (evT rfl ?_)
      rw [hw]
      refine evT zq (evT zq (evT hu ?_))
      rw [hv, hwc, w64s (show a + i < b.length by omega) zq]
      refine evF h1 (evI (fun h2 => evI (fun h3 => ?_) (fun h3 => evI (fun h4 => ?_) (fun h4 => ?_))) (fun h2 => evI (fun h4 => ?_) (fun h4 => ?_)))
      ·rw [if_pos (.inl ⟨h3, zq⟩)] at hr
       exact evR hr
      ·rw [if_pos (.inr h4)] at hr
       exact evR hr
      ·rw [if_neg zq] at hr
       exact evR hr
      ·rw [if_pos (.inr h4)] at hr
       exact evR hr
      ·rw [if_neg zq] at hr
       exact evR hr
     ·refine evS (fun k => by rw [impl_GetNum.j1]) (evT rfl (evT zq (evT zq (evT hu ?_))))
      rw [hv, hwc, w64s (show a + i < b.length by omega) zq]
      refine evT zq (evI (fun h3 => evI (fun h2 => ?_) (fun h2 => evI (fun h4 => ?_) (fun h4 => ?_))) (fun h3 => evI (fun h4 => ?_) (fun h4 => ?_)))
      ·rw [if_pos (.inl ⟨h3, zq⟩)] at hr
       exact evR hr
      ·rw [if_pos (.inr h4)] at hr
       exact evR hr
      ·rw [if_neg zq] at hr
       exact evR hr
      ·rw [if_pos (.inr h4)] at hr
       exact evR hr
      ·rw [if_neg zq] at hr
       exact evR hr
    obtain ⟨e1, e2⟩ := hgen _ rfl
    refine ⟨_, e1, e2, ?_⟩
    split
    ·exact .inl rfl
    ·exact .inr ⟨rfl, by show 0 ≤ N; omega, by show N ≤ _; omega, by show (a : Int) < ((a + i + 1 : Nat) : Int); omega, by show ((a + i + 1 : Nat) : Int) ≤ _; omega, zq⟩
  ·refine ⟨(0, 0, false), ?_, ?_, .inl rfl⟩
   ·refine evS (fun k => by rw [spec_GetNum.l0]) (evT zq (evT zq (evT zq ?_)))
    rw [hw, decide_eq_false zq]
    exact evS (fun k => by rw [spec_GetNum.j1]) (evF (by simp) (evR rfl))
   ·refine evS (fun k => by rw [impl_GetNum.l0]) (evT zq ?_)
    rw [decide_eq_false zq]
    exact evS (fun k => by rw [impl_GetNum.j1]) (evF (by simp) (evR rfl))
theorem getNum_both (b : List Int) (hb : ∀ x ∈ b, (Lit.int .u8 x).wf = true) (hl : b.length ≤ 140737488355328) (a : Int) :
  ∃ r, Ev (fun k => spec_GetNum.f k b a) r ∧ Ev (fun k => impl_GetNum.f k b a) r ∧ GetOk b.length a r := by
 have hlen : wrap64 ((b.length : Int) - 1) = (b.length : Int) - 1 := w64 zq
 by_cases h : 0 ≤ a ∧ a < b.length
 ·obtain ⟨p, rfl⟩ := Int.eq_ofNat_of_zero_le h.1
  obtain ⟨r, e1, e2, g⟩ := gn_both b hb hl p 5 0 0 rfl zq z1g
  refine ⟨r, e1, ?_, g⟩
  unfold impl_GetNum.f impl_inRange.f
  rw [hlen]
  refine evC (a := true) ?_ (evT rfl e2)
  rw [if_pos zq, decide_eq_true zq]
 ·refine ⟨(0, 0, false), ?_, ?_, .inl rfl⟩
  ·unfold spec_GetNum.f
   have hj : Ev (fun k => spec_GetNum.j1 k b a 0 0 false) ((0 : Int), (0 : Int), false) := evS (fun k => by rw [spec_GetNum.j1]) (evF (by simp) (evR rfl))
   refine evS (fun k => by rw [spec_GetNum.l0]) (evT zq (evI (fun h0 => evF zq hj) (fun _ => hj)))
  ·unfold impl_GetNum.f impl_inRange.f
   rw [hlen]
   refine evC (a := false) ?_ (evF (by simp) (evR rfl))
   by_cases h0 : a ≥ 0
   ·rw [if_pos h0, decide_eq_false zq]
   ·rw [if_neg h0]
end Go.Proofs.YtgdknepphkhnlaaGreatDoor.Z

/- Strings as lists of bytes. No Go, no memory. -/
set_option linter.unusedVariables false
namespace Go.Proofs.YtgdknepphkhnlaaGreatDoor.Z
open Go.RowKit Go.Proofs.YtgdknepphkhnlaaGreatDoorW.PrintWords Go.Proofs.YtgdknepphkhnlaaGreatDoorW.PrintMore
theorem tl_loop (a : ByteArray) (d : Nat) : ∀ i r, a.size = i + d → ByteArray.toList.loop a i r = r.reverse ++ a.data.toList.drop i := by
 have h2 := data_length a
 induction d with
 | zero =>
  intro i r h
  unfold ByteArray.toList.loop
  rw [if_neg zq, List.drop_eq_nil_of_le zq, List.append_nil]
 | succ d ih =>
  intro i r h
  unfold ByteArray.toList.loop
  rw [if_pos zq, ih (i + 1) _ zq]
  have hi : i < a.data.size := by
   have : a.data.size = a.size := rfl
   omega
  rw [List.drop_eq_getElem_cons (i := i) (by simpa using hi)]
  simp [ByteArray.get!]
  exact getElem!_pos a.data i hi
theorem tl (a : ByteArray) : a.toList = a.data.toList := by
 unfold ByteArray.toList
 rw [tl_loop a a.size 0 [] zq]
 simp
theorem tl_inj {a b : ByteArray} : a.toList = b.toList ↔ a = b := by
 constructor
 ·intro h
  rw [tl, tl] at h
  have h1 : a.data = b.data := Array.toList_inj.1 h
  cases a
  cases b
  simp_all
 ·rintro rfl
  rfl
end Go.Proofs.YtgdknepphkhnlaaGreatDoor.Z

namespace Go.Proofs.YtgdknepphkhnlaaGreatDoor.X
open Go.RowKit Go.Proofs.YtgdknepphkhnlaaGreatDoorW.PrintWords Go.Proofs.YtgdknepphkhnlaaGreatDoorW.PrintLast Go.Proofs.YtgdknepphkhnlaaGreatDoorW.PrintMore
attribute [local go_sem] max2_int min2_int max_two min_two max_three min_three max_four min_four
set_option linter.unusedVariables false
set_option linter.unusedSimpArgs false
mutual
def spec_PutNum.j0 : Nat → Int → List Int → Option (List Int)
 | 0, _, _ => none
 | k + 1, x1, x5 => if x1 < 0 then (spec_PutNum.j1 k 0 x5) else (spec_PutNum.j1 k x1 x5)
def spec_PutNum.j1 : Nat → Int → List Int → Option (List Int)
 | 0, _, _ => none
 | k + 1, x1, x5 => spec_PutNum.l0 k x1 x5
def spec_PutNum.l0 : Nat → Int → List Int → Option (List Int)
 | 0, _, _ => none
 | k + 1, x1, x5 => if x1 > 127 then (if x5.length < 140737488355328 then (spec_PutNum.l0 k (x1 / 128) (x5 ++ [(Go.bits .or .i64 (Go.bits .and .i64 x1 127) 128) % 256])) else (none)) else (if x5.length < 140737488355328 then (some (x5 ++ [(x1) % 256])) else (none))
end
def spec_PutNum.f (k : Nat) (l0 : List Int) (a1 : Int) : Option (List Int) := (some (([] : List Int) : List Int)).bind fun y305 => (if y305.length + l0.length < 140737488355328 then ((some (y305 ++ l0 : List Int)).bind fun y308 => (if a1 > 1000000000 then (spec_PutNum.j0 k 1000000000 y308) else (spec_PutNum.j0 k a1 y308))) else (none))
def spec_PutText.f (k : Nat) (l0 : List Int) (a1 : ByteArray) : Option (List Int) := (spec_PutNum.f k l0 (a1.size : Int)).bind fun t317 => (if t317.length + a1.size < 140737488355328 then (some (t317 ++ bytesOf a1)) else (none))
def spec_PutTexts.l0 : Nat → List ByteArray → List Int → Int → Option (List Int)
 | 0, _, _, _ => none
 | k + 1, x1, x5, x6 => if x6 < (x1.length : Int) then (if 0 ≤ x6 then ((spec_PutText.f k x5 (rdOf ByteArray.empty x1 x6)).bind fun t327 => (spec_PutTexts.l0 k x1 t327 (wrap64 (x6 + 1)))) else (none)) else (some x5)
def spec_PutTexts.f (k : Nat) (l0 : List Int) (l1 : List ByteArray) : Option (List Int) := (spec_PutNum.f k l0 (l1.length : Int)).bind fun t323 => (spec_PutTexts.l0 k l1 t323 0)
end Go.Proofs.YtgdknepphkhnlaaGreatDoor.X

/- What the putters compute (putNum, putText, putTexts), the program's and the reference's: the same bytes behind b; for seats without the laws' helpers. No Go, no memory. -/
set_option linter.unusedVariables false
namespace Go.Proofs.YtgdknepphkhnlaaGreatDoor.Z
open Go.RowKit Go.Proofs.YtgdknepphkhnlaaGreatDoorW.PrintWords Go.Proofs.YtgdknepphkhnlaaGreatDoorW.PrintMore Go.Proofs.YtgdknepphkhnlaaGreatDoor.X
def total (l : List ByteArray) : Nat := (l.map fun s => s.size).sum
theorem total_nil : total [] = 0 := rfl
theorem total_cons (s : ByteArray) (l : List ByteArray) : total (s :: l) = s.size + total l := by simp [total]
def encN : Nat → Nat → List Int
 | 0, n => [(n : Int) % 256]
 | d + 1, n => if n > 127 then ((n % 128 + 128 : Nat) : Int) :: encN d (n / 128) else [(n : Int) % 256]
theorem encN_length (d : Nat) : ∀ n, (encN d n).length ≤ d + 1 := by
 induction d with
 | zero => intro n; simp [encN]
 | succ d ih =>
  intro n
  unfold encN
  split
  ·have := ih (n / 128)
   simp
   omega
  ·simp
theorem encN_pos (d n : Nat) : 0 < (encN d n).length := by
 cases d with
 | zero => simp [encN]
 | succ d =>
  unfold encN
  split <;> simp
def near (n : Int) : Nat := (mx 0 (mn n 1000000000)).toNat
theorem near_eq (n : Int) : mx 0 (mn n 1000000000) = (near n : Int) := by
 unfold near mx mn
 split <;> split <;> omega
theorem near_le (n : Int) : near n ≤ 1000000000 := by
 unfold near mx mn
 split <;> split <;> omega
theorem near_of {n : Nat} (h : n ≤ 1000000000) : near (n : Int) = n := by
 unfold near mx mn
 split <;> split <;> omega
theorem orbyte {n : Nat} (hn : n ≤ 1000000000) : Go.bits .or .i64 (Go.bits .and .i64 (n : Int) 127) 128 % 256 = ((n % 128 + 128 : Nat) : Int) ∧ Go.bits .or .i64 128 (Go.bits .and .i64 (n : Int) 127) % 256 = ((n % 128 + 128 : Nat) : Int) := by
 have h1 : Go.bits .and .i64 (n : Int) 127 = (n : Int) % 128 := bits_mask .i64 63 z1g wraps_i64 7 z1g n zq zq
 rw [h1]
 have h2 : Go.bits .or .i64 128 ((n : Int) % 128) = 128 + (n : Int) % 128 :=
  bits_join .i64 63 z1g wraps_i64 7 _ _ zq z1g z1g zq zq zq
 rw [or_comm64, h2]
 omega
theorem specPut_l0 (d : Nat) : ∀ (n : Nat) (b : List Int), n < 128 ^ (d + 1) → n ≤ 1000000000 → b.length + d < 140737488355328 → Ev (fun k => spec_PutNum.l0 k (n : Int) b) (b ++ encN d n) := by
 induction d with
 | zero =>
  intro n b h0 h1 h2
  refine evS (fun k => by rw [spec_PutNum.l0]) ?_
  exact evF (by simp at h0; omega) (evT zq (evR rfl))
 | succ d ih =>
  intro n b h0 h1 h2
  refine evS (fun k => by rw [spec_PutNum.l0]) ?_
  refine evI (fun h => ?_) (fun h => ?_)
  ·refine evT zq ?_
   rw [(orbyte h1).1, show (n : Int) / 128 = ((n / 128 : Nat) : Int) by omega]
   refine evE ?_ (ih (n / 128) _ (by rw [Nat.div_lt_iff_lt_mul z1g]; rw [Nat.pow_succ] at h0; exact h0) zq (by simp; omega))
   rw [encN, if_pos zq]
   simp
  ·refine evT zq (evR ?_)
   rw [encN, if_neg zq]
theorem specPut_ev (b : List Int) (n : Int) (hb : b.length < 140737488355000) : Ev (fun k => spec_PutNum.f k b n) (b ++ encN 4 (near n)) := by
 unfold spec_PutNum.f
 have hm := near_le n
 have hfin : ∀ m : Int, m = (near n : Int) → Ev (fun k => spec_PutNum.j1 k m b) (b ++ encN 4 (near n)) := by
  intro m h
  rw [h]
  exact evS (fun k => by rw [spec_PutNum.j1]) (specPut_l0 4 (near n) b zq hm zq)
 have hj : ∀ m : Int, mx 0 m = (near n : Int) → Ev (fun k => spec_PutNum.j0 k m b) (b ++ encN 4 (near n)) := by
  intro m h
  refine evS (fun k => by rw [spec_PutNum.j0]) (evI (fun h0 => hfin _ ?_) (fun h0 => hfin _ ?_))
  ·rw [← h]
   unfold mx
   split <;> omega
  ·rw [← h]
   unfold mx
   split <;> omega
 refine evC rfl ?_
 refine evT (by simp; omega) ?_
 refine evC rfl ?_
 simp only [List.nil_append]
 refine evI (fun h0 => hj _ ?_) (fun h0 => hj _ ?_)
 ·rw [← near_eq]
  unfold mn
  rw [if_pos h0]
 ·rw [← near_eq]
  unfold mn
  rw [if_neg h0]
theorem implPut_l0 (d : Nat) : ∀ (n : Nat) (b : List Int), n < 128 ^ (d + 1) → n ≤ 1000000000 → b.length + d < 140737488355328 → Ev (fun k => impl_putNum.l0 k b (n : Int)) (b ++ encN d n) := by
 induction d with
 | zero =>
  intro n b h0 h1 h2
  refine evS (fun k => by rw [impl_putNum.l0]) ?_
  exact evF (by simp at h0; omega) (evT zq (evR rfl))
 | succ d ih =>
  intro n b h0 h1 h2
  refine evS (fun k => by rw [impl_putNum.l0]) ?_
  refine evI (fun h => ?_) (fun h => ?_)
  ·refine evT zq ?_
   rw [(orbyte h1).2, show (n : Int) / 128 = ((n / 128 : Nat) : Int) by omega]
   refine evE ?_ (ih (n / 128) _ (by rw [Nat.div_lt_iff_lt_mul z1g]; rw [Nat.pow_succ] at h0; exact h0) zq (by simp; omega))
   rw [encN, if_pos zq]
   simp
  ·refine evT zq (evR ?_)
   rw [encN, if_neg zq]
theorem implputNum_ev (b : List Int) (n : Int) (hb : b.length < 140737488355000) : Ev (fun k => impl_putNum.f k b n) (b ++ encN 4 (near n)) := by
 unfold impl_putNum.f
 rw [near_eq]
 exact implPut_l0 4 (near n) b (by have := near_le n; omega) (near_le n) zq
def encT (s : ByteArray) : List Int := encN 4 (near (s.size : Int)) ++ bytesOf s
theorem encT_length (s : ByteArray) : (encT s).length ≤ s.size + 5 := by
 unfold encT
 rw [List.length_append, bytesOf_length]
 have := encN_length 4 (near (s.size : Int))
 omega
theorem specText_ev (b : List Int) (s : ByteArray) (hb : b.length + s.size < 140737488350000) : Ev (fun k => spec_PutText.f k b s) (b ++ encT s) := by
 unfold spec_PutText.f
 refine evB (specPut_ev b _ zq) ?_
 have := encN_length 4 (near (s.size : Int))
 refine evT z5q (evR ?_)
 rw [encT, List.append_assoc]
theorem implputText_ev (b : List Int) (s : ByteArray) (hb : b.length + s.size < 140737488350000) : Ev (fun k => impl_putText.f k b s) (b ++ encT s) := by
 unfold impl_putText.f
 refine evB (implputNum_ev b _ zq) ?_
 have := encN_length 4 (near (s.size : Int))
 refine evT z5q (evR ?_)
 rw [encT, List.append_assoc]
def encL (l : List ByteArray) : List Int := (l.map encT).flatten
theorem encL_cons (s : ByteArray) (l : List ByteArray) : encL (s :: l) = encT s ++ encL l := by simp [encL]
theorem drop_rd (l : List ByteArray) (i : Nat) (h : i < l.length) : l.drop i = rdOf ByteArray.empty l (i : Int) :: l.drop (i + 1) := by
 rw [List.drop_eq_getElem_cons h]
 have := rdOf_get (d := ByteArray.empty) h
 rw [List.getElem?_eq_getElem h] at this
 rw [Option.some.inj this]
theorem specTexts_l0 (l : List ByteArray) (hn : l.length ≤ 4611686018427387904) (d : Nat) : ∀ (i : Nat) (b : List Int), i + d = l.length → b.length + total (l.drop i) + 5 * d < 140737488350000 → Ev (fun k => spec_PutTexts.l0 k l b (i : Int)) (b ++ encL (l.drop i)) := by
 induction d with
 | zero =>
  intro i b hi hb
  refine evS (fun k => by rw [spec_PutTexts.l0]) (evF zq (evR ?_))
  rw [List.drop_eq_nil_of_le zq]
  simp [encL]
 | succ d ih =>
  intro i b hi hb
  have hd := drop_rd l i zq
  rw [hd, total_cons] at hb
  refine evS (fun k => by rw [spec_PutTexts.l0]) (evT zq (evT zq ?_))
  refine evB (specText_ev b _ zq) ?_
  rw [w64s (show i < l.length by omega) zq]
  have he := encT_length (rdOf ByteArray.empty l (i : Int))
  refine evE ?_ (ih (i + 1) _ zq z5q)
  rw [hd, encL_cons, List.append_assoc]
theorem specTexts_ev (b : List Int) (l : List ByteArray) (hb : b.length + total l + 5 * l.length < 140737488340000) : Ev (fun k => spec_PutTexts.f k b l) (b ++ (encN 4 (near (l.length : Int)) ++ encL l)) := by
 unfold spec_PutTexts.f
 have := encN_length 4 (near (l.length : Int))
 refine evB (specPut_ev b _ zq) ?_
 refine evE ?_ (specTexts_l0 l zq l.length 0 _ zq (by rw [List.length_append, List.drop_zero]; omega))
 rw [List.drop_zero, List.append_assoc]
theorem implTexts_l0 (l : List ByteArray) (hn : l.length ≤ 4611686018427387904) (d : Nat) : ∀ (i : Nat) (b : List Int), i + d = l.length → b.length + total (l.drop i) + 5 * d < 140737488350000 → Ev (fun k => impl_putTexts.l0 k b l (l.length : Int) (i : Int)) (b ++ encL (l.drop i)) := by
 induction d with
 | zero =>
  intro i b hi hb
  refine evS (fun k => by rw [impl_putTexts.l0]) (evF zq (evR ?_))
  rw [List.drop_eq_nil_of_le zq]
  simp [encL]
 | succ d ih =>
  intro i b hi hb
  have hd := drop_rd l i zq
  rw [hd, total_cons] at hb
  refine evS (fun k => by rw [impl_putTexts.l0]) (evT zq (evT zq (evT zq ?_)))
  refine evB (implputText_ev b _ zq) ?_
  rw [w64s (show i < l.length by omega) zq]
  have he := encT_length (rdOf ByteArray.empty l (i : Int))
  refine evE ?_ (ih (i + 1) _ zq z5q)
  rw [hd, encL_cons, List.append_assoc]
theorem implputTexts_ev (b : List Int) (l : List ByteArray) (hb : b.length + total l + 5 * l.length < 140737488340000) : Ev (fun k => impl_putTexts.f k b l) (b ++ (encN 4 (near (l.length : Int)) ++ encL l)) := by
 unfold impl_putTexts.f
 have := encN_length 4 (near (l.length : Int))
 refine evB (implputNum_ev b _ zq) ?_
 refine evE ?_ (implTexts_l0 l zq l.length 0 _ zq (by rw [List.length_append, List.drop_zero]; omega))
 rw [List.drop_zero, List.append_assoc]
end Go.Proofs.YtgdknepphkhnlaaGreatDoor.Z

/- Ranges, the program's and the reference's: the same. Plain lemmas. -/
set_option linter.unusedVariables false
namespace Go.Proofs.YtgdknepphkhnlaaGreatDoor.Z
open Go.RowKit Go.Proofs.YtgdknepphkhnlaaGreatDoorW.PrintWords Go.Proofs.YtgdknepphkhnlaaGreatDoorW.PrintMore Go.Proofs.YtgdknepphkhnlaaGreatDoor.X
theorem rng_impl (a b c : Int) : impl_inRange.f a b c = some (decide (b ≤ a ∧ a ≤ c)) := by
 unfold impl_inRange.f
 by_cases h : a ≥ b
 ·rw [if_pos h]
  simp [show b ≤ a from h]
 ·rw [if_neg h]
  simp [show ¬ b ≤ a from h]
theorem rng_spec (a b c : Int) : spec_l1In.f a b c = some (decide (b ≤ a ∧ a ≤ c)) := by
 unfold spec_l1In.f
 by_cases h : a ≥ b
 ·rw [if_pos h]
  simp [show b ≤ a from h]
 ·rw [if_neg h]
  simp [show ¬ b ≤ a from h]
end Go.Proofs.YtgdknepphkhnlaaGreatDoor.Z
