/- The law FnEntries, as a plain statement: a drawn entry that is right comes back of its text; a name does, too. Conditions: those of the row's reading alone. -/
/- Part 5 of 12 of this claim's texts. -/
import Derived.Shelf.Strings.Cut
import Derived.Test.YtgdknepphkhnlaaGreatDoorCFnEntries0
import Derived.Test.YtgdknepphkhnlaaGreatDoorCFnEntries1
import Derived.Test.YtgdknepphkhnlaaGreatDoorCFnEntries2
import Derived.Test.YtgdknepphkhnlaaGreatDoorCFnEntries3
namespace Go.Proofs.YtgdknepphkhnlaaGreatDoor.X
open Go.RowKit Go.Proofs.YtgdknepphkhnlaaGreatDoorW.PrintWords Go.Proofs.YtgdknepphkhnlaaGreatDoorW.PrintLast Go.Proofs.YtgdknepphkhnlaaGreatDoorW.PrintMore
attribute [local go_sem] max2_int min2_int max_two min_two max_three min_three max_four min_four
set_option linter.unusedVariables false
set_option linter.unusedSimpArgs false
def spec_Fits.f (k : Nat) (a0 : ByteArray) (a1_0 : Int) (a1_1 : Int) (a1_2 : Int) (a1_3 : ByteArray) : Option (Bool) := (spec_MajorOf.f k a0).bind fun t278 => (if t278 > 0 then ((spec_VersionOk.f k a1_0 a1_1 a1_2 a1_3).bind fun t279 => (if t279 = true then (if a1_0 = t278 then (some true) else (if t278 = 1 then (some (a1_0 == 0)) else (some false))) else (some false))) else (some false))
set_option maxHeartbeats 8000000 in
set_option maxRecDepth 100000 in
theorem spec_Fits.calls (k : Nat) (a0 : ByteArray) (a1_0 : Int) (a1_1 : Int) (a1_2 : Int) (a1_3 : ByteArray) (r : Bool) (w : World) (h : spec_Fits.f k a0 a1_0 a1_1 a1_2 a1_3 = some r) :
  Calls Tryz.prog 33 #[.string a0, .agg #[.int .i64 a1_0, .int .i64 a1_1, .int .i64 a1_2, .string a1_3]] w fun e w' => e = .returned (.bool r) ∧ Below w.heap.size w w' := by
 have hu25 := Tryz.underlying25
 have HB := zi (Below.refl w.heap.size w)
 have H := h
 unfold spec_Fits.f at H
 clear h
 replace H := Option.bind_eq_some_iff.mp H
 obtain ⟨t278, A30, H⟩ := H
 try dsimp only at H
 have A3 := zi A30
 clear A30
 by_cases c4 : t278 > 0
 ·rw [if_pos c4] at H
  have c4b0 := decide_eq_true c4
  clear c4
  replace H := Option.bind_eq_some_iff.mp H
  obtain ⟨t279, A50, H⟩ := H
  try dsimp only at H
  have A5 := zi A50
  clear A50
  by_cases c6 : t279 = true
  ·subst c6
   rw [if_pos rfl] at H
   by_cases c7 : a1_0 = t278
   ·rw [if_pos c7] at H
    have c7b0 : (a1_0 == t278) = true := beq_iff_eq.mpr c7
    have c7b1 : (a1_0 != t278) = false := bne_eq_false_iff_eq.mpr c7
    clear c7
    obtain rfl := Option.some.inj H
    go_enter Tryz.func33, Tryz.ntmps33
    go_wp2_with (first | ((with_reducible refine gate_dst (N := 3) rfl ?_); refine box_event zr (N := 3) zr (cs := #[.int .i64 a1_0, .int .i64 a1_1, .int .i64 a1_2, .string a1_3]) (t := 25) z1h ?_; intro gb277 hg w8 hbox hb; have n0_ := zi (below_step zz hb); have n1_ := zi hbox; have n2_ := zi ((z6t : w.heap.size ≤ gb277)); have n3_ := zi ((z6t : w.heap.size ≤ gb277)); clear HB; have HB := n0_; have BK277 := n1_; have GW277 := n2_; have GE277 := n3_; clear n0_ n1_ n2_ n3_; clear hb hbox hg) | ((with_reducible refine gate_callee (f := 67) rfl ?_); refine goesL_ (some 7) rfl rfl Tryz.func67 zq rfl #[.string a0] rfl zy ?_; (with_reducible refine (spec_MajorOf.calls k a0 t278 _ A3.out).mono ?_); rintro e w9 ⟨rfl, hb⟩; refine ⟨_, rfl, ?_⟩; have n0_ := zi (blk_below (g := gb277) (o := .cells #[.int .i64 a1_0, .int .i64 a1_1, .int .i64 a1_2, .string a1_3] 25 (0, 0)) z2k hb); have n1_ := zi (below_step z2l hb); clear BK277; clear HB; have BK277 := n0_; have HB := n1_; clear n0_ n1_; (try clear hb); (try clear hb2); (try clear hk); (try clear hi); obtain ⟨hcz10_0, hcz10_1, hcz10_2, hcz10_3, hfz10_0, hfz10_1, hfz10_2, hfz10_3⟩ := ze BK277.out) | (go_at_call 68; (with_reducible refine (spec_VersionOk.calls k a1_0 a1_1 a1_2 a1_3 true _ A5.out).mono ?_); rintro e w11 ⟨rfl, hb⟩; have n0_ := zi (blk_below (g := gb277) (o := .cells #[.int .i64 a1_0, .int .i64 a1_1, .int .i64 a1_2, .string a1_3] 25 (0, 0)) z2k hb); have n1_ := zi (below_step z2l hb); clear BK277; clear HB; have BK277 := n0_; have HB := n1_; clear n0_ n1_; (try clear hb); (try clear hb2); (try clear hk); (try clear hi); obtain ⟨hcz12_0, hcz12_1, hcz12_2, hcz12_3, hfz12_0, hfz12_1, hfz12_2, hfz12_3⟩ := ze BK277.out))
    go_ret
    exact ⟨z1b, z2l⟩
   ·rw [if_neg c7] at H
    have c7b0 : (a1_0 == t278) = false := beq_eq_false_iff_ne.mpr c7
    have c7b1 : (a1_0 != t278) = true := bne_iff_ne.mpr c7
    by_cases c13 : t278 = 1
    ·rw [if_pos c13] at H
     have c13b0 : (t278 == 1) = true := beq_iff_eq.mpr c13
     have c13b1 : (t278 != 1) = false := bne_eq_false_iff_eq.mpr c13
     clear c13
     obtain rfl := Option.some.inj H
     go_enter Tryz.func33, Tryz.ntmps33
     go_wp2_with (first | ((with_reducible refine gate_dst (N := 3) rfl ?_); refine box_event zr (N := 3) zr (cs := #[.int .i64 a1_0, .int .i64 a1_1, .int .i64 a1_2, .string a1_3]) (t := 25) z1h ?_; intro gb277 hg w14 hbox hb; have n0_ := zi (below_step zz hb); have n1_ := zi hbox; have n2_ := zi ((z6t : w.heap.size ≤ gb277)); have n3_ := zi ((z6t : w.heap.size ≤ gb277)); clear HB; have HB := n0_; have BK277 := n1_; have GW277 := n2_; have GE277 := n3_; clear n0_ n1_ n2_ n3_; clear hb hbox hg) | ((with_reducible refine gate_callee (f := 67) rfl ?_); refine goesL_ (some 7) rfl rfl Tryz.func67 zq rfl #[.string a0] rfl zy ?_; (with_reducible refine (spec_MajorOf.calls k a0 t278 _ A3.out).mono ?_); rintro e w15 ⟨rfl, hb⟩; refine ⟨_, rfl, ?_⟩; have n0_ := zi (blk_below (g := gb277) (o := .cells #[.int .i64 a1_0, .int .i64 a1_1, .int .i64 a1_2, .string a1_3] 25 (0, 0)) z2k hb); have n1_ := zi (below_step z2l hb); clear BK277; clear HB; have BK277 := n0_; have HB := n1_; clear n0_ n1_; (try clear hb); (try clear hb2); (try clear hk); (try clear hi); obtain ⟨hcz16_0, hcz16_1, hcz16_2, hcz16_3, hfz16_0, hfz16_1, hfz16_2, hfz16_3⟩ := ze BK277.out) | (go_at_call 68; (with_reducible refine (spec_VersionOk.calls k a1_0 a1_1 a1_2 a1_3 true _ A5.out).mono ?_); rintro e w17 ⟨rfl, hb⟩; have n0_ := zi (blk_below (g := gb277) (o := .cells #[.int .i64 a1_0, .int .i64 a1_1, .int .i64 a1_2, .string a1_3] 25 (0, 0)) z2k hb); have n1_ := zi (below_step z2l hb); clear BK277; clear HB; have BK277 := n0_; have HB := n1_; clear n0_ n1_; (try clear hb); (try clear hb2); (try clear hk); (try clear hi); obtain ⟨hcz18_0, hcz18_1, hcz18_2, hcz18_3, hfz18_0, hfz18_1, hfz18_2, hfz18_3⟩ := ze BK277.out))
     go_ret
     exact ⟨z1b, z2l⟩
    ·rw [if_neg c13] at H
     have c13b0 : (t278 == 1) = false := beq_eq_false_iff_ne.mpr c13
     have c13b1 : (t278 != 1) = true := bne_iff_ne.mpr c13
     obtain rfl := Option.some.inj H
     go_enter Tryz.func33, Tryz.ntmps33
     go_wp2_with (first | ((with_reducible refine gate_dst (N := 3) rfl ?_); refine box_event zr (N := 3) zr (cs := #[.int .i64 a1_0, .int .i64 a1_1, .int .i64 a1_2, .string a1_3]) (t := 25) z1h ?_; intro gb277 hg w19 hbox hb; have n0_ := zi (below_step zz hb); have n1_ := zi hbox; have n2_ := zi ((z6t : w.heap.size ≤ gb277)); have n3_ := zi ((z6t : w.heap.size ≤ gb277)); clear HB; have HB := n0_; have BK277 := n1_; have GW277 := n2_; have GE277 := n3_; clear n0_ n1_ n2_ n3_; clear hb hbox hg) | ((with_reducible refine gate_callee (f := 67) rfl ?_); refine goesL_ (some 7) rfl rfl Tryz.func67 zq rfl #[.string a0] rfl zy ?_; (with_reducible refine (spec_MajorOf.calls k a0 t278 _ A3.out).mono ?_); rintro e w20 ⟨rfl, hb⟩; refine ⟨_, rfl, ?_⟩; have n0_ := zi (blk_below (g := gb277) (o := .cells #[.int .i64 a1_0, .int .i64 a1_1, .int .i64 a1_2, .string a1_3] 25 (0, 0)) z2k hb); have n1_ := zi (below_step z2l hb); clear BK277; clear HB; have BK277 := n0_; have HB := n1_; clear n0_ n1_; (try clear hb); (try clear hb2); (try clear hk); (try clear hi); obtain ⟨hcz21_0, hcz21_1, hcz21_2, hcz21_3, hfz21_0, hfz21_1, hfz21_2, hfz21_3⟩ := ze BK277.out) | (go_at_call 68; (with_reducible refine (spec_VersionOk.calls k a1_0 a1_1 a1_2 a1_3 true _ A5.out).mono ?_); rintro e w22 ⟨rfl, hb⟩; have n0_ := zi (blk_below (g := gb277) (o := .cells #[.int .i64 a1_0, .int .i64 a1_1, .int .i64 a1_2, .string a1_3] 25 (0, 0)) z2k hb); have n1_ := zi (below_step z2l hb); clear BK277; clear HB; have BK277 := n0_; have HB := n1_; clear n0_ n1_; (try clear hb); (try clear hb2); (try clear hk); (try clear hi); obtain ⟨hcz23_0, hcz23_1, hcz23_2, hcz23_3, hfz23_0, hfz23_1, hfz23_2, hfz23_3⟩ := ze BK277.out))
     go_ret
     exact ⟨z1b, z2l⟩
  ·replace c6 := Bool.eq_false_iff.mpr c6
   subst c6
   rw [if_neg zh] at H
   obtain rfl := Option.some.inj H
   go_enter Tryz.func33, Tryz.ntmps33
   go_wp2_with (first | ((with_reducible refine gate_dst (N := 3) rfl ?_); refine box_event zr (N := 3) zr (cs := #[.int .i64 a1_0, .int .i64 a1_1, .int .i64 a1_2, .string a1_3]) (t := 25) z1h ?_; intro gb277 hg w24 hbox hb; have n0_ := zi (below_step zz hb); have n1_ := zi hbox; have n2_ := zi ((z6t : w.heap.size ≤ gb277)); have n3_ := zi ((z6t : w.heap.size ≤ gb277)); clear HB; have HB := n0_; have BK277 := n1_; have GW277 := n2_; have GE277 := n3_; clear n0_ n1_ n2_ n3_; clear hb hbox hg) | ((with_reducible refine gate_callee (f := 67) rfl ?_); refine goesL_ (some 7) rfl rfl Tryz.func67 zq rfl #[.string a0] rfl zy ?_; (with_reducible refine (spec_MajorOf.calls k a0 t278 _ A3.out).mono ?_); rintro e w25 ⟨rfl, hb⟩; refine ⟨_, rfl, ?_⟩; have n0_ := zi (blk_below (g := gb277) (o := .cells #[.int .i64 a1_0, .int .i64 a1_1, .int .i64 a1_2, .string a1_3] 25 (0, 0)) z2k hb); have n1_ := zi (below_step z2l hb); clear BK277; clear HB; have BK277 := n0_; have HB := n1_; clear n0_ n1_; (try clear hb); (try clear hb2); (try clear hk); (try clear hi); obtain ⟨hcz26_0, hcz26_1, hcz26_2, hcz26_3, hfz26_0, hfz26_1, hfz26_2, hfz26_3⟩ := ze BK277.out) | (go_at_call 68; (with_reducible refine (spec_VersionOk.calls k a1_0 a1_1 a1_2 a1_3 false _ A5.out).mono ?_); rintro e w27 ⟨rfl, hb⟩; have n0_ := zi (blk_below (g := gb277) (o := .cells #[.int .i64 a1_0, .int .i64 a1_1, .int .i64 a1_2, .string a1_3] 25 (0, 0)) z2k hb); have n1_ := zi (below_step z2l hb); clear BK277; clear HB; have BK277 := n0_; have HB := n1_; clear n0_ n1_; (try clear hb); (try clear hb2); (try clear hk); (try clear hi)))
   go_ret
   exact ⟨z1b, z2l⟩
 ·rw [if_neg c4] at H
  have c4b0 := decide_eq_false c4
  clear c4
  obtain rfl := Option.some.inj H
  go_enter Tryz.func33, Tryz.ntmps33
  go_wp2_with (first | ((with_reducible refine gate_dst (N := 3) rfl ?_); refine box_event zr (N := 3) zr (cs := #[.int .i64 a1_0, .int .i64 a1_1, .int .i64 a1_2, .string a1_3]) (t := 25) z1h ?_; intro gb277 hg w28 hbox hb; have n0_ := zi (below_step zz hb); have n1_ := zi hbox; have n2_ := zi ((z6t : w.heap.size ≤ gb277)); have n3_ := zi ((z6t : w.heap.size ≤ gb277)); clear HB; have HB := n0_; have BK277 := n1_; have GW277 := n2_; have GE277 := n3_; clear n0_ n1_ n2_ n3_; clear hb hbox hg) | ((with_reducible refine gate_callee (f := 67) rfl ?_); refine goesL_ (some 7) rfl rfl Tryz.func67 zq rfl #[.string a0] rfl zy ?_; (with_reducible refine (spec_MajorOf.calls k a0 t278 _ A3.out).mono ?_); rintro e w29 ⟨rfl, hb⟩; refine ⟨_, rfl, ?_⟩; have n0_ := zi (blk_below (g := gb277) (o := .cells #[.int .i64 a1_0, .int .i64 a1_1, .int .i64 a1_2, .string a1_3] 25 (0, 0)) z2k hb); have n1_ := zi (below_step z2l hb); clear BK277; clear HB; have BK277 := n0_; have HB := n1_; clear n0_ n1_; (try clear hb); (try clear hb2); (try clear hk); (try clear hi)))
  go_ret
  exact ⟨z1b, z2l⟩
def spec_NeedOk.f (k : Nat) (a0_0 : ByteArray) (a0_1 : Int) (a0_2 : Int) (a0_3 : Int) (a0_4 : ByteArray) : Option (Bool) := (spec_Fits.f k a0_0 a0_1 a0_2 a0_3 a0_4).bind fun t281 => (some t281)
set_option maxHeartbeats 8000000 in
set_option maxRecDepth 100000 in
theorem spec_NeedOk.calls (k : Nat) (a0_0 : ByteArray) (a0_1 : Int) (a0_2 : Int) (a0_3 : Int) (a0_4 : ByteArray) (r : Bool) (w : World) (h : spec_NeedOk.f k a0_0 a0_1 a0_2 a0_3 a0_4 = some r) :
  Calls Tryz.prog 69 #[.agg #[.string a0_0, .int .i64 a0_1, .int .i64 a0_2, .int .i64 a0_3, .string a0_4]] w fun e w' => e = .returned (.bool r) ∧ Below w.heap.size w w' := by
 have hu35 := Tryz.underlying35
 have hu25 := Tryz.underlying25
 have HB := zi (Below.refl w.heap.size w)
 have H := h
 unfold spec_NeedOk.f at H
 clear h
 replace H := Option.bind_eq_some_iff.mp H
 obtain ⟨t281, A20, H⟩ := H
 try dsimp only at H
 have A2 := zi A20
 clear A20
 obtain rfl := Option.some.inj H
 go_enter Tryz.func69, Tryz.ntmps69
 go_wp2_with (first | ((with_reducible refine gate_dst (N := 1) rfl ?_); refine box_event zr (N := 1) zr (cs := #[.string a0_0, .int .i64 a0_1, .int .i64 a0_2, .int .i64 a0_3, .string a0_4]) (t := 35) z1h ?_; intro gb280 hg w3 hbox hb; have n0_ := zi (below_step zz hb); have n1_ := zi hbox; have n2_ := zi ((z6t : w.heap.size ≤ gb280)); have n3_ := zi ((z6t : w.heap.size ≤ gb280)); clear HB; have HB := n0_; have BK280 := n1_; have GW280 := n2_; have GE280 := n3_; clear n0_ n1_ n2_ n3_; clear hb hbox hg; obtain ⟨hcz4_0, hcz4_1, hcz4_2, hcz4_3, hcz4_4, hfz4_0, hfz4_1, hfz4_2, hfz4_3, hfz4_4⟩ := zf BK280.out) | ((with_reducible refine gate_callee (f := 33) rfl ?_); refine goesL_ (some 7) rfl rfl Tryz.func33 zq rfl #[.string a0_0, .agg #[.int .i64 a0_1, .int .i64 a0_2, .int .i64 a0_3, .string a0_4]] rfl zy ?_; (with_reducible refine (spec_Fits.calls k a0_0 a0_1 a0_2 a0_3 a0_4 t281 _ A2.out).mono ?_); rintro e w5 ⟨rfl, hb⟩; refine ⟨_, rfl, ?_⟩; have n0_ := zi (blk_below (g := gb280) (o := .cells #[.string a0_0, .int .i64 a0_1, .int .i64 a0_2, .int .i64 a0_3, .string a0_4] 35 (0, 0)) (by (repeat refine zj ?_); exact BK280.out) hb); have n1_ := zi (below_step (by repeat (first | (with_reducible first | exact HB.out | apply below_alloc | apply pw_below_drewN | apply below_drew1 | refine below_set ?_ GE280.out) | exact HB.out)) hb); clear BK280; clear HB; have BK280 := n0_; have HB := n1_; clear n0_ n1_; (try clear hb); (try clear hb2); (try clear hk); (try clear hi)))
 go_ret
 exact ⟨z1b, by repeat (first | (with_reducible first | exact HB.out | apply below_alloc | apply pw_below_drewN | apply below_drew1 | refine below_set ?_ GE280.out) | exact HB.out)⟩
def spec_l5Rising.l0 : Nat → List (S35) → Int → Option (Bool)
 | 0, _, _ => none
 | k + 1, x0, x3 => if x3 < (x0.length : Int) then (if 0 ≤ x3 then ((spec_NeedOk.f k ((rd_T35 x0 x3).f0) ((rd_T35 x0 x3).f1.f0) ((rd_T35 x0 x3).f1.f1) ((rd_T35 x0 x3).f1.f2) ((rd_T35 x0 x3).f1.f3)).bind fun t283 => (if t283 = true then (if x3 > 0 then (if 0 ≤ (wrap64 (x3 - 1)) then (if (wrap64 (x3 - 1)) < (x0.length : Int) then (if ((Op.bytesLess (((rd_T35 x0 (wrap64 (x3 - 1))).f0).toList) (((rd_T35 x0 x3).f0).toList)) = true) then (spec_l5Rising.l0 k x0 (wrap64 (x3 + 1))) else (some false)) else (none)) else (none)) else (spec_l5Rising.l0 k x0 (wrap64 (x3 + 1)))) else (some false))) else (none)) else (some true)
def spec_l5Rising.f (k : Nat) (l0 : List (S35)) : Option (Bool) := spec_l5Rising.l0 k l0 0
def spec_l5Rising.T4 : Bool × List (List Nat × List Nat) := (true, [([], []), ([], []), ([0, 1], [0, 1]), ([2], [2]), ([3], [3]), ([4], [4]), ([5, 4], [5]), ([6], [6]), ([7, 6], [6, 7]), ([8, 6, 6], [6, 8]), ([9], [9]), ([9], [9]), ([11, 9], [9, 11]), ([10, 12, 9], [9, 10, 12]), ([13, 9], [9, 13]), ([14, 9], [9, 14]), ([9], [9]), ([9], [9]), ([16, 17, 9], [9, 16, 17]), ([18, 9], [9, 18]), ([19, 9], [9, 19]), ([15, 20, 9], [9, 15, 20]), ([9, 21, 6], [6, 9, 21]), ([6, 22], [6, 22])])
def spec_l5Rising.B4 : List Nat := [0, 0, 3, 7, 15, 31, 63, 127, 255, 511, 1023, 1023, 3071, 8191, 16383, 32767, 1023, 1023, 197631, 459775, 984063, 2097151, 4194303, 8388607]
theorem spec_l5Rising.tab4 : rtab .any (opsOf Tryz.f34 4) = spec_l5Rising.T4 := by kernel_rfl
theorem spec_l5Rising.bits4 : waitsOk spec_l5Rising.T4.2 spec_l5Rising.B4 = true := by kernel_rfl
set_option maxHeartbeats 8000000 in
set_option maxRecDepth 100000 in
theorem spec_l5Rising.calls (k : Nat) (A0 : Option Addr) (c0 : Nat) (l0 : List (S35)) (r : Bool) (w : World) (hr0 : Kd.C k35 w A0 l0.length l0) (hc0 : l0.length ≤ c0) (h : spec_l5Rising.f k l0 = some r) :
  Calls Tryz.prog 34 #[.slice A0 l0.length c0] w fun e w' => e = .returned (.bool r) ∧ Below w.heap.size w w' := by
 have hu35 := Tryz.underlying35
 have HR0 := zi hr0
 have HC0 := zi hc0
 clear hr0 hc0
 have HB := zi (Below.refl w.heap.size w)
 have H := h
 unfold spec_l5Rising.f at H
 clear h
 have H' := zi H
 clear H
 go_enter Tryz.func34, Tryz.ntmps34
 go_wp2
 go_loopg [3] k (fun kq v3 w' => ∃ (x3_1 : Int), v3 = .int .i64 x3_1 ∧ Aside0 (spec_l5Rising.l0 kq l0 x3_1 = some r) ∧ Aside0 (kq ≤ k) ∧ Aside0 (Below w.heap.size w w'))
 case atStart => exact ⟨(0), zu, H', ⟨Nat.le_refl _⟩, ⟨zz⟩⟩
 case round =>
  clear H'
  obtain ⟨x3_1, rfl, HA, HK1, HB⟩ := hrel
  cases gk with
  | zero => exact absurd HA.out (by simp [spec_l5Rising.l0])
  | succ k1 =>
   have H := HA.out
   clear HA
   simp only [spec_l5Rising.l0] at H
   by_cases c2 : x3_1 < (l0.length : Int)
   ·rw [if_pos c2] at H
    have c2b0 := decide_eq_true c2
    clear c2
    by_cases c3 : 0 ≤ x3_1
    ·rw [if_pos c3] at H
     have c3b0 := decide_eq_true c3
     clear c3
     replace H := Option.bind_eq_some_iff.mp H
     obtain ⟨t283, A40, H⟩ := H
     try dsimp only at H
     have A4 := zi A40
     clear A40
     by_cases c5 : t283 = true
     ·subst c5
      rw [if_pos rfl] at H
      by_cases c6 : x3_1 > 0
      ·rw [if_pos c6] at H
       have c6b0 := decide_eq_true c6
       clear c6
       obtain ⟨ji7, hji7⟩ : ∃ j_ : Int, (wrap64 (x3_1 - 1)) = j_ := ⟨_, rfl⟩
       replace H : (if 0 ≤ (ji7) then (if (ji7) < (l0.length : Int) then (if ((Op.bytesLess (((rd_T35 l0 (ji7)).f0).toList) (((rd_T35 l0 x3_1).f0).toList)) = true) then (spec_l5Rising.l0 k1 l0 (wrap64 (x3_1 + 1))) else (some false)) else (none)) else (none)) = some r := by first | (rw [hji7] at H; exact H) | (simp only [hji7] at H ⊢; exact H)
       (try rw [hji7] at A4)
       have hji7w : (IntKind.i64.wrap (x3_1 - 1)) = ji7 := (i64_w _).trans hji7
       by_cases c8 : 0 ≤ (ji7)
       ·rw [if_pos c8] at H
        have c8b0 := decide_eq_true c8
        clear c8
        by_cases c9 : (ji7) < (l0.length : Int)
        ·rw [if_pos c9] at H
         have c9b0 := decide_eq_true c9
         clear c9
         by_cases c10 : ((Op.bytesLess (((rd_T35 l0 (ji7)).f0).toList) (((rd_T35 l0 x3_1).f0).toList)) = true)
         ·rw [if_pos c10] at H
          have c10b0 : (Op.bytesLess (((rd_T35 l0 (ji7)).f0).toList) (((rd_T35 l0 x3_1).f0).toList)) = true := c10
          clear c10
          have H' := zi H
          clear H
          try go_wp2
          have n0_ := zi (below_drew1 HB.out)
          clear HB
          have HB := n0_
          clear n0_
          have p282 : 0 ≤ (x3_1 : Int) := of_decide_eq_true zw
          have q282 : x3_1 < (l0.length : Int) := of_decide_eq_true zw
          obtain ⟨ad282, e282, hx282_0, hx282_1, hx282_2, hx282_3, hx282_4⟩ := at_T35 HR0.out x3_1 p282 q282
          have hw282_4 := hx282_4
          have hw282_3 := hx282_3
          have hw282_2 := hx282_2
          have hw282_1 := hx282_1
          have hw282_0 := hx282_0
          cases e282
          replace hx282_0 := zo HB.out hx282_0
          replace hx282_1 := zo HB.out hx282_1
          replace hx282_2 := zo HB.out hx282_2
          replace hx282_3 := zo HB.out hx282_3
          replace hx282_4 := zo HB.out hx282_4
          replace p282 := eq_true p282
          replace q282 := eq_true q282
          have p284 : 0 ≤ ((ji7) : Int) := of_decide_eq_true zw
          have q284 : (ji7) < (l0.length : Int) := of_decide_eq_true zw
          obtain ⟨ad284, e284, hx284_0, hx284_1, hx284_2, hx284_3, hx284_4⟩ := at_T35 HR0.out (ji7) p284 q284
          have hw284_4 := hx284_4
          have hw284_3 := hx284_3
          have hw284_2 := hx284_2
          have hw284_1 := hx284_1
          have hw284_0 := hx284_0
          obtain rfl : ad282 = ad284 := (by injection e284)
          replace hx284_0 := zo HB.out hx284_0
          replace hx284_1 := zo HB.out hx284_1
          replace hx284_2 := zo HB.out hx284_2
          replace hx284_3 := zo HB.out hx284_3
          replace hx284_4 := zo HB.out hx284_4
          replace p284 := eq_true p284
          replace q284 := eq_true q284
          have p285 : 0 ≤ (x3_1 : Int) := of_decide_eq_true zw
          have q285 : x3_1 < (l0.length : Int) := of_decide_eq_true zw
          obtain ⟨ad285, e285, hx285_0, hx285_1, hx285_2, hx285_3, hx285_4⟩ := at_T35 HR0.out x3_1 p285 q285
          have hw285_4 := hx285_4
          have hw285_3 := hx285_3
          have hw285_2 := hx285_2
          have hw285_1 := hx285_1
          have hw285_0 := hx285_0
          obtain rfl : ad282 = ad285 := (by injection e285)
          replace hx285_0 := zo HB.out hx285_0
          replace hx285_1 := zo HB.out hx285_1
          replace hx285_2 := zo HB.out hx285_2
          replace hx285_3 := zo HB.out hx285_3
          replace hx285_4 := zo HB.out hx285_4
          replace p285 := eq_true p285
          replace q285 := eq_true q285
          refine start_ (n := 24) (S := fun w' => w'.cell? (ad282.add ((x3_1).toNat * 5)) = some (.string ((rd_T35 l0 x3_1).f0)) ∧ w'.cell? ⟨(ad282.add ((x3_1).toNat * 5)).block, (ad282.add ((x3_1).toNat * 5)).off + 1, none⟩ = some (.int .i64 ((rd_T35 l0 x3_1).f1.f0)) ∧ w'.cell? ⟨(ad282.add ((x3_1).toNat * 5)).block, (ad282.add ((x3_1).toNat * 5)).off + 2, none⟩ = some (.int .i64 ((rd_T35 l0 x3_1).f1.f1)) ∧ w'.cell? ⟨(ad282.add ((x3_1).toNat * 5)).block, (ad282.add ((x3_1).toNat * 5)).off + 3, none⟩ = some (.int .i64 ((rd_T35 l0 x3_1).f1.f2)) ∧ w'.cell? ⟨(ad282.add ((x3_1).toNat * 5)).block, (ad282.add ((x3_1).toNat * 5)).off + 4, none⟩ = some (.string ((rd_T35 l0 x3_1).f1.f3)) ∧ w'.cell? (ad282.add (((ji7)).toNat * 5)) = some (.string ((rd_T35 l0 (ji7)).f0)) ∧ w'.cell? ⟨(ad282.add (((ji7)).toNat * 5)).block, (ad282.add (((ji7)).toNat * 5)).off + 1, none⟩ = some (.int .i64 ((rd_T35 l0 (ji7)).f1.f0)) ∧ w'.cell? ⟨(ad282.add (((ji7)).toNat * 5)).block, (ad282.add (((ji7)).toNat * 5)).off + 2, none⟩ = some (.int .i64 ((rd_T35 l0 (ji7)).f1.f1)) ∧ w'.cell? ⟨(ad282.add (((ji7)).toNat * 5)).block, (ad282.add (((ji7)).toNat * 5)).off + 3, none⟩ = some (.int .i64 ((rd_T35 l0 (ji7)).f1.f2)) ∧ w'.cell? ⟨(ad282.add (((ji7)).toNat * 5)).block, (ad282.add (((ji7)).toNat * 5)).off + 4, none⟩ = some (.string ((rd_T35 l0 (ji7)).f1.f3)) ∧ w'.cell? (ad282.add ((x3_1).toNat * 5)) = some (.string ((rd_T35 l0 x3_1).f0)) ∧ w'.cell? ⟨(ad282.add ((x3_1).toNat * 5)).block, (ad282.add ((x3_1).toNat * 5)).off + 1, none⟩ = some (.int .i64 ((rd_T35 l0 x3_1).f1.f0)) ∧ w'.cell? ⟨(ad282.add ((x3_1).toNat * 5)).block, (ad282.add ((x3_1).toNat * 5)).off + 2, none⟩ = some (.int .i64 ((rd_T35 l0 x3_1).f1.f1)) ∧ w'.cell? ⟨(ad282.add ((x3_1).toNat * 5)).block, (ad282.add ((x3_1).toNat * 5)).off + 3, none⟩ = some (.int .i64 ((rd_T35 l0 x3_1).f1.f2)) ∧ w'.cell? ⟨(ad282.add ((x3_1).toNat * 5)).block, (ad282.add ((x3_1).toNat * 5)).off + 4, none⟩ = some (.string ((rd_T35 l0 x3_1).f1.f3))) (ds := []) #[z7v, z7v, z7v, z7v, z7v, z7v, z7v, z7v, z7v, z7v, z7v, z7v, z7v, z7v, z7v, z7v, z7v, z7v, z7v, z7v, z7v, z7v, z7v, z7v] zq rfl rfl ⟨(zo HB.out hw282_0), (zo HB.out hw282_1), (zo HB.out hw282_2), (zo HB.out hw282_3), (zo HB.out hw282_4), (zo HB.out hw284_0), (zo HB.out hw284_1), (zo HB.out hw284_2), (zo HB.out hw284_3), (zo HB.out hw284_4), (zo HB.out hw285_0), (zo HB.out hw285_1), (zo HB.out hw285_2), (zo HB.out hw285_3), (zo HB.out hw285_4)⟩ (fun hHeld => ?_); refine with_tabW spec_l5Rising.tab4 spec_l5Rising.bits4 (fun HT_ HW_ => ?_)
          generalize wr.drew = w11 at HB hx282_0 hx282_1 hx282_2 hx282_3 hx282_4 hx284_0 hx284_1 hx284_2 hx284_3 hx284_4 hx285_0 hx285_1 hx285_2 hx285_3 hx285_4 hHeld ⊢
          refine zk 0 (some 10) #[z7u, z7v, z7v, z7v, z7v, z7v, z7v, z7v, z7v, z7v, z7v, z7v, z7v, z7v, z7v, z7v, z7v, z7v, z7v, z7v, z7v, z7v, z7v, z7v] rfl rfl ?_
          refine zk 1 (some 11) #[z7u, z7u, z7v, z7v, z7v, z7v, z7v, z7v, z7v, z7v, z7v, z7v, z7v, z7v, z7v, z7v, z7v, z7v, z7v, z7v, z7v, z7v, z7v, z7v] rfl rfl ?_
          refine zk 2 (some 12) #[z7u, z7u, z7u, z7v, z7v, z7v, z7v, z7v, z7v, z7v, z7v, z7v, z7v, z7v, z7v, z7v, z7v, z7v, z7v, z7v, z7v, z7v, z7v, z7v] rfl rfl ?_
          refine zm 3 (some 13) #[z7u, z7u, z7u, z7u, z7v, z7v, z7v, z7v, z7v, z7v, z7v, z7v, z7v, z7v, z7v, z7v, z7v, z7v, z7v, z7v, z7v, z7v, z7v, z7v] rfl rfl (Or.inl ⟨zr, z2m⟩) hHeld ?_
          refine one_ (i := 4) (N := some 14) #[z7u, z7u, z7u, z7u, z7u, z7v, z7v, z7v, z7v, z7v, z7v, z7v, z7v, z7v, z7v, z7v, z7v, z7v, z7v, z7v, z7v, z7v, z7v, z7v] rfl rfl (one_of HT_.out zq) zt (fun K hK => ?_)
          refine goes_ Tryz.func69 zq rfl #[.agg #[.string ((rd_T35 l0 x3_1).f0), .int .i64 ((rd_T35 l0 x3_1).f1.f0), .int .i64 ((rd_T35 l0 x3_1).f1.f1), .int .i64 ((rd_T35 l0 x3_1).f1.f2), .string ((rd_T35 l0 x3_1).f1.f3)]] zr rfl rfl zy ?_
          with_reducible refine (spec_NeedOk.calls k1 ((rd_T35 l0 x3_1).f0) ((rd_T35 l0 x3_1).f1.f0) ((rd_T35 l0 x3_1).f1.f1) ((rd_T35 l0 x3_1).f1.f2) ((rd_T35 l0 x3_1).f1.f3) true _ A4.out).mono ?_
          rintro e w12 ⟨rfl, hb⟩
          refine ⟨_, rfl, ?_⟩
          have n0_ := zi (below_step zz hb)
          clear HB
          have HB := n0_
          clear n0_
          (try clear hb)
          (try clear hb2)
          (try clear hk)
          (try clear hi)
          refine hK.out _ _ ⟨(zo HB.out hw282_0), (zo HB.out hw282_1), (zo HB.out hw282_2), (zo HB.out hw282_3), (zo HB.out hw282_4), (zo HB.out hw284_0), (zo HB.out hw284_1), (zo HB.out hw284_2), (zo HB.out hw284_3), (zo HB.out hw284_4), (zo HB.out hw285_0), (zo HB.out hw285_1), (zo HB.out hw285_2), (zo HB.out hw285_3), (zo HB.out hw285_4)⟩ (fun hHeld => ?_)
          clear hK K
          refine zn (some 14) rfl ?_
          refine zk 5 (some 15) #[z7u, z7u, z7u, z7u, z7u, z7u, z7v, z7v, z7v, z7v, z7v, z7v, z7v, z7v, z7v, z7v, z7v, z7v, z7v, z7v, z7v, z7v, z7v, z7v] rfl rfl ?_
          refine zk 6 (some 16) #[z7u, z7u, z7u, z7u, z7u, z7u, z7u, z7v, z7v, z7v, z7v, z7v, z7v, z7v, z7v, z7v, z7v, z7v, z7v, z7v, z7v, z7v, z7v, z7v] rfl rfl ?_
          refine zk 7 (some 17) #[z7u, z7u, z7u, z7u, z7u, z7u, z7u, z7u, z7v, z7v, z7v, z7v, z7v, z7v, z7v, z7v, z7v, z7v, z7v, z7v, z7v, z7v, z7v, z7v] rfl rfl ?_
          refine zk 8 (some 18) #[z7u, z7u, z7u, z7u, z7u, z7u, z7u, z7u, z7u, z7v, z7v, z7v, z7v, z7v, z7v, z7v, z7v, z7v, z7v, z7v, z7v, z7v, z7v, z7v] rfl rfl ?_
          refine zk 9 (some 19) #[z7u, z7u, z7u, z7u, z7u, z7u, z7u, z7u, z7u, z7u, z7v, z7v, z7v, z7v, z7v, z7v, z7v, z7v, z7v, z7v, z7v, z7v, z7v, z7v] rfl rfl ?_
          refine zk 10 (some 20) #[z7u, z7u, z7u, z7u, z7u, z7u, z7u, z7u, z7u, z7u, z7u, z7v, z7v, z7v, z7v, z7v, z7v, z7v, z7v, z7v, z7v, z7v, z7v, z7v] rfl rfl ?_
          refine zk 11 (some 21) #[z7u, z7u, z7u, z7u, z7u, z7u, z7u, z7u, z7u, z7u, z7u, z7u, z7v, z7v, z7v, z7v, z7v, z7v, z7v, z7v, z7v, z7v, z7v, z7v] rfl rfl ?_
          refine zk 12 (some 22) #[z7u, z7u, z7u, z7u, z7u, z7u, z7u, z7u, z7u, z7u, z7u, z7u, z7u, z7v, z7v, z7v, z7v, z7v, z7v, z7v, z7v, z7v, z7v, z7v] rfl rfl ?_
          refine zk 13 (some 23) #[z7u, z7u, z7u, z7u, z7u, z7u, z7u, z7u, z7u, z7u, z7u, z7u, z7u, z7u, z7v, z7v, z7v, z7v, z7v, z7v, z7v, z7v, z7v, z7v] rfl rfl ?_
          refine zk 14 (some 24) #[z7u, z7u, z7u, z7u, z7u, z7u, z7u, z7u, z7u, z7u, z7u, z7u, z7u, z7u, z7u, z7v, z7v, z7v, z7v, z7v, z7v, z7v, z7v, z7v] rfl rfl ?_
          refine zk 16 (some 26) #[z7u, z7u, z7u, z7u, z7u, z7u, z7u, z7u, z7u, z7u, z7u, z7u, z7u, z7u, z7u, z7v, z7u, z7v, z7v, z7v, z7v, z7v, z7v, z7v] rfl rfl ?_
          refine zk 17 (some 27) #[z7u, z7u, z7u, z7u, z7u, z7u, z7u, z7u, z7u, z7u, z7u, z7u, z7u, z7u, z7u, z7v, z7u, z7u, z7v, z7v, z7v, z7v, z7v, z7v] rfl rfl ?_
          refine zk 18 (some 28) #[z7u, z7u, z7u, z7u, z7u, z7u, z7u, z7u, z7u, z7u, z7u, z7u, z7u, z7u, z7u, z7v, z7u, z7u, z7u, z7v, z7v, z7v, z7v, z7v] rfl rfl ?_
          refine zk 19 (some 29) #[z7u, z7u, z7u, z7u, z7u, z7u, z7u, z7u, z7u, z7u, z7u, z7u, z7u, z7u, z7u, z7v, z7u, z7u, z7u, z7u, z7v, z7v, z7v, z7v] rfl rfl ?_
          refine zm 15 (some 25) #[z7u, z7u, z7u, z7u, z7u, z7u, z7u, z7u, z7u, z7u, z7u, z7u, z7u, z7u, z7u, z7u, z7u, z7u, z7u, z7u, z7v, z7v, z7v, z7v] rfl rfl (Or.inl ⟨zr, z2m⟩) hHeld ?_
          refine zm 20 (some 30) #[z7u, z7u, z7u, z7u, z7u, z7u, z7u, z7u, z7u, z7u, z7u, z7u, z7u, z7u, z7u, z7u, z7u, z7u, z7u, z7u, z7u, z7v, z7v, z7v] rfl rfl (Or.inl ⟨zr, z2m⟩) hHeld ?_
          refine zk 21 (some 31) #[z7u, z7u, z7u, z7u, z7u, z7u, z7u, z7u, z7u, z7u, z7u, z7u, z7u, z7u, z7u, z7u, z7u, z7u, z7u, z7u, z7u, z7u, z7v, z7v] rfl rfl ?_
          refine zk 22 (some 32) #[z7u, z7u, z7u, z7u, z7u, z7u, z7u, z7u, z7u, z7u, z7u, z7u, z7u, z7u, z7u, z7u, z7u, z7u, z7u, z7u, z7u, z7u, z7u, z7v] rfl rfl ?_
          refine zk 23 (some 33) #[z7u, z7u, z7u, z7u, z7u, z7u, z7u, z7u, z7u, z7u, z7u, z7u, z7u, z7u, z7u, z7u, z7u, z7u, z7u, z7u, z7u, z7u, z7u, z7u] rfl rfl ?_
          refine done_ (done_of HT_.out zq) ?_
          try go_wp2
          go_roundg k1
          case measure => have := HK1.out; omega
          case rel => exact ⟨(wrap64 (x3_1 + 1)), zu, H', ⟨zx⟩, ⟨zz⟩⟩
         ·rw [if_neg c10] at H
          have c10b0 : (Op.bytesLess (((rd_T35 l0 (ji7)).f0).toList) (((rd_T35 l0 x3_1).f0).toList)) = false := by simpa using c10
          clear c10
          obtain rfl := Option.some.inj H
          try go_wp2
          have n0_ := zi (below_drew1 HB.out)
          clear HB
          have HB := n0_
          clear n0_
          have p282 : 0 ≤ (x3_1 : Int) := of_decide_eq_true zw
          have q282 : x3_1 < (l0.length : Int) := of_decide_eq_true zw
          obtain ⟨ad282, e282, hx282_0, hx282_1, hx282_2, hx282_3, hx282_4⟩ := at_T35 HR0.out x3_1 p282 q282
          have hw282_4 := hx282_4
          have hw282_3 := hx282_3
          have hw282_2 := hx282_2
          have hw282_1 := hx282_1
          have hw282_0 := hx282_0
          cases e282
          replace hx282_0 := zo HB.out hx282_0
          replace hx282_1 := zo HB.out hx282_1
          replace hx282_2 := zo HB.out hx282_2
          replace hx282_3 := zo HB.out hx282_3
          replace hx282_4 := zo HB.out hx282_4
          replace p282 := eq_true p282
          replace q282 := eq_true q282
          have p284 : 0 ≤ ((ji7) : Int) := of_decide_eq_true zw
          have q284 : (ji7) < (l0.length : Int) := of_decide_eq_true zw
          obtain ⟨ad284, e284, hx284_0, hx284_1, hx284_2, hx284_3, hx284_4⟩ := at_T35 HR0.out (ji7) p284 q284
          have hw284_4 := hx284_4
          have hw284_3 := hx284_3
          have hw284_2 := hx284_2
          have hw284_1 := hx284_1
          have hw284_0 := hx284_0
          obtain rfl : ad282 = ad284 := (by injection e284)
          replace hx284_0 := zo HB.out hx284_0
          replace hx284_1 := zo HB.out hx284_1
          replace hx284_2 := zo HB.out hx284_2
          replace hx284_3 := zo HB.out hx284_3
          replace hx284_4 := zo HB.out hx284_4
          replace p284 := eq_true p284
          replace q284 := eq_true q284
          have p285 : 0 ≤ (x3_1 : Int) := of_decide_eq_true zw
          have q285 : x3_1 < (l0.length : Int) := of_decide_eq_true zw
          obtain ⟨ad285, e285, hx285_0, hx285_1, hx285_2, hx285_3, hx285_4⟩ := at_T35 HR0.out x3_1 p285 q285
          have hw285_4 := hx285_4
          have hw285_3 := hx285_3
          have hw285_2 := hx285_2
          have hw285_1 := hx285_1
          have hw285_0 := hx285_0
          obtain rfl : ad282 = ad285 := (by injection e285)
          replace hx285_0 := zo HB.out hx285_0
          replace hx285_1 := zo HB.out hx285_1
          replace hx285_2 := zo HB.out hx285_2
          replace hx285_3 := zo HB.out hx285_3
          replace hx285_4 := zo HB.out hx285_4
          replace p285 := eq_true p285
          replace q285 := eq_true q285
          refine start_ (n := 24) (S := fun w' => w'.cell? (ad282.add ((x3_1).toNat * 5)) = some (.string ((rd_T35 l0 x3_1).f0)) ∧ w'.cell? ⟨(ad282.add ((x3_1).toNat * 5)).block, (ad282.add ((x3_1).toNat * 5)).off + 1, none⟩ = some (.int .i64 ((rd_T35 l0 x3_1).f1.f0)) ∧ w'.cell? ⟨(ad282.add ((x3_1).toNat * 5)).block, (ad282.add ((x3_1).toNat * 5)).off + 2, none⟩ = some (.int .i64 ((rd_T35 l0 x3_1).f1.f1)) ∧ w'.cell? ⟨(ad282.add ((x3_1).toNat * 5)).block, (ad282.add ((x3_1).toNat * 5)).off + 3, none⟩ = some (.int .i64 ((rd_T35 l0 x3_1).f1.f2)) ∧ w'.cell? ⟨(ad282.add ((x3_1).toNat * 5)).block, (ad282.add ((x3_1).toNat * 5)).off + 4, none⟩ = some (.string ((rd_T35 l0 x3_1).f1.f3)) ∧ w'.cell? (ad282.add (((ji7)).toNat * 5)) = some (.string ((rd_T35 l0 (ji7)).f0)) ∧ w'.cell? ⟨(ad282.add (((ji7)).toNat * 5)).block, (ad282.add (((ji7)).toNat * 5)).off + 1, none⟩ = some (.int .i64 ((rd_T35 l0 (ji7)).f1.f0)) ∧ w'.cell? ⟨(ad282.add (((ji7)).toNat * 5)).block, (ad282.add (((ji7)).toNat * 5)).off + 2, none⟩ = some (.int .i64 ((rd_T35 l0 (ji7)).f1.f1)) ∧ w'.cell? ⟨(ad282.add (((ji7)).toNat * 5)).block, (ad282.add (((ji7)).toNat * 5)).off + 3, none⟩ = some (.int .i64 ((rd_T35 l0 (ji7)).f1.f2)) ∧ w'.cell? ⟨(ad282.add (((ji7)).toNat * 5)).block, (ad282.add (((ji7)).toNat * 5)).off + 4, none⟩ = some (.string ((rd_T35 l0 (ji7)).f1.f3)) ∧ w'.cell? (ad282.add ((x3_1).toNat * 5)) = some (.string ((rd_T35 l0 x3_1).f0)) ∧ w'.cell? ⟨(ad282.add ((x3_1).toNat * 5)).block, (ad282.add ((x3_1).toNat * 5)).off + 1, none⟩ = some (.int .i64 ((rd_T35 l0 x3_1).f1.f0)) ∧ w'.cell? ⟨(ad282.add ((x3_1).toNat * 5)).block, (ad282.add ((x3_1).toNat * 5)).off + 2, none⟩ = some (.int .i64 ((rd_T35 l0 x3_1).f1.f1)) ∧ w'.cell? ⟨(ad282.add ((x3_1).toNat * 5)).block, (ad282.add ((x3_1).toNat * 5)).off + 3, none⟩ = some (.int .i64 ((rd_T35 l0 x3_1).f1.f2)) ∧ w'.cell? ⟨(ad282.add ((x3_1).toNat * 5)).block, (ad282.add ((x3_1).toNat * 5)).off + 4, none⟩ = some (.string ((rd_T35 l0 x3_1).f1.f3))) (ds := []) #[z7v, z7v, z7v, z7v, z7v, z7v, z7v, z7v, z7v, z7v, z7v, z7v, z7v, z7v, z7v, z7v, z7v, z7v, z7v, z7v, z7v, z7v, z7v, z7v] zq rfl rfl ⟨(zo HB.out hw282_0), (zo HB.out hw282_1), (zo HB.out hw282_2), (zo HB.out hw282_3), (zo HB.out hw282_4), (zo HB.out hw284_0), (zo HB.out hw284_1), (zo HB.out hw284_2), (zo HB.out hw284_3), (zo HB.out hw284_4), (zo HB.out hw285_0), (zo HB.out hw285_1), (zo HB.out hw285_2), (zo HB.out hw285_3), (zo HB.out hw285_4)⟩ (fun hHeld => ?_); refine with_tabW spec_l5Rising.tab4 spec_l5Rising.bits4 (fun HT_ HW_ => ?_)
          generalize wr.drew = w13 at HB hx282_0 hx282_1 hx282_2 hx282_3 hx282_4 hx284_0 hx284_1 hx284_2 hx284_3 hx284_4 hx285_0 hx285_1 hx285_2 hx285_3 hx285_4 hHeld ⊢
          refine zk 0 (some 10) #[z7u, z7v, z7v, z7v, z7v, z7v, z7v, z7v, z7v, z7v, z7v, z7v, z7v, z7v, z7v, z7v, z7v, z7v, z7v, z7v, z7v, z7v, z7v, z7v] rfl rfl ?_
          refine zk 1 (some 11) #[z7u, z7u, z7v, z7v, z7v, z7v, z7v, z7v, z7v, z7v, z7v, z7v, z7v, z7v, z7v, z7v, z7v, z7v, z7v, z7v, z7v, z7v, z7v, z7v] rfl rfl ?_
          refine zk 2 (some 12) #[z7u, z7u, z7u, z7v, z7v, z7v, z7v, z7v, z7v, z7v, z7v, z7v, z7v, z7v, z7v, z7v, z7v, z7v, z7v, z7v, z7v, z7v, z7v, z7v] rfl rfl ?_
          refine zm 3 (some 13) #[z7u, z7u, z7u, z7u, z7v, z7v, z7v, z7v, z7v, z7v, z7v, z7v, z7v, z7v, z7v, z7v, z7v, z7v, z7v, z7v, z7v, z7v, z7v, z7v] rfl rfl (Or.inl ⟨zr, z2m⟩) hHeld ?_
          refine one_ (i := 4) (N := some 14) #[z7u, z7u, z7u, z7u, z7u, z7v, z7v, z7v, z7v, z7v, z7v, z7v, z7v, z7v, z7v, z7v, z7v, z7v, z7v, z7v, z7v, z7v, z7v, z7v] rfl rfl (one_of HT_.out zq) zt (fun K hK => ?_)
          refine goes_ Tryz.func69 zq rfl #[.agg #[.string ((rd_T35 l0 x3_1).f0), .int .i64 ((rd_T35 l0 x3_1).f1.f0), .int .i64 ((rd_T35 l0 x3_1).f1.f1), .int .i64 ((rd_T35 l0 x3_1).f1.f2), .string ((rd_T35 l0 x3_1).f1.f3)]] zr rfl rfl zy ?_
          with_reducible refine (spec_NeedOk.calls k1 ((rd_T35 l0 x3_1).f0) ((rd_T35 l0 x3_1).f1.f0) ((rd_T35 l0 x3_1).f1.f1) ((rd_T35 l0 x3_1).f1.f2) ((rd_T35 l0 x3_1).f1.f3) true _ A4.out).mono ?_
          rintro e w14 ⟨rfl, hb⟩
          refine ⟨_, rfl, ?_⟩
          have n0_ := zi (below_step zz hb)
          clear HB
          have HB := n0_
          clear n0_
          (try clear hb)
          (try clear hb2)
          (try clear hk)
          (try clear hi)
          refine hK.out _ _ ⟨(zo HB.out hw282_0), (zo HB.out hw282_1), (zo HB.out hw282_2), (zo HB.out hw282_3), (zo HB.out hw282_4), (zo HB.out hw284_0), (zo HB.out hw284_1), (zo HB.out hw284_2), (zo HB.out hw284_3), (zo HB.out hw284_4), (zo HB.out hw285_0), (zo HB.out hw285_1), (zo HB.out hw285_2), (zo HB.out hw285_3), (zo HB.out hw285_4)⟩ (fun hHeld => ?_)
          clear hK K
          refine zn (some 14) rfl ?_
          refine zk 5 (some 15) #[z7u, z7u, z7u, z7u, z7u, z7u, z7v, z7v, z7v, z7v, z7v, z7v, z7v, z7v, z7v, z7v, z7v, z7v, z7v, z7v, z7v, z7v, z7v, z7v] rfl rfl ?_
          refine zk 6 (some 16) #[z7u, z7u, z7u, z7u, z7u, z7u, z7u, z7v, z7v, z7v, z7v, z7v, z7v, z7v, z7v, z7v, z7v, z7v, z7v, z7v, z7v, z7v, z7v, z7v] rfl rfl ?_
          refine zk 7 (some 17) #[z7u, z7u, z7u, z7u, z7u, z7u, z7u, z7u, z7v, z7v, z7v, z7v, z7v, z7v, z7v, z7v, z7v, z7v, z7v, z7v, z7v, z7v, z7v, z7v] rfl rfl ?_
          refine zk 8 (some 18) #[z7u, z7u, z7u, z7u, z7u, z7u, z7u, z7u, z7u, z7v, z7v, z7v, z7v, z7v, z7v, z7v, z7v, z7v, z7v, z7v, z7v, z7v, z7v, z7v] rfl rfl ?_
          refine zk 9 (some 19) #[z7u, z7u, z7u, z7u, z7u, z7u, z7u, z7u, z7u, z7u, z7v, z7v, z7v, z7v, z7v, z7v, z7v, z7v, z7v, z7v, z7v, z7v, z7v, z7v] rfl rfl ?_
          refine zk 10 (some 20) #[z7u, z7u, z7u, z7u, z7u, z7u, z7u, z7u, z7u, z7u, z7u, z7v, z7v, z7v, z7v, z7v, z7v, z7v, z7v, z7v, z7v, z7v, z7v, z7v] rfl rfl ?_
          refine zk 11 (some 21) #[z7u, z7u, z7u, z7u, z7u, z7u, z7u, z7u, z7u, z7u, z7u, z7u, z7v, z7v, z7v, z7v, z7v, z7v, z7v, z7v, z7v, z7v, z7v, z7v] rfl rfl ?_
          refine zk 12 (some 22) #[z7u, z7u, z7u, z7u, z7u, z7u, z7u, z7u, z7u, z7u, z7u, z7u, z7u, z7v, z7v, z7v, z7v, z7v, z7v, z7v, z7v, z7v, z7v, z7v] rfl rfl ?_
          refine zk 13 (some 23) #[z7u, z7u, z7u, z7u, z7u, z7u, z7u, z7u, z7u, z7u, z7u, z7u, z7u, z7u, z7v, z7v, z7v, z7v, z7v, z7v, z7v, z7v, z7v, z7v] rfl rfl ?_
          refine zk 14 (some 24) #[z7u, z7u, z7u, z7u, z7u, z7u, z7u, z7u, z7u, z7u, z7u, z7u, z7u, z7u, z7u, z7v, z7v, z7v, z7v, z7v, z7v, z7v, z7v, z7v] rfl rfl ?_
          refine zk 16 (some 26) #[z7u, z7u, z7u, z7u, z7u, z7u, z7u, z7u, z7u, z7u, z7u, z7u, z7u, z7u, z7u, z7v, z7u, z7v, z7v, z7v, z7v, z7v, z7v, z7v] rfl rfl ?_
          refine zk 17 (some 27) #[z7u, z7u, z7u, z7u, z7u, z7u, z7u, z7u, z7u, z7u, z7u, z7u, z7u, z7u, z7u, z7v, z7u, z7u, z7v, z7v, z7v, z7v, z7v, z7v] rfl rfl ?_
          refine zk 18 (some 28) #[z7u, z7u, z7u, z7u, z7u, z7u, z7u, z7u, z7u, z7u, z7u, z7u, z7u, z7u, z7u, z7v, z7u, z7u, z7u, z7v, z7v, z7v, z7v, z7v] rfl rfl ?_
          refine zk 19 (some 29) #[z7u, z7u, z7u, z7u, z7u, z7u, z7u, z7u, z7u, z7u, z7u, z7u, z7u, z7u, z7u, z7v, z7u, z7u, z7u, z7u, z7v, z7v, z7v, z7v] rfl rfl ?_
          refine zm 15 (some 25) #[z7u, z7u, z7u, z7u, z7u, z7u, z7u, z7u, z7u, z7u, z7u, z7u, z7u, z7u, z7u, z7u, z7u, z7u, z7u, z7u, z7v, z7v, z7v, z7v] rfl rfl (Or.inl ⟨zr, z2m⟩) hHeld ?_
          refine zm 20 (some 30) #[z7u, z7u, z7u, z7u, z7u, z7u, z7u, z7u, z7u, z7u, z7u, z7u, z7u, z7u, z7u, z7u, z7u, z7u, z7u, z7u, z7u, z7v, z7v, z7v] rfl rfl (Or.inl ⟨zr, z2m⟩) hHeld ?_
          refine zk 21 (some 31) #[z7u, z7u, z7u, z7u, z7u, z7u, z7u, z7u, z7u, z7u, z7u, z7u, z7u, z7u, z7u, z7u, z7u, z7u, z7u, z7u, z7u, z7u, z7v, z7v] rfl rfl ?_
          refine zk 22 (some 32) #[z7u, z7u, z7u, z7u, z7u, z7u, z7u, z7u, z7u, z7u, z7u, z7u, z7u, z7u, z7u, z7u, z7u, z7u, z7u, z7u, z7u, z7u, z7u, z7v] rfl rfl ?_
          refine zk 23 (some 33) #[z7u, z7u, z7u, z7u, z7u, z7u, z7u, z7u, z7u, z7u, z7u, z7u, z7u, z7u, z7u, z7u, z7u, z7u, z7u, z7u, z7u, z7u, z7u, z7u] rfl rfl ?_
          refine done_ (done_of HT_.out zq) ?_
          try go_wp2
          go_ret
          exact ⟨by first | rfl | (simp [errW_none, errW_some] <;> rfl) | (simp only [← hji7]; first | rfl | (simp [errW_none, errW_some] <;> rfl)) | (simp [*, errW_none, errW_some] <;> rfl), zz⟩
        ·rw [if_neg c9] at H
         exact absurd H (by simp)
       ·rw [if_neg c8] at H
        exact absurd H (by simp)
      ·rw [if_neg c6] at H
       have c6b0 := decide_eq_false c6
       clear c6
       have H' := zi H
       clear H
       try go_wp2
       have n0_ := zi (below_drew1 HB.out)
       clear HB
       have HB := n0_
       clear n0_
       have p282 : 0 ≤ (x3_1 : Int) := of_decide_eq_true zw
       have q282 : x3_1 < (l0.length : Int) := of_decide_eq_true zw
       obtain ⟨ad282, e282, hx282_0, hx282_1, hx282_2, hx282_3, hx282_4⟩ := at_T35 HR0.out x3_1 p282 q282
       have hw282_4 := hx282_4
       have hw282_3 := hx282_3
       have hw282_2 := hx282_2
       have hw282_1 := hx282_1
       have hw282_0 := hx282_0
       cases e282
       replace hx282_0 := zo HB.out hx282_0
       replace hx282_1 := zo HB.out hx282_1
       replace hx282_2 := zo HB.out hx282_2
       replace hx282_3 := zo HB.out hx282_3
       replace hx282_4 := zo HB.out hx282_4
       replace p282 := eq_true p282
       replace q282 := eq_true q282
       refine start_ (n := 24) (S := fun w' => w'.cell? (ad282.add ((x3_1).toNat * 5)) = some (.string ((rd_T35 l0 x3_1).f0)) ∧ w'.cell? ⟨(ad282.add ((x3_1).toNat * 5)).block, (ad282.add ((x3_1).toNat * 5)).off + 1, none⟩ = some (.int .i64 ((rd_T35 l0 x3_1).f1.f0)) ∧ w'.cell? ⟨(ad282.add ((x3_1).toNat * 5)).block, (ad282.add ((x3_1).toNat * 5)).off + 2, none⟩ = some (.int .i64 ((rd_T35 l0 x3_1).f1.f1)) ∧ w'.cell? ⟨(ad282.add ((x3_1).toNat * 5)).block, (ad282.add ((x3_1).toNat * 5)).off + 3, none⟩ = some (.int .i64 ((rd_T35 l0 x3_1).f1.f2)) ∧ w'.cell? ⟨(ad282.add ((x3_1).toNat * 5)).block, (ad282.add ((x3_1).toNat * 5)).off + 4, none⟩ = some (.string ((rd_T35 l0 x3_1).f1.f3))) (ds := []) #[z7v, z7v, z7v, z7v, z7v, z7v, z7v, z7v, z7v, z7v, z7v, z7v, z7v, z7v, z7v, z7v, z7v, z7v, z7v, z7v, z7v, z7v, z7v, z7v] zq rfl rfl ⟨(zo HB.out hw282_0), (zo HB.out hw282_1), (zo HB.out hw282_2), (zo HB.out hw282_3), (zo HB.out hw282_4)⟩ (fun hHeld => ?_); refine with_tabW spec_l5Rising.tab4 spec_l5Rising.bits4 (fun HT_ HW_ => ?_)
       generalize wr.drew = w15 at HB hx282_0 hx282_1 hx282_2 hx282_3 hx282_4 hHeld ⊢
       refine zk 0 (some 10) #[z7u, z7v, z7v, z7v, z7v, z7v, z7v, z7v, z7v, z7v, z7v, z7v, z7v, z7v, z7v, z7v, z7v, z7v, z7v, z7v, z7v, z7v, z7v, z7v] rfl rfl ?_
       refine zk 1 (some 11) #[z7u, z7u, z7v, z7v, z7v, z7v, z7v, z7v, z7v, z7v, z7v, z7v, z7v, z7v, z7v, z7v, z7v, z7v, z7v, z7v, z7v, z7v, z7v, z7v] rfl rfl ?_
       refine zk 2 (some 12) #[z7u, z7u, z7u, z7v, z7v, z7v, z7v, z7v, z7v, z7v, z7v, z7v, z7v, z7v, z7v, z7v, z7v, z7v, z7v, z7v, z7v, z7v, z7v, z7v] rfl rfl ?_
       refine zm 3 (some 13) #[z7u, z7u, z7u, z7u, z7v, z7v, z7v, z7v, z7v, z7v, z7v, z7v, z7v, z7v, z7v, z7v, z7v, z7v, z7v, z7v, z7v, z7v, z7v, z7v] rfl rfl (Or.inl ⟨zr, z1o⟩) hHeld ?_
       refine one_ (i := 4) (N := some 14) #[z7u, z7u, z7u, z7u, z7u, z7v, z7v, z7v, z7v, z7v, z7v, z7v, z7v, z7v, z7v, z7v, z7v, z7v, z7v, z7v, z7v, z7v, z7v, z7v] rfl rfl (one_of HT_.out zq) zt (fun K hK => ?_)
       refine goes_ Tryz.func69 zq rfl #[.agg #[.string ((rd_T35 l0 x3_1).f0), .int .i64 ((rd_T35 l0 x3_1).f1.f0), .int .i64 ((rd_T35 l0 x3_1).f1.f1), .int .i64 ((rd_T35 l0 x3_1).f1.f2), .string ((rd_T35 l0 x3_1).f1.f3)]] zr rfl rfl zy ?_
       with_reducible refine (spec_NeedOk.calls k1 ((rd_T35 l0 x3_1).f0) ((rd_T35 l0 x3_1).f1.f0) ((rd_T35 l0 x3_1).f1.f1) ((rd_T35 l0 x3_1).f1.f2) ((rd_T35 l0 x3_1).f1.f3) true _ A4.out).mono ?_
       rintro e w16 ⟨rfl, hb⟩
       refine ⟨_, rfl, ?_⟩
       have n0_ := zi (below_step zz hb)
       clear HB
       have HB := n0_
       clear n0_
       (try clear hb)
       (try clear hb2)
       (try clear hk)
       (try clear hi)
       refine hK.out _ _ ⟨(zo HB.out hw282_0), (zo HB.out hw282_1), (zo HB.out hw282_2), (zo HB.out hw282_3), (zo HB.out hw282_4)⟩ (fun hHeld => ?_)
       clear hK K
       refine zn (some 14) rfl ?_
       refine zk 5 (some 15) #[z7u, z7u, z7u, z7u, z7u, z7u, z7v, z7v, z7v, z7v, z7v, z7v, z7v, z7v, z7v, z7v, z7v, z7v, z7v, z7v, z7v, z7v, z7v, z7v] rfl rfl ?_
       refine zk 6 (some 16) #[z7u, z7u, z7u, z7u, z7u, z7u, z7u, z7v, z7v, z7v, z7v, z7v, z7v, z7v, z7v, z7v, z7v, z7v, z7v, z7v, z7v, z7v, z7v, z7v] rfl rfl ?_
       refine zk 7 (some 17) #[z7u, z7u, z7u, z7u, z7u, z7u, z7u, z7u, z7v, z7v, z7v, z7v, z7v, z7v, z7v, z7v, z7v, z7v, z7v, z7v, z7v, z7v, z7v, z7v] rfl rfl ?_
       refine zk 8 (some 18) #[z7u, z7u, z7u, z7u, z7u, z7u, z7u, z7u, z7u, z7v, z7v, z7v, z7v, z7v, z7v, z7v, z7v, z7v, z7v, z7v, z7v, z7v, z7v, z7v] rfl rfl ?_
       refine zk 9 (some 19) #[z7u, z7u, z7u, z7u, z7u, z7u, z7u, z7u, z7u, z7u, z7v, z7v, z7v, z7v, z7v, z7v, z7v, z7v, z7v, z7v, z7v, z7v, z7v, z7v] rfl rfl ?_
       refine pure_ (i := 10) (N := some 20) (v := undef) (a' := ?_) #[z7u, z7u, z7u, z7u, z7u, z7u, z7u, z7u, z7u, z7u, z7u, z7v, z7v, z7v, z7v, z7v, z7v, z7v, z7v, z7v, z7v, z7v, z7v, z7v] rfl rfl (any_of HT_.out zq) (fun _ _ _ h => h) (Or.inr ⟨zr, rfl⟩) ?_ ?_
       rotate_left
       ·simp only [Act.put, z7w, z7x, z7y, i64_w, i32_w]
        rfl
       refine pure_ (i := 11) (N := some 21) (v := undef) (a' := ?_) #[z7u, z7u, z7u, z7u, z7u, z7u, z7u, z7u, z7u, z7u, z7u, z7u, z7v, z7v, z7v, z7v, z7v, z7v, z7v, z7v, z7v, z7v, z7v, z7v] rfl rfl (any_of HT_.out zq) (fun _ _ _ h => h) (Or.inr ⟨zr, rfl⟩) ?_ ?_
       rotate_left
       ·simp only [Act.put, z7w, z7x, z7y, i64_w, i32_w]
        rfl
       refine pure_ (i := 12) (N := some 22) (v := undef) (a' := ?_) #[z7u, z7u, z7u, z7u, z7u, z7u, z7u, z7u, z7u, z7u, z7u, z7u, z7u, z7v, z7v, z7v, z7v, z7v, z7v, z7v, z7v, z7v, z7v, z7v] rfl rfl (any_of HT_.out zq) (fun _ _ _ h => h) (Or.inr ⟨zr, rfl⟩) ?_ ?_
       rotate_left
       ·simp only [Act.put, z7w, z7x, z7y, i64_w, i32_w]
        rfl
       refine pure_ (i := 13) (N := some 23) (v := undef) (a' := ?_) #[z7u, z7u, z7u, z7u, z7u, z7u, z7u, z7u, z7u, z7u, z7u, z7u, z7u, z7u, z7v, z7v, z7v, z7v, z7v, z7v, z7v, z7v, z7v, z7v] rfl rfl (any_of HT_.out zq) (fun _ _ _ h => h) (Or.inr ⟨zr, rfl⟩) ?_ ?_
       rotate_left
       ·simp only [Act.put, z7w, z7x, z7y, i64_w, i32_w]
        rfl
       refine pure_ (i := 14) (N := some 24) (v := undef) (a' := ?_) #[z7u, z7u, z7u, z7u, z7u, z7u, z7u, z7u, z7u, z7u, z7u, z7u, z7u, z7u, z7u, z7v, z7v, z7v, z7v, z7v, z7v, z7v, z7v, z7v] rfl rfl (any_of HT_.out zq) (fun _ _ _ h => h) (Or.inr ⟨zr, rfl⟩) ?_ ?_
       rotate_left
       ·simp only [Act.put, z7w, z7x, z7y, i64_w, i32_w]
        rfl
       refine pure_ (i := 15) (N := some 25) (v := undef) (a' := ?_) #[z7u, z7u, z7u, z7u, z7u, z7u, z7u, z7u, z7u, z7u, z7u, z7u, z7u, z7u, z7u, z7u, z7v, z7v, z7v, z7v, z7v, z7v, z7v, z7v] rfl rfl (any_of HT_.out zq) (fun _ _ _ h => h) (Or.inr ⟨zr, rfl⟩) ?_ ?_
       rotate_left
       ·simp only [Act.put, z7w, z7x, z7y, i64_w, i32_w]
        rfl
       refine pure_ (i := 16) (N := some 26) (v := undef) (a' := ?_) #[z7u, z7u, z7u, z7u, z7u, z7u, z7u, z7u, z7u, z7u, z7u, z7u, z7u, z7u, z7u, z7u, z7u, z7v, z7v, z7v, z7v, z7v, z7v, z7v] rfl rfl (any_of HT_.out zq) (fun _ _ _ h => h) (Or.inr ⟨zr, rfl⟩) ?_ ?_
       rotate_left
       ·simp only [Act.put, z7w, z7x, z7y, i64_w, i32_w]
        rfl
       refine pure_ (i := 17) (N := some 27) (v := undef) (a' := ?_) #[z7u, z7u, z7u, z7u, z7u, z7u, z7u, z7u, z7u, z7u, z7u, z7u, z7u, z7u, z7u, z7u, z7u, z7u, z7v, z7v, z7v, z7v, z7v, z7v] rfl rfl (any_of HT_.out zq) (fun _ _ _ h => h) (Or.inr ⟨zr, rfl⟩) ?_ ?_
       rotate_left
       ·simp only [Act.put, z7w, z7x, z7y, i64_w, i32_w]
        rfl
       refine pure_ (i := 18) (N := some 28) (v := undef) (a' := ?_) #[z7u, z7u, z7u, z7u, z7u, z7u, z7u, z7u, z7u, z7u, z7u, z7u, z7u, z7u, z7u, z7u, z7u, z7u, z7u, z7v, z7v, z7v, z7v, z7v] rfl rfl (any_of HT_.out zq) (fun _ _ _ h => h) (Or.inr ⟨zr, rfl⟩) ?_ ?_
       rotate_left
       ·simp only [Act.put, z7w, z7x, z7y, i64_w, i32_w]
        rfl
       refine pure_ (i := 19) (N := some 29) (v := undef) (a' := ?_) #[z7u, z7u, z7u, z7u, z7u, z7u, z7u, z7u, z7u, z7u, z7u, z7u, z7u, z7u, z7u, z7u, z7u, z7u, z7u, z7u, z7v, z7v, z7v, z7v] rfl rfl (any_of HT_.out zq) (fun _ _ _ h => h) (Or.inr ⟨zr, rfl⟩) ?_ ?_
       rotate_left
       ·simp only [Act.put, z7w, z7x, z7y, i64_w, i32_w]
        rfl
       refine pure_ (i := 20) (N := some 30) (v := undef) (a' := ?_) #[z7u, z7u, z7u, z7u, z7u, z7u, z7u, z7u, z7u, z7u, z7u, z7u, z7u, z7u, z7u, z7u, z7u, z7u, z7u, z7u, z7u, z7v, z7v, z7v] rfl rfl (any_of HT_.out zq) (fun _ _ _ h => h) (Or.inr ⟨zr, rfl⟩) ?_ ?_
       rotate_left
       ·simp only [Act.put, z7w, z7x, z7y, i64_w, i32_w]
        rfl
       refine pure_ (i := 21) (N := some 31) (v := undef) (a' := ?_) #[z7u, z7u, z7u, z7u, z7u, z7u, z7u, z7u, z7u, z7u, z7u, z7u, z7u, z7u, z7u, z7u, z7u, z7u, z7u, z7u, z7u, z7u, z7v, z7v] rfl rfl (any_of HT_.out zq) (fun _ _ _ h => h) (Or.inr ⟨zr, rfl⟩) ?_ ?_
       rotate_left
       ·simp only [Act.put, z7w, z7x, z7y, i64_w, i32_w]
        rfl
       refine zk 22 (some 32) #[z7u, z7u, z7u, z7u, z7u, z7u, z7u, z7u, z7u, z7u, z7u, z7u, z7u, z7u, z7u, z7u, z7u, z7u, z7u, z7u, z7u, z7u, z7u, z7v] rfl rfl ?_
       refine zk 23 (some 33) #[z7u, z7u, z7u, z7u, z7u, z7u, z7u, z7u, z7u, z7u, z7u, z7u, z7u, z7u, z7u, z7u, z7u, z7u, z7u, z7u, z7u, z7u, z7u, z7u] rfl rfl ?_
       refine done_ (done_of HT_.out zq) ?_
       try go_wp2
       go_roundg k1
       case measure => have := HK1.out; omega
       case rel => exact ⟨(wrap64 (x3_1 + 1)), zu, H', ⟨zx⟩, ⟨zz⟩⟩
     ·replace c5 := Bool.eq_false_iff.mpr c5
      subst c5
      rw [if_neg zh] at H
      obtain rfl := Option.some.inj H
      try go_wp2
      have n0_ := zi (below_drew1 HB.out)
      clear HB
      have HB := n0_
      clear n0_
      have p282 : 0 ≤ (x3_1 : Int) := of_decide_eq_true zw
      have q282 : x3_1 < (l0.length : Int) := of_decide_eq_true zw
      obtain ⟨ad282, e282, hx282_0, hx282_1, hx282_2, hx282_3, hx282_4⟩ := at_T35 HR0.out x3_1 p282 q282
      have hw282_4 := hx282_4
      have hw282_3 := hx282_3
      have hw282_2 := hx282_2
      have hw282_1 := hx282_1
      have hw282_0 := hx282_0
      cases e282
      replace hx282_0 := zo HB.out hx282_0
      replace hx282_1 := zo HB.out hx282_1
      replace hx282_2 := zo HB.out hx282_2
      replace hx282_3 := zo HB.out hx282_3
      replace hx282_4 := zo HB.out hx282_4
      replace p282 := eq_true p282
      replace q282 := eq_true q282
      refine start_ (n := 24) (S := fun w' => w'.cell? (ad282.add ((x3_1).toNat * 5)) = some (.string ((rd_T35 l0 x3_1).f0)) ∧ w'.cell? ⟨(ad282.add ((x3_1).toNat * 5)).block, (ad282.add ((x3_1).toNat * 5)).off + 1, none⟩ = some (.int .i64 ((rd_T35 l0 x3_1).f1.f0)) ∧ w'.cell? ⟨(ad282.add ((x3_1).toNat * 5)).block, (ad282.add ((x3_1).toNat * 5)).off + 2, none⟩ = some (.int .i64 ((rd_T35 l0 x3_1).f1.f1)) ∧ w'.cell? ⟨(ad282.add ((x3_1).toNat * 5)).block, (ad282.add ((x3_1).toNat * 5)).off + 3, none⟩ = some (.int .i64 ((rd_T35 l0 x3_1).f1.f2)) ∧ w'.cell? ⟨(ad282.add ((x3_1).toNat * 5)).block, (ad282.add ((x3_1).toNat * 5)).off + 4, none⟩ = some (.string ((rd_T35 l0 x3_1).f1.f3))) (ds := []) #[z7v, z7v, z7v, z7v, z7v, z7v, z7v, z7v, z7v, z7v, z7v, z7v, z7v, z7v, z7v, z7v, z7v, z7v, z7v, z7v, z7v, z7v, z7v, z7v] zq rfl rfl ⟨(zo HB.out hw282_0), (zo HB.out hw282_1), (zo HB.out hw282_2), (zo HB.out hw282_3), (zo HB.out hw282_4)⟩ (fun hHeld => ?_); refine with_tabW spec_l5Rising.tab4 spec_l5Rising.bits4 (fun HT_ HW_ => ?_)
      generalize wr.drew = w17 at HB hx282_0 hx282_1 hx282_2 hx282_3 hx282_4 hHeld ⊢
      refine zk 0 (some 10) #[z7u, z7v, z7v, z7v, z7v, z7v, z7v, z7v, z7v, z7v, z7v, z7v, z7v, z7v, z7v, z7v, z7v, z7v, z7v, z7v, z7v, z7v, z7v, z7v] rfl rfl ?_
      refine zk 1 (some 11) #[z7u, z7u, z7v, z7v, z7v, z7v, z7v, z7v, z7v, z7v, z7v, z7v, z7v, z7v, z7v, z7v, z7v, z7v, z7v, z7v, z7v, z7v, z7v, z7v] rfl rfl ?_
      refine zk 2 (some 12) #[z7u, z7u, z7u, z7v, z7v, z7v, z7v, z7v, z7v, z7v, z7v, z7v, z7v, z7v, z7v, z7v, z7v, z7v, z7v, z7v, z7v, z7v, z7v, z7v] rfl rfl ?_
      refine zm 3 (some 13) #[z7u, z7u, z7u, z7u, z7v, z7v, z7v, z7v, z7v, z7v, z7v, z7v, z7v, z7v, z7v, z7v, z7v, z7v, z7v, z7v, z7v, z7v, z7v, z7v] rfl rfl (Or.inl ⟨zr, z1o⟩) hHeld ?_
      refine one_ (i := 4) (N := some 14) #[z7u, z7u, z7u, z7u, z7u, z7v, z7v, z7v, z7v, z7v, z7v, z7v, z7v, z7v, z7v, z7v, z7v, z7v, z7v, z7v, z7v, z7v, z7v, z7v] rfl rfl (one_of HT_.out zq) zt (fun K hK => ?_)
      refine goes_ Tryz.func69 zq rfl #[.agg #[.string ((rd_T35 l0 x3_1).f0), .int .i64 ((rd_T35 l0 x3_1).f1.f0), .int .i64 ((rd_T35 l0 x3_1).f1.f1), .int .i64 ((rd_T35 l0 x3_1).f1.f2), .string ((rd_T35 l0 x3_1).f1.f3)]] zr rfl rfl zy ?_
      with_reducible refine (spec_NeedOk.calls k1 ((rd_T35 l0 x3_1).f0) ((rd_T35 l0 x3_1).f1.f0) ((rd_T35 l0 x3_1).f1.f1) ((rd_T35 l0 x3_1).f1.f2) ((rd_T35 l0 x3_1).f1.f3) false _ A4.out).mono ?_
      rintro e w18 ⟨rfl, hb⟩
      refine ⟨_, rfl, ?_⟩
      have n0_ := zi (below_step zz hb)
      clear HB
      have HB := n0_
      clear n0_
      (try clear hb)
      (try clear hb2)
      (try clear hk)
      (try clear hi)
      refine hK.out _ _ ⟨(zo HB.out hw282_0), (zo HB.out hw282_1), (zo HB.out hw282_2), (zo HB.out hw282_3), (zo HB.out hw282_4)⟩ (fun hHeld => ?_)
      clear hK K
      refine zn (some 14) rfl ?_
      refine zk 5 (some 15) #[z7u, z7u, z7u, z7u, z7u, z7u, z7v, z7v, z7v, z7v, z7v, z7v, z7v, z7v, z7v, z7v, z7v, z7v, z7v, z7v, z7v, z7v, z7v, z7v] rfl rfl ?_
      refine zk 6 (some 16) #[z7u, z7u, z7u, z7u, z7u, z7u, z7u, z7v, z7v, z7v, z7v, z7v, z7v, z7v, z7v, z7v, z7v, z7v, z7v, z7v, z7v, z7v, z7v, z7v] rfl rfl ?_
      refine pure_ (i := 7) (N := some 17) (v := undef) (a' := ?_) #[z7u, z7u, z7u, z7u, z7u, z7u, z7u, z7u, z7v, z7v, z7v, z7v, z7v, z7v, z7v, z7v, z7v, z7v, z7v, z7v, z7v, z7v, z7v, z7v] rfl rfl (any_of HT_.out zq) (fun _ _ _ h => h) (Or.inr ⟨zr, rfl⟩) ?_ ?_
      rotate_left
      ·simp only [Act.put, z7w, z7x, z7y, i64_w, i32_w]
       rfl
      refine pure_ (i := 8) (N := some 18) (v := undef) (a' := ?_) #[z7u, z7u, z7u, z7u, z7u, z7u, z7u, z7u, z7u, z7v, z7v, z7v, z7v, z7v, z7v, z7v, z7v, z7v, z7v, z7v, z7v, z7v, z7v, z7v] rfl rfl (any_of HT_.out zq) (fun _ _ _ h => h) (Or.inr ⟨zr, rfl⟩) ?_ ?_
      rotate_left
      ·simp only [Act.put, z7w, z7x, z7y, i64_w, i32_w]
       rfl
      refine pure_ (i := 9) (N := some 19) (v := undef) (a' := ?_) #[z7u, z7u, z7u, z7u, z7u, z7u, z7u, z7u, z7u, z7u, z7v, z7v, z7v, z7v, z7v, z7v, z7v, z7v, z7v, z7v, z7v, z7v, z7v, z7v] rfl rfl (any_of HT_.out zq) (fun _ _ _ h => h) (Or.inr ⟨zr, rfl⟩) ?_ ?_
      rotate_left
      ·simp only [Act.put, z7w, z7x, z7y, i64_w, i32_w]
       rfl
      refine pure_ (i := 10) (N := some 20) (v := undef) (a' := ?_) #[z7u, z7u, z7u, z7u, z7u, z7u, z7u, z7u, z7u, z7u, z7u, z7v, z7v, z7v, z7v, z7v, z7v, z7v, z7v, z7v, z7v, z7v, z7v, z7v] rfl rfl (any_of HT_.out zq) (fun _ _ _ h => h) (Or.inr ⟨zr, rfl⟩) ?_ ?_
      rotate_left
      ·simp only [Act.put, z7w, z7x, z7y, i64_w, i32_w]
       rfl
      refine pure_ (i := 11) (N := some 21) (v := undef) (a' := ?_) #[z7u, z7u, z7u, z7u, z7u, z7u, z7u, z7u, z7u, z7u, z7u, z7u, z7v, z7v, z7v, z7v, z7v, z7v, z7v, z7v, z7v, z7v, z7v, z7v] rfl rfl (any_of HT_.out zq) (fun _ _ _ h => h) (Or.inr ⟨zr, rfl⟩) ?_ ?_
      rotate_left
      ·simp only [Act.put, z7w, z7x, z7y, i64_w, i32_w]
       rfl
      refine pure_ (i := 12) (N := some 22) (v := undef) (a' := ?_) #[z7u, z7u, z7u, z7u, z7u, z7u, z7u, z7u, z7u, z7u, z7u, z7u, z7u, z7v, z7v, z7v, z7v, z7v, z7v, z7v, z7v, z7v, z7v, z7v] rfl rfl (any_of HT_.out zq) (fun _ _ _ h => h) (Or.inr ⟨zr, rfl⟩) ?_ ?_
      rotate_left
      ·simp only [Act.put, z7w, z7x, z7y, i64_w, i32_w]
       rfl
      refine pure_ (i := 13) (N := some 23) (v := undef) (a' := ?_) #[z7u, z7u, z7u, z7u, z7u, z7u, z7u, z7u, z7u, z7u, z7u, z7u, z7u, z7u, z7v, z7v, z7v, z7v, z7v, z7v, z7v, z7v, z7v, z7v] rfl rfl (any_of HT_.out zq) (fun _ _ _ h => h) (Or.inr ⟨zr, rfl⟩) ?_ ?_
      rotate_left
      ·simp only [Act.put, z7w, z7x, z7y, i64_w, i32_w]
       rfl
      refine pure_ (i := 14) (N := some 24) (v := undef) (a' := ?_) #[z7u, z7u, z7u, z7u, z7u, z7u, z7u, z7u, z7u, z7u, z7u, z7u, z7u, z7u, z7u, z7v, z7v, z7v, z7v, z7v, z7v, z7v, z7v, z7v] rfl rfl (any_of HT_.out zq) (fun _ _ _ h => h) (Or.inr ⟨zr, rfl⟩) ?_ ?_
      rotate_left
      ·simp only [Act.put, z7w, z7x, z7y, i64_w, i32_w]
       rfl
      refine pure_ (i := 15) (N := some 25) (v := undef) (a' := ?_) #[z7u, z7u, z7u, z7u, z7u, z7u, z7u, z7u, z7u, z7u, z7u, z7u, z7u, z7u, z7u, z7u, z7v, z7v, z7v, z7v, z7v, z7v, z7v, z7v] rfl rfl (any_of HT_.out zq) (fun _ _ _ h => h) (Or.inr ⟨zr, rfl⟩) ?_ ?_
      rotate_left
      ·simp only [Act.put, z7w, z7x, z7y, i64_w, i32_w]
       rfl
      refine pure_ (i := 16) (N := some 26) (v := undef) (a' := ?_) #[z7u, z7u, z7u, z7u, z7u, z7u, z7u, z7u, z7u, z7u, z7u, z7u, z7u, z7u, z7u, z7u, z7u, z7v, z7v, z7v, z7v, z7v, z7v, z7v] rfl rfl (any_of HT_.out zq) (fun _ _ _ h => h) (Or.inr ⟨zr, rfl⟩) ?_ ?_
      rotate_left
      ·simp only [Act.put, z7w, z7x, z7y, i64_w, i32_w]
       rfl
      refine pure_ (i := 17) (N := some 27) (v := undef) (a' := ?_) #[z7u, z7u, z7u, z7u, z7u, z7u, z7u, z7u, z7u, z7u, z7u, z7u, z7u, z7u, z7u, z7u, z7u, z7u, z7v, z7v, z7v, z7v, z7v, z7v] rfl rfl (any_of HT_.out zq) (fun _ _ _ h => h) (Or.inr ⟨zr, rfl⟩) ?_ ?_
      rotate_left
      ·simp only [Act.put, z7w, z7x, z7y, i64_w, i32_w]
       rfl
      refine pure_ (i := 18) (N := some 28) (v := undef) (a' := ?_) #[z7u, z7u, z7u, z7u, z7u, z7u, z7u, z7u, z7u, z7u, z7u, z7u, z7u, z7u, z7u, z7u, z7u, z7u, z7u, z7v, z7v, z7v, z7v, z7v] rfl rfl (any_of HT_.out zq) (fun _ _ _ h => h) (Or.inr ⟨zr, rfl⟩) ?_ ?_
      rotate_left
      ·simp only [Act.put, z7w, z7x, z7y, i64_w, i32_w]
       rfl
      refine pure_ (i := 19) (N := some 29) (v := undef) (a' := ?_) #[z7u, z7u, z7u, z7u, z7u, z7u, z7u, z7u, z7u, z7u, z7u, z7u, z7u, z7u, z7u, z7u, z7u, z7u, z7u, z7u, z7v, z7v, z7v, z7v] rfl rfl (any_of HT_.out zq) (fun _ _ _ h => h) (Or.inr ⟨zr, rfl⟩) ?_ ?_
      rotate_left
      ·simp only [Act.put, z7w, z7x, z7y, i64_w, i32_w]
       rfl
      refine pure_ (i := 20) (N := some 30) (v := undef) (a' := ?_) #[z7u, z7u, z7u, z7u, z7u, z7u, z7u, z7u, z7u, z7u, z7u, z7u, z7u, z7u, z7u, z7u, z7u, z7u, z7u, z7u, z7u, z7v, z7v, z7v] rfl rfl (any_of HT_.out zq) (fun _ _ _ h => h) (Or.inr ⟨zr, rfl⟩) ?_ ?_
      rotate_left
      ·simp only [Act.put, z7w, z7x, z7y, i64_w, i32_w]
       rfl
      refine pure_ (i := 21) (N := some 31) (v := undef) (a' := ?_) #[z7u, z7u, z7u, z7u, z7u, z7u, z7u, z7u, z7u, z7u, z7u, z7u, z7u, z7u, z7u, z7u, z7u, z7u, z7u, z7u, z7u, z7u, z7v, z7v] rfl rfl (any_of HT_.out zq) (fun _ _ _ h => h) (Or.inr ⟨zr, rfl⟩) ?_ ?_
      rotate_left
      ·simp only [Act.put, z7w, z7x, z7y, i64_w, i32_w]
       rfl
      refine pure_ (i := 22) (N := some 32) (v := undef) (a' := ?_) #[z7u, z7u, z7u, z7u, z7u, z7u, z7u, z7u, z7u, z7u, z7u, z7u, z7u, z7u, z7u, z7u, z7u, z7u, z7u, z7u, z7u, z7u, z7u, z7v] rfl rfl (any_of HT_.out zq) (fun _ _ _ h => h) (Or.inr ⟨zr, rfl⟩) ?_ ?_
      rotate_left
      ·simp only [Act.put, z7w, z7x, z7y, i64_w, i32_w]
       rfl
      refine zk 23 (some 33) #[z7u, z7u, z7u, z7u, z7u, z7u, z7u, z7u, z7u, z7u, z7u, z7u, z7u, z7u, z7u, z7u, z7u, z7u, z7u, z7u, z7u, z7u, z7u, z7u] rfl rfl ?_
      refine done_ (done_of HT_.out zq) ?_
      try go_wp2
      go_ret
      exact ⟨z1b, zz⟩
    ·rw [if_neg c3] at H
     exact absurd H (by simp)
   ·rw [if_neg c2] at H
    have c2b0 := decide_eq_false c2
    clear c2
    obtain rfl := Option.some.inj H
    go_wp2
    go_ret
    exact ⟨z1b, zz⟩
def spec_EntryOk.l0 : Nat → Int → ByteArray → Int → Int → Int → ByteArray → List (S35) → Option (Bool)
 | 0, _, _, _, _, _, _, _ => none
 | k + 1, x3, x287000, x287001, x287002, x287003, x287004, x287005 => if x3 < (x287005.length : Int) then (if 0 ≤ x3 then (if ((rd_T35 x287005 x3).f0).toList = x287000.toList then (some false) else (spec_EntryOk.l0 k (wrap64 (x3 + 1)) x287000 x287001 x287002 x287003 x287004 x287005)) else (none)) else ((spec_Fits.f k x287000 x287001 x287002 x287003 x287004).bind fun t288 => (if t288 = true then (if (x287005.length : Int) ≤ 8 then ((spec_l5Rising.f k x287005).bind fun t289 => (some t289)) else (some false)) else (some false)))
def spec_EntryOk.f (k : Nat) (a0_0 : ByteArray) (a0_1 : Int) (a0_2 : Int) (a0_3 : Int) (a0_4 : ByteArray) (l0_5 : List (S35)) : Option (Bool) := spec_EntryOk.l0 k 0 a0_0 a0_1 a0_2 a0_3 a0_4 l0_5
set_option maxHeartbeats 8000000 in
set_option maxRecDepth 100000 in
theorem spec_EntryOk.calls (k : Nat) (a0_0 : ByteArray) (a0_1 : Int) (a0_2 : Int) (a0_3 : Int) (a0_4 : ByteArray) (A0_5 : Option Addr) (c0_5 : Nat) (l0_5 : List (S35)) (r : Bool) (w : World) (hr0_5 : Kd.C k35 w A0_5 l0_5.length l0_5) (hc0_5 : l0_5.length ≤ c0_5) (h : spec_EntryOk.f k a0_0 a0_1 a0_2 a0_3 a0_4 l0_5 = some r) :
  Calls Tryz.prog 10 #[.agg #[.string a0_0, .int .i64 a0_1, .int .i64 a0_2, .int .i64 a0_3, .string a0_4, .slice A0_5 l0_5.length c0_5]] w fun e w' => e = .returned (.bool r) ∧ Below w.heap.size w w' := by
 have hu28 := Tryz.underlying28
 have hu25 := Tryz.underlying25
 have HR0_5 := zi hr0_5
 have HC0_5 := zi hc0_5
 clear hr0_5 hc0_5
 have HB := zi (Below.refl w.heap.size w)
 have H := h
 unfold spec_EntryOk.f at H
 clear h
 have H' := zi H
 clear H
 go_enter Tryz.func10, Tryz.ntmps10
 go_wp2_with (first | ((with_reducible refine gate_dst (N := 1) rfl ?_); (try (refine gate_guard zr ?_; dsimp only)); refine box_event zr (N := 1) zr (cs := #[.string a0_0, .int .i64 a0_1, .int .i64 a0_2, .int .i64 a0_3, .string a0_4, .slice A0_5 l0_5.length c0_5]) (t := 28) z1h ?_; intro gb286 hg w2 hbox hb; have n0_ := zi (below_step zz hb); have n1_ := zi hbox; have n2_ := zi ((z6t : w.heap.size ≤ gb286)); have n3_ := zi ((z6t : w.heap.size ≤ gb286)); clear HB; have HB := n0_; have BK286 := n1_; have GW286 := n2_; have GE286 := n3_; clear n0_ n1_ n2_ n3_; clear hb hbox hg))
 repeat (go_quiet (first | ((with_reducible refine gate_dst (N := 1) rfl ?_); (try (refine gate_guard zr ?_; dsimp only)); refine box_event zr (N := 1) zr (cs := #[.string a0_0, .int .i64 a0_1, .int .i64 a0_2, .int .i64 a0_3, .string a0_4, .slice A0_5 l0_5.length c0_5]) (t := 28) z1h ?_; intro gb286 hg w2 hbox hb; have n0_ := zi (below_step zz hb); have n1_ := zi hbox; have n2_ := zi ((z6t : w.heap.size ≤ gb286)); have n3_ := zi ((z6t : w.heap.size ≤ gb286)); clear HB; have HB := n0_; have BK286 := n1_; have GW286 := n2_; have GE286 := n3_; clear n0_ n1_ n2_ n3_; clear hb hbox hg)); try go_wp2_with (first | ((with_reducible refine gate_dst (N := 1) rfl ?_); (try (refine gate_guard zr ?_; dsimp only)); refine box_event zr (N := 1) zr (cs := #[.string a0_0, .int .i64 a0_1, .int .i64 a0_2, .int .i64 a0_3, .string a0_4, .slice A0_5 l0_5.length c0_5]) (t := 28) z1h ?_; intro gb286 hg w2 hbox hb; have n0_ := zi (below_step zz hb); have n1_ := zi hbox; have n2_ := zi ((z6t : w.heap.size ≤ gb286)); have n3_ := zi ((z6t : w.heap.size ≤ gb286)); clear HB; have HB := n0_; have BK286 := n1_; have GW286 := n2_; have GE286 := n3_; clear n0_ n1_ n2_ n3_; clear hb hbox hg)))
 go_loopg [3] k (fun kq v3 w' => ∃ (x3_1 : Int), v3 = .int .i64 x3_1 ∧ Aside0 (spec_EntryOk.l0 kq x3_1 a0_0 a0_1 a0_2 a0_3 a0_4 l0_5 = some r) ∧ Aside0 (kq ≤ k) ∧ Aside0 (w'.heap[gb286]? = some (.cells #[.string a0_0, .int .i64 a0_1, .int .i64 a0_2, .int .i64 a0_3, .string a0_4, (.slice A0_5 l0_5.length c0_5)] 28 (0, 0))) ∧ Aside0 (Below w.heap.size w w'))
 case atStart => exact ⟨(0), zu, H', ⟨Nat.le_refl _⟩, ⟨z2n⟩, ⟨z2o⟩⟩
 case round =>
  clear H'
  try clear c1
  try clear p2
  obtain ⟨x3_1, rfl, HA, HK1, BK286, HB⟩ := hrel
  cases gk with
  | zero => exact absurd HA.out (by simp [spec_EntryOk.l0])
  | succ k1 =>
   have H := HA.out
   clear HA
   simp only [spec_EntryOk.l0] at H
   by_cases c3 : x3_1 < (l0_5.length : Int)
   ·rw [if_pos c3] at H
    have c3b0 := decide_eq_true c3
    clear c3
    by_cases c4 : 0 ≤ x3_1
    ·rw [if_pos c4] at H
     have c4b0 := decide_eq_true c4
     clear c4
     by_cases c5 : ((rd_T35 l0_5 x3_1).f0).toList = a0_0.toList
     ·rw [if_pos c5] at H
      have c5b0 : (((rd_T35 l0_5 x3_1).f0).toList == a0_0.toList) = true := beq_iff_eq.mpr c5
      have c5b1 : (((rd_T35 l0_5 x3_1).f0).toList != a0_0.toList) = false := bne_eq_false_iff_eq.mpr c5
      clear c5
      obtain rfl := Option.some.inj H
      obtain ⟨hcz6_0, hcz6_1, hcz6_2, hcz6_3, hcz6_4, hcz6_5, hfz6_0, hfz6_1, hfz6_2, hfz6_3, hfz6_4, hfz6_5⟩ := zg BK286.out
      have p287 : 0 ≤ (x3_1 : Int) := of_decide_eq_true zw
      have q287 : x3_1 < (l0_5.length : Int) := of_decide_eq_true zw
      obtain ⟨ad287, e287, hx287_0, hx287_1, hx287_2, hx287_3, hx287_4⟩ := at_T35 HR0_5.out x3_1 p287 q287
      cases e287
      replace hx287_0 := zo HB.out hx287_0
      replace hx287_1 := zo HB.out hx287_1
      replace hx287_2 := zo HB.out hx287_2
      replace hx287_3 := zo HB.out hx287_3
      replace hx287_4 := zo HB.out hx287_4
      replace p287 := eq_true p287
      replace q287 := eq_true q287
      go_wp2
      repeat (go_quiet (fail); try go_wp2)
      go_ret
      exact ⟨z1b, z2o⟩
     ·rw [if_neg c5] at H
      have c5b0 : (((rd_T35 l0_5 x3_1).f0).toList == a0_0.toList) = false := beq_eq_false_iff_ne.mpr c5
      have c5b1 : (((rd_T35 l0_5 x3_1).f0).toList != a0_0.toList) = true := bne_iff_ne.mpr c5
      have H' := zi H
      clear H
      obtain ⟨hcz7_0, hcz7_1, hcz7_2, hcz7_3, hcz7_4, hcz7_5, hfz7_0, hfz7_1, hfz7_2, hfz7_3, hfz7_4, hfz7_5⟩ := zg BK286.out
      have p287 : 0 ≤ (x3_1 : Int) := of_decide_eq_true zw
      have q287 : x3_1 < (l0_5.length : Int) := of_decide_eq_true zw
      obtain ⟨ad287, e287, hx287_0, hx287_1, hx287_2, hx287_3, hx287_4⟩ := at_T35 HR0_5.out x3_1 p287 q287
      cases e287
      replace hx287_0 := zo HB.out hx287_0
      replace hx287_1 := zo HB.out hx287_1
      replace hx287_2 := zo HB.out hx287_2
      replace hx287_3 := zo HB.out hx287_3
      replace hx287_4 := zo HB.out hx287_4
      replace p287 := eq_true p287
      replace q287 := eq_true q287
      go_wp2
      repeat (go_quiet (fail); try go_wp2)
      go_roundg k1
      case measure => have := HK1.out; omega
      case rel => exact ⟨(wrap64 (x3_1 + 1)), zu, H', ⟨zx⟩, ⟨z2n⟩, ⟨z2o⟩⟩
    ·rw [if_neg c4] at H
     exact absurd H (by simp)
   ·rw [if_neg c3] at H
    have c3b0 := decide_eq_false c3
    clear c3
    replace H := Option.bind_eq_some_iff.mp H
    obtain ⟨t288, A80, H⟩ := H
    try dsimp only at H
    have A8 := zi A80
    clear A80
    by_cases c9 : t288 = true
    ·subst c9
     rw [if_pos rfl] at H
     by_cases c10 : (l0_5.length : Int) ≤ 8
     ·rw [if_pos c10] at H
      have c10b0 := decide_eq_true c10
      have c10b1 : decide (l0_5.length ≤ 8) = true := decide_eq_true zp
      clear c10
      replace H := Option.bind_eq_some_iff.mp H
      obtain ⟨t289, A110, H⟩ := H
      try dsimp only at H
      have A11 := zi A110
      clear A110
      obtain rfl := Option.some.inj H
      obtain ⟨hcz12_0, hcz12_1, hcz12_2, hcz12_3, hcz12_4, hcz12_5, hfz12_0, hfz12_1, hfz12_2, hfz12_3, hfz12_4, hfz12_5⟩ := zg BK286.out
      go_wp2_with (first | (go_at_call 33; (with_reducible refine (spec_Fits.calls k1 a0_0 a0_1 a0_2 a0_3 a0_4 true _ A8.out).mono ?_); rintro e w13 ⟨rfl, hb⟩; have n0_ := zi (blk_below (g := gb286) (o := .cells #[.string a0_0, .int .i64 a0_1, .int .i64 a0_2, .int .i64 a0_3, .string a0_4, .slice A0_5 l0_5.length c0_5] 28 (0, 0)) z2n hb); have n1_ := zi (below_step z2o hb); clear BK286; clear HB; have BK286 := n0_; have HB := n1_; clear n0_ n1_; (try clear hb); (try clear hb2); (try clear hk); (try clear hi); obtain ⟨hcz14_0, hcz14_1, hcz14_2, hcz14_3, hcz14_4, hcz14_5, hfz14_0, hfz14_1, hfz14_2, hfz14_3, hfz14_4, hfz14_5⟩ := zg BK286.out) | (go_at_call 34; (with_reducible refine (spec_l5Rising.calls k1 _ _ l0_5 t289 _ ?side1 ?side2 A11.out).mono ?_); (case side1 => exact z1r); (case side2 => exact HC0_5.out); rintro e w15 ⟨rfl, hb⟩; have n0_ := zi (blk_below (g := gb286) (o := .cells #[.string a0_0, .int .i64 a0_1, .int .i64 a0_2, .int .i64 a0_3, .string a0_4, .slice A0_5 l0_5.length c0_5] 28 (0, 0)) z2n hb); have n1_ := zi (below_step z2o hb); clear BK286; clear HB; have BK286 := n0_; have HB := n1_; clear n0_ n1_; (try clear hb); (try clear hb2); (try clear hk); (try clear hi)))
      repeat (go_quiet (first | (go_at_call 33; (with_reducible refine (spec_Fits.calls k1 a0_0 a0_1 a0_2 a0_3 a0_4 true _ A8.out).mono ?_); rintro e w13 ⟨rfl, hb⟩; have n0_ := zi (blk_below (g := gb286) (o := .cells #[.string a0_0, .int .i64 a0_1, .int .i64 a0_2, .int .i64 a0_3, .string a0_4, .slice A0_5 l0_5.length c0_5] 28 (0, 0)) z2n hb); have n1_ := zi (below_step z2o hb); clear BK286; clear HB; have BK286 := n0_; have HB := n1_; clear n0_ n1_; (try clear hb); (try clear hb2); (try clear hk); (try clear hi); obtain ⟨hcz14_0, hcz14_1, hcz14_2, hcz14_3, hcz14_4, hcz14_5, hfz14_0, hfz14_1, hfz14_2, hfz14_3, hfz14_4, hfz14_5⟩ := zg BK286.out) | (go_at_call 34; (with_reducible refine (spec_l5Rising.calls k1 _ _ l0_5 t289 _ ?side1 ?side2 A11.out).mono ?_); (case side1 => exact z1r); (case side2 => exact HC0_5.out); rintro e w15 ⟨rfl, hb⟩; have n0_ := zi (blk_below (g := gb286) (o := .cells #[.string a0_0, .int .i64 a0_1, .int .i64 a0_2, .int .i64 a0_3, .string a0_4, .slice A0_5 l0_5.length c0_5] 28 (0, 0)) z2n hb); have n1_ := zi (below_step z2o hb); clear BK286; clear HB; have BK286 := n0_; have HB := n1_; clear n0_ n1_; (try clear hb); (try clear hb2); (try clear hk); (try clear hi))); try go_wp2_with (first | (go_at_call 33; (with_reducible refine (spec_Fits.calls k1 a0_0 a0_1 a0_2 a0_3 a0_4 true _ A8.out).mono ?_); rintro e w13 ⟨rfl, hb⟩; have n0_ := zi (blk_below (g := gb286) (o := .cells #[.string a0_0, .int .i64 a0_1, .int .i64 a0_2, .int .i64 a0_3, .string a0_4, .slice A0_5 l0_5.length c0_5] 28 (0, 0)) z2n hb); have n1_ := zi (below_step z2o hb); clear BK286; clear HB; have BK286 := n0_; have HB := n1_; clear n0_ n1_; (try clear hb); (try clear hb2); (try clear hk); (try clear hi); obtain ⟨hcz14_0, hcz14_1, hcz14_2, hcz14_3, hcz14_4, hcz14_5, hfz14_0, hfz14_1, hfz14_2, hfz14_3, hfz14_4, hfz14_5⟩ := zg BK286.out) | (go_at_call 34; (with_reducible refine (spec_l5Rising.calls k1 _ _ l0_5 t289 _ ?side1 ?side2 A11.out).mono ?_); (case side1 => exact z1r); (case side2 => exact HC0_5.out); rintro e w15 ⟨rfl, hb⟩; have n0_ := zi (blk_below (g := gb286) (o := .cells #[.string a0_0, .int .i64 a0_1, .int .i64 a0_2, .int .i64 a0_3, .string a0_4, .slice A0_5 l0_5.length c0_5] 28 (0, 0)) z2n hb); have n1_ := zi (below_step z2o hb); clear BK286; clear HB; have BK286 := n0_; have HB := n1_; clear n0_ n1_; (try clear hb); (try clear hb2); (try clear hk); (try clear hi))))
      go_ret
      exact ⟨z1b, z2o⟩
     ·rw [if_neg c10] at H
      have c10b0 := decide_eq_false c10
      have c10b1 : decide (l0_5.length ≤ 8) = false := decide_eq_false zp
      clear c10
      obtain rfl := Option.some.inj H
      obtain ⟨hcz16_0, hcz16_1, hcz16_2, hcz16_3, hcz16_4, hcz16_5, hfz16_0, hfz16_1, hfz16_2, hfz16_3, hfz16_4, hfz16_5⟩ := zg BK286.out
      go_wp2_with (first | (go_at_call 33; (with_reducible refine (spec_Fits.calls k1 a0_0 a0_1 a0_2 a0_3 a0_4 true _ A8.out).mono ?_); rintro e w17 ⟨rfl, hb⟩; have n0_ := zi (blk_below (g := gb286) (o := .cells #[.string a0_0, .int .i64 a0_1, .int .i64 a0_2, .int .i64 a0_3, .string a0_4, .slice A0_5 l0_5.length c0_5] 28 (0, 0)) z2n hb); have n1_ := zi (below_step z2o hb); clear BK286; clear HB; have BK286 := n0_; have HB := n1_; clear n0_ n1_; (try clear hb); (try clear hb2); (try clear hk); (try clear hi); obtain ⟨hcz18_0, hcz18_1, hcz18_2, hcz18_3, hcz18_4, hcz18_5, hfz18_0, hfz18_1, hfz18_2, hfz18_3, hfz18_4, hfz18_5⟩ := zg BK286.out))
      repeat (go_quiet (first | (go_at_call 33; (with_reducible refine (spec_Fits.calls k1 a0_0 a0_1 a0_2 a0_3 a0_4 true _ A8.out).mono ?_); rintro e w17 ⟨rfl, hb⟩; have n0_ := zi (blk_below (g := gb286) (o := .cells #[.string a0_0, .int .i64 a0_1, .int .i64 a0_2, .int .i64 a0_3, .string a0_4, .slice A0_5 l0_5.length c0_5] 28 (0, 0)) z2n hb); have n1_ := zi (below_step z2o hb); clear BK286; clear HB; have BK286 := n0_; have HB := n1_; clear n0_ n1_; (try clear hb); (try clear hb2); (try clear hk); (try clear hi); obtain ⟨hcz18_0, hcz18_1, hcz18_2, hcz18_3, hcz18_4, hcz18_5, hfz18_0, hfz18_1, hfz18_2, hfz18_3, hfz18_4, hfz18_5⟩ := zg BK286.out)); try go_wp2_with (first | (go_at_call 33; (with_reducible refine (spec_Fits.calls k1 a0_0 a0_1 a0_2 a0_3 a0_4 true _ A8.out).mono ?_); rintro e w17 ⟨rfl, hb⟩; have n0_ := zi (blk_below (g := gb286) (o := .cells #[.string a0_0, .int .i64 a0_1, .int .i64 a0_2, .int .i64 a0_3, .string a0_4, .slice A0_5 l0_5.length c0_5] 28 (0, 0)) z2n hb); have n1_ := zi (below_step z2o hb); clear BK286; clear HB; have BK286 := n0_; have HB := n1_; clear n0_ n1_; (try clear hb); (try clear hb2); (try clear hk); (try clear hi); obtain ⟨hcz18_0, hcz18_1, hcz18_2, hcz18_3, hcz18_4, hcz18_5, hfz18_0, hfz18_1, hfz18_2, hfz18_3, hfz18_4, hfz18_5⟩ := zg BK286.out)))
      go_ret
      exact ⟨z1b, z2o⟩
    ·replace c9 := Bool.eq_false_iff.mpr c9
     subst c9
     rw [if_neg zh] at H
     obtain rfl := Option.some.inj H
     obtain ⟨hcz19_0, hcz19_1, hcz19_2, hcz19_3, hcz19_4, hcz19_5, hfz19_0, hfz19_1, hfz19_2, hfz19_3, hfz19_4, hfz19_5⟩ := zg BK286.out
     go_wp2_with (first | (go_at_call 33; (with_reducible refine (spec_Fits.calls k1 a0_0 a0_1 a0_2 a0_3 a0_4 false _ A8.out).mono ?_); rintro e w20 ⟨rfl, hb⟩; have n0_ := zi (blk_below (g := gb286) (o := .cells #[.string a0_0, .int .i64 a0_1, .int .i64 a0_2, .int .i64 a0_3, .string a0_4, .slice A0_5 l0_5.length c0_5] 28 (0, 0)) z2n hb); have n1_ := zi (below_step z2o hb); clear BK286; clear HB; have BK286 := n0_; have HB := n1_; clear n0_ n1_; (try clear hb); (try clear hb2); (try clear hk); (try clear hi)))
     repeat (go_quiet (first | (go_at_call 33; (with_reducible refine (spec_Fits.calls k1 a0_0 a0_1 a0_2 a0_3 a0_4 false _ A8.out).mono ?_); rintro e w20 ⟨rfl, hb⟩; have n0_ := zi (blk_below (g := gb286) (o := .cells #[.string a0_0, .int .i64 a0_1, .int .i64 a0_2, .int .i64 a0_3, .string a0_4, .slice A0_5 l0_5.length c0_5] 28 (0, 0)) z2n hb); have n1_ := zi (below_step z2o hb); clear BK286; clear HB; have BK286 := n0_; have HB := n1_; clear n0_ n1_; (try clear hb); (try clear hb2); (try clear hk); (try clear hi))); try go_wp2_with (first | (go_at_call 33; (with_reducible refine (spec_Fits.calls k1 a0_0 a0_1 a0_2 a0_3 a0_4 false _ A8.out).mono ?_); rintro e w20 ⟨rfl, hb⟩; have n0_ := zi (blk_below (g := gb286) (o := .cells #[.string a0_0, .int .i64 a0_1, .int .i64 a0_2, .int .i64 a0_3, .string a0_4, .slice A0_5 l0_5.length c0_5] 28 (0, 0)) z2n hb); have n1_ := zi (below_step z2o hb); clear BK286; clear HB; have BK286 := n0_; have HB := n1_; clear n0_ n1_; (try clear hb); (try clear hb2); (try clear hk); (try clear hi))))
     go_ret
     exact ⟨z1b, z2o⟩
end Go.Proofs.YtgdknepphkhnlaaGreatDoor.X

/- strings.Cut at a separator of one byte: no variable of the library is read there. By the shelf's contracts and walk, turned. Conditions: the text has fewer than 4294967281 bytes. -/
namespace Go.Proofs.YtgdknepphkhnlaaGreatDoor.Sp
open Go.Shelf Go.RowKit Go.Lib Go.Proofs Go.Proofs.YtgdknepphkhnlaaGreatDoorW.PrintWords
set_option linter.unusedVariables false
set_option maxHeartbeats 2000000 in
set_option maxRecDepth 100000 in
theorem cut_lite_one {P : Program} {ρ : Ren} (L : Lays.n220 P ρ) (s : ByteArray) (c : UInt8) (w : World) (hs : s.size < 4294967281) :
  Calls P (ρ.f 220) #[.string s, .string ⟨#[c]⟩] w fun e w' => e = .returned (.tuple #[.string ⟨(Lib.cut s.data.toList [c]).1.toArray⟩, .string ⟨(Lib.cut s.data.toList [c]).2.1.toArray⟩, .bool (Lib.cut s.data.toList [c]).2.2]) ∧ ∃ n, w' = w.drewN n := by
 obtain ⟨sep, hsep⟩ : ∃ sep : ByteArray, sep = ⟨#[c]⟩ := ⟨_, rfl⟩
 have hd : [c] = sep.data.toList := by rw [hsep]
 have hI : ∀ W, Calls P (ρ.f 219) #[.string s, .string sep] W fun e w' => e = .returned (.int .i64 (Lib.indexB s sep)) ∧ w' = W := by
  intro W
  rw [hsep]
  refine (Any.stringslite_Index_one { L with } s c W).mono ?_
  rintro e w' ⟨he, hw⟩
  refine ⟨?_, hw⟩
  rw [he]
  show _ = Ending.returned (Value.int .i64 (Lib.index s.data.toList [c]))
  rw [Lib.index_one]
 rw [← hsep, hd]
 clear hd hsep
 rcases Lib.indexB_cases s sep with hix | ⟨i, hix, hroom⟩
 ·obtain ⟨e1, e2, e3⟩ := Lib.cutB_miss s sep hix
  rw [e1, e2, e3]
  have t3 := L.t3; have t4 := L.t4; have t9 := L.t9
  have a3 : ∀ w, (isAgg (ρ.t 3)).run P w = .ok false w := run_isAgg_plain L.t3 rfl; have a4 : ∀ w, (isAgg (ρ.t 4)).run P w = .ok false w := run_isAgg_plain L.t4 rfl; have a9 : ∀ w, (isAgg (ρ.t 9)).run P w = .ok false w := run_isAgg_plain L.t9 rfl
  have e219 : ∀ args w, (callFunc (ρ.f 219) args).run P w = .ok (.enter (ρ.f 219) args) w := enters_of L.f219 zq rfl
  have mixed := L.mixed; have z3 := L.z3; have v3 := L.v3; have z4 := L.z4; have v4 := L.v4; have z9 := L.z9; have v9 := L.v9
  have HI := zi hI
  clear hI
  go_enter L.f220, Body.n220_ntmps ρ
  go_wp2_with (go_at_fn (ρ.f 219); refine (HI.out _).mono ?_; rintro e w' ⟨rfl, rfl⟩; rw [hix])
  go_ret3
  exact ⟨rfl, 0, rfl⟩
 ·obtain ⟨e1, e2, e3⟩ := Lib.cutB_hit s sep i hix
  rw [e1, e2, e3]
  have c1 : (0 : Int) ≤ ↑i := by omega
  have c2 : (↑i : Int) ≤ ↑s.size := by omega
  have c3 : (0 : Int) ≤ ↑i + ↑sep.size := by omega
  have c4 : (↑i + ↑sep.size : Int) ≤ ↑s.size := by omega
  have t3 := L.t3; have t4 := L.t4; have t9 := L.t9
  have a3 : ∀ w, (isAgg (ρ.t 3)).run P w = .ok false w := run_isAgg_plain L.t3 rfl; have a4 : ∀ w, (isAgg (ρ.t 4)).run P w = .ok false w := run_isAgg_plain L.t4 rfl; have a9 : ∀ w, (isAgg (ρ.t 9)).run P w = .ok false w := run_isAgg_plain L.t9 rfl
  have e219 : ∀ args w, (callFunc (ρ.f 219) args).run P w = .ok (.enter (ρ.f 219) args) w := enters_of L.f219 zq rfl
  have mixed := L.mixed; have z3 := L.z3; have v3 := L.v3; have z4 := L.z4; have v4 := L.v4; have z9 := L.z9; have v9 := L.v9
  have HI := zi hI
  clear hI
  go_enter L.f220, Body.n220_ntmps ρ
  go_wp2_with (go_at_fn (ρ.f 219); refine (HI.out _).mono ?_; rintro e w' ⟨rfl, rfl⟩; rw [hix])
  go_region_o
  go_wp2
  go_ret3
  exact ⟨rfl, 1, rfl⟩
set_option maxHeartbeats 1000000 in
theorem cut_one {P : Program} {ρ : Ren} (L : Lays.n145 P ρ) (s : ByteArray) (c : UInt8) (w : World) (hs : s.size < 4294967281) :
  Calls P (ρ.f 145) #[.string s, .string ⟨#[c]⟩] w fun e w' => e = .returned (.tuple #[.string ⟨(Lib.cut s.data.toList [c]).1.toArray⟩, .string ⟨(Lib.cut s.data.toList [c]).2.1.toArray⟩, .bool (Lib.cut s.data.toList [c]).2.2]) ∧ ∃ n, w' = w.drewN n := by
 have t4 := L.t4; have t9 := L.t9; have t59 := L.t59
 have a4 : ∀ w, (isAgg (ρ.t 4)).run P w = .ok false w := run_isAgg_plain L.t4 rfl; have a9 : ∀ w, (isAgg (ρ.t 9)).run P w = .ok false w := run_isAgg_plain L.t9 rfl; have a59 : ∀ w, (isAgg (ρ.t 59)).run P w = .ok false w := run_isAgg_plain L.t59 rfl
 have e220 : ∀ args w, (callFunc (ρ.f 220) args).run P w = .ok (.enter (ρ.f 220) args) w := enters_of L.f220 zq rfl
 have mixed := L.mixed; have z4 := L.z4; have v4 := L.v4; have z9 := L.z9; have v9 := L.v9; have z59 := L.z59; have v59 := L.v59
 obtain ⟨sep, hsep⟩ : ∃ sep : ByteArray, sep = ⟨#[c]⟩ := ⟨_, rfl⟩
 have hc := fun W => cut_lite_one { L with } s c W hs
 rw [← hsep] at hc ⊢
 have HC := zi hc
 clear hc hsep
 obtain ⟨x1, hx1⟩ : ∃ x, x = (⟨(Lib.cut s.data.toList [c]).1.toArray⟩ : ByteArray) := ⟨_, rfl⟩
 obtain ⟨x2, hx2⟩ : ∃ x, x = (⟨(Lib.cut s.data.toList [c]).2.1.toArray⟩ : ByteArray) := ⟨_, rfl⟩
 obtain ⟨x3, hx3⟩ : ∃ x, x = (Lib.cut s.data.toList [c]).2.2 := ⟨_, rfl⟩
 rw [← hx1, ← hx2, ← hx3] at HC ⊢
 clear hx1 hx2 hx3
 go_enter L.f145, Body.n145_ntmps ρ
 go_wp2_with (go_at_fn (ρ.f 220); refine (HC.out _).mono ?_; rintro e w' ⟨rfl, n, rfl⟩)
 go_ret3
 exact ⟨rfl, n, rfl⟩
end Go.Proofs.YtgdknepphkhnlaaGreatDoor.Sp

namespace Go.Proofs.YtgdknepphkhnlaaGreatDoor.X
open Go.RowKit Go.Proofs.YtgdknepphkhnlaaGreatDoorW.PrintWords Go.Proofs.YtgdknepphkhnlaaGreatDoorW.PrintLast Go.Proofs.YtgdknepphkhnlaaGreatDoorW.PrintMore
attribute [local go_sem] max2_int min2_int max_two min_two max_three min_three max_four min_four
set_option linter.unusedVariables false
set_option linter.unusedSimpArgs false
def cutB_ (c : UInt8) (s : ByteArray) : ByteArray × ByteArray × Bool := (⟨(Lib.cut s.data.toList [c]).1.toArray⟩, ⟨(Lib.cut s.data.toList [c]).2.1.toArray⟩, (Lib.cut s.data.toList [c]).2.2)
def strings_Cut.f (l0 l1 : ByteArray) : Option (ByteArray × ByteArray × Bool) := if l0.size < 4294967281 ∧ l1.size = 1 then some (cutB_ (l1.data.toList.headD 0) l0) else none
theorem strings_Cut.calls (l0 l1 : ByteArray) (r1 r2 : ByteArray) (r3 : Bool) (w : World) (h : strings_Cut.f l0 l1 = some (r1, r2, r3)) :
  Calls Tryz.prog 39 #[.string l0, .string l1] w fun e w' => e = .returned (.tuple #[.string r1, .string r2, .bool r3]) ∧ Drawn0 w w' := by
 unfold strings_Cut.f at h
 split at h
 ·rename_i hc
  obtain ⟨h0, h1⟩ := hc
  have h2 := Option.some.inj h
  obtain ⟨c, rfl⟩ := Lib.one_byte l1 h1
  have h3 : cutB_ c l0 = (r1, r2, r3) := h2
  unfold cutB_ at h3
  simp only [Prod.mk.injEq] at h3
  obtain ⟨rfl, rfl, rfl⟩ := h3
  refine (Go.Proofs.YtgdknepphkhnlaaGreatDoor.Sp.cut_one Tryz.lays145 l0 c w h0).mono ?_
  rintro e w' ⟨rfl, n, rfl⟩
  exact ⟨rfl, (Drawn0.refl w).step n⟩
 ·cases h
def stringslite_HasPrefix.f (a0 : ByteArray) (a1 : ByteArray) : Option (Bool) := if (a0.size : Int) ≥ (a1.size : Int) then (if 0 ≤ (a1.size : Int) then (if (a1.size : Int) ≤ (a0.size : Int) then (some ((a0.extract 0 ((a1.size : Int) : Int).toNat).toList == a1.toList)) else (none)) else (none)) else (some false)
set_option maxHeartbeats 8000000 in
set_option maxRecDepth 100000 in
theorem stringslite_HasPrefix.calls (a0 : ByteArray) (a1 : ByteArray) (r : Bool) (w : World) (h : stringslite_HasPrefix.f a0 a1 = some r) :
  Calls Tryz.prog 118 #[.string a0, .string a1] w fun e w' => e = .returned (.bool r) ∧ Drawn0 w w' := by
 have H := h
 unfold stringslite_HasPrefix.f at H
 clear h
 by_cases c3 : (a0.size : Int) ≥ (a1.size : Int)
 ·rw [if_pos c3] at H
  have c3b0 := decide_eq_true c3
  have c3b1 : decide (a1.size ≤ a0.size) = true := decide_eq_true (Int.ofNat_le.mp c3)
  clear c3
  by_cases c4 : 0 ≤ (a1.size : Int)
  ·rw [if_pos c4] at H
   have c4b0 := eq_true c4
   have c4b1 := decide_eq_true c4
   clear c4
   by_cases c5 : (a1.size : Int) ≤ (a0.size : Int)
   ·rw [if_pos c5] at H
    have c5b0 := eq_true c5
    have c5b1 := decide_eq_true c5
    clear c5
    obtain rfl := Option.some.inj H
    go_enter Tryz.func118, Tryz.ntmps118
    go_wp2
    go_ret
    exact ⟨zu, zv⟩
   ·rw [if_neg c5] at H
    exact absurd H (by simp)
  ·rw [if_neg c4] at H
   exact absurd H (by simp)
 ·rw [if_neg c3] at H
  have c3b0 := decide_eq_false c3
  have c3b1 : decide (a1.size ≤ a0.size) = false := decide_eq_false (fun h => c3 (Int.ofNat_le.mpr h))
  clear c3
  obtain rfl := Option.some.inj H
  go_enter Tryz.func118, Tryz.ntmps118
  go_wp2
  go_ret
  exact ⟨zu, zv⟩
def stringslite_TrimPrefix.f (a0 : ByteArray) (a1 : ByteArray) : Option (ByteArray) := (stringslite_HasPrefix.f a0 a1).bind fun t411 => (if t411 = true then (if 0 ≤ (a1.size : Int) then (if (a1.size : Int) ≤ (a0.size : Int) then (some (a0.extract ((a1.size : Int) : Int).toNat a0.size)) else (none)) else (none)) else (some a0))
set_option maxHeartbeats 8000000 in
set_option maxRecDepth 100000 in
theorem stringslite_TrimPrefix.calls (a0 : ByteArray) (a1 : ByteArray) (r : ByteArray) (w : World) (h : stringslite_TrimPrefix.f a0 a1 = some r) :
  Calls Tryz.prog 101 #[.string a0, .string a1] w fun e w' => e = .returned (.string r) ∧ Drawn0 w w' := by
 have H := h
 unfold stringslite_TrimPrefix.f at H
 clear h
 replace H := Option.bind_eq_some_iff.mp H
 obtain ⟨t411, A30, H⟩ := H
 try dsimp only at H
 have A3 := zi A30
 clear A30
 by_cases c4 : t411 = true
 ·subst c4
  rw [if_pos rfl] at H
  by_cases c5 : 0 ≤ (a1.size : Int)
  ·rw [if_pos c5] at H
   have c5b0 := eq_true c5
   have c5b1 := decide_eq_true c5
   clear c5
   by_cases c6 : (a1.size : Int) ≤ (a0.size : Int)
   ·rw [if_pos c6] at H
    have c6b0 := eq_true c6
    have c6b1 := decide_eq_true c6
    clear c6
    obtain rfl := Option.some.inj H
    go_enter Tryz.func101, Tryz.ntmps101
    go_wp2_with (first | ((with_reducible refine gate_callee (f := 118) rfl ?_); refine goesL_ (some 7) rfl rfl Tryz.func118 zq rfl #[.string a0, .string a1] rfl zy ?_; (with_reducible refine (stringslite_HasPrefix.calls a0 a1 true _ A3.out).mono ?_); rintro e w' ⟨rfl, ⟨nd, rfl⟩⟩; refine ⟨_, rfl, ?_⟩))
    go_ret
    exact ⟨zu, zv⟩
   ·rw [if_neg c6] at H
    exact absurd H (by simp)
  ·rw [if_neg c5] at H
   exact absurd H (by simp)
 ·replace c4 := Bool.eq_false_iff.mpr c4
  subst c4
  rw [if_neg zh] at H
  obtain rfl := Option.some.inj H
  go_enter Tryz.func101, Tryz.ntmps101
  go_wp2_with (first | ((with_reducible refine gate_callee (f := 118) rfl ?_); refine goesL_ (some 7) rfl rfl Tryz.func118 zq rfl #[.string a0, .string a1] rfl zy ?_; (with_reducible refine (stringslite_HasPrefix.calls a0 a1 false _ A3.out).mono ?_); rintro e w' ⟨rfl, ⟨nd, rfl⟩⟩; refine ⟨_, rfl, ?_⟩))
  go_ret
  exact ⟨zu, zv⟩
def strings_TrimPrefix.f (a0 : ByteArray) (a1 : ByteArray) : Option (ByteArray) := (stringslite_TrimPrefix.f a0 a1).bind fun t412 => (some t412)
set_option maxHeartbeats 8000000 in
set_option maxRecDepth 100000 in
theorem strings_TrimPrefix.calls (a0 : ByteArray) (a1 : ByteArray) (r : ByteArray) (w : World) (h : strings_TrimPrefix.f a0 a1 = some r) :
  Calls Tryz.prog 75 #[.string a0, .string a1] w fun e w' => e = .returned (.string r) ∧ Drawn0 w w' := by
 have H := h
 unfold strings_TrimPrefix.f at H
 clear h
 replace H := Option.bind_eq_some_iff.mp H
 obtain ⟨t412, A30, H⟩ := H
 try dsimp only at H
 have A3 := zi A30
 clear A30
 obtain rfl := Option.some.inj H
 go_enter Tryz.func75, Tryz.ntmps75
 go_wp2_with (first | ((with_reducible refine gate_callee (f := 101) rfl ?_); refine goesL_ (some 7) rfl rfl Tryz.func101 zq rfl #[.string a0, .string a1] rfl zy ?_; (with_reducible refine (stringslite_TrimPrefix.calls a0 a1 t412 _ A3.out).mono ?_); rintro e w' ⟨rfl, ⟨nd, rfl⟩⟩; refine ⟨_, rfl, ?_⟩))
 go_ret
 exact ⟨zu, zv⟩
def impl_ParseVersion.n3 (k : Nat) (s p : ByteArray) (a b c : Int) : Option (Int × Int × Int × ByteArray × Bool) := (impl_VersionText.f k a b c p).bind fun t => (if t.toList = s.toList then (some (a, b, c, p, true)) else (some (0, 0, 0, (⟨#[]⟩ : ByteArray), false)))
def impl_ParseVersion.n2 (k : Nat) (s p z : ByteArray) (a b : Int) : Option (Int × Int × Int × ByteArray × Bool) := (impl_numberOf.f k z 7).bind fun q => (if q.2 = true then (impl_ParseVersion.n3 k s p a b q.1) else (some (0, 0, 0, (⟨#[]⟩ : ByteArray), false)))
def impl_ParseVersion.n1 (k : Nat) (s p y z : ByteArray) (a : Int) : Option (Int × Int × Int × ByteArray × Bool) := (impl_numberOf.f k y 7).bind fun q => (if q.2 = true then (impl_ParseVersion.n2 k s p z a q.1) else (some (0, 0, 0, (⟨#[]⟩ : ByteArray), false)))
def impl_ParseVersion.n0 (k : Nat) (s p x y z : ByteArray) : Option (Int × Int × Int × ByteArray × Bool) := (impl_numberOf.f k x 7).bind fun q => (if q.2 = true then (impl_ParseVersion.n1 k s p y z q.1) else (some (0, 0, 0, (⟨#[]⟩ : ByteArray), false)))
def impl_ParseVersion.f (k : Nat) (s : ByteArray) : Option (Int × Int × Int × ByteArray × Bool) := (strings_TrimPrefix.f s (⟨#[118]⟩ : ByteArray)).bind fun t => (strings_Cut.f t (⟨#[45]⟩ : ByteArray)).bind fun c => (strings_Split.f c.1 (⟨#[46]⟩ : ByteArray)).bind fun l => (if l.length = 3 then (impl_ParseVersion.n0 k s c.2.1 (rdOf ByteArray.empty l 0) (rdOf ByteArray.empty l 1) (rdOf ByteArray.empty l 2)) else (some (0, 0, 0, (⟨#[]⟩ : ByteArray), false)))
theorem impl_ParseVersion.four {w : World} {g : Nat} {T : TypeId} {x0 x1 x2 x3 : Value} (h : w.heap[g]? = some (.cells #[x0, x1, x2, x3] T (0, 0))) (y0 y1 y2 y3 : Value) :
  ((((w.setCell ⟨g, 0, none⟩ y0).setCell ⟨g, 1, none⟩ y1).setCell ⟨g, 2, none⟩ y2).setCell ⟨g, 3, none⟩ y3).heap[g]? = some (.cells #[y0, y1, y2, y3] T (0, 0)) := blk_put (blk_put (blk_put (blk_put h 0 _ rfl) 1 _ rfl) 2 _ rfl) 3 _ rfl
theorem impl_ParseVersion.fourB {B : Nat} {a w : World} {g : Nat} (h : Below B a w) (hg : B ≤ g) (y0 y1 y2 y3 : Value) :
  Below B a ((((w.setCell ⟨g, 0, none⟩ y0).setCell ⟨g, 1, none⟩ y1).setCell ⟨g, 2, none⟩ y2).setCell ⟨g, 3, none⟩ y3) := (((h.setCell (p := ⟨g, 0, none⟩) hg _).setCell (p := ⟨g, 1, none⟩) hg _).setCell (p := ⟨g, 2, none⟩) hg _).setCell (p := ⟨g, 3, none⟩) hg _
theorem impl_ParseVersion.fourF {w : World} {g g2 : Nat} {T : TypeId} {cs : Array Value} (h : w.heap[g]? = some (.cells cs T (0, 0))) (hne : g ≠ g2) (y0 y1 y2 y3 : Value) :
  ((((w.setCell ⟨g2, 0, none⟩ y0).setCell ⟨g2, 1, none⟩ y1).setCell ⟨g2, 2, none⟩ y2).setCell ⟨g2, 3, none⟩ y3).heap[g]? = some (.cells cs T (0, 0)) := blk_far (p := ⟨g2, 3, none⟩) (blk_far (p := ⟨g2, 2, none⟩) (blk_far (p := ⟨g2, 1, none⟩) (blk_far (p := ⟨g2, 0, none⟩) h hne _) hne _) hne _) hne _
theorem impl_ParseVersion.fourO {w : World} {g base : Nat} {v : Value} {l : List ByteArray} {x0 x1 x2 x3 : Value} (h : Kd.R Kd.string 9 w base (fun _ => True) v l) (hb : w.heap[g]? = some (.cells #[x0, x1, x2, x3] 25 (0, 0))) (y0 y1 y2 y3 : Value) :
  Kd.R Kd.string 9 ((((w.setCell ⟨g, 0, none⟩ y0).setCell ⟨g, 1, none⟩ y1).setCell ⟨g, 2, none⟩ y2).setCell ⟨g, 3, none⟩ y3) base (fun _ => True) v l :=
 Kd.R_set (Kd.R_set (Kd.R_set (Kd.R_set h hb zt 0 y0) (blk_put hb 0 _ rfl) zt 1 y1) (blk_put (blk_put hb 0 _ rfl) 1 _ rfl) zt 2 y2) (blk_put (blk_put (blk_put hb 0 _ rfl) 1 _ rfl) 2 _ rfl) zt 3 y3
set_option maxHeartbeats 8000000 in
set_option maxRecDepth 100000 in
theorem impl_ParseVersion.calls (k : Nat) (a0 : ByteArray) (r1 : Int) (r2 : Int) (r3 : Int) (r4 : ByteArray) (r5 : Bool) (w : World) (hG_ : GlobI w) (h : impl_ParseVersion.f k a0 = some (r1, r2, r3, r4, r5)) :
  Calls Tryz.prog 40 #[.string a0] w fun e w' => e = .returned (.tuple #[.agg #[.int .i64 r1, .int .i64 r2, .int .i64 r3, .string r4], .bool r5]) ∧ Below w.heap.size w w' := by
 have hu27 := Tryz.underlying25
 have HG_ := zi hG_
 clear hG_
 have HB := zi (Below.refl w.heap.size w)
 obtain ⟨t, A10, h2⟩ := Option.bind_eq_some_iff.mp h
 obtain ⟨⟨c1, c2, c3⟩, A20, h3⟩ := Option.bind_eq_some_iff.mp h2
 obtain ⟨l, A30, h4⟩ := Option.bind_eq_some_iff.mp h3
 have A1 := zi A10
 have A2 := zi A20
 have A3 := zi (show strings_Split.f c1 (⟨#[46]⟩ : ByteArray) = some l from A30)
 have H0 : (if l.length = 3 then (impl_ParseVersion.n0 k a0 c2 (rdOf ByteArray.empty l 0) (rdOf ByteArray.empty l 1) (rdOf ByteArray.empty l 2)) else (some (0, 0, 0, (⟨#[]⟩ : ByteArray), false))) = some (r1, r2, r3, r4, r5) := h4
 clear h h2 h3 h4 A10 A20 A30
 by_cases c5 : l.length = 3
 ·rw [if_pos c5] at H0
  have H := zi H0
  clear H0
  have c5b : ((l.length : Int) != 3) = false := bne_eq_false_iff_eq.mpr zp
  go_enter Tryz.func40, Tryz.ntmps40
  go_wp2_with (first | ((with_reducible refine gate_dst (N := 2) rfl ?_); refine box_event zr (N := 2) zr (cs := #[.int .i64 0, .int .i64 0, .int .i64 0, .string (⟨#[]⟩ : ByteArray)]) (t := 25) z1h ?_; intro g2 hg w4 hbox hb; have n0_ := zi (below_step zz hb); have n1_ := zi hbox; have n2_ := zi (z6t : w.heap.size ≤ g2); clear HB; have HB := n0_; have BK2 := n1_; have GE2 := n2_; clear n0_ n1_ n2_; clear hb hbox hg) | ((with_reducible refine gate_callee (f := 75) rfl ?_); refine goesL_ (some 15) rfl rfl Tryz.func75 zq rfl #[.string a0, .string (⟨#[118]⟩ : ByteArray)] rfl z2p ?_; (with_reducible refine (strings_TrimPrefix.calls a0 (⟨#[118]⟩ : ByteArray) t _ A1.out).mono ?_); rintro e w' ⟨rfl, ⟨nd, rfl⟩⟩; refine ⟨_, rfl, ?_⟩) | ((with_reducible refine gate_callee (f := 39) rfl ?_); refine goesL_ (some 16) rfl rfl Tryz.func39 zq rfl #[.string t, .string (⟨#[45]⟩ : ByteArray)] rfl z2p ?_; (with_reducible refine (strings_Cut.calls t (⟨#[45]⟩ : ByteArray) c1 c2 c3 _ A2.out).mono ?_); rintro e w' ⟨rfl, ⟨nd, rfl⟩⟩; refine ⟨_, rfl, ?_⟩) | ((with_reducible refine gate_callee (f := 76) rfl ?_); refine goesL_ (some 21) rfl rfl Tryz.func76 zq rfl #[.string c1, .string (⟨#[46]⟩ : ByteArray)] rfl z2p ?_; (with_reducible refine (strings_Split.calls c1 (⟨#[46]⟩ : ByteArray) l _ A3.out).mono ?_); rintro e w3 ⟨v122, rfl, ho0, hb⟩; refine ⟨_, rfl, ?_⟩; have n0_ := zi (Kd.R_lower ho0 (below_size z2q)); have n2_ := zi (blk_below (g := g2) (o := .cells #[.int .i64 0, .int .i64 0, .int .i64 0, .string (⟨#[]⟩ : ByteArray)] 25 (0, 0)) z2r hb); have n1_ := zi (below_step z2q hb); clear HB BK2; have HO := n0_; have HB := n1_; have BK2 := n2_; clear n0_ n1_ n2_; (try clear hb); (try clear ho0); obtain ⟨Ao4, co4, eo4⟩ := Kd.R_slice HO.out; subst eo4; have d0 : w3.cell? ⟨g2, 0, none⟩ = some (.int .i64 0) := (blk_cell BK2.out 0).trans rfl; have d1 : w3.cell? ⟨g2, 1, none⟩ = some (.int .i64 0) := (blk_cell BK2.out 1).trans rfl; have d2 : w3.cell? ⟨g2, 2, none⟩ = some (.int .i64 0) := (blk_cell BK2.out 2).trans rfl; have d3 : w3.cell? ⟨g2, 3, none⟩ = some (.string (⟨#[]⟩ : ByteArray)) := (blk_cell BK2.out 3).trans rfl; have f0 := blk_frozen BK2.out 0; have f1 := blk_frozen BK2.out 1; have f2 := blk_frozen BK2.out 2; have f3 := blk_frozen BK2.out 3) | ((with_reducible refine gate_dst (N := 8) rfl ?_); refine box_event zr (N := 8) zr (cs := #[.int .i64 0, .int .i64 0, .int .i64 0, .string (⟨#[]⟩ : ByteArray)]) (t := 25) z1h ?_; intro g8 hg w4 hbox hb; have n5_ := zi ((by rw [hg]; exact (Nat.ne_of_lt (blk_lt (w := _) (g := g2) (o := .cells #[.int .i64 0, .int .i64 0, .int .i64 0, .string (⟨#[]⟩ : ByteArray)] 25 (0, 0)) z2r))) : g2 ≠ g8); have n4_ := zi (Kd.R_below z1g hb); have n3_ := zi (blk_below (g := g2) (o := .cells #[.int .i64 0, .int .i64 0, .int .i64 0, .string (⟨#[]⟩ : ByteArray)] 25 (0, 0)) z2r hb); have n0_ := zi (below_step z2q hb); have n1_ := zi hbox; have n2_ := zi ((by rw [hg]; exact (below_size z2q)) : w.heap.size ≤ g8); clear HB BK2 HO; have HB := n0_; have BK2 := n3_; have BK8 := n1_; have GE8 := n2_; have HO := n4_; have NE28 := n5_; clear n0_ n1_ n2_ n3_ n4_ n5_; clear hb hbox hg; have e0 : w4.cell? ⟨g8, 0, none⟩ = some (.int .i64 0) := (blk_cell BK8.out 0).trans rfl; have e1 : w4.cell? ⟨g8, 1, none⟩ = some (.int .i64 0) := (blk_cell BK8.out 1).trans rfl; have e2 : w4.cell? ⟨g8, 2, none⟩ = some (.int .i64 0) := (blk_cell BK8.out 2).trans rfl; have e3 : w4.cell? ⟨g8, 3, none⟩ = some (.string (⟨#[]⟩ : ByteArray)) := (blk_cell BK8.out 3).trans rfl; have q0 := blk_frozen BK8.out 0; have q1 := blk_frozen BK8.out 1; have q2 := blk_frozen BK8.out 2; have q3 := blk_frozen BK8.out 3))
  have ix0 : ∀ W, (Instr.index 99 (.agg #[.pointer (some ⟨g8, 0, none⟩), .pointer (some ⟨g8, 1, none⟩), .pointer (some ⟨g8, 2, none⟩)]) (.int .i64 0)).run Tryz.prog W = .ok (.pointer (some ⟨g8, 0, none⟩)) W := fun W => by simp [Instr.index, run_underlying Tryz.underlying99, asIntOf, go_sem]
  have ix1 : ∀ W, (Instr.index 99 (.agg #[.pointer (some ⟨g8, 0, none⟩), .pointer (some ⟨g8, 1, none⟩), .pointer (some ⟨g8, 2, none⟩)]) (.int .i64 1)).run Tryz.prog W = .ok (.pointer (some ⟨g8, 1, none⟩)) W := fun W => by simp [Instr.index, run_underlying Tryz.underlying99, asIntOf, go_sem]
  have ix2 : ∀ W, (Instr.index 99 (.agg #[.pointer (some ⟨g8, 0, none⟩), .pointer (some ⟨g8, 1, none⟩), .pointer (some ⟨g8, 2, none⟩)]) (.int .i64 2)).run Tryz.prog W = .ok (.pointer (some ⟨g8, 2, none⟩)) W := fun W => by simp [Instr.index, run_underlying Tryz.underlying99, asIntOf, go_sem]
  clear d0 d1 d2 d3 f0 f1 f2 f3 e0 e1 e2 e3 q0 q1 q2 q3 A1 A2 A3
  go_loopw [32] (fun v32 wr => ∃ (i : Nat) (x y z : Int), v32 = .int .i64 (i : Int) ∧ i ≤ 3 ∧ Aside0 (wr.heap[g8]? = some (.cells #[.int .i64 x, .int .i64 y, .int .i64 z, .string c2] 25 (0, 0))) ∧ Aside0 (wr.heap[g2]? = some (.cells #[.int .i64 0, .int .i64 0, .int .i64 0, .string (⟨#[]⟩ : ByteArray)] 25 (0, 0))) ∧ Aside0 (Kd.R Kd.string 9 wr w.heap.size (fun _ => True) (.slice Ao4 l.length co4) l) ∧ Aside0 (Below w.heap.size w wr) ∧ Aside0 (i = 0 ∧ impl_ParseVersion.n0 k a0 c2 (rdOf ByteArray.empty l 0) (rdOf ByteArray.empty l 1) (rdOf ByteArray.empty l 2) = some (r1, r2, r3, r4, r5) ∨ i = 1 ∧ impl_ParseVersion.n1 k a0 c2 (rdOf ByteArray.empty l 1) (rdOf ByteArray.empty l 2) x = some (r1, r2, r3, r4, r5) ∨ i = 2 ∧ impl_ParseVersion.n2 k a0 c2 (rdOf ByteArray.empty l 2) x y = some (r1, r2, r3, r4, r5) ∨ i = 3 ∧ impl_ParseVersion.n3 k a0 c2 x y z = some (r1, r2, r3, r4, r5)))
   (fun v32 _ => 3 - (intOf v32).toNat)
  case atStart => exact ⟨0, 0, 0, 0, rfl, zp, ⟨impl_ParseVersion.four BK8.out _ _ _ _⟩, ⟨impl_ParseVersion.fourF BK2.out NE28.out _ _ _ _⟩, ⟨impl_ParseVersion.fourO HO.out BK8.out _ _ _ _⟩, ⟨impl_ParseVersion.fourB HB.out GE8.out _ _ _ _⟩, ⟨.inl ⟨rfl, H.out⟩⟩⟩
  case round =>
  clear H BK2 BK8 HO HB
  obtain ⟨i, x, y, z, rfl, hi, BK8, BK2, HO, HB, HA⟩ := hrel
  rcases HA.out with ⟨rfl, h⟩ | ⟨rfl, h⟩ | ⟨rfl, h⟩ | ⟨rfl, h⟩
  ·obtain ⟨⟨n, OK⟩, A0, h2⟩ := Option.bind_eq_some_iff.mp h
   have AN := zi A0
   clear A0 HA h
   have p1 : (0 : Int) < (l.length : Int) := by omega
   obtain ⟨ad, e, hx⟩ := Kd.at_string (Kd.R_reads' HO.out).2.2 (0 : Int) zt p1
   replace hx : wr.cell? ad = some (.string (rdOf ByteArray.empty l 0)) := hx
   cases e
   replace p1 := eq_true p1
   have hu27 := Tryz.underlying25
   cases OK with
   | true =>
    have HT := zi (show impl_ParseVersion.n1 k a0 c2 (rdOf ByteArray.empty l 1) (rdOf ByteArray.empty l 2) n = some (r1, r2, r3, r4, r5) from h2)
    clear h2
    go_wp2_with (first | ((with_reducible refine gate_callee (f := 77) rfl ?_); refine goesL_ (some 41) rfl rfl Tryz.func77 zq rfl #[.string (rdOf ByteArray.empty l 0), .int .i64 7] rfl z2p ?_; (with_reducible refine (impl_numberOf.calls k (rdOf ByteArray.empty l 0) 7 n true _ AN.out).mono ?_); rintro e w5 ⟨rfl, hb⟩; refine ⟨_, rfl, ?_⟩; have n0_ := zi (below_step zz hb); have n1_ := zi (blk_below (g := g2) (o := .cells #[.int .i64 0, .int .i64 0, .int .i64 0, .string (⟨#[]⟩ : ByteArray)] 25 (0, 0)) z2r hb); have n2_ := zi (blk_below (g := g8) (o := .cells #[.int .i64 x, .int .i64 y, .int .i64 z, .string c2] 25 (0, 0)) z2s hb); have n3_ := zi (Kd.R_below z1g hb); clear HB BK2 BK8 HO hb; have HB := n0_; have BK2 := n1_; have BK8 := n2_; have HO := n3_; clear n0_ n1_ n2_ n3_; have e0 : w5.cell? ⟨g8, 0, none⟩ = some (.int .i64 x) := (blk_cell BK8.out 0).trans rfl; have e1 : w5.cell? ⟨g8, 1, none⟩ = some (.int .i64 y) := (blk_cell BK8.out 1).trans rfl; have e2 : w5.cell? ⟨g8, 2, none⟩ = some (.int .i64 z) := (blk_cell BK8.out 2).trans rfl; have e3 : w5.cell? ⟨g8, 3, none⟩ = some (.string c2) := (blk_cell BK8.out 3).trans rfl; have q0 := blk_frozen BK8.out 0; have q1 := blk_frozen BK8.out 1; have q2 := blk_frozen BK8.out 2; have q3 := blk_frozen BK8.out 3))
    exact ⟨⟨1, n, y, z, rfl, zp, ⟨blk_put BK8.out 0 _ rfl⟩, ⟨blk_far BK2.out NE28.out _⟩, ⟨Kd.R_set HO.out BK8.out zt _ _⟩, ⟨below_set HB.out GE8.out⟩, ⟨.inr (.inl ⟨rfl, HT.out⟩)⟩⟩, zt⟩
   | false =>
    have h3 : some (0, 0, 0, (⟨#[]⟩ : ByteArray), false) = some (r1, r2, r3, r4, r5) := h2
    simp only [Option.some.injEq, Prod.mk.injEq] at h3
    obtain ⟨rfl, rfl, rfl, rfl, rfl⟩ := h3
    clear h2
    go_wp2_with (first | ((with_reducible refine gate_callee (f := 77) rfl ?_); refine goesL_ (some 41) rfl rfl Tryz.func77 zq rfl #[.string (rdOf ByteArray.empty l 0), .int .i64 7] rfl z2p ?_; (with_reducible refine (impl_numberOf.calls k (rdOf ByteArray.empty l 0) 7 n false _ AN.out).mono ?_); rintro e w5 ⟨rfl, hb⟩; refine ⟨_, rfl, ?_⟩; have n0_ := zi (below_step zz hb); have n1_ := zi (blk_below (g := g2) (o := .cells #[.int .i64 0, .int .i64 0, .int .i64 0, .string (⟨#[]⟩ : ByteArray)] 25 (0, 0)) z2r hb); have n2_ := zi (blk_below (g := g8) (o := .cells #[.int .i64 x, .int .i64 y, .int .i64 z, .string c2] 25 (0, 0)) z2s hb); have n3_ := zi (Kd.R_below z1g hb); clear HB BK2 BK8 HO hb; have HB := n0_; have BK2 := n1_; have BK8 := n2_; have HO := n3_; clear n0_ n1_ n2_ n3_; have d0 : w5.cell? ⟨g2, 0, none⟩ = some (.int .i64 0) := (blk_cell BK2.out 0).trans rfl; have d1 : w5.cell? ⟨g2, 1, none⟩ = some (.int .i64 0) := (blk_cell BK2.out 1).trans rfl; have d2 : w5.cell? ⟨g2, 2, none⟩ = some (.int .i64 0) := (blk_cell BK2.out 2).trans rfl; have d3 : w5.cell? ⟨g2, 3, none⟩ = some (.string (⟨#[]⟩ : ByteArray)) := (blk_cell BK2.out 3).trans rfl; have f0 := blk_frozen BK2.out 0; have f1 := blk_frozen BK2.out 1; have f2 := blk_frozen BK2.out 2; have f3 := blk_frozen BK2.out 3))
    refine bodyPost_ret (results_ct rfl _ _ g2 25 #[.int .i64 0, .int .i64 0, .int .i64 0, .string (⟨#[]⟩ : ByteArray)] (0, 0) _ rfl (impl_ParseVersion.four BK2.out _ _ _ _) hu27 rfl zq) rfl ?_
    exact ⟨rfl, impl_ParseVersion.fourB zz GE2.out _ _ _ _⟩
  ·obtain ⟨⟨n, OK⟩, A0, h2⟩ := Option.bind_eq_some_iff.mp h
   have AN := zi A0
   clear A0 HA h
   have p1 : (1 : Int) < (l.length : Int) := by omega
   obtain ⟨ad, e, hx⟩ := Kd.at_string (Kd.R_reads' HO.out).2.2 (1 : Int) zt p1
   replace hx : wr.cell? (⟨ad.block, ad.off + 1, none⟩ : Addr) = some (.string (rdOf ByteArray.empty l 1)) := hx
   cases e
   replace p1 := eq_true p1
   have hu27 := Tryz.underlying25
   cases OK with
   | true =>
    have HT := zi (show impl_ParseVersion.n2 k a0 c2 (rdOf ByteArray.empty l 2) x n = some (r1, r2, r3, r4, r5) from h2)
    clear h2
    go_wp2_with (first | ((with_reducible refine gate_callee (f := 77) rfl ?_); refine goesL_ (some 41) rfl rfl Tryz.func77 zq rfl #[.string (rdOf ByteArray.empty l 1), .int .i64 7] rfl z2p ?_; (with_reducible refine (impl_numberOf.calls k (rdOf ByteArray.empty l 1) 7 n true _ AN.out).mono ?_); rintro e w5 ⟨rfl, hb⟩; refine ⟨_, rfl, ?_⟩; have n0_ := zi (below_step zz hb); have n1_ := zi (blk_below (g := g2) (o := .cells #[.int .i64 0, .int .i64 0, .int .i64 0, .string (⟨#[]⟩ : ByteArray)] 25 (0, 0)) z2r hb); have n2_ := zi (blk_below (g := g8) (o := .cells #[.int .i64 x, .int .i64 y, .int .i64 z, .string c2] 25 (0, 0)) z2s hb); have n3_ := zi (Kd.R_below z1g hb); clear HB BK2 BK8 HO hb; have HB := n0_; have BK2 := n1_; have BK8 := n2_; have HO := n3_; clear n0_ n1_ n2_ n3_; have e0 : w5.cell? ⟨g8, 0, none⟩ = some (.int .i64 x) := (blk_cell BK8.out 0).trans rfl; have e1 : w5.cell? ⟨g8, 1, none⟩ = some (.int .i64 y) := (blk_cell BK8.out 1).trans rfl; have e2 : w5.cell? ⟨g8, 2, none⟩ = some (.int .i64 z) := (blk_cell BK8.out 2).trans rfl; have e3 : w5.cell? ⟨g8, 3, none⟩ = some (.string c2) := (blk_cell BK8.out 3).trans rfl; have q0 := blk_frozen BK8.out 0; have q1 := blk_frozen BK8.out 1; have q2 := blk_frozen BK8.out 2; have q3 := blk_frozen BK8.out 3))
    exact ⟨⟨2, x, n, z, rfl, zp, ⟨blk_put BK8.out 1 _ rfl⟩, ⟨blk_far BK2.out NE28.out _⟩, ⟨Kd.R_set HO.out BK8.out zt _ _⟩, ⟨below_set HB.out GE8.out⟩, ⟨.inr (.inr (.inl ⟨rfl, HT.out⟩))⟩⟩, zt⟩
   | false =>
    have h3 : some (0, 0, 0, (⟨#[]⟩ : ByteArray), false) = some (r1, r2, r3, r4, r5) := h2
    simp only [Option.some.injEq, Prod.mk.injEq] at h3
    obtain ⟨rfl, rfl, rfl, rfl, rfl⟩ := h3
    clear h2
    go_wp2_with (first | ((with_reducible refine gate_callee (f := 77) rfl ?_); refine goesL_ (some 41) rfl rfl Tryz.func77 zq rfl #[.string (rdOf ByteArray.empty l 1), .int .i64 7] rfl z2p ?_; (with_reducible refine (impl_numberOf.calls k (rdOf ByteArray.empty l 1) 7 n false _ AN.out).mono ?_); rintro e w5 ⟨rfl, hb⟩; refine ⟨_, rfl, ?_⟩; have n0_ := zi (below_step zz hb); have n1_ := zi (blk_below (g := g2) (o := .cells #[.int .i64 0, .int .i64 0, .int .i64 0, .string (⟨#[]⟩ : ByteArray)] 25 (0, 0)) z2r hb); have n2_ := zi (blk_below (g := g8) (o := .cells #[.int .i64 x, .int .i64 y, .int .i64 z, .string c2] 25 (0, 0)) z2s hb); have n3_ := zi (Kd.R_below z1g hb); clear HB BK2 BK8 HO hb; have HB := n0_; have BK2 := n1_; have BK8 := n2_; have HO := n3_; clear n0_ n1_ n2_ n3_; have d0 : w5.cell? ⟨g2, 0, none⟩ = some (.int .i64 0) := (blk_cell BK2.out 0).trans rfl; have d1 : w5.cell? ⟨g2, 1, none⟩ = some (.int .i64 0) := (blk_cell BK2.out 1).trans rfl; have d2 : w5.cell? ⟨g2, 2, none⟩ = some (.int .i64 0) := (blk_cell BK2.out 2).trans rfl; have d3 : w5.cell? ⟨g2, 3, none⟩ = some (.string (⟨#[]⟩ : ByteArray)) := (blk_cell BK2.out 3).trans rfl; have f0 := blk_frozen BK2.out 0; have f1 := blk_frozen BK2.out 1; have f2 := blk_frozen BK2.out 2; have f3 := blk_frozen BK2.out 3))
    refine bodyPost_ret (results_ct rfl _ _ g2 25 #[.int .i64 0, .int .i64 0, .int .i64 0, .string (⟨#[]⟩ : ByteArray)] (0, 0) _ rfl (impl_ParseVersion.four BK2.out _ _ _ _) hu27 rfl zq) rfl ?_
    exact ⟨rfl, impl_ParseVersion.fourB zz GE2.out _ _ _ _⟩
  ·obtain ⟨⟨n, OK⟩, A0, h2⟩ := Option.bind_eq_some_iff.mp h
   have AN := zi A0
   clear A0 HA h
   have p1 : (2 : Int) < (l.length : Int) := by omega
   obtain ⟨ad, e, hx⟩ := Kd.at_string (Kd.R_reads' HO.out).2.2 (2 : Int) zt p1
   replace hx : wr.cell? (⟨ad.block, ad.off + 2, none⟩ : Addr) = some (.string (rdOf ByteArray.empty l 2)) := hx
   cases e
   replace p1 := eq_true p1
   have hu27 := Tryz.underlying25
   cases OK with
   | true =>
    have HT := zi (show impl_ParseVersion.n3 k a0 c2 x y n = some (r1, r2, r3, r4, r5) from h2)
    clear h2
    go_wp2_with (first | ((with_reducible refine gate_callee (f := 77) rfl ?_); refine goesL_ (some 41) rfl rfl Tryz.func77 zq rfl #[.string (rdOf ByteArray.empty l 2), .int .i64 7] rfl z2p ?_; (with_reducible refine (impl_numberOf.calls k (rdOf ByteArray.empty l 2) 7 n true _ AN.out).mono ?_); rintro e w5 ⟨rfl, hb⟩; refine ⟨_, rfl, ?_⟩; have n0_ := zi (below_step zz hb); have n1_ := zi (blk_below (g := g2) (o := .cells #[.int .i64 0, .int .i64 0, .int .i64 0, .string (⟨#[]⟩ : ByteArray)] 25 (0, 0)) z2r hb); have n2_ := zi (blk_below (g := g8) (o := .cells #[.int .i64 x, .int .i64 y, .int .i64 z, .string c2] 25 (0, 0)) z2s hb); have n3_ := zi (Kd.R_below z1g hb); clear HB BK2 BK8 HO hb; have HB := n0_; have BK2 := n1_; have BK8 := n2_; have HO := n3_; clear n0_ n1_ n2_ n3_; have e0 : w5.cell? ⟨g8, 0, none⟩ = some (.int .i64 x) := (blk_cell BK8.out 0).trans rfl; have e1 : w5.cell? ⟨g8, 1, none⟩ = some (.int .i64 y) := (blk_cell BK8.out 1).trans rfl; have e2 : w5.cell? ⟨g8, 2, none⟩ = some (.int .i64 z) := (blk_cell BK8.out 2).trans rfl; have e3 : w5.cell? ⟨g8, 3, none⟩ = some (.string c2) := (blk_cell BK8.out 3).trans rfl; have q0 := blk_frozen BK8.out 0; have q1 := blk_frozen BK8.out 1; have q2 := blk_frozen BK8.out 2; have q3 := blk_frozen BK8.out 3))
    exact ⟨⟨3, x, y, n, rfl, zp, ⟨blk_put BK8.out 2 _ rfl⟩, ⟨blk_far BK2.out NE28.out _⟩, ⟨Kd.R_set HO.out BK8.out zt _ _⟩, ⟨below_set HB.out GE8.out⟩, ⟨.inr (.inr (.inr ⟨rfl, HT.out⟩))⟩⟩, zt⟩
   | false =>
    have h3 : some (0, 0, 0, (⟨#[]⟩ : ByteArray), false) = some (r1, r2, r3, r4, r5) := h2
    simp only [Option.some.injEq, Prod.mk.injEq] at h3
    obtain ⟨rfl, rfl, rfl, rfl, rfl⟩ := h3
    clear h2
    go_wp2_with (first | ((with_reducible refine gate_callee (f := 77) rfl ?_); refine goesL_ (some 41) rfl rfl Tryz.func77 zq rfl #[.string (rdOf ByteArray.empty l 2), .int .i64 7] rfl z2p ?_; (with_reducible refine (impl_numberOf.calls k (rdOf ByteArray.empty l 2) 7 n false _ AN.out).mono ?_); rintro e w5 ⟨rfl, hb⟩; refine ⟨_, rfl, ?_⟩; have n0_ := zi (below_step zz hb); have n1_ := zi (blk_below (g := g2) (o := .cells #[.int .i64 0, .int .i64 0, .int .i64 0, .string (⟨#[]⟩ : ByteArray)] 25 (0, 0)) z2r hb); have n2_ := zi (blk_below (g := g8) (o := .cells #[.int .i64 x, .int .i64 y, .int .i64 z, .string c2] 25 (0, 0)) z2s hb); have n3_ := zi (Kd.R_below z1g hb); clear HB BK2 BK8 HO hb; have HB := n0_; have BK2 := n1_; have BK8 := n2_; have HO := n3_; clear n0_ n1_ n2_ n3_; have d0 : w5.cell? ⟨g2, 0, none⟩ = some (.int .i64 0) := (blk_cell BK2.out 0).trans rfl; have d1 : w5.cell? ⟨g2, 1, none⟩ = some (.int .i64 0) := (blk_cell BK2.out 1).trans rfl; have d2 : w5.cell? ⟨g2, 2, none⟩ = some (.int .i64 0) := (blk_cell BK2.out 2).trans rfl; have d3 : w5.cell? ⟨g2, 3, none⟩ = some (.string (⟨#[]⟩ : ByteArray)) := (blk_cell BK2.out 3).trans rfl; have f0 := blk_frozen BK2.out 0; have f1 := blk_frozen BK2.out 1; have f2 := blk_frozen BK2.out 2; have f3 := blk_frozen BK2.out 3))
    refine bodyPost_ret (results_ct rfl _ _ g2 25 #[.int .i64 0, .int .i64 0, .int .i64 0, .string (⟨#[]⟩ : ByteArray)] (0, 0) _ rfl (impl_ParseVersion.four BK2.out _ _ _ _) hu27 rfl zq) rfl ?_
    exact ⟨rfl, impl_ParseVersion.fourB zz GE2.out _ _ _ _⟩
  ·obtain ⟨tx, A0, h2⟩ := Option.bind_eq_some_iff.mp h
   have AT := zi A0
   clear A0 HA h ix0 ix1 ix2
   have hu27 := Tryz.underlying25
   have e0 : wr.cell? ⟨g8, 0, none⟩ = some (.int .i64 x) := (blk_cell BK8.out 0).trans rfl; have e1 : wr.cell? ⟨g8, 1, none⟩ = some (.int .i64 y) := (blk_cell BK8.out 1).trans rfl; have e2 : wr.cell? ⟨g8, 2, none⟩ = some (.int .i64 z) := (blk_cell BK8.out 2).trans rfl; have e3 : wr.cell? ⟨g8, 3, none⟩ = some (.string c2) := (blk_cell BK8.out 3).trans rfl; have q0 := blk_frozen BK8.out 0; have q1 := blk_frozen BK8.out 1; have q2 := blk_frozen BK8.out 2; have q3 := blk_frozen BK8.out 3
   by_cases c9 : tx.toList = a0.toList
   ·have c9b0 : (tx.toList == a0.toList) = true := beq_iff_eq.mpr c9
    have c9b1 : (tx.toList != a0.toList) = false := bne_eq_false_iff_eq.mpr c9
    have h3 : some (x, y, z, c2, true) = some (r1, r2, r3, r4, r5) := by have h4 : (if tx.toList = a0.toList then (some (x, y, z, c2, true)) else (some (0, 0, 0, (⟨#[]⟩ : ByteArray), false))) = some (r1, r2, r3, r4, r5) := h2; rw [if_pos c9] at h4; exact h4
    simp only [Option.some.injEq, Prod.mk.injEq] at h3
    obtain ⟨rfl, rfl, rfl, rfl, rfl⟩ := h3
    clear h2 c9
    go_wp2_with (first | ((with_reducible refine gate_callee (f := 41) rfl ?_); refine goesL_ (some 52) rfl rfl Tryz.func41 zq rfl #[.agg #[.int .i64 x, .int .i64 y, .int .i64 z, .string c2]] rfl z2p ?_; (with_reducible refine (impl_VersionText.calls k x y z c2 tx _ (globI_on HG_.out zz) AT.out).mono ?_); rintro e w5 ⟨rfl, hb⟩; refine ⟨_, rfl, ?_⟩; have n0_ := zi (below_step zz hb); have n1_ := zi (blk_below (g := g2) (o := .cells #[.int .i64 0, .int .i64 0, .int .i64 0, .string (⟨#[]⟩ : ByteArray)] 25 (0, 0)) z2r hb); have n2_ := zi (blk_below (g := g8) (o := .cells #[.int .i64 x, .int .i64 y, .int .i64 z, .string c2] 25 (0, 0)) z2s hb); clear HB BK2 BK8 hb e0 e1 e2 e3 q0 q1 q2 q3; have HB := n0_; have BK2 := n1_; have BK8 := n2_; clear n0_ n1_ n2_; have d0 : w5.cell? ⟨g2, 0, none⟩ = some (.int .i64 0) := (blk_cell BK2.out 0).trans rfl; have d1 : w5.cell? ⟨g2, 1, none⟩ = some (.int .i64 0) := (blk_cell BK2.out 1).trans rfl; have d2 : w5.cell? ⟨g2, 2, none⟩ = some (.int .i64 0) := (blk_cell BK2.out 2).trans rfl; have d3 : w5.cell? ⟨g2, 3, none⟩ = some (.string (⟨#[]⟩ : ByteArray)) := (blk_cell BK2.out 3).trans rfl; have f0 := blk_frozen BK2.out 0; have f1 := blk_frozen BK2.out 1; have f2 := blk_frozen BK2.out 2; have f3 := blk_frozen BK2.out 3; have e0 : w5.cell? ⟨g8, 0, none⟩ = some (.int .i64 x) := (blk_cell BK8.out 0).trans rfl; have e1 : w5.cell? ⟨g8, 1, none⟩ = some (.int .i64 y) := (blk_cell BK8.out 1).trans rfl; have e2 : w5.cell? ⟨g8, 2, none⟩ = some (.int .i64 z) := (blk_cell BK8.out 2).trans rfl; have e3 : w5.cell? ⟨g8, 3, none⟩ = some (.string c2) := (blk_cell BK8.out 3).trans rfl; have q0 := blk_frozen BK8.out 0; have q1 := blk_frozen BK8.out 1; have q2 := blk_frozen BK8.out 2; have q3 := blk_frozen BK8.out 3))
    refine bodyPost_ret (results_ct rfl _ _ g2 25 #[.int .i64 x, .int .i64 y, .int .i64 z, .string c2] (0, 0) _ rfl (impl_ParseVersion.four BK2.out _ _ _ _) hu27 rfl zq) rfl ?_
    exact ⟨rfl, impl_ParseVersion.fourB zz GE2.out _ _ _ _⟩
   ·have c9b0 : (tx.toList == a0.toList) = false := beq_eq_false_iff_ne.mpr c9
    have c9b1 : (tx.toList != a0.toList) = true := bne_iff_ne.mpr c9
    have h3 : some (0, 0, 0, (⟨#[]⟩ : ByteArray), false) = some (r1, r2, r3, r4, r5) := by have h4 : (if tx.toList = a0.toList then (some (x, y, z, c2, true)) else (some (0, 0, 0, (⟨#[]⟩ : ByteArray), false))) = some (r1, r2, r3, r4, r5) := h2; rw [if_neg c9] at h4; exact h4
    simp only [Option.some.injEq, Prod.mk.injEq] at h3
    obtain ⟨rfl, rfl, rfl, rfl, rfl⟩ := h3
    clear h2 c9
    go_wp2_with (first | ((with_reducible refine gate_callee (f := 41) rfl ?_); refine goesL_ (some 52) rfl rfl Tryz.func41 zq rfl #[.agg #[.int .i64 x, .int .i64 y, .int .i64 z, .string c2]] rfl z2p ?_; (with_reducible refine (impl_VersionText.calls k x y z c2 tx _ (globI_on HG_.out zz) AT.out).mono ?_); rintro e w5 ⟨rfl, hb⟩; refine ⟨_, rfl, ?_⟩; have n0_ := zi (below_step zz hb); have n1_ := zi (blk_below (g := g2) (o := .cells #[.int .i64 0, .int .i64 0, .int .i64 0, .string (⟨#[]⟩ : ByteArray)] 25 (0, 0)) z2r hb); have n2_ := zi (blk_below (g := g8) (o := .cells #[.int .i64 x, .int .i64 y, .int .i64 z, .string c2] 25 (0, 0)) z2s hb); clear HB BK2 BK8 hb e0 e1 e2 e3 q0 q1 q2 q3; have HB := n0_; have BK2 := n1_; have BK8 := n2_; clear n0_ n1_ n2_; have d0 : w5.cell? ⟨g2, 0, none⟩ = some (.int .i64 0) := (blk_cell BK2.out 0).trans rfl; have d1 : w5.cell? ⟨g2, 1, none⟩ = some (.int .i64 0) := (blk_cell BK2.out 1).trans rfl; have d2 : w5.cell? ⟨g2, 2, none⟩ = some (.int .i64 0) := (blk_cell BK2.out 2).trans rfl; have d3 : w5.cell? ⟨g2, 3, none⟩ = some (.string (⟨#[]⟩ : ByteArray)) := (blk_cell BK2.out 3).trans rfl; have f0 := blk_frozen BK2.out 0; have f1 := blk_frozen BK2.out 1; have f2 := blk_frozen BK2.out 2; have f3 := blk_frozen BK2.out 3; have e0 : w5.cell? ⟨g8, 0, none⟩ = some (.int .i64 x) := (blk_cell BK8.out 0).trans rfl; have e1 : w5.cell? ⟨g8, 1, none⟩ = some (.int .i64 y) := (blk_cell BK8.out 1).trans rfl; have e2 : w5.cell? ⟨g8, 2, none⟩ = some (.int .i64 z) := (blk_cell BK8.out 2).trans rfl; have e3 : w5.cell? ⟨g8, 3, none⟩ = some (.string c2) := (blk_cell BK8.out 3).trans rfl; have q0 := blk_frozen BK8.out 0; have q1 := blk_frozen BK8.out 1; have q2 := blk_frozen BK8.out 2; have q3 := blk_frozen BK8.out 3))
    refine bodyPost_ret (results_ct rfl _ _ g2 25 #[.int .i64 0, .int .i64 0, .int .i64 0, .string (⟨#[]⟩ : ByteArray)] (0, 0) _ rfl (impl_ParseVersion.four BK2.out _ _ _ _) hu27 rfl zq) rfl ?_
    exact ⟨rfl, impl_ParseVersion.fourB zz GE2.out _ _ _ _⟩
 ·rw [if_neg c5] at H0
  simp only [Option.some.injEq, Prod.mk.injEq] at H0
  obtain ⟨rfl, rfl, rfl, rfl, rfl⟩ := H0
  have c5b : ((l.length : Int) != 3) = true := bne_iff_ne.mpr zp
  clear c5
  go_enter Tryz.func40, Tryz.ntmps40
  go_wp2_with (first | ((with_reducible refine gate_dst (N := 2) rfl ?_); refine box_event zr (N := 2) zr (cs := #[.int .i64 0, .int .i64 0, .int .i64 0, .string (⟨#[]⟩ : ByteArray)]) (t := 25) z1h ?_; intro g2 hg w4 hbox hb; have n0_ := zi (below_step zz hb); have n1_ := zi hbox; have n2_ := zi (z6t : w.heap.size ≤ g2); clear HB; have HB := n0_; have BK2 := n1_; have GE2 := n2_; clear n0_ n1_ n2_; clear hb hbox hg) | ((with_reducible refine gate_callee (f := 75) rfl ?_); refine goesL_ (some 15) rfl rfl Tryz.func75 zq rfl #[.string a0, .string (⟨#[118]⟩ : ByteArray)] rfl z2p ?_; (with_reducible refine (strings_TrimPrefix.calls a0 (⟨#[118]⟩ : ByteArray) t _ A1.out).mono ?_); rintro e w' ⟨rfl, ⟨nd, rfl⟩⟩; refine ⟨_, rfl, ?_⟩) | ((with_reducible refine gate_callee (f := 39) rfl ?_); refine goesL_ (some 16) rfl rfl Tryz.func39 zq rfl #[.string t, .string (⟨#[45]⟩ : ByteArray)] rfl z2p ?_; (with_reducible refine (strings_Cut.calls t (⟨#[45]⟩ : ByteArray) c1 c2 c3 _ A2.out).mono ?_); rintro e w' ⟨rfl, ⟨nd, rfl⟩⟩; refine ⟨_, rfl, ?_⟩) | ((with_reducible refine gate_callee (f := 76) rfl ?_); refine goesL_ (some 21) rfl rfl Tryz.func76 zq rfl #[.string c1, .string (⟨#[46]⟩ : ByteArray)] rfl z2p ?_; (with_reducible refine (strings_Split.calls c1 (⟨#[46]⟩ : ByteArray) l _ A3.out).mono ?_); rintro e w3 ⟨v122, rfl, ho0, hb⟩; refine ⟨_, rfl, ?_⟩; have n0_ := zi (Kd.R_lower ho0 (below_size z2q)); have n2_ := zi (blk_below (g := g2) (o := .cells #[.int .i64 0, .int .i64 0, .int .i64 0, .string (⟨#[]⟩ : ByteArray)] 25 (0, 0)) z2r hb); have n1_ := zi (below_step z2q hb); clear HB BK2; have HO := n0_; have HB := n1_; have BK2 := n2_; clear n0_ n1_ n2_; (try clear hb); (try clear ho0); obtain ⟨Ao4, co4, eo4⟩ := Kd.R_slice HO.out; subst eo4; have d0 : w3.cell? ⟨g2, 0, none⟩ = some (.int .i64 0) := (blk_cell BK2.out 0).trans rfl; have d1 : w3.cell? ⟨g2, 1, none⟩ = some (.int .i64 0) := (blk_cell BK2.out 1).trans rfl; have d2 : w3.cell? ⟨g2, 2, none⟩ = some (.int .i64 0) := (blk_cell BK2.out 2).trans rfl; have d3 : w3.cell? ⟨g2, 3, none⟩ = some (.string (⟨#[]⟩ : ByteArray)) := (blk_cell BK2.out 3).trans rfl; have f0 := blk_frozen BK2.out 0; have f1 := blk_frozen BK2.out 1; have f2 := blk_frozen BK2.out 2; have f3 := blk_frozen BK2.out 3))
  refine bodyPost_ret (results_ct rfl _ _ g2 25 #[.int .i64 0, .int .i64 0, .int .i64 0, .string (⟨#[]⟩ : ByteArray)] (0, 0) _ rfl (impl_ParseVersion.four BK2.out _ _ _ _) hu27 rfl zq) rfl ?_
  exact ⟨rfl, impl_ParseVersion.fourB z2q GE2.out _ _ _ _⟩
end Go.Proofs.YtgdknepphkhnlaaGreatDoor.X
