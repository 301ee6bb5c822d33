/- The law FnEntries, as a plain statement: a drawn entry that is right comes back of its text; a name does, too. Conditions: those of the row's reading alone. -/
/- Part 9 of 12 of this claim's texts. -/
import Derived.Laws.BitsLemmas
import Derived.Test.YtgdknepphkhnlaaGreatDoorCFnEntries0
import Derived.Test.YtgdknepphkhnlaaGreatDoorCFnEntries1
import Derived.Test.YtgdknepphkhnlaaGreatDoorCFnEntries2
import Derived.Test.YtgdknepphkhnlaaGreatDoorCFnEntries3
import Derived.Test.YtgdknepphkhnlaaGreatDoorCFnEntries4
import Derived.Test.YtgdknepphkhnlaaGreatDoorCFnEntries5
import Derived.Test.YtgdknepphkhnlaaGreatDoorCFnEntries6
import Derived.Test.YtgdknepphkhnlaaGreatDoorCFnEntries7
namespace Go.Proofs.YtgdknepphkhnlaaGreatDoor.X
open Go.RowKit Go.Proofs.YtgdknepphkhnlaaGreatDoorW.PrintWords Go.Proofs.YtgdknepphkhnlaaGreatDoorW.PrintLast Go.Proofs.YtgdknepphkhnlaaGreatDoorW.PrintMore
attribute [local go_sem] max2_int min2_int max_two min_two max_three min_three max_four min_four
set_option linter.unusedVariables false
set_option linter.unusedSimpArgs false
def spec_l5Any.f (k : Nat) (s0_0 : List Int) (s0_1 : Int) (s0_2 : Int) : Option (ByteArray × Int × Int × Int × ByteArray × (List (S35)) × Int × Int) := (spec_l5Entry.f k s0_0 s0_1 s0_2).bind fun bt754 => ((spec_l1Below.f s0_0 bt754.2.2.2.2.2.2.1 bt754.2.2.2.2.2.2.2 10).bind fun bt765 => (if bt765.1 = 0 then ((spec_l4Any.f s0_0 bt765.2.1 bt765.2.2).bind fun bt768 => (some (bt768.1, bt754.2.1, bt754.2.2.1, bt754.2.2.2.1, bt754.2.2.2.2.1, bt754.2.2.2.2.2.1, bt768.2.1, bt768.2.2))) else (if bt765.1 = 1 then ((spec_l3Any.f s0_0 bt765.2.1 bt765.2.2).bind fun bt771 => (some (bt754.1, bt771.1, bt771.2.1, bt771.2.2.1, bt771.2.2.2.1, bt754.2.2.2.2.2.1, bt771.2.2.2.2.1, bt771.2.2.2.2.2))) else (if bt765.1 = 2 then ((spec_l5Need.f k s0_0 bt765.2.1 bt765.2.2).bind fun bt777 => (if bt754.2.2.2.2.2.1.length < 2513169434916 then (some (bt754.1, bt754.2.1, bt754.2.2.1, bt754.2.2.2.1, bt754.2.2.2.2.1, (bt754.2.2.2.2.2.1 ++ [(⟨bt777.1, (⟨bt777.2.1, bt777.2.2.1, bt777.2.2.2.1, bt777.2.2.2.2.1⟩ : S25)⟩ : S35)]), bt777.2.2.2.2.2.1, bt777.2.2.2.2.2.2)) else (none))) else (some (bt754.1, bt754.2.1, bt754.2.2.1, bt754.2.2.2.1, bt754.2.2.2.2.1, bt754.2.2.2.2.2.1, bt765.2.1, bt765.2.2))))))
def spec_l5Any.T8 : Bool × List (List Nat × List Nat) := (true, [([], []), ([0], [0]), ([], []), ([2], [2]), ([3], [3]), ([1, 4, 3], [1, 4]), ([0, 1, 2, 3, 4, 5], []), ([6, 5, 5, 0, 1, 2, 3, 4, 5], [5, 6])])
def spec_l5Any.B8 : List Nat := [0, 1, 0, 4, 12, 31, 63, 127]
theorem spec_l5Any.tab8 : rtab .any (opsOf Tryz.f29 8) = spec_l5Any.T8 := by kernel_rfl
theorem spec_l5Any.bits8 : waitsOk spec_l5Any.T8.2 spec_l5Any.B8 = true := by kernel_rfl
set_option maxHeartbeats 8000000 in
set_option maxRecDepth 100000 in
theorem spec_l5Any.calls (k : Nat) (g : Nat) (s0_0 : List Int) (s0_1 : Int) (s0_2 : Int) (r1 : ByteArray) (r2 : Int) (r3 : Int) (r4 : Int) (r5 : ByteArray) (r6 : List (S35)) (r7 : Int) (r8 : Int) (w0 w : World) (hI : IsS89 w0 w g s0_0 s0_1 s0_2) (hB : Below w0.heap.size w0 w) (h : spec_l5Any.f k s0_0 s0_1 s0_2 = some (r1, r2, r3, r4, r5, r6, r7, r8)) :
  Calls Tryz.prog 29 #[.pointer (some ⟨g, 0, none⟩)] w fun e w' => ∃ v5_ : Value, e = .returned (.agg #[.string r1, .int .i64 r2, .int .i64 r3, .int .i64 r4, .string r5, v5_]) ∧ Kd.R k35 35 w' w.heap.size (fun _ => True) v5_ r6 ∧ IsS89 w0 w' g s0_0 r7 r8 ∧ Below w0.heap.size w0 w' ∧ KeepBut w w' g none := by
 have hu28 := Tryz.underlying28
 have hu25 := Tryz.underlying25
 have HI0 := zi hI
 have HK := zi (KeepBut.refl w g none)
 have HL := zi hB.size
 clear hI
 have HW0 := zi hB.size
 have HB := zi hB
 clear hB
 have H := h
 unfold spec_l5Any.f at H
 clear h
 replace H := Option.bind_eq_some_iff.mp H
 obtain ⟨⟨t754, t755, t756, t757, t758, t759, t762, t763⟩, A20, H⟩ := H
 try dsimp only at H
 have A2 := zi A20
 clear A20
 replace H := Option.bind_eq_some_iff.mp H
 obtain ⟨⟨t765, t766, t767⟩, A30, H⟩ := H
 try dsimp only at H
 have A3 := zi A30
 clear A30
 by_cases c4 : t765 = 0
 ·rw [if_pos c4] at H
  have c4b0 : (t765 == 0) = true := beq_iff_eq.mpr c4
  have c4b1 : (t765 != 0) = false := bne_eq_false_iff_eq.mpr c4
  clear c4
  replace H := Option.bind_eq_some_iff.mp H
  obtain ⟨⟨t768, t769, t770⟩, A50, H⟩ := H
  try dsimp only at H
  have A5 := zi A50
  clear A50
  simp only [Option.some.injEq, Prod.mk.injEq] at H
  obtain ⟨rfl, rfl, rfl, rfl, rfl, rfl, rfl, rfl⟩ := H
  go_enter Tryz.func29, Tryz.ntmps29
  go_wp2_with (first | ((with_reducible refine gate_dst (N := 2) rfl ?_); refine box_event zr (N := 2) zr (cs := #[.string (⟨#[]⟩ : ByteArray), .int .i64 0, .int .i64 0, .int .i64 0, .string (⟨#[]⟩ : ByteArray), .slice none 0 0]) (t := 28) z1h ?_; intro gb753 hg w6 hbox hb; have n0_ := zi (IsS89.below z3q hb); have n1_ := zi (KeepBut.trans z3s (KeepBut.of_below hb g none) (.inl rfl)); have n2_ := zi (below_step z3r hb); have n3_ := zi hbox; have n4_ := zi ((z7e : w.heap.size ≤ gb753)); have n5_ := zi ((Nat.le_trans HW0.out (z7e : w.heap.size ≤ gb753) : w0.heap.size ≤ gb753)); have n6_ := zi ((z3t : g ≠ gb753)); have n7_ := zi ((z3u : gb753 ≠ g)); clear HI0; clear HK; clear HB; have HI0 := n0_; have HK := n1_; have HB := n2_; have BK753 := n3_; have GW753 := n4_; have GE753 := n5_; have NB0_753 := n6_; have NB753_0 := n7_; clear n0_ n1_ n2_ n3_ n4_ n5_ n6_ n7_; clear hb hbox hg) | ((with_reducible refine gate_callee (f := 49) rfl ?_); refine goesL_ (some 5) rfl rfl Tryz.func49 zq rfl #[.pointer (some ⟨g, 0, none⟩)] rfl zy ?_; (with_reducible refine (spec_l5Entry.calls k g s0_0 s0_1 s0_2 t754 t755 t756 t757 t758 t759 t762 t763 w0 _ ?side1 ?side2 A2.out).mono ?_); (case side1 => exact z5t); (case side2 => exact z5u); rintro e w7 ⟨v760, rfl, ho0, hi, hb, hk⟩; refine ⟨_, rfl, ?_⟩; have n0_ := zi (KeepBut.blk hk (g' := gb753) (o := .cells #[.string (⟨#[]⟩ : ByteArray), .int .i64 0, .int .i64 0, .int .i64 0, .string (⟨#[]⟩ : ByteArray), .slice none 0 0] 28 (0, 0)) z5q NB753_0.out (by simp)); have n1_ := zi (Kd.R_lower ho0 (keep_size (w := w) (g := g) (row := none) z5r)); have n2_ := zi (KeepBut.trans z5r hk (.inl rfl)); have n3_ := zi hb; have n4_ := zi hi; clear BK753; clear HK; clear HB; clear HI0; have BK753 := n0_; have HO761 := n1_; have HK := n2_; have HB := n3_; have HI0 := n4_; clear n0_ n1_ n2_ n3_ n4_; (try clear hb); (try clear hb2); (try clear hk); (try clear hi); (try clear ho0)) | ((with_reducible refine gate_dst (N := 3) rfl ?_); refine box_event zr (N := 3) zr (cs := #[.string (⟨#[]⟩ : ByteArray), .int .i64 0, .int .i64 0, .int .i64 0, .string (⟨#[]⟩ : ByteArray), .slice none 0 0]) (t := 28) z1h ?_; intro gb764 hg w8 hbox hb; have n0_ := zi (Kd.R_below z5s hb); have n1_ := zi (IsS89.below z5t hb); have n2_ := zi (blk_below (g := gb753) (o := .cells #[.string (⟨#[]⟩ : ByteArray), .int .i64 0, .int .i64 0, .int .i64 0, .string (⟨#[]⟩ : ByteArray), .slice none 0 0] 28 (0, 0)) z5q hb); have n3_ := zi (KeepBut.trans z5r (KeepBut.of_below hb g none) (.inl rfl)); have n4_ := zi (below_step z5u hb); have n5_ := zi hbox; have n6_ := zi ((z7o : w.heap.size ≤ gb764)); have n7_ := zi ((Nat.le_trans HW0.out (z7o : w.heap.size ≤ gb764) : w0.heap.size ≤ gb764)); have n8_ := zi ((z7p : gb753 ≠ gb764)); have n9_ := zi ((z7q : gb764 ≠ gb753)); have n10_ := zi ((z5v : g ≠ gb764)); have n11_ := zi ((z5w : gb764 ≠ g)); clear HO761; clear HI0; clear BK753; clear HK; clear HB; have HO761 := n0_; have HI0 := n1_; have BK753 := n2_; have HK := n3_; have HB := n4_; have BK764 := n5_; have GW764 := n6_; have GE764 := n7_; have NB753_764 := n8_; have NB764_753 := n9_; have NB0_764 := n10_; have NB764_0 := n11_; clear n0_ n1_ n2_ n3_ n4_ n5_ n6_ n7_ n8_ n9_ n10_ n11_; clear hb hbox hg; have hnb9 := NB764_753.out; have hnc9 := NB753_764.out; have hnb10 := NB764_0.out; have hnc10 := NB0_764.out; obtain ⟨hcz11_0, hcz11_1, hcz11_2, hcz11_3, hcz11_4, hcz11_5, hfz11_0, hfz11_1, hfz11_2, hfz11_3, hfz11_4, hfz11_5⟩ := zg BK764.out; obtain ⟨Ao12, co12, eo12⟩ := Kd.R_slice HO761.out; subst eo12) | ((with_reducible refine gate_callee (f := 50) rfl ?_); refine goesL_ (some 7) rfl rfl Tryz.func50 zq rfl #[.pointer (some ⟨g, 0, none⟩), .int .i64 10] rfl zy ?_; (with_reducible refine (spec_l1Below.calls g s0_0 t762 t763 10 t765 t766 t767 w0 _ ?side1 ?side2 A3.out).mono ?_); (case side1 => exact z6b); (case side2 => exact z6c); rintro e w13 ⟨rfl, hi, hb, hk⟩; refine ⟨_, rfl, ?_⟩; have n0_ := zi (KeepBut.blk hk (g' := gb753) (o := .cells #[.string (⟨#[]⟩ : ByteArray), .int .i64 0, .int .i64 0, .int .i64 0, .string (⟨#[]⟩ : ByteArray), .slice none 0 0] 28 (0, 0)) z5x NB753_0.out (by simp)); have n1_ := zi (Kd.R_mono (Kd.R_keep (IsS89.apart (show IsS89 w0 _ g s0_0 t762 t763 from by repeat (first | (with_reducible first | exact HI0.out | apply IsS89.alloc | apply IsS89.drewN | apply IsS89.drew | apply IsS89.set_1 | apply IsS89.set_2 | refine IsS89.far ?_ NB0_753.out _ | refine IsS89.far ?_ NB0_764.out _) | exact HI0.out)) (by (with_reducible repeat (first | apply Kd.R_alloc | apply Kd.R_drewN | apply Kd.R_drew)); exact (Kd.R_mono (Kd.R_far (p := ⟨gb764, 5, none⟩) (Kd.R_far (p := ⟨gb764, 4, none⟩) (Kd.R_far (p := ⟨gb764, 3, none⟩) (Kd.R_far (p := ⟨gb764, 2, none⟩) (Kd.R_far (p := ⟨gb764, 1, none⟩) (Kd.R_far (p := ⟨gb764, 0, none⟩) (Kd.R_types HO761.out BK764.out zt) (fun _ hk => hk.2) (.string t754)) (fun _ hk => hk.2) (.int .i64 t755)) (fun _ hk => hk.2) (.int .i64 t756)) (fun _ hk => hk.2) (.int .i64 t757)) (fun _ hk => hk.2) (.string t758)) (fun _ hk => hk.2) (.slice Ao12 t759.length co12)) (fun _ h_ => h_.1))) zt) hk (fun _ h => h.2)) (fun _ h => h.1)); have n2_ := zi (KeepBut.blk hk (g' := gb764) (o := .cells #[.string t754, .int .i64 t755, .int .i64 t756, .int .i64 t757, .string t758, .slice Ao12 t759.length co12] 28 (0, 0)) z5y NB764_0.out (by simp)); have n3_ := zi (KeepBut.trans z5z hk (.inl rfl)); have n4_ := zi hb; have n5_ := zi hi; clear BK753; clear HO761; clear BK764; clear HK; clear HB; clear HI0; have BK753 := n0_; have HO761 := n1_; have BK764 := n2_; have HK := n3_; have HB := n4_; have HI0 := n5_; clear n0_ n1_ n2_ n3_ n4_ n5_; (try clear hb); (try clear hb2); (try clear hk); (try clear hi)) | ((with_reducible refine gate_callee (f := 64) rfl ?_); refine goesL_ (some 11) rfl rfl Tryz.func64 zq rfl #[.pointer (some ⟨g, 0, none⟩)] rfl zy ?_; (with_reducible refine (spec_l4Any.calls g s0_0 t766 t767 t768 t769 t770 w0 _ ?side1 ?side2 A5.out).mono ?_); (case side1 => exact z6b); (case side2 => exact z6c); rintro e w14 ⟨rfl, hi, hb, hk⟩; refine ⟨_, rfl, ?_⟩; have n0_ := zi (KeepBut.blk hk (g' := gb753) (o := .cells #[.string (⟨#[]⟩ : ByteArray), .int .i64 0, .int .i64 0, .int .i64 0, .string (⟨#[]⟩ : ByteArray), .slice none 0 0] 28 (0, 0)) z5q NB753_0.out (by simp)); have n1_ := zi (Kd.R_mono (Kd.R_keep (IsS89.apart (show IsS89 w0 _ g s0_0 t766 t767 from by repeat (first | (with_reducible first | exact HI0.out | apply IsS89.alloc | apply IsS89.drewN | apply IsS89.drew | apply IsS89.set_1 | apply IsS89.set_2 | refine IsS89.far ?_ NB0_753.out _ | refine IsS89.far ?_ NB0_764.out _) | exact HI0.out)) z5s zt) hk (fun _ h => h.2)) (fun _ h => h.1)); have n2_ := zi (KeepBut.blk hk (g' := gb764) (o := .cells #[.string t754, .int .i64 t755, .int .i64 t756, .int .i64 t757, .string t758, .slice Ao12 t759.length co12] 28 (0, 0)) z6a NB764_0.out (by simp)); have n3_ := zi (KeepBut.trans z5z hk (.inl rfl)); have n4_ := zi hb; have n5_ := zi hi; clear BK753; clear HO761; clear BK764; clear HK; clear HB; clear HI0; have BK753 := n0_; have HO761 := n1_; have BK764 := n2_; have HK := n3_; have HB := n4_; have HI0 := n5_; clear n0_ n1_ n2_ n3_ n4_ n5_; (try clear hb); (try clear hb2); (try clear hk); (try clear hi); obtain ⟨hcz15_0, hcz15_1, hcz15_2, hcz15_3, hcz15_4, hcz15_5, hfz15_0, hfz15_1, hfz15_2, hfz15_3, hfz15_4, hfz15_5⟩ := zg BK764.out; have hnb16 := NB753_0.out; have hnc16 := NB0_753.out; obtain ⟨hcz17_0, hcz17_1, hcz17_2, hcz17_3, hcz17_4, hcz17_5, hfz17_0, hfz17_1, hfz17_2, hfz17_3, hfz17_4, hfz17_5⟩ := zg BK753.out))
  refine bodyPost_ret (results_cell_row rfl _ _ gb753 28 #[.string t768, .int .i64 t755, .int .i64 t756, .int .i64 t757, .string t758, .slice Ao12 t759.length co12] (0, 0) _ rfl (by (repeat refine zj ?_); refine blk_put (cs := #[.string t768, .int .i64 t755, .int .i64 t756, .int .i64 t757, .string t758, .slice none 0 0]) ?_ 5 _ rfl; (repeat refine zj ?_); refine blk_put (cs := #[.string t768, .int .i64 t755, .int .i64 t756, .int .i64 t757, .string (⟨#[]⟩ : ByteArray), .slice none 0 0]) ?_ 4 _ rfl; (repeat refine zj ?_); refine blk_put (cs := #[.string t768, .int .i64 t755, .int .i64 t756, .int .i64 0, .string (⟨#[]⟩ : ByteArray), .slice none 0 0]) ?_ 3 _ rfl; (repeat refine zj ?_); refine blk_put (cs := #[.string t768, .int .i64 t755, .int .i64 0, .int .i64 0, .string (⟨#[]⟩ : ByteArray), .slice none 0 0]) ?_ 2 _ rfl; (repeat refine zj ?_); refine blk_put (cs := #[.string t768, .int .i64 0, .int .i64 0, .int .i64 0, .string (⟨#[]⟩ : ByteArray), .slice none 0 0]) ?_ 1 _ rfl; (repeat refine zj ?_); refine blk_put (cs := #[.string (⟨#[]⟩ : ByteArray), .int .i64 0, .int .i64 0, .int .i64 0, .string (⟨#[]⟩ : ByteArray), .slice none 0 0]) ?_ 0 _ rfl; (repeat refine zj ?_); refine blk_far ?_ NB753_764.out _; (repeat refine zj ?_); exact BK753.out) Tryz.underlying28 rfl zq) rfl ?_
  exact ⟨_, z1b, by (with_reducible repeat (first | apply Kd.R_alloc | apply Kd.R_drewN | apply Kd.R_drew)); exact Kd.R_mono (Kd.R_far (p := ⟨gb753, 5, none⟩) (Kd.R_far (p := ⟨gb753, 4, none⟩) (Kd.R_far (p := ⟨gb753, 3, none⟩) (Kd.R_far (p := ⟨gb753, 2, none⟩) (Kd.R_far (p := ⟨gb753, 1, none⟩) (Kd.R_far (p := ⟨gb753, 0, none⟩) (Kd.R_far (p := ⟨gb764, 0, none⟩) (Kd.R_types (Kd.R_types HO761.out BK764.out zt) BK753.out zt) (fun _ hk => hk.1.2) (.string t768)) (fun _ hk => hk.2) (.string t768)) (fun _ hk => hk.2) (.int .i64 t755)) (fun _ hk => hk.2) (.int .i64 t756)) (fun _ hk => hk.2) (.int .i64 t757)) (fun _ hk => hk.2) (.string t758)) (fun _ hk => hk.2) (.slice Ao12 t759.length co12)) (fun _ hk => trivial), z6b, z6c, z5z⟩
 ·rw [if_neg c4] at H
  have c4b0 : (t765 == 0) = false := beq_eq_false_iff_ne.mpr c4
  have c4b1 : (t765 != 0) = true := bne_iff_ne.mpr c4
  by_cases c18 : t765 = 1
  ·rw [if_pos c18] at H
   have c18b0 : (t765 == 1) = true := beq_iff_eq.mpr c18
   have c18b1 : (t765 != 1) = false := bne_eq_false_iff_eq.mpr c18
   clear c18
   replace H := Option.bind_eq_some_iff.mp H
   obtain ⟨⟨t771, t772, t773, t774, t775, t776⟩, A190, H⟩ := H
   try dsimp only at H
   have A19 := zi A190
   clear A190
   simp only [Option.some.injEq, Prod.mk.injEq] at H
   obtain ⟨rfl, rfl, rfl, rfl, rfl, rfl, rfl, rfl⟩ := H
   go_enter Tryz.func29, Tryz.ntmps29
   go_wp2_with (first | ((with_reducible refine gate_dst (N := 2) rfl ?_); refine box_event zr (N := 2) zr (cs := #[.string (⟨#[]⟩ : ByteArray), .int .i64 0, .int .i64 0, .int .i64 0, .string (⟨#[]⟩ : ByteArray), .slice none 0 0]) (t := 28) z1h ?_; intro gb753 hg w20 hbox hb; have n0_ := zi (IsS89.below z3q hb); have n1_ := zi (KeepBut.trans z3s (KeepBut.of_below hb g none) (.inl rfl)); have n2_ := zi (below_step z3r hb); have n3_ := zi hbox; have n4_ := zi ((z7e : w.heap.size ≤ gb753)); have n5_ := zi ((Nat.le_trans HW0.out (z7e : w.heap.size ≤ gb753) : w0.heap.size ≤ gb753)); have n6_ := zi ((z3t : g ≠ gb753)); have n7_ := zi ((z3u : gb753 ≠ g)); clear HI0; clear HK; clear HB; have HI0 := n0_; have HK := n1_; have HB := n2_; have BK753 := n3_; have GW753 := n4_; have GE753 := n5_; have NB0_753 := n6_; have NB753_0 := n7_; clear n0_ n1_ n2_ n3_ n4_ n5_ n6_ n7_; clear hb hbox hg) | ((with_reducible refine gate_callee (f := 49) rfl ?_); refine goesL_ (some 5) rfl rfl Tryz.func49 zq rfl #[.pointer (some ⟨g, 0, none⟩)] rfl zy ?_; (with_reducible refine (spec_l5Entry.calls k g s0_0 s0_1 s0_2 t754 t755 t756 t757 t758 t759 t762 t763 w0 _ ?side1 ?side2 A2.out).mono ?_); (case side1 => exact z5t); (case side2 => exact z5u); rintro e w21 ⟨v760, rfl, ho0, hi, hb, hk⟩; refine ⟨_, rfl, ?_⟩; have n0_ := zi (KeepBut.blk hk (g' := gb753) (o := .cells #[.string (⟨#[]⟩ : ByteArray), .int .i64 0, .int .i64 0, .int .i64 0, .string (⟨#[]⟩ : ByteArray), .slice none 0 0] 28 (0, 0)) z5q NB753_0.out (by simp)); have n1_ := zi (Kd.R_lower ho0 (keep_size (w := w) (g := g) (row := none) z5r)); have n2_ := zi (KeepBut.trans z5r hk (.inl rfl)); have n3_ := zi hb; have n4_ := zi hi; clear BK753; clear HK; clear HB; clear HI0; have BK753 := n0_; have HO761 := n1_; have HK := n2_; have HB := n3_; have HI0 := n4_; clear n0_ n1_ n2_ n3_ n4_; (try clear hb); (try clear hb2); (try clear hk); (try clear hi); (try clear ho0)) | ((with_reducible refine gate_dst (N := 3) rfl ?_); refine box_event zr (N := 3) zr (cs := #[.string (⟨#[]⟩ : ByteArray), .int .i64 0, .int .i64 0, .int .i64 0, .string (⟨#[]⟩ : ByteArray), .slice none 0 0]) (t := 28) z1h ?_; intro gb764 hg w22 hbox hb; have n0_ := zi (Kd.R_below z5s hb); have n1_ := zi (IsS89.below z5t hb); have n2_ := zi (blk_below (g := gb753) (o := .cells #[.string (⟨#[]⟩ : ByteArray), .int .i64 0, .int .i64 0, .int .i64 0, .string (⟨#[]⟩ : ByteArray), .slice none 0 0] 28 (0, 0)) z5q hb); have n3_ := zi (KeepBut.trans z5r (KeepBut.of_below hb g none) (.inl rfl)); have n4_ := zi (below_step z5u hb); have n5_ := zi hbox; have n6_ := zi ((z7o : w.heap.size ≤ gb764)); have n7_ := zi ((Nat.le_trans HW0.out (z7o : w.heap.size ≤ gb764) : w0.heap.size ≤ gb764)); have n8_ := zi ((z7p : gb753 ≠ gb764)); have n9_ := zi ((z7q : gb764 ≠ gb753)); have n10_ := zi ((z5v : g ≠ gb764)); have n11_ := zi ((z5w : gb764 ≠ g)); clear HO761; clear HI0; clear BK753; clear HK; clear HB; have HO761 := n0_; have HI0 := n1_; have BK753 := n2_; have HK := n3_; have HB := n4_; have BK764 := n5_; have GW764 := n6_; have GE764 := n7_; have NB753_764 := n8_; have NB764_753 := n9_; have NB0_764 := n10_; have NB764_0 := n11_; clear n0_ n1_ n2_ n3_ n4_ n5_ n6_ n7_ n8_ n9_ n10_ n11_; clear hb hbox hg; have hnb23 := NB764_753.out; have hnc23 := NB753_764.out; have hnb24 := NB764_0.out; have hnc24 := NB0_764.out; obtain ⟨hcz25_0, hcz25_1, hcz25_2, hcz25_3, hcz25_4, hcz25_5, hfz25_0, hfz25_1, hfz25_2, hfz25_3, hfz25_4, hfz25_5⟩ := zg BK764.out; obtain ⟨Ao26, co26, eo26⟩ := Kd.R_slice HO761.out; subst eo26) | ((with_reducible refine gate_callee (f := 50) rfl ?_); refine goesL_ (some 7) rfl rfl Tryz.func50 zq rfl #[.pointer (some ⟨g, 0, none⟩), .int .i64 10] rfl zy ?_; (with_reducible refine (spec_l1Below.calls g s0_0 t762 t763 10 t765 t766 t767 w0 _ ?side1 ?side2 A3.out).mono ?_); (case side1 => exact z6b); (case side2 => exact z6c); rintro e w27 ⟨rfl, hi, hb, hk⟩; refine ⟨_, rfl, ?_⟩; have n0_ := zi (KeepBut.blk hk (g' := gb753) (o := .cells #[.string (⟨#[]⟩ : ByteArray), .int .i64 0, .int .i64 0, .int .i64 0, .string (⟨#[]⟩ : ByteArray), .slice none 0 0] 28 (0, 0)) z5x NB753_0.out (by simp)); have n1_ := zi (Kd.R_mono (Kd.R_keep (IsS89.apart (show IsS89 w0 _ g s0_0 t762 t763 from by repeat (first | (with_reducible first | exact HI0.out | apply IsS89.alloc | apply IsS89.drewN | apply IsS89.drew | apply IsS89.set_1 | apply IsS89.set_2 | refine IsS89.far ?_ NB0_753.out _ | refine IsS89.far ?_ NB0_764.out _) | exact HI0.out)) (by (with_reducible repeat (first | apply Kd.R_alloc | apply Kd.R_drewN | apply Kd.R_drew)); exact (Kd.R_mono (Kd.R_far (p := ⟨gb764, 5, none⟩) (Kd.R_far (p := ⟨gb764, 4, none⟩) (Kd.R_far (p := ⟨gb764, 3, none⟩) (Kd.R_far (p := ⟨gb764, 2, none⟩) (Kd.R_far (p := ⟨gb764, 1, none⟩) (Kd.R_far (p := ⟨gb764, 0, none⟩) (Kd.R_types HO761.out BK764.out zt) (fun _ hk => hk.2) (.string t754)) (fun _ hk => hk.2) (.int .i64 t755)) (fun _ hk => hk.2) (.int .i64 t756)) (fun _ hk => hk.2) (.int .i64 t757)) (fun _ hk => hk.2) (.string t758)) (fun _ hk => hk.2) (.slice Ao26 t759.length co26)) (fun _ h_ => h_.1))) zt) hk (fun _ h => h.2)) (fun _ h => h.1)); have n2_ := zi (KeepBut.blk hk (g' := gb764) (o := .cells #[.string t754, .int .i64 t755, .int .i64 t756, .int .i64 t757, .string t758, .slice Ao26 t759.length co26] 28 (0, 0)) z5y NB764_0.out (by simp)); have n3_ := zi (KeepBut.trans z5z hk (.inl rfl)); have n4_ := zi hb; have n5_ := zi hi; clear BK753; clear HO761; clear BK764; clear HK; clear HB; clear HI0; have BK753 := n0_; have HO761 := n1_; have BK764 := n2_; have HK := n3_; have HB := n4_; have HI0 := n5_; clear n0_ n1_ n2_ n3_ n4_ n5_; (try clear hb); (try clear hb2); (try clear hk); (try clear hi)) | ((with_reducible refine gate_callee (f := 65) rfl ?_); refine goesL_ (some 16) rfl rfl Tryz.func65 zq rfl #[.pointer (some ⟨g, 0, none⟩)] rfl zy ?_; (with_reducible refine (spec_l3Any.calls g s0_0 t766 t767 t771 t772 t773 t774 t775 t776 w0 _ ?side1 ?side2 A19.out).mono ?_); (case side1 => exact z6b); (case side2 => exact z6c); rintro e w28 ⟨rfl, hi, hb, hk⟩; refine ⟨_, rfl, ?_⟩; have n0_ := zi (KeepBut.blk hk (g' := gb753) (o := .cells #[.string (⟨#[]⟩ : ByteArray), .int .i64 0, .int .i64 0, .int .i64 0, .string (⟨#[]⟩ : ByteArray), .slice none 0 0] 28 (0, 0)) z5q NB753_0.out (by simp)); have n1_ := zi (Kd.R_mono (Kd.R_keep (IsS89.apart (show IsS89 w0 _ g s0_0 t766 t767 from by repeat (first | (with_reducible first | exact HI0.out | apply IsS89.alloc | apply IsS89.drewN | apply IsS89.drew | apply IsS89.set_1 | apply IsS89.set_2 | refine IsS89.far ?_ NB0_753.out _ | refine IsS89.far ?_ NB0_764.out _) | exact HI0.out)) z5s zt) hk (fun _ h => h.2)) (fun _ h => h.1)); have n2_ := zi (KeepBut.blk hk (g' := gb764) (o := .cells #[.string t754, .int .i64 t755, .int .i64 t756, .int .i64 t757, .string t758, .slice Ao26 t759.length co26] 28 (0, 0)) z6a NB764_0.out (by simp)); have n3_ := zi (KeepBut.trans z5z hk (.inl rfl)); have n4_ := zi hb; have n5_ := zi hi; clear BK753; clear HO761; clear BK764; clear HK; clear HB; clear HI0; have BK753 := n0_; have HO761 := n1_; have BK764 := n2_; have HK := n3_; have HB := n4_; have HI0 := n5_; clear n0_ n1_ n2_ n3_ n4_ n5_; (try clear hb); (try clear hb2); (try clear hk); (try clear hi); obtain ⟨hcz29_0, hcz29_1, hcz29_2, hcz29_3, hcz29_4, hcz29_5, hfz29_0, hfz29_1, hfz29_2, hfz29_3, hfz29_4, hfz29_5⟩ := zg BK764.out; have hnb30 := NB753_0.out; have hnc30 := NB0_753.out; obtain ⟨hcz31_0, hcz31_1, hcz31_2, hcz31_3, hcz31_4, hcz31_5, hfz31_0, hfz31_1, hfz31_2, hfz31_3, hfz31_4, hfz31_5⟩ := zg BK753.out))
   refine bodyPost_ret (results_cell_row rfl _ _ gb753 28 #[.string t754, .int .i64 t771, .int .i64 t772, .int .i64 t773, .string t774, .slice Ao26 t759.length co26] (0, 0) _ rfl (by (repeat refine zj ?_); refine blk_put (cs := #[.string t754, .int .i64 t771, .int .i64 t772, .int .i64 t773, .string t774, .slice none 0 0]) ?_ 5 _ rfl; (repeat refine zj ?_); refine blk_put (cs := #[.string t754, .int .i64 t771, .int .i64 t772, .int .i64 t773, .string (⟨#[]⟩ : ByteArray), .slice none 0 0]) ?_ 4 _ rfl; (repeat refine zj ?_); refine blk_put (cs := #[.string t754, .int .i64 t771, .int .i64 t772, .int .i64 0, .string (⟨#[]⟩ : ByteArray), .slice none 0 0]) ?_ 3 _ rfl; (repeat refine zj ?_); refine blk_put (cs := #[.string t754, .int .i64 t771, .int .i64 0, .int .i64 0, .string (⟨#[]⟩ : ByteArray), .slice none 0 0]) ?_ 2 _ rfl; (repeat refine zj ?_); refine blk_put (cs := #[.string t754, .int .i64 0, .int .i64 0, .int .i64 0, .string (⟨#[]⟩ : ByteArray), .slice none 0 0]) ?_ 1 _ rfl; (repeat refine zj ?_); refine blk_put (cs := #[.string (⟨#[]⟩ : ByteArray), .int .i64 0, .int .i64 0, .int .i64 0, .string (⟨#[]⟩ : ByteArray), .slice none 0 0]) ?_ 0 _ rfl; (repeat refine zj ?_); refine blk_far ?_ NB753_764.out _; (repeat refine zj ?_); refine blk_far ?_ NB753_764.out _; (repeat refine zj ?_); refine blk_far ?_ NB753_764.out _; (repeat refine zj ?_); refine blk_far ?_ NB753_764.out _; (repeat refine zj ?_); exact BK753.out) Tryz.underlying28 rfl zq) rfl ?_
   exact ⟨_, z1b, by (with_reducible repeat (first | apply Kd.R_alloc | apply Kd.R_drewN | apply Kd.R_drew)); exact Kd.R_mono (Kd.R_far (p := ⟨gb753, 5, none⟩) (Kd.R_far (p := ⟨gb753, 4, none⟩) (Kd.R_far (p := ⟨gb753, 3, none⟩) (Kd.R_far (p := ⟨gb753, 2, none⟩) (Kd.R_far (p := ⟨gb753, 1, none⟩) (Kd.R_far (p := ⟨gb753, 0, none⟩) (Kd.R_far (p := ⟨gb764, 4, none⟩) (Kd.R_far (p := ⟨gb764, 3, none⟩) (Kd.R_far (p := ⟨gb764, 2, none⟩) (Kd.R_far (p := ⟨gb764, 1, none⟩) (Kd.R_types (Kd.R_types HO761.out BK764.out zt) BK753.out zt) (fun _ hk => hk.1.2) (.int .i64 t771)) (fun _ hk => hk.1.2) (.int .i64 t772)) (fun _ hk => hk.1.2) (.int .i64 t773)) (fun _ hk => hk.1.2) (.string t774)) (fun _ hk => hk.2) (.string t754)) (fun _ hk => hk.2) (.int .i64 t771)) (fun _ hk => hk.2) (.int .i64 t772)) (fun _ hk => hk.2) (.int .i64 t773)) (fun _ hk => hk.2) (.string t774)) (fun _ hk => hk.2) (.slice Ao26 t759.length co26)) (fun _ hk => trivial), z6b, z6c, z5z⟩
  ·rw [if_neg c18] at H
   have c18b0 : (t765 == 1) = false := beq_eq_false_iff_ne.mpr c18
   have c18b1 : (t765 != 1) = true := bne_iff_ne.mpr c18
   by_cases c32 : t765 = 2
   ·rw [if_pos c32] at H
    have c32b0 : (t765 == 2) = true := beq_iff_eq.mpr c32
    have c32b1 : (t765 != 2) = false := bne_eq_false_iff_eq.mpr c32
    clear c32
    replace H := Option.bind_eq_some_iff.mp H
    obtain ⟨⟨t777, t778, t779, t780, t781, t782, t783⟩, A330, H⟩ := H
    try dsimp only at H
    have A33 := zi A330
    clear A330
    by_cases c34 : t759.length < 2513169434916
    ·rw [if_pos c34] at H
     have LMc34 := zi c34
     clear c34
     obtain ⟨y784, hy784⟩ : ∃ y_ : List (S35), y_ = (t759 ++ [(⟨t777, (⟨t778, t779, t780, t781⟩ : S25)⟩ : S35)]) := ⟨_, rfl⟩
     replace H : (some (t754, t755, t756, t757, t758, y784, t782, t783)) = some (r1, r2, r3, r4, r5, r6, r7, r8) := by first | (rw [hy784]; with_reducible exact H) | (have H2_ := (Option.bind_some _ _).symm.trans H; rw [hy784]; with_reducible exact H2_) | (have H2_ := (Option.bind_some _ _).symm.trans H; with_reducible exact H2_) | with_reducible exact H | (rw [hy784]; exact H) | exact H
     have Ny784 := zi hy784
     clear hy784
     simp only [Option.some.injEq, Prod.mk.injEq] at H
     obtain ⟨rfl, rfl, rfl, rfl, rfl, rfl, rfl, rfl⟩ := H
     go_enter Tryz.func29, Tryz.ntmps29
     try go_wp2_with (first | ((with_reducible refine gate_dst (N := 2) rfl ?_); refine box_event zr (N := 2) zr (cs := #[.string (⟨#[]⟩ : ByteArray), .int .i64 0, .int .i64 0, .int .i64 0, .string (⟨#[]⟩ : ByteArray), .slice none 0 0]) (t := 28) z1h ?_; intro gb753 hg w35 hbox hb; have n0_ := zi (IsS89.below z3q hb); have n1_ := zi (KeepBut.trans z3s (KeepBut.of_below hb g none) (.inl rfl)); have n2_ := zi (below_step z3r hb); have n3_ := zi hbox; have n4_ := zi ((z7e : w.heap.size ≤ gb753)); have n5_ := zi ((Nat.le_trans HW0.out (z7e : w.heap.size ≤ gb753) : w0.heap.size ≤ gb753)); have n6_ := zi ((z3t : g ≠ gb753)); have n7_ := zi ((z3u : gb753 ≠ g)); clear HI0; clear HK; clear HB; have HI0 := n0_; have HK := n1_; have HB := n2_; have BK753 := n3_; have GW753 := n4_; have GE753 := n5_; have NB0_753 := n6_; have NB753_0 := n7_; clear n0_ n1_ n2_ n3_ n4_ n5_ n6_ n7_; clear hb hbox hg) | ((with_reducible refine gate_callee (f := 49) rfl ?_); refine goesL_ (some 5) rfl rfl Tryz.func49 zq rfl #[.pointer (some ⟨g, 0, none⟩)] rfl zy ?_; (with_reducible refine (spec_l5Entry.calls k g s0_0 s0_1 s0_2 t754 t755 t756 t757 t758 t759 t762 t763 w0 _ ?side1 ?side2 A2.out).mono ?_); (case side1 => exact z5t); (case side2 => exact z5u); rintro e w36 ⟨v760, rfl, ho0, hi, hb, hk⟩; refine ⟨_, rfl, ?_⟩; have n0_ := zi (KeepBut.blk hk (g' := gb753) (o := .cells #[.string (⟨#[]⟩ : ByteArray), .int .i64 0, .int .i64 0, .int .i64 0, .string (⟨#[]⟩ : ByteArray), .slice none 0 0] 28 (0, 0)) z5q NB753_0.out (by simp)); have n1_ := zi (Kd.R_lower ho0 (keep_size (w := w) (g := g) (row := none) z5r)); have n2_ := zi (KeepBut.trans z5r hk (.inl rfl)); have n3_ := zi hb; have n4_ := zi hi; clear BK753; clear HK; clear HB; clear HI0; have BK753 := n0_; have HO761 := n1_; have HK := n2_; have HB := n3_; have HI0 := n4_; clear n0_ n1_ n2_ n3_ n4_; (try clear hb); (try clear hb2); (try clear hk); (try clear hi); (try clear ho0)) | ((with_reducible refine gate_dst (N := 3) rfl ?_); refine box_event zr (N := 3) zr (cs := #[.string (⟨#[]⟩ : ByteArray), .int .i64 0, .int .i64 0, .int .i64 0, .string (⟨#[]⟩ : ByteArray), .slice none 0 0]) (t := 28) z1h ?_; intro gb764 hg w37 hbox hb; have n0_ := zi (Kd.R_below z5s hb); have n1_ := zi (IsS89.below z5t hb); have n2_ := zi (blk_below (g := gb753) (o := .cells #[.string (⟨#[]⟩ : ByteArray), .int .i64 0, .int .i64 0, .int .i64 0, .string (⟨#[]⟩ : ByteArray), .slice none 0 0] 28 (0, 0)) z5q hb); have n3_ := zi (KeepBut.trans z5r (KeepBut.of_below hb g none) (.inl rfl)); have n4_ := zi (below_step z5u hb); have n5_ := zi hbox; have n6_ := zi ((z7o : w.heap.size ≤ gb764)); have n7_ := zi ((Nat.le_trans HW0.out (z7o : w.heap.size ≤ gb764) : w0.heap.size ≤ gb764)); have n8_ := zi ((z7p : gb753 ≠ gb764)); have n9_ := zi ((z7q : gb764 ≠ gb753)); have n10_ := zi ((z5v : g ≠ gb764)); have n11_ := zi ((z5w : gb764 ≠ g)); clear HO761; clear HI0; clear BK753; clear HK; clear HB; have HO761 := n0_; have HI0 := n1_; have BK753 := n2_; have HK := n3_; have HB := n4_; have BK764 := n5_; have GW764 := n6_; have GE764 := n7_; have NB753_764 := n8_; have NB764_753 := n9_; have NB0_764 := n10_; have NB764_0 := n11_; clear n0_ n1_ n2_ n3_ n4_ n5_ n6_ n7_ n8_ n9_ n10_ n11_; clear hb hbox hg; have hnb38 := NB764_753.out; have hnc38 := NB753_764.out; have hnb39 := NB764_0.out; have hnc39 := NB0_764.out; obtain ⟨hcz40_0, hcz40_1, hcz40_2, hcz40_3, hcz40_4, hcz40_5, hfz40_0, hfz40_1, hfz40_2, hfz40_3, hfz40_4, hfz40_5⟩ := zg BK764.out; obtain ⟨Ao41, co41, eo41⟩ := Kd.R_slice HO761.out; subst eo41) | ((with_reducible refine gate_callee (f := 50) rfl ?_); refine goesL_ (some 7) rfl rfl Tryz.func50 zq rfl #[.pointer (some ⟨g, 0, none⟩), .int .i64 10] rfl zy ?_; (with_reducible refine (spec_l1Below.calls g s0_0 t762 t763 10 t765 t766 t767 w0 _ ?side1 ?side2 A3.out).mono ?_); (case side1 => exact z6b); (case side2 => exact z6c); rintro e w42 ⟨rfl, hi, hb, hk⟩; refine ⟨_, rfl, ?_⟩; have n0_ := zi (KeepBut.blk hk (g' := gb753) (o := .cells #[.string (⟨#[]⟩ : ByteArray), .int .i64 0, .int .i64 0, .int .i64 0, .string (⟨#[]⟩ : ByteArray), .slice none 0 0] 28 (0, 0)) z5x NB753_0.out (by simp)); have n1_ := zi (Kd.R_mono (Kd.R_keep (IsS89.apart (show IsS89 w0 _ g s0_0 t762 t763 from by repeat (first | (with_reducible first | exact HI0.out | apply IsS89.alloc | apply IsS89.drewN | apply IsS89.drew | apply IsS89.set_1 | apply IsS89.set_2 | refine IsS89.far ?_ NB0_753.out _ | refine IsS89.far ?_ NB0_764.out _) | exact HI0.out)) (by (with_reducible repeat (first | apply Kd.R_alloc | apply Kd.R_drewN | apply Kd.R_drew)); exact (Kd.R_mono (Kd.R_far (p := ⟨gb764, 5, none⟩) (Kd.R_far (p := ⟨gb764, 4, none⟩) (Kd.R_far (p := ⟨gb764, 3, none⟩) (Kd.R_far (p := ⟨gb764, 2, none⟩) (Kd.R_far (p := ⟨gb764, 1, none⟩) (Kd.R_far (p := ⟨gb764, 0, none⟩) (Kd.R_types HO761.out BK764.out zt) (fun _ hk => hk.2) (.string t754)) (fun _ hk => hk.2) (.int .i64 t755)) (fun _ hk => hk.2) (.int .i64 t756)) (fun _ hk => hk.2) (.int .i64 t757)) (fun _ hk => hk.2) (.string t758)) (fun _ hk => hk.2) (.slice Ao41 t759.length co41)) (fun _ h_ => h_.1))) zt) hk (fun _ h => h.2)) (fun _ h => h.1)); have n2_ := zi (KeepBut.blk hk (g' := gb764) (o := .cells #[.string t754, .int .i64 t755, .int .i64 t756, .int .i64 t757, .string t758, .slice Ao41 t759.length co41] 28 (0, 0)) z5y NB764_0.out (by simp)); have n3_ := zi (KeepBut.trans z5z hk (.inl rfl)); have n4_ := zi hb; have n5_ := zi hi; clear BK753; clear HO761; clear BK764; clear HK; clear HB; clear HI0; have BK753 := n0_; have HO761 := n1_; have BK764 := n2_; have HK := n3_; have HB := n4_; have HI0 := n5_; clear n0_ n1_ n2_ n3_ n4_ n5_; (try clear hb); (try clear hb2); (try clear hk); (try clear hi)))
     have n0_ := zi (Kd.R_drew HO761.out)
     have n1_ := zi (blk_drew BK753.out)
     have n2_ := zi (blk_drew BK764.out)
     have n3_ := zi (IsS89.drew HI0.out)
     have n4_ := zi (keep_drew HK.out)
     have n5_ := zi (below_drew1 HB.out)
     clear HO761
     clear BK753
     clear BK764
     clear HI0
     clear HK
     clear HB
     have HO761 := n0_
     have BK753 := n1_
     have BK764 := n2_
     have HI0 := n3_
     have HK := n4_
     have HB := n5_
     clear n0_ n1_ n2_ n3_ n4_ n5_
     refine start_ (n := 8) (S := fun w' => w'.cell? ⟨gb764, 0, none⟩ = some (.string t754) ∧ w'.cell? ⟨gb764, 1, none⟩ = some (.int .i64 t755) ∧ w'.cell? ⟨gb764, 2, none⟩ = some (.int .i64 t756) ∧ w'.cell? ⟨gb764, 3, none⟩ = some (.int .i64 t757) ∧ w'.cell? ⟨gb764, 4, none⟩ = some (.string t758) ∧ w'.cell? ⟨gb764, 5, none⟩ = some (.slice Ao41 t759.length co41)) (ds := [7]) #[z7v, z7v, z7v, z7v, z7v, z7v, z7v, z7v] zq rfl rfl ⟨(blk_cell BK764.out 0).trans rfl, (blk_cell BK764.out 1).trans rfl, (blk_cell BK764.out 2).trans rfl, (blk_cell BK764.out 3).trans rfl, (blk_cell BK764.out 4).trans rfl, (blk_cell BK764.out 5).trans rfl⟩ (fun hHeld => ?_); refine with_tabW spec_l5Any.tab8 spec_l5Any.bits8 (fun HT_ HW_ => ?_)
     generalize w42.drew = w43 at HO761 BK753 BK764 HI0 HK HB hHeld ⊢
     refine zk 0 (some 20) #[z7u, z7v, z7v, z7v, z7v, z7v, z7v, z7v] rfl rfl ?_
     refine zk 2 (some 22) #[z7u, z7v, z7u, z7v, z7v, z7v, z7v, z7v] rfl rfl ?_
     refine zm 1 (some 21) #[z7u, z7u, z7u, z7v, z7v, z7v, z7v, z7v] rfl rfl (Or.inl ⟨zr, by rintro w' ⟨s0, s1, s2, s3, s4, s5⟩; go_simp; with_reducible rfl⟩) hHeld ?_
     refine one_ (i := 3) (N := some 23) #[z7u, z7u, z7u, z7u, z7v, z7v, z7v, z7v] rfl rfl (one_of HT_.out zq) zt (fun K hK => ?_)
     refine goes_ Tryz.func52 zq rfl #[.pointer (some ⟨g, 0, none⟩)] zr rfl rfl zy ?_
     with_reducible refine (spec_l5Need.calls k g s0_0 t766 t767 t777 t778 t779 t780 t781 t782 t783 w0 _ ?side1 ?side2 A33.out).mono ?_
     (case side1 => exact z6b)
     (case side2 => exact z6c)
     rintro e w44 ⟨rfl, hi, hb, hk⟩
     refine ⟨_, rfl, ?_⟩
     have n0_ := zi (KeepBut.blk hk (g' := gb753) (o := .cells #[.string (⟨#[]⟩ : ByteArray), .int .i64 0, .int .i64 0, .int .i64 0, .string (⟨#[]⟩ : ByteArray), .slice none 0 0] 28 (0, 0)) z5q NB753_0.out (by simp))
     have n1_ := zi (Kd.R_mono (Kd.R_keep (IsS89.apart (show IsS89 w0 _ g s0_0 t766 t767 from by repeat (first | (with_reducible first | exact HI0.out | apply IsS89.alloc | apply IsS89.drewN | apply IsS89.drew | apply IsS89.set_1 | apply IsS89.set_2 | refine IsS89.far ?_ NB0_753.out _ | refine IsS89.far ?_ NB0_764.out _) | exact HI0.out)) z5s zt) hk (fun _ h => h.2)) (fun _ h => h.1))
     have n2_ := zi (KeepBut.blk hk (g' := gb764) (o := .cells #[.string t754, .int .i64 t755, .int .i64 t756, .int .i64 t757, .string t758, .slice Ao41 t759.length co41] 28 (0, 0)) z6a NB764_0.out (by simp))
     have n3_ := zi (KeepBut.trans z5z hk (.inl rfl))
     have n4_ := zi hb
     have n5_ := zi hi
     clear BK753
     clear HO761
     clear BK764
     clear HK
     clear HB
     clear HI0
     have BK753 := n0_
     have HO761 := n1_
     have BK764 := n2_
     have HK := n3_
     have HB := n4_
     have HI0 := n5_
     clear n0_ n1_ n2_ n3_ n4_ n5_
     (try clear hb)
     (try clear hb2)
     (try clear hk)
     (try clear hi)
     refine hK.out _ _ ⟨(blk_cell BK764.out 0).trans rfl, (blk_cell BK764.out 1).trans rfl, (blk_cell BK764.out 2).trans rfl, (blk_cell BK764.out 3).trans rfl, (blk_cell BK764.out 4).trans rfl, (blk_cell BK764.out 5).trans rfl⟩ (fun hHeld => ?_)
     clear hK K
     refine zn (some 23) rfl ?_
     refine one_ (i := 4) (N := some 24) #[z7u, z7u, z7u, z7u, z7u, z7v, z7v, z7v] rfl rfl (one_of HT_.out zq) zt (fun K hK => ?_)
     refine value_ (w1 := ?_) (v := ?_) zr rfl ?_ ?_
     rotate_left 2
     ·go_simp
      constructor
      ·rfl
      ·rfl
     refine hK.out _ _ ⟨(blk_cell (blk_alloc BK764.out _) 0).trans rfl, (blk_cell (blk_alloc BK764.out _) 1).trans rfl, (blk_cell (blk_alloc BK764.out _) 2).trans rfl, (blk_cell (blk_alloc BK764.out _) 3).trans rfl, (blk_cell (blk_alloc BK764.out _) 4).trans rfl, (blk_cell (blk_alloc BK764.out _) 5).trans rfl⟩ (fun hHeld => ?_)
     clear hK K
     refine zn (some 24) rfl ?_
     refine one_ (i := 5) (N := some 25) #[z7u, z7u, z7u, z7u, z7u, z7u, z7v, z7v] rfl rfl (one_of HT_.out zq) zt (fun K hK => ?_)
     refine Kd.R_append_step k35 w.heap.size zr (.tmp 21) (.tmp 24) 26 35 (.agg #[(.string ⟨#[]⟩), (.int .i64 0), (.int .i64 0), (.int .i64 0), (.string ⟨#[]⟩)]) 56 rfl Tryz.underlying26 info35 rfl zt zp (.slice Ao41 t759.length co41) t759 (⟨t777, (⟨t778, t779, t780, t781⟩ : S25)⟩ : S35) [.string t777, .int .i64 t778, .int .i64 t779, .int .i64 t780, .string t781] (fun _ => True) (fun _ => False) rfl rfl ?aP (fun _ hk => hk.elim) ?aF ?aO (Below.refl _ _) ?aS ?aL ?_
     (case aP => exact k35_mkM _ _ _ (⟨t777, (⟨t778, t779, t780, t781⟩ : S25)⟩ : S35))
     (case aF => exact (fun _ _ => trivial))
     (case aO => exact z5s)
     (case aS => exact (keep_size (w := w) (g := g) (row := none) z5z))
     (case aL => have := LMc34.out; omega)
     intro v785 w45 ho hb hg hat
     rw [← Ny784.out] at ho
     have n0_ := zi (IsS89.grown z6b hg (IsS89.own_ne HI0.out HO761.out zt))
     have n1_ := zi (blk_grown (g := gb753) (o := .cells #[.string (⟨#[]⟩ : ByteArray), .int .i64 0, .int .i64 0, .int .i64 0, .string (⟨#[]⟩ : ByteArray), .slice none 0 0] 28 (0, 0)) z5q hg (Kd.R_ne HO761.out BK753.out zt))
     have n2_ := zi (blk_grown (g := gb764) (o := .cells #[.string t754, .int .i64 t755, .int .i64 t756, .int .i64 t757, .string t758, .slice Ao41 t759.length co41] 28 (0, 0)) z6a hg (Kd.R_ne HO761.out BK764.out zt))
     have n3_ := zi (below_weaken z6c HL.out hb)
     have n4_ := zi (KeepBut.trans z5z (KeepBut.of_grown hg g) (Kd.R_base2 HO761.out))
     have n5_ := zi ho
     clear HI0
     clear BK753
     clear BK764
     clear HB
     clear HK
     clear HO761
     have HI0 := n0_
     have BK753 := n1_
     have BK764 := n2_
     have HB := n3_
     have HK := n4_
     have HO786 := n5_
     clear n0_ n1_ n2_ n3_ n4_ n5_
     clear ho hb hg hat
     obtain ⟨Ao46, co46, eo46⟩ := Kd.R_slice HO786.out
     (first | subst eo46 | (injection eo46 with f1_ f2_ f3_; have f4_ := f1_.symm; have f5_ := f3_.symm; clear f1_ f2_ f3_; subst f4_; subst f5_))
     refine hK.out _ _ ⟨(blk_cell BK764.out 0).trans rfl, (blk_cell BK764.out 1).trans rfl, (blk_cell BK764.out 2).trans rfl, (blk_cell BK764.out 3).trans rfl, (blk_cell BK764.out 4).trans rfl, (blk_cell BK764.out 5).trans rfl⟩ (fun hHeld => ?_)
     clear hK K
     refine zn (some 25) rfl ?_
     refine zk 6 (some 26) #[z7u, z7u, z7u, z7u, z7u, z7u, z7u, z7v] rfl rfl ?_
     refine last_ (i := 7) (N := none) #[z7u, z7u, z7u, z7u, z7u, z7u, z7u, z7u] rfl rfl (one_of HT_.out zq) zt (fun K hK => ?_)
     have hs47 : w45.cell? ⟨gb764, 5, none⟩ = some (.slice Ao41 t759.length co41) := (blk_cell BK764.out 5).trans rfl
     have hfs47 := blk_frozen BK764.out 5
     have hns47_0 := NB753_764.out
     have hms47_0 := NB764_753.out
     refine skip_ (w1 := ?_) zr rfl ?_ ?_
     rotate_left
     ·go_simp
      rfl
     refine hK.out _ _ ?_
     clear hK K
     refine done_ (done_of HT_.out zq) ?_
     obtain ⟨hcz48_0, hcz48_1, hcz48_2, hcz48_3, hcz48_4, hcz48_5, hfz48_0, hfz48_1, hfz48_2, hfz48_3, hfz48_4, hfz48_5⟩ := zg BK764.out
     have hnb49 := NB753_0.out
     have hnc49 := NB0_753.out
     obtain ⟨hcz50_0, hcz50_1, hcz50_2, hcz50_3, hcz50_4, hcz50_5, hfz50_0, hfz50_1, hfz50_2, hfz50_3, hfz50_4, hfz50_5⟩ := zg BK753.out
     try go_wp2
     refine bodyPost_ret (results_cell_row rfl _ _ gb753 28 #[.string t754, .int .i64 t755, .int .i64 t756, .int .i64 t757, .string t758, .slice Ao46 y784.length co46] (0, 0) _ rfl (by (repeat refine zj ?_); refine blk_put (cs := #[.string t754, .int .i64 t755, .int .i64 t756, .int .i64 t757, .string t758, .slice none 0 0]) ?_ 5 _ rfl; (repeat refine zj ?_); refine blk_put (cs := #[.string t754, .int .i64 t755, .int .i64 t756, .int .i64 t757, .string (⟨#[]⟩ : ByteArray), .slice none 0 0]) ?_ 4 _ rfl; (repeat refine zj ?_); refine blk_put (cs := #[.string t754, .int .i64 t755, .int .i64 t756, .int .i64 0, .string (⟨#[]⟩ : ByteArray), .slice none 0 0]) ?_ 3 _ rfl; (repeat refine zj ?_); refine blk_put (cs := #[.string t754, .int .i64 t755, .int .i64 0, .int .i64 0, .string (⟨#[]⟩ : ByteArray), .slice none 0 0]) ?_ 2 _ rfl; (repeat refine zj ?_); refine blk_put (cs := #[.string t754, .int .i64 0, .int .i64 0, .int .i64 0, .string (⟨#[]⟩ : ByteArray), .slice none 0 0]) ?_ 1 _ rfl; (repeat refine zj ?_); refine blk_put (cs := #[.string (⟨#[]⟩ : ByteArray), .int .i64 0, .int .i64 0, .int .i64 0, .string (⟨#[]⟩ : ByteArray), .slice none 0 0]) ?_ 0 _ rfl; (repeat refine zj ?_); refine blk_far ?_ NB753_764.out _; (repeat refine zj ?_); exact BK753.out) Tryz.underlying28 rfl zq) rfl ?_
     exact ⟨_, z1b, by (with_reducible repeat (first | apply Kd.R_alloc | apply Kd.R_drewN | apply Kd.R_drew)); exact Kd.R_mono (Kd.R_far (p := ⟨gb753, 5, none⟩) (Kd.R_far (p := ⟨gb753, 4, none⟩) (Kd.R_far (p := ⟨gb753, 3, none⟩) (Kd.R_far (p := ⟨gb753, 2, none⟩) (Kd.R_far (p := ⟨gb753, 1, none⟩) (Kd.R_far (p := ⟨gb753, 0, none⟩) (Kd.R_far (p := ⟨gb764, 5, none⟩) (Kd.R_types (Kd.R_types HO786.out BK764.out zt) BK753.out zt) (fun _ hk => hk.1.2) (.slice Ao46 y784.length co46)) (fun _ hk => hk.2) (.string t754)) (fun _ hk => hk.2) (.int .i64 t755)) (fun _ hk => hk.2) (.int .i64 t756)) (fun _ hk => hk.2) (.int .i64 t757)) (fun _ hk => hk.2) (.string t758)) (fun _ hk => hk.2) (.slice Ao46 y784.length co46)) (fun _ hk => trivial), z6b, z6c, z5z⟩
    ·rw [if_neg c34] at H
     exact absurd H (by simp)
   ·rw [if_neg c32] at H
    have c32b0 : (t765 == 2) = false := beq_eq_false_iff_ne.mpr c32
    have c32b1 : (t765 != 2) = true := bne_iff_ne.mpr c32
    simp only [Option.some.injEq, Prod.mk.injEq] at H
    obtain ⟨rfl, rfl, rfl, rfl, rfl, rfl, rfl, rfl⟩ := H
    go_enter Tryz.func29, Tryz.ntmps29
    go_wp2_with (first | ((with_reducible refine gate_dst (N := 2) rfl ?_); refine box_event zr (N := 2) zr (cs := #[.string (⟨#[]⟩ : ByteArray), .int .i64 0, .int .i64 0, .int .i64 0, .string (⟨#[]⟩ : ByteArray), .slice none 0 0]) (t := 28) z1h ?_; intro gb753 hg w51 hbox hb; have n0_ := zi (IsS89.below z3q hb); have n1_ := zi (KeepBut.trans z3s (KeepBut.of_below hb g none) (.inl rfl)); have n2_ := zi (below_step z3r hb); have n3_ := zi hbox; have n4_ := zi ((z7e : w.heap.size ≤ gb753)); have n5_ := zi ((Nat.le_trans HW0.out (z7e : w.heap.size ≤ gb753) : w0.heap.size ≤ gb753)); have n6_ := zi ((z3t : g ≠ gb753)); have n7_ := zi ((z3u : gb753 ≠ g)); clear HI0; clear HK; clear HB; have HI0 := n0_; have HK := n1_; have HB := n2_; have BK753 := n3_; have GW753 := n4_; have GE753 := n5_; have NB0_753 := n6_; have NB753_0 := n7_; clear n0_ n1_ n2_ n3_ n4_ n5_ n6_ n7_; clear hb hbox hg) | ((with_reducible refine gate_callee (f := 49) rfl ?_); refine goesL_ (some 5) rfl rfl Tryz.func49 zq rfl #[.pointer (some ⟨g, 0, none⟩)] rfl zy ?_; (with_reducible refine (spec_l5Entry.calls k g s0_0 s0_1 s0_2 t754 t755 t756 t757 t758 t759 t762 t763 w0 _ ?side1 ?side2 A2.out).mono ?_); (case side1 => exact z5t); (case side2 => exact z5u); rintro e w52 ⟨v760, rfl, ho0, hi, hb, hk⟩; refine ⟨_, rfl, ?_⟩; have n0_ := zi (KeepBut.blk hk (g' := gb753) (o := .cells #[.string (⟨#[]⟩ : ByteArray), .int .i64 0, .int .i64 0, .int .i64 0, .string (⟨#[]⟩ : ByteArray), .slice none 0 0] 28 (0, 0)) z5q NB753_0.out (by simp)); have n1_ := zi (Kd.R_lower ho0 (keep_size (w := w) (g := g) (row := none) z5r)); have n2_ := zi (KeepBut.trans z5r hk (.inl rfl)); have n3_ := zi hb; have n4_ := zi hi; clear BK753; clear HK; clear HB; clear HI0; have BK753 := n0_; have HO761 := n1_; have HK := n2_; have HB := n3_; have HI0 := n4_; clear n0_ n1_ n2_ n3_ n4_; (try clear hb); (try clear hb2); (try clear hk); (try clear hi); (try clear ho0)) | ((with_reducible refine gate_dst (N := 3) rfl ?_); refine box_event zr (N := 3) zr (cs := #[.string (⟨#[]⟩ : ByteArray), .int .i64 0, .int .i64 0, .int .i64 0, .string (⟨#[]⟩ : ByteArray), .slice none 0 0]) (t := 28) z1h ?_; intro gb764 hg w53 hbox hb; have n0_ := zi (Kd.R_below z5s hb); have n1_ := zi (IsS89.below z5t hb); have n2_ := zi (blk_below (g := gb753) (o := .cells #[.string (⟨#[]⟩ : ByteArray), .int .i64 0, .int .i64 0, .int .i64 0, .string (⟨#[]⟩ : ByteArray), .slice none 0 0] 28 (0, 0)) z5q hb); have n3_ := zi (KeepBut.trans z5r (KeepBut.of_below hb g none) (.inl rfl)); have n4_ := zi (below_step z5u hb); have n5_ := zi hbox; have n6_ := zi ((z7o : w.heap.size ≤ gb764)); have n7_ := zi ((Nat.le_trans HW0.out (z7o : w.heap.size ≤ gb764) : w0.heap.size ≤ gb764)); have n8_ := zi ((z7p : gb753 ≠ gb764)); have n9_ := zi ((z7q : gb764 ≠ gb753)); have n10_ := zi ((z5v : g ≠ gb764)); have n11_ := zi ((z5w : gb764 ≠ g)); clear HO761; clear HI0; clear BK753; clear HK; clear HB; have HO761 := n0_; have HI0 := n1_; have BK753 := n2_; have HK := n3_; have HB := n4_; have BK764 := n5_; have GW764 := n6_; have GE764 := n7_; have NB753_764 := n8_; have NB764_753 := n9_; have NB0_764 := n10_; have NB764_0 := n11_; clear n0_ n1_ n2_ n3_ n4_ n5_ n6_ n7_ n8_ n9_ n10_ n11_; clear hb hbox hg; have hnb54 := NB764_753.out; have hnc54 := NB753_764.out; have hnb55 := NB764_0.out; have hnc55 := NB0_764.out; obtain ⟨hcz56_0, hcz56_1, hcz56_2, hcz56_3, hcz56_4, hcz56_5, hfz56_0, hfz56_1, hfz56_2, hfz56_3, hfz56_4, hfz56_5⟩ := zg BK764.out; obtain ⟨Ao57, co57, eo57⟩ := Kd.R_slice HO761.out; subst eo57) | ((with_reducible refine gate_callee (f := 50) rfl ?_); refine goesL_ (some 7) rfl rfl Tryz.func50 zq rfl #[.pointer (some ⟨g, 0, none⟩), .int .i64 10] rfl zy ?_; (with_reducible refine (spec_l1Below.calls g s0_0 t762 t763 10 t765 t766 t767 w0 _ ?side1 ?side2 A3.out).mono ?_); (case side1 => exact z6b); (case side2 => exact z6c); rintro e w58 ⟨rfl, hi, hb, hk⟩; refine ⟨_, rfl, ?_⟩; have n0_ := zi (KeepBut.blk hk (g' := gb753) (o := .cells #[.string (⟨#[]⟩ : ByteArray), .int .i64 0, .int .i64 0, .int .i64 0, .string (⟨#[]⟩ : ByteArray), .slice none 0 0] 28 (0, 0)) z5x NB753_0.out (by simp)); have n1_ := zi (Kd.R_mono (Kd.R_keep (IsS89.apart (show IsS89 w0 _ g s0_0 t762 t763 from by repeat (first | (with_reducible first | exact HI0.out | apply IsS89.alloc | apply IsS89.drewN | apply IsS89.drew | apply IsS89.set_1 | apply IsS89.set_2 | refine IsS89.far ?_ NB0_753.out _ | refine IsS89.far ?_ NB0_764.out _) | exact HI0.out)) (by (with_reducible repeat (first | apply Kd.R_alloc | apply Kd.R_drewN | apply Kd.R_drew)); exact (Kd.R_mono (Kd.R_far (p := ⟨gb764, 5, none⟩) (Kd.R_far (p := ⟨gb764, 4, none⟩) (Kd.R_far (p := ⟨gb764, 3, none⟩) (Kd.R_far (p := ⟨gb764, 2, none⟩) (Kd.R_far (p := ⟨gb764, 1, none⟩) (Kd.R_far (p := ⟨gb764, 0, none⟩) (Kd.R_types HO761.out BK764.out zt) (fun _ hk => hk.2) (.string t754)) (fun _ hk => hk.2) (.int .i64 t755)) (fun _ hk => hk.2) (.int .i64 t756)) (fun _ hk => hk.2) (.int .i64 t757)) (fun _ hk => hk.2) (.string t758)) (fun _ hk => hk.2) (.slice Ao57 t759.length co57)) (fun _ h_ => h_.1))) zt) hk (fun _ h => h.2)) (fun _ h => h.1)); have n2_ := zi (KeepBut.blk hk (g' := gb764) (o := .cells #[.string t754, .int .i64 t755, .int .i64 t756, .int .i64 t757, .string t758, .slice Ao57 t759.length co57] 28 (0, 0)) z5y NB764_0.out (by simp)); have n3_ := zi (KeepBut.trans z5z hk (.inl rfl)); have n4_ := zi hb; have n5_ := zi hi; clear BK753; clear HO761; clear BK764; clear HK; clear HB; clear HI0; have BK753 := n0_; have HO761 := n1_; have BK764 := n2_; have HK := n3_; have HB := n4_; have HI0 := n5_; clear n0_ n1_ n2_ n3_ n4_ n5_; (try clear hb); (try clear hb2); (try clear hk); (try clear hi); obtain ⟨hcz59_0, hcz59_1, hcz59_2, hcz59_3, hcz59_4, hcz59_5, hfz59_0, hfz59_1, hfz59_2, hfz59_3, hfz59_4, hfz59_5⟩ := zg BK764.out; have hnb60 := NB753_0.out; have hnc60 := NB0_753.out; obtain ⟨hcz61_0, hcz61_1, hcz61_2, hcz61_3, hcz61_4, hcz61_5, hfz61_0, hfz61_1, hfz61_2, hfz61_3, hfz61_4, hfz61_5⟩ := zg BK753.out))
    refine bodyPost_ret (results_cell_row rfl _ _ gb753 28 #[.string t754, .int .i64 t755, .int .i64 t756, .int .i64 t757, .string t758, .slice Ao57 t759.length co57] (0, 0) _ rfl (by (repeat refine zj ?_); refine blk_put (cs := #[.string t754, .int .i64 t755, .int .i64 t756, .int .i64 t757, .string t758, .slice none 0 0]) ?_ 5 _ rfl; (repeat refine zj ?_); refine blk_put (cs := #[.string t754, .int .i64 t755, .int .i64 t756, .int .i64 t757, .string (⟨#[]⟩ : ByteArray), .slice none 0 0]) ?_ 4 _ rfl; (repeat refine zj ?_); refine blk_put (cs := #[.string t754, .int .i64 t755, .int .i64 t756, .int .i64 0, .string (⟨#[]⟩ : ByteArray), .slice none 0 0]) ?_ 3 _ rfl; (repeat refine zj ?_); refine blk_put (cs := #[.string t754, .int .i64 t755, .int .i64 0, .int .i64 0, .string (⟨#[]⟩ : ByteArray), .slice none 0 0]) ?_ 2 _ rfl; (repeat refine zj ?_); refine blk_put (cs := #[.string t754, .int .i64 0, .int .i64 0, .int .i64 0, .string (⟨#[]⟩ : ByteArray), .slice none 0 0]) ?_ 1 _ rfl; (repeat refine zj ?_); refine blk_put (cs := #[.string (⟨#[]⟩ : ByteArray), .int .i64 0, .int .i64 0, .int .i64 0, .string (⟨#[]⟩ : ByteArray), .slice none 0 0]) ?_ 0 _ rfl; (repeat refine zj ?_); exact BK753.out) Tryz.underlying28 rfl zq) rfl ?_
    exact ⟨_, z1b, by (with_reducible repeat (first | apply Kd.R_alloc | apply Kd.R_drewN | apply Kd.R_drew)); exact Kd.R_mono (Kd.R_far (p := ⟨gb753, 5, none⟩) (Kd.R_far (p := ⟨gb753, 4, none⟩) (Kd.R_far (p := ⟨gb753, 3, none⟩) (Kd.R_far (p := ⟨gb753, 2, none⟩) (Kd.R_far (p := ⟨gb753, 1, none⟩) (Kd.R_far (p := ⟨gb753, 0, none⟩) (Kd.R_types HO761.out BK753.out zt) (fun _ hk => hk.2) (.string t754)) (fun _ hk => hk.2) (.int .i64 t755)) (fun _ hk => hk.2) (.int .i64 t756)) (fun _ hk => hk.2) (.int .i64 t757)) (fun _ hk => hk.2) (.string t758)) (fun _ hk => hk.2) (.slice Ao57 t759.length co57)) (fun _ hk => trivial), z6b, z6c, z5z⟩
def spec_DrawPutEntry.f (k : Nat) (l0 : List Int) : Option (ByteArray × Int × Int × Int × ByteArray × (List (S35))) := (spec_l1New.f k l0).bind fun bt788 => ((spec_l5Any.f k bt788.1 bt788.2.1 bt788.2.2).bind fun bt792 => (some (bt792.1, bt792.2.1, bt792.2.2.1, bt792.2.2.2.1, bt792.2.2.2.2.1, bt792.2.2.2.2.2.1)))
set_option maxHeartbeats 8000000 in
set_option maxRecDepth 100000 in
theorem spec_DrawPutEntry.calls (k : Nat) (A0 : Option Addr) (c0 : Nat) (l0 : List Int) (r1 : ByteArray) (r2 : Int) (r3 : Int) (r4 : Int) (r5 : ByteArray) (r6 : List (S35)) (w : World) (hr0 : Kd.C (Kd.int .u8) w A0 l0.length l0) (hc0 : l0.length ≤ c0) (h : spec_DrawPutEntry.f k l0 = some (r1, r2, r3, r4, r5, r6)) :
  Calls Tryz.prog 8 #[.slice A0 l0.length c0] w fun e w' => ∃ v5_ : Value, e = .returned (.agg #[.string r1, .int .i64 r2, .int .i64 r3, .int .i64 r4, .string r5, v5_]) ∧ Kd.R k35 35 w' w.heap.size (fun _ => True) v5_ r6 ∧ Below w.heap.size w w' := by
 have hu28 := Tryz.underlying28
 have HR0 := zi hr0
 have HC0 := zi hc0
 clear hr0 hc0
 have HB := zi (Below.refl w.heap.size w)
 have H := h
 unfold spec_DrawPutEntry.f at H
 clear h
 replace H := Option.bind_eq_some_iff.mp H
 obtain ⟨⟨t788, t789, t790⟩, A20, H⟩ := H
 try dsimp only at H
 have A2 := zi A20
 clear A20
 replace H := Option.bind_eq_some_iff.mp H
 obtain ⟨⟨t792, t793, t794, t795, t796, t797, t800, t801⟩, A30, H⟩ := H
 try dsimp only at H
 have A3 := zi A30
 clear A30
 simp only [Option.some.injEq, Prod.mk.injEq] at H
 obtain ⟨rfl, rfl, rfl, rfl, rfl, rfl⟩ := H
 go_enter Tryz.func8, Tryz.ntmps8
 go_wp2_with (first | ((with_reducible refine gate_dst (N := 2) rfl ?_); refine box_event zr (N := 2) zr (cs := #[.string (⟨#[]⟩ : ByteArray), .int .i64 0, .int .i64 0, .int .i64 0, .string (⟨#[]⟩ : ByteArray), .slice none 0 0]) (t := 28) z1h ?_; intro gb787 hg w4 hbox hb; have n0_ := zi (below_step zz hb); have n1_ := zi hbox; have n2_ := zi ((z6t : w.heap.size ≤ gb787)); have n3_ := zi ((z6t : w.heap.size ≤ gb787)); clear HB; have HB := n0_; have BK787 := n1_; have GW787 := n2_; have GE787 := n3_; clear n0_ n1_ n2_ n3_; clear hb hbox hg) | ((with_reducible refine gate_callee (f := 28) rfl ?_); refine goesL_ (some 5) rfl rfl Tryz.func28 zq rfl #[.slice A0 l0.length c0] rfl zy ?_; (with_reducible refine (spec_l1New.calls k _ _ l0 t788 t789 t790 w _ ?side1 ?side2 ?side3 A2.out).mono ?_); (case side1 => repeat (first | (with_reducible first | exact HB.out | apply below_alloc | apply pw_below_drewN | apply below_drew1 | refine below_set ?_ GE787.out) | exact HB.out)); (case side2 => exact HR0.out); (case side3 => exact HC0.out); rintro e w5 ⟨g791, rfl, hi, hb, hb2⟩; refine ⟨_, rfl, ?_⟩; have n0_ := zi (blk_below (g := gb787) (o := .cells #[.string (⟨#[]⟩ : ByteArray), .int .i64 0, .int .i64 0, .int .i64 0, .string (⟨#[]⟩ : ByteArray), .slice none 0 0] 28 (0, 0)) z6d hb2); have n1_ := zi hb; have n2_ := zi hi; have n3_ := zi (IsS89.ne_blk hi (blk_below (g := gb787) (o := .cells #[.string (⟨#[]⟩ : ByteArray), .int .i64 0, .int .i64 0, .int .i64 0, .string (⟨#[]⟩ : ByteArray), .slice none 0 0] 28 (0, 0)) z6d hb2) zt); have n4_ := zi (Ne.symm (IsS89.ne_blk hi (blk_below (g := gb787) (o := .cells #[.string (⟨#[]⟩ : ByteArray), .int .i64 0, .int .i64 0, .int .i64 0, .string (⟨#[]⟩ : ByteArray), .slice none 0 0] 28 (0, 0)) z6d hb2) zt)); clear BK787; clear HB; have BK787 := n0_; have HB := n1_; have HI791 := n2_; have NB791_787 := n3_; have NB787_791 := n4_; clear n0_ n1_ n2_ n3_ n4_; (try clear hb); (try clear hb2); (try clear hk); (try clear hi)) | ((with_reducible refine gate_callee (f := 29) rfl ?_); refine goesL_ (some 7) rfl rfl Tryz.func29 zq rfl #[.pointer (some ⟨g791, 0, none⟩)] rfl zy ?_; (with_reducible refine (spec_l5Any.calls k g791 t788 t789 t790 t792 t793 t794 t795 t796 t797 t800 t801 w _ ?side1 ?side2 A3.out).mono ?_); (case side1 => repeat (first | (with_reducible first | exact HI791.out | apply IsS89.alloc | apply IsS89.drewN | apply IsS89.drew | apply IsS89.set_1 | apply IsS89.set_2 | refine IsS89.far ?_ NB791_787.out _) | exact HI791.out)); (case side2 => exact z6e); rintro e w6 ⟨v798, rfl, ho0, hi, hb, hk⟩; refine ⟨_, rfl, ?_⟩; have n0_ := zi (KeepBut.blk hk (g' := gb787) (o := .cells #[.string (⟨#[]⟩ : ByteArray), .int .i64 0, .int .i64 0, .int .i64 0, .string (⟨#[]⟩ : ByteArray), .slice none 0 0] 28 (0, 0)) z6d NB787_791.out (by simp)); have n1_ := zi (Kd.R_lower ho0 (below_size z6e)); have n2_ := zi hb; have n3_ := zi hi; clear BK787; clear HB; clear HI791; have BK787 := n0_; have HO799 := n1_; have HB := n2_; have HI791 := n3_; clear n0_ n1_ n2_ n3_; (try clear hb); (try clear hb2); (try clear hk); (try clear hi); (try clear ho0); have hnb7 := NB787_791.out; have hnc7 := NB791_787.out; obtain ⟨hcz8_0, hcz8_1, hcz8_2, hcz8_3, hcz8_4, hcz8_5, hfz8_0, hfz8_1, hfz8_2, hfz8_3, hfz8_4, hfz8_5⟩ := zg BK787.out; obtain ⟨Ao9, co9, eo9⟩ := Kd.R_slice HO799.out; subst eo9))
 refine bodyPost_ret (results_cell_row rfl _ _ gb787 28 #[.string t792, .int .i64 t793, .int .i64 t794, .int .i64 t795, .string t796, .slice Ao9 t797.length co9] (0, 0) _ rfl (by (repeat refine zj ?_); refine blk_put (cs := #[.string t792, .int .i64 t793, .int .i64 t794, .int .i64 t795, .string t796, .slice none 0 0]) ?_ 5 _ rfl; (repeat refine zj ?_); refine blk_put (cs := #[.string t792, .int .i64 t793, .int .i64 t794, .int .i64 t795, .string (⟨#[]⟩ : ByteArray), .slice none 0 0]) ?_ 4 _ rfl; (repeat refine zj ?_); refine blk_put (cs := #[.string t792, .int .i64 t793, .int .i64 t794, .int .i64 0, .string (⟨#[]⟩ : ByteArray), .slice none 0 0]) ?_ 3 _ rfl; (repeat refine zj ?_); refine blk_put (cs := #[.string t792, .int .i64 t793, .int .i64 0, .int .i64 0, .string (⟨#[]⟩ : ByteArray), .slice none 0 0]) ?_ 2 _ rfl; (repeat refine zj ?_); refine blk_put (cs := #[.string t792, .int .i64 0, .int .i64 0, .int .i64 0, .string (⟨#[]⟩ : ByteArray), .slice none 0 0]) ?_ 1 _ rfl; (repeat refine zj ?_); refine blk_put (cs := #[.string (⟨#[]⟩ : ByteArray), .int .i64 0, .int .i64 0, .int .i64 0, .string (⟨#[]⟩ : ByteArray), .slice none 0 0]) ?_ 0 _ rfl; (repeat refine zj ?_); exact BK787.out) Tryz.underlying28 rfl zq) rfl ?_
 exact ⟨_, z1b, by (with_reducible repeat (first | apply Kd.R_alloc | apply Kd.R_drewN | apply Kd.R_drew)); exact Kd.R_mono (Kd.R_far (p := ⟨gb787, 5, none⟩) (Kd.R_far (p := ⟨gb787, 4, none⟩) (Kd.R_far (p := ⟨gb787, 3, none⟩) (Kd.R_far (p := ⟨gb787, 2, none⟩) (Kd.R_far (p := ⟨gb787, 1, none⟩) (Kd.R_far (p := ⟨gb787, 0, none⟩) (Kd.R_types HO799.out BK787.out zt) (fun _ hk => hk.2) (.string t792)) (fun _ hk => hk.2) (.int .i64 t793)) (fun _ hk => hk.2) (.int .i64 t794)) (fun _ hk => hk.2) (.int .i64 t795)) (fun _ hk => hk.2) (.string t796)) (fun _ hk => hk.2) (.slice Ao9 t797.length co9)) (fun _ hk => trivial), z6e⟩
theorem eqA35 (d : Nat) (w : World) (x0 y0 : ByteArray) (x1 y1 : Int) (x2 y2 : Int) (x3 y3 : Int) (x4 y4 : ByteArray) :
  (Op.equalIn (d + 3) 35 (.agg #[.string x0, .int .i64 x1, .int .i64 x2, .int .i64 x3, .string x4]) (.agg #[.string y0, .int .i64 y1, .int .i64 y2, .int .i64 y3, .string y4])).run Tryz.prog w = .ok (x0.toList == y0.toList && ((x1 == y1 && (x2 == y2 && (x3 == y3 && (x4.toList == y4.toList)))))) w := by
 refine eqA_of Tryz.underlying35 zq ?_
 refine eqf_cons zr (by go_simp; rfl) (by go_simp; rfl) (by go_simp) ?_
 exact eqf_last zr (by go_simp) (by go_simp) (eqA25 (d + 0) w _ _ _ _ _ _ _ _)
end Go.Proofs.YtgdknepphkhnlaaGreatDoor.X

namespace Go.Proofs.YtgdknepphkhnlaaGreatDoor.X
open Go.RowKit Go.Proofs.YtgdknepphkhnlaaGreatDoorW.PrintWords Go.Proofs.YtgdknepphkhnlaaGreatDoorW.PrintLast Go.Proofs.YtgdknepphkhnlaaGreatDoorW.PrintMore
attribute [local go_sem] max2_int min2_int max_two min_two max_three min_three max_four min_four
set_option linter.unusedVariables false
set_option linter.unusedSimpArgs false
attribute [local go_sem high] eqA35
def laws_sameNeeds.l0 : Nat → List (S35) → List (S35) → Int → Option (Bool)
 | 0, _, _, _ => none
 | k + 1, x0, x1, x5 => if x5 < (x0.length : Int) then (if 0 ≤ x5 then (if x5 < (x1.length : Int) then (if (!((((rd_T35 x0 x5).f0).toList) == (((rd_T35 x1 x5).f0).toList)) || ((!(((rd_T35 x0 x5).f1.f0) == ((rd_T35 x1 x5).f1.f0)) || (!(((rd_T35 x0 x5).f1.f1) == ((rd_T35 x1 x5).f1.f1)) || (!(((rd_T35 x0 x5).f1.f2) == ((rd_T35 x1 x5).f1.f2)) || (!((((rd_T35 x0 x5).f1.f3).toList) == (((rd_T35 x1 x5).f1.f3).toList)))))))) = true then (some false) else (laws_sameNeeds.l0 k x0 x1 (wrap64 (x5 + 1)))) else (none)) else (none)) else (some true)
def laws_sameNeeds.f (k : Nat) (l0 : List (S35)) (l1 : List (S35)) : Option (Bool) := if (l0.length : Int) = (l1.length : Int) then (laws_sameNeeds.l0 k l0 l1 0) else (some false)
set_option maxHeartbeats 8000000 in
set_option maxRecDepth 100000 in
theorem laws_sameNeeds.calls (k : Nat) (A0 : Option Addr) (c0 : Nat) (l0 : List (S35)) (A1 : Option Addr) (c1 : Nat) (l1 : List (S35)) (r : Bool) (w : World) (hr0 : Kd.C k35 w A0 l0.length l0) (hc0 : l0.length ≤ c0) (hr1 : Kd.C k35 w A1 l1.length l1) (hc1 : l1.length ≤ c1) (h : laws_sameNeeds.f k l0 l1 = some r) :
  Calls Tryz.prog 42 #[.slice A0 l0.length c0, .slice A1 l1.length c1] w fun e w' => e = .returned (.bool r) ∧ Drawn0 w w' := by
 have hu35 := Tryz.underlying35
 have HR0 := zi hr0
 have HC0 := zi hc0
 clear hr0 hc0
 have HR1 := zi hr1
 have HC1 := zi hc1
 clear hr1 hc1
 have H := h
 unfold laws_sameNeeds.f at H
 clear h
 by_cases c3 : (l0.length : Int) = (l1.length : Int)
 ·rw [if_pos c3] at H
  have c3b0 : ((l0.length : Int) == (l1.length : Int)) = true := beq_iff_eq.mpr c3
  have c3b1 : ((l0.length : Int) != (l1.length : Int)) = false := bne_eq_false_iff_eq.mpr c3
  have c3b2 : (l0.length == l1.length) = true := by first | simpa using c3 | (simp at c3 ⊢; omega)
  clear c3
  have H' := zi H
  clear H
  go_enter Tryz.func42, Tryz.ntmps42
  go_wp2
  repeat (go_quiet (fail); try go_wp2)
  go_loopg [5] k (fun kq v5 w' => ∃ (x5_1 : Int), v5 = .int .i64 x5_1 ∧ Aside0 (laws_sameNeeds.l0 kq l0 l1 x5_1 = some r) ∧ Aside0 (kq ≤ k) ∧ Drawn0 w w')
  case atStart => exact ⟨(0), zu, H', ⟨Nat.le_refl _⟩, zv⟩
  case round =>
   clear H'
   try clear c1
   try clear p2
   try clear c3
   try clear c3b0
   try clear c3b1
   try clear c3b2
   obtain ⟨x5_1, rfl, HA, HK1, ⟨m1, rfl⟩⟩ := hrel
   cases gk with
   | zero => exact absurd HA.out (by simp [laws_sameNeeds.l0])
   | succ k1 =>
    have H := HA.out
    clear HA
    simp only [laws_sameNeeds.l0] at H
    by_cases c4 : x5_1 < (l0.length : Int)
    ·rw [if_pos c4] at H
     have c4b0 := decide_eq_true c4
     clear c4
     by_cases c5 : 0 ≤ x5_1
     ·rw [if_pos c5] at H
      have c5b0 := decide_eq_true c5
      clear c5
      by_cases c6 : x5_1 < (l1.length : Int)
      ·rw [if_pos c6] at H
       have c6b0 := decide_eq_true c6
       clear c6
       by_cases c7 : (!((((rd_T35 l0 x5_1).f0).toList) == (((rd_T35 l1 x5_1).f0).toList)) || ((!(((rd_T35 l0 x5_1).f1.f0) == ((rd_T35 l1 x5_1).f1.f0)) || (!(((rd_T35 l0 x5_1).f1.f1) == ((rd_T35 l1 x5_1).f1.f1)) || (!(((rd_T35 l0 x5_1).f1.f2) == ((rd_T35 l1 x5_1).f1.f2)) || (!((((rd_T35 l0 x5_1).f1.f3).toList) == (((rd_T35 l1 x5_1).f1.f3).toList)))))))) = true
       ·rw [if_pos c7] at H
        have c7b0 : (!((((rd_T35 l0 x5_1).f0).toList) == (((rd_T35 l1 x5_1).f0).toList)) || ((!(((rd_T35 l0 x5_1).f1.f0) == ((rd_T35 l1 x5_1).f1.f0)) || (!(((rd_T35 l0 x5_1).f1.f1) == ((rd_T35 l1 x5_1).f1.f1)) || (!(((rd_T35 l0 x5_1).f1.f2) == ((rd_T35 l1 x5_1).f1.f2)) || (!((((rd_T35 l0 x5_1).f1.f3).toList) == (((rd_T35 l1 x5_1).f1.f3).toList)))))))) = true := c7
        clear c7
        obtain rfl := Option.some.inj H
        have p802 : 0 ≤ (x5_1 : Int) := of_decide_eq_true zw
        have q802 : x5_1 < (l0.length : Int) := of_decide_eq_true zw
        obtain ⟨ad802, e802, hx802_0, hx802_1, hx802_2, hx802_3, hx802_4⟩ := at_T35 HR0.out x5_1 p802 q802
        cases e802
        replace p802 := eq_true p802
        replace q802 := eq_true q802
        have p803 : 0 ≤ (x5_1 : Int) := of_decide_eq_true zw
        have q803 : x5_1 < (l1.length : Int) := of_decide_eq_true zw
        obtain ⟨ad803, e803, hx803_0, hx803_1, hx803_2, hx803_3, hx803_4⟩ := at_T35 HR1.out x5_1 p803 q803
        cases e803
        replace p803 := eq_true p803
        replace q803 := eq_true q803
        go_wp2
        repeat (go_quiet (fail); try go_wp2)
        go_ret
        exact ⟨zu, zv⟩
       ·rw [if_neg c7] at H
        have c7b0 : (!((((rd_T35 l0 x5_1).f0).toList) == (((rd_T35 l1 x5_1).f0).toList)) || ((!(((rd_T35 l0 x5_1).f1.f0) == ((rd_T35 l1 x5_1).f1.f0)) || (!(((rd_T35 l0 x5_1).f1.f1) == ((rd_T35 l1 x5_1).f1.f1)) || (!(((rd_T35 l0 x5_1).f1.f2) == ((rd_T35 l1 x5_1).f1.f2)) || (!((((rd_T35 l0 x5_1).f1.f3).toList) == (((rd_T35 l1 x5_1).f1.f3).toList)))))))) = false := by simpa using c7
        clear c7
        have H' := zi H
        clear H
        have p802 : 0 ≤ (x5_1 : Int) := of_decide_eq_true zw
        have q802 : x5_1 < (l0.length : Int) := of_decide_eq_true zw
        obtain ⟨ad802, e802, hx802_0, hx802_1, hx802_2, hx802_3, hx802_4⟩ := at_T35 HR0.out x5_1 p802 q802
        cases e802
        replace p802 := eq_true p802
        replace q802 := eq_true q802
        have p803 : 0 ≤ (x5_1 : Int) := of_decide_eq_true zw
        have q803 : x5_1 < (l1.length : Int) := of_decide_eq_true zw
        obtain ⟨ad803, e803, hx803_0, hx803_1, hx803_2, hx803_3, hx803_4⟩ := at_T35 HR1.out x5_1 p803 q803
        cases e803
        replace p803 := eq_true p803
        replace q803 := eq_true q803
        go_wp2
        repeat (go_quiet (fail); try go_wp2)
        go_roundg k1
        case measure => have := HK1.out; omega
        case rel => exact ⟨(wrap64 (x5_1 + 1)), zu, H', ⟨zx⟩, zv⟩
      ·rw [if_neg c6] at H
       exact absurd H (by simp)
     ·rw [if_neg c5] at H
      exact absurd H (by simp)
    ·rw [if_neg c4] at H
     have c4b0 := decide_eq_false c4
     clear c4
     obtain rfl := Option.some.inj H
     go_wp2
     repeat (go_quiet (fail); try go_wp2)
     go_ret
     exact ⟨zu, zv⟩
 ·rw [if_neg c3] at H
  have c3b0 : ((l0.length : Int) == (l1.length : Int)) = false := beq_eq_false_iff_ne.mpr c3
  have c3b1 : ((l0.length : Int) != (l1.length : Int)) = true := bne_iff_ne.mpr c3
  have c3b2 : (l0.length == l1.length) = false := by first | simpa using c3 | (simp at c3 ⊢; omega)
  obtain rfl := Option.some.inj H
  go_enter Tryz.func42, Tryz.ntmps42
  go_wp2
  repeat (go_quiet (fail); try go_wp2)
  go_ret
  exact ⟨zu, zv⟩
end Go.Proofs.YtgdknepphkhnlaaGreatDoor.X

namespace Go.Proofs.YtgdknepphkhnlaaGreatDoor.X
open Go.RowKit Go.Proofs.YtgdknepphkhnlaaGreatDoorW.PrintWords Go.Proofs.YtgdknepphkhnlaaGreatDoorW.PrintLast Go.Proofs.YtgdknepphkhnlaaGreatDoorW.PrintMore
attribute [local go_sem] max2_int min2_int max_two min_two max_three min_three max_four min_four
set_option linter.unusedVariables false
set_option linter.unusedSimpArgs false
attribute [local go_sem high] eqA25
def laws_sameEntry.f (k : Nat) (a0_0 : ByteArray) (a0_1 : Int) (a0_2 : Int) (a0_3 : Int) (a0_4 : ByteArray) (l0_5 : List (S35)) (a1_0 : ByteArray) (a1_1 : Int) (a1_2 : Int) (a1_3 : Int) (a1_4 : ByteArray) (l1_5 : List (S35)) : Option (Bool) := if a0_0.toList = a1_0.toList then (if (a0_1 == a1_1 && (a0_2 == a1_2 && (a0_3 == a1_3 && (a0_4.toList == a1_4.toList)))) = true then ((laws_sameNeeds.f k l0_5 l1_5).bind fun t806 => (some t806)) else (some false)) else (some false)
set_option maxHeartbeats 8000000 in
set_option maxRecDepth 100000 in
theorem laws_sameEntry.calls (k : Nat) (a0_0 : ByteArray) (a0_1 : Int) (a0_2 : Int) (a0_3 : Int) (a0_4 : ByteArray) (A0_5 : Option Addr) (c0_5 : Nat) (l0_5 : List (S35)) (a1_0 : ByteArray) (a1_1 : Int) (a1_2 : Int) (a1_3 : Int) (a1_4 : ByteArray) (A1_5 : Option Addr) (c1_5 : Nat) (l1_5 : List (S35)) (r : Bool) (w : World) (hr0_5 : Kd.C k35 w A0_5 l0_5.length l0_5) (hc0_5 : l0_5.length ≤ c0_5) (hr1_5 : Kd.C k35 w A1_5 l1_5.length l1_5) (hc1_5 : l1_5.length ≤ c1_5) (h : laws_sameEntry.f k a0_0 a0_1 a0_2 a0_3 a0_4 l0_5 a1_0 a1_1 a1_2 a1_3 a1_4 l1_5 = some r) :
  Calls Tryz.prog 15 #[.agg #[.string a0_0, .int .i64 a0_1, .int .i64 a0_2, .int .i64 a0_3, .string a0_4, .slice A0_5 l0_5.length c0_5], .agg #[.string a1_0, .int .i64 a1_1, .int .i64 a1_2, .int .i64 a1_3, .string a1_4, .slice A1_5 l1_5.length c1_5]] w fun e w' => e = .returned (.bool r) ∧ Below w.heap.size w w' := by
 have hu28 := Tryz.underlying28
 have hu25 := Tryz.underlying25
 have HR0_5 := zi hr0_5
 have HC0_5 := zi hc0_5
 clear hr0_5 hc0_5
 have HR1_5 := zi hr1_5
 have HC1_5 := zi hc1_5
 clear hr1_5 hc1_5
 have HB := zi (Below.refl w.heap.size w)
 have H := h
 unfold laws_sameEntry.f at H
 clear h
 by_cases c3 : a0_0.toList = a1_0.toList
 ·rw [if_pos c3] at H
  have c3b0 : (a0_0.toList == a1_0.toList) = true := beq_iff_eq.mpr c3
  have c3b1 : (a0_0.toList != a1_0.toList) = false := bne_eq_false_iff_eq.mpr c3
  clear c3
  by_cases c4 : (a0_1 == a1_1 && (a0_2 == a1_2 && (a0_3 == a1_3 && (a0_4.toList == a1_4.toList)))) = true
  ·rw [if_pos c4] at H
   have c4b0 : (a0_1 == a1_1 && (a0_2 == a1_2 && (a0_3 == a1_3 && (a0_4.toList == a1_4.toList)))) = true := c4
   (try (have c4b1 : decide (a0_1 = a1_1 && (a0_2 == a1_2 && (a0_3 == a1_3 && (a0_4.toList == a1_4.toList)))) = true := by simpa using c4))
   (try (have c4b2 : (a0_1 == a1_1 && (a0_2 == a1_2 && (a0_3 == a1_3 && (a0_4.toList == a1_4.toList)))) = true := by simpa using c4))
   clear c4
   replace H := Option.bind_eq_some_iff.mp H
   obtain ⟨t806, A50, H⟩ := H
   try dsimp only at H
   have A5 := zi A50
   clear A50
   obtain rfl := Option.some.inj H
   go_enter Tryz.func15, Tryz.ntmps15
   go_wp2_with (first | ((with_reducible refine gate_dst (N := 2) rfl ?_); refine box_event zr (N := 2) zr (cs := #[.string a0_0, .int .i64 a0_1, .int .i64 a0_2, .int .i64 a0_3, .string a0_4, .slice A0_5 l0_5.length c0_5]) (t := 28) z1h ?_; intro gb804 hg w6 hbox hb; have n0_ := zi (below_step zz hb); have n1_ := zi hbox; have n2_ := zi ((z6t : w.heap.size ≤ gb804)); have n3_ := zi ((z6t : w.heap.size ≤ gb804)); clear HB; have HB := n0_; have BK804 := n1_; have GW804 := n2_; have GE804 := n3_; clear n0_ n1_ n2_ n3_; clear hb hbox hg) | ((with_reducible refine gate_dst (N := 3) rfl ?_); refine box_event zr (N := 3) zr (cs := #[.string a1_0, .int .i64 a1_1, .int .i64 a1_2, .int .i64 a1_3, .string a1_4, .slice A1_5 l1_5.length c1_5]) (t := 28) z1h ?_; intro gb805 hg w7 hbox hb; have n0_ := zi (blk_below (g := gb804) (o := .cells #[.string a0_0, .int .i64 a0_1, .int .i64 a0_2, .int .i64 a0_3, .string a0_4, .slice A0_5 l0_5.length c0_5] 28 (0, 0)) z6f hb); have n1_ := zi (below_step z6g hb); have n2_ := zi hbox; have n3_ := zi ((z7r : w.heap.size ≤ gb805)); have n4_ := zi ((z7r : w.heap.size ≤ gb805)); have n5_ := zi ((z7s : gb804 ≠ gb805)); have n6_ := zi ((z7t : gb805 ≠ gb804)); clear BK804; clear HB; have BK804 := n0_; have HB := n1_; have BK805 := n2_; have GW805 := n3_; have GE805 := n4_; have NB804_805 := n5_; have NB805_804 := n6_; clear n0_ n1_ n2_ n3_ n4_ n5_ n6_; clear hb hbox hg; have hnb8 := NB804_805.out; have hnc8 := NB805_804.out; obtain ⟨hcz9_0, hcz9_1, hcz9_2, hcz9_3, hcz9_4, hcz9_5, hfz9_0, hfz9_1, hfz9_2, hfz9_3, hfz9_4, hfz9_5⟩ := zg BK804.out; obtain ⟨hcz10_0, hcz10_1, hcz10_2, hcz10_3, hcz10_4, hcz10_5, hfz10_0, hfz10_1, hfz10_2, hfz10_3, hfz10_4, hfz10_5⟩ := zg BK805.out) | (go_at_call 42; (with_reducible refine (laws_sameNeeds.calls k _ _ l0_5 _ _ l1_5 t806 _ ?side1 ?side2 ?side3 ?side4 A5.out).mono ?_); (case side1 => exact z1r); (case side2 => exact HC0_5.out); (case side3 => repeat (first | exact (Kd.C_below HR1_5.out HB.out) | (with_reducible refine Kd.C_alloc ?_ _) | (with_reducible refine Kd.C_drewN ?_ _) | (with_reducible refine Kd.C_drew ?_))); (case side4 => exact HC1_5.out); rintro e w' ⟨rfl, ⟨nd, rfl⟩⟩))
   go_ret
   exact ⟨z1b, z6h⟩
  ·rw [if_neg c4] at H
   have c4b0 : (a0_1 == a1_1 && (a0_2 == a1_2 && (a0_3 == a1_3 && (a0_4.toList == a1_4.toList)))) = false := by simpa using c4
   (try (have c4b1 : decide (a0_1 = a1_1 && (a0_2 == a1_2 && (a0_3 == a1_3 && (a0_4.toList == a1_4.toList)))) = false := by simpa using c4))
   (try (have c4b2 : (a0_1 == a1_1 && (a0_2 == a1_2 && (a0_3 == a1_3 && (a0_4.toList == a1_4.toList)))) = false := by simpa using c4))
   (try (have c4b3 : ¬ (a0_1 = a1_1 && (a0_2 == a1_2 && (a0_3 == a1_3 && (a0_4.toList == a1_4.toList)))) := by simpa using c4))
   clear c4
   obtain rfl := Option.some.inj H
   go_enter Tryz.func15, Tryz.ntmps15
   go_wp2_with (first | ((with_reducible refine gate_dst (N := 2) rfl ?_); refine box_event zr (N := 2) zr (cs := #[.string a0_0, .int .i64 a0_1, .int .i64 a0_2, .int .i64 a0_3, .string a0_4, .slice A0_5 l0_5.length c0_5]) (t := 28) z1h ?_; intro gb804 hg w11 hbox hb; have n0_ := zi (below_step zz hb); have n1_ := zi hbox; have n2_ := zi ((z6t : w.heap.size ≤ gb804)); have n3_ := zi ((z6t : w.heap.size ≤ gb804)); clear HB; have HB := n0_; have BK804 := n1_; have GW804 := n2_; have GE804 := n3_; clear n0_ n1_ n2_ n3_; clear hb hbox hg) | ((with_reducible refine gate_dst (N := 3) rfl ?_); refine box_event zr (N := 3) zr (cs := #[.string a1_0, .int .i64 a1_1, .int .i64 a1_2, .int .i64 a1_3, .string a1_4, .slice A1_5 l1_5.length c1_5]) (t := 28) z1h ?_; intro gb805 hg w12 hbox hb; have n0_ := zi (blk_below (g := gb804) (o := .cells #[.string a0_0, .int .i64 a0_1, .int .i64 a0_2, .int .i64 a0_3, .string a0_4, .slice A0_5 l0_5.length c0_5] 28 (0, 0)) z6f hb); have n1_ := zi (below_step z6g hb); have n2_ := zi hbox; have n3_ := zi ((z7r : w.heap.size ≤ gb805)); have n4_ := zi ((z7r : w.heap.size ≤ gb805)); have n5_ := zi ((z7s : gb804 ≠ gb805)); have n6_ := zi ((z7t : gb805 ≠ gb804)); clear BK804; clear HB; have BK804 := n0_; have HB := n1_; have BK805 := n2_; have GW805 := n3_; have GE805 := n4_; have NB804_805 := n5_; have NB805_804 := n6_; clear n0_ n1_ n2_ n3_ n4_ n5_ n6_; clear hb hbox hg; have hnb13 := NB804_805.out; have hnc13 := NB805_804.out; obtain ⟨hcz14_0, hcz14_1, hcz14_2, hcz14_3, hcz14_4, hcz14_5, hfz14_0, hfz14_1, hfz14_2, hfz14_3, hfz14_4, hfz14_5⟩ := zg BK804.out; obtain ⟨hcz15_0, hcz15_1, hcz15_2, hcz15_3, hcz15_4, hcz15_5, hfz15_0, hfz15_1, hfz15_2, hfz15_3, hfz15_4, hfz15_5⟩ := zg BK805.out))
   go_ret
   exact ⟨z1b, z6h⟩
 ·rw [if_neg c3] at H
  have c3b0 : (a0_0.toList == a1_0.toList) = false := beq_eq_false_iff_ne.mpr c3
  have c3b1 : (a0_0.toList != a1_0.toList) = true := bne_iff_ne.mpr c3
  obtain rfl := Option.some.inj H
  go_enter Tryz.func15, Tryz.ntmps15
  go_wp2_with (first | ((with_reducible refine gate_dst (N := 2) rfl ?_); refine box_event zr (N := 2) zr (cs := #[.string a0_0, .int .i64 a0_1, .int .i64 a0_2, .int .i64 a0_3, .string a0_4, .slice A0_5 l0_5.length c0_5]) (t := 28) z1h ?_; intro gb804 hg w16 hbox hb; have n0_ := zi (below_step zz hb); have n1_ := zi hbox; have n2_ := zi ((z6t : w.heap.size ≤ gb804)); have n3_ := zi ((z6t : w.heap.size ≤ gb804)); clear HB; have HB := n0_; have BK804 := n1_; have GW804 := n2_; have GE804 := n3_; clear n0_ n1_ n2_ n3_; clear hb hbox hg) | ((with_reducible refine gate_dst (N := 3) rfl ?_); refine box_event zr (N := 3) zr (cs := #[.string a1_0, .int .i64 a1_1, .int .i64 a1_2, .int .i64 a1_3, .string a1_4, .slice A1_5 l1_5.length c1_5]) (t := 28) z1h ?_; intro gb805 hg w17 hbox hb; have n0_ := zi (blk_below (g := gb804) (o := .cells #[.string a0_0, .int .i64 a0_1, .int .i64 a0_2, .int .i64 a0_3, .string a0_4, .slice A0_5 l0_5.length c0_5] 28 (0, 0)) z6f hb); have n1_ := zi (below_step z6g hb); have n2_ := zi hbox; have n3_ := zi ((z7r : w.heap.size ≤ gb805)); have n4_ := zi ((z7r : w.heap.size ≤ gb805)); have n5_ := zi ((z7s : gb804 ≠ gb805)); have n6_ := zi ((z7t : gb805 ≠ gb804)); clear BK804; clear HB; have BK804 := n0_; have HB := n1_; have BK805 := n2_; have GW805 := n3_; have GE805 := n4_; have NB804_805 := n5_; have NB805_804 := n6_; clear n0_ n1_ n2_ n3_ n4_ n5_ n6_; clear hb hbox hg; have hnb18 := NB804_805.out; have hnc18 := NB805_804.out; obtain ⟨hcz19_0, hcz19_1, hcz19_2, hcz19_3, hcz19_4, hcz19_5, hfz19_0, hfz19_1, hfz19_2, hfz19_3, hfz19_4, hfz19_5⟩ := zg BK804.out; obtain ⟨hcz20_0, hcz20_1, hcz20_2, hcz20_3, hcz20_4, hcz20_5, hfz20_0, hfz20_1, hfz20_2, hfz20_3, hfz20_4, hfz20_5⟩ := zg BK805.out))
  go_ret
  exact ⟨z1b, z6h⟩
end Go.Proofs.YtgdknepphkhnlaaGreatDoor.X

namespace Go.Proofs.YtgdknepphkhnlaaGreatDoor.X
open Go.RowKit Go.Proofs.YtgdknepphkhnlaaGreatDoorW.PrintWords Go.Proofs.YtgdknepphkhnlaaGreatDoorW.PrintLast Go.Proofs.YtgdknepphkhnlaaGreatDoorW.PrintMore
attribute [local go_sem] max2_int min2_int max_two min_two max_three min_three max_four min_four
set_option linter.unusedVariables false
set_option linter.unusedSimpArgs false
def impl_NeedsOk.f (k : Nat) (l0 : List (S35)) : Option (Bool) := (impl_ascending.f k l0 20).bind fun t807 => (some t807)
set_option maxHeartbeats 8000000 in
set_option maxRecDepth 100000 in
theorem impl_NeedsOk.calls (k : Nat) (A0 : Option Addr) (c0 : Nat) (l0 : List (S35)) (r : Bool) (w : World) (hr0 : Kd.C k35 w A0 l0.length l0) (hc0 : l0.length ≤ c0) (h : impl_NeedsOk.f k l0 = some r) :
  Calls Tryz.prog 17 #[.slice A0 l0.length c0] w fun e w' => e = .returned (.bool r) ∧ Below w.heap.size w w' := by
 have HR0 := zi hr0
 have HC0 := zi hc0
 clear hr0 hc0
 have HB := zi (Below.refl w.heap.size w)
 have H := h
 unfold impl_NeedsOk.f at H
 clear h
 replace H := Option.bind_eq_some_iff.mp H
 obtain ⟨t807, A20, H⟩ := H
 try dsimp only at H
 have A2 := zi A20
 clear A20
 obtain rfl := Option.some.inj H
 go_enter Tryz.func17, Tryz.ntmps17
 go_wp2_with (first | ((with_reducible refine gate_callee (f := 36) rfl ?_); refine goesL_ (some 4) rfl rfl Tryz.func36 zq rfl #[.slice A0 l0.length c0, .int .i64 20] rfl zy ?_; (with_reducible refine (impl_ascending.calls k _ _ l0 20 t807 _ ?side1 ?side2 A2.out).mono ?_); (case side1 => exact z3a); (case side2 => exact HC0.out); rintro e w3 ⟨rfl, hb⟩; refine ⟨_, rfl, ?_⟩; have n0_ := zi (below_step zz hb); clear HB; have HB := n0_; clear n0_; (try clear hb); (try clear hb2); (try clear hk); (try clear hi)))
 go_ret
 exact ⟨z1b, zz⟩
end Go.Proofs.YtgdknepphkhnlaaGreatDoor.X

namespace Go.Proofs.YtgdknepphkhnlaaGreatDoor.X
open Go.RowKit Go.Proofs.YtgdknepphkhnlaaGreatDoorW.PrintWords Go.Proofs.YtgdknepphkhnlaaGreatDoorW.PrintLast Go.Proofs.YtgdknepphkhnlaaGreatDoorW.PrintMore
attribute [local go_sem] max2_int min2_int max_two min_two max_three min_three max_four min_four
set_option linter.unusedVariables false
set_option linter.unusedSimpArgs false
attribute [local go_sem high] eqA25
def laws_FnEntries.f (k : Nat) (l0 : List Int) : Option (Bool) := (laws_big.f l0).bind fun t808 => (if t808 = true then (some true) else ((spec_DrawPutEntry.f k l0).bind fun bt809 => ((impl_PutEntry.f k bt809.1 bt809.2.1 bt809.2.2.1 bt809.2.2.2.1 bt809.2.2.2.2.1 bt809.2.2.2.2.2).bind fun t818 => ((spec_EntryOk.f k bt809.1 bt809.2.1 bt809.2.2.1 bt809.2.2.2.1 bt809.2.2.2.2.1 bt809.2.2.2.2.2).bind fun t819 => (if t819 = true then ((impl_GetEntry.f k t818).bind fun bt821 => ((impl_EntryName.f k bt809.1 bt809.2.1 bt809.2.2.1 bt809.2.2.2.1 bt809.2.2.2.2.1).bind fun t831 => ((impl_ParseName.f k t831).bind fun bt832 => (if bt821.2.2.2.2.2.2 = true then ((laws_sameEntry.f k bt821.1 bt821.2.1 bt821.2.2.1 bt821.2.2.2.1 bt821.2.2.2.2.1 bt821.2.2.2.2.2.1 bt809.1 bt809.2.1 bt809.2.2.1 bt809.2.2.2.1 bt809.2.2.2.2.1 bt809.2.2.2.2.2).bind fun t839 => (if t839 = true then (if bt832.2.2.2.2.2 = true then (if bt832.1.toList = bt809.1.toList then (if (bt832.2.1 == bt809.2.1 && (bt832.2.2.1 == bt809.2.2.1 && (bt832.2.2.2.1 == bt809.2.2.2.1 && (bt832.2.2.2.2.1.toList == bt809.2.2.2.2.1.toList)))) = true then ((impl_NeedOk.f k bt832.1 bt832.2.1 bt832.2.2.1 bt832.2.2.2.1 bt832.2.2.2.2.1).bind fun t840 => (if t840 = true then ((impl_NeedsOk.f k bt809.2.2.2.2.2).bind fun t841 => (some t841)) else (some false))) else (some false)) else (some false)) else (some false)) else (some false))) else (some false))))) else (if t818.toList = ([] : List UInt8) then ((impl_EntryOk.f k bt809.1 bt809.2.1 bt809.2.2.1 bt809.2.2.2.1 bt809.2.2.2.2.1 bt809.2.2.2.2.2).bind fun t820 => (some (!t820))) else (some false)))))))
set_option maxHeartbeats 8000000 in
set_option maxRecDepth 100000 in
theorem laws_FnEntries.calls (k : Nat) (A0 : Option Addr) (c0 : Nat) (l0 : List Int) (w : World) (hG_ : GlobI w) (hr0 : Kd.C (Kd.int .u8) w A0 l0.length l0) (hc0 : l0.length ≤ c0) (h : laws_FnEntries.f k l0 = some true) :
  Calls Tryz.prog 3 #[.slice A0 l0.length c0] w fun e w' => e = .returned (.bool true) ∧ Below w.heap.size w w' := by
 have HG_ := zi hG_
 clear hG_
 have hu28 := Tryz.underlying28
 have hu25 := Tryz.underlying25
 have hu35 := Tryz.underlying35
 have HR0 := zi hr0
 have HC0 := zi hc0
 clear hr0 hc0
 have HB := zi (Below.refl w.heap.size w)
 have H := h
 unfold laws_FnEntries.f at H
 clear h
 replace H := Option.bind_eq_some_iff.mp H
 obtain ⟨t808, A20, H⟩ := H
 try dsimp only at H
 have A2 := zi A20
 clear A20
 by_cases c3 : t808 = true
 ·subst c3
  have H1 : (some true) = some true := rfl
  clear H
  have H := H1
  clear H1
  skip
  go_enter Tryz.func3, Tryz.ntmps3
  go_wp2_with (first | ((with_reducible refine gate_callee (f := 7) rfl ?_); refine goesL_ (some 10) rfl rfl Tryz.func7 zq rfl #[.slice A0 l0.length c0] rfl zy ?_; (with_reducible refine (laws_big.calls _ _ l0 true _ ?side1 ?side2 A2.out).mono ?_); (case side1 => exact z3a); (case side2 => exact HC0.out); rintro e w' ⟨rfl, ⟨nd, rfl⟩⟩; refine ⟨_, rfl, ?_⟩))
  go_ret
  exact ⟨z1b, zz⟩
 ·replace c3 := Bool.eq_false_iff.mpr c3
  subst c3
  rw [if_neg zh] at H
  replace H := Option.bind_eq_some_iff.mp H
  obtain ⟨⟨t809, t810, t811, t812, t813, t814⟩, A40, H⟩ := H
  try dsimp only at H
  have A4 := zi A40
  clear A40
  replace H := Option.bind_eq_some_iff.mp H
  obtain ⟨t818, A50, H⟩ := H
  try dsimp only at H
  have A5 := zi A50
  clear A50
  replace H := Option.bind_eq_some_iff.mp H
  obtain ⟨t819, A60, H⟩ := H
  try dsimp only at H
  have A6 := zi A60
  clear A60
  by_cases c7 : t819 = true
  ·subst c7
   rw [if_pos rfl] at H
   replace H := Option.bind_eq_some_iff.mp H
   obtain ⟨⟨t821, t822, t823, t824, t825, t826, t829⟩, A80, H⟩ := H
   try dsimp only at H
   have A8 := zi A80
   clear A80
   replace H := Option.bind_eq_some_iff.mp H
   obtain ⟨t831, A90, H⟩ := H
   try dsimp only at H
   have A9 := zi A90
   clear A90
   replace H := Option.bind_eq_some_iff.mp H
   obtain ⟨⟨t832, t833, t834, t835, t836, t837⟩, A100, H⟩ := H
   try dsimp only at H
   have A10 := zi A100
   clear A100
   by_cases c11 : t829 = true
   ·subst c11
    rw [if_pos rfl] at H
    replace H := Option.bind_eq_some_iff.mp H
    obtain ⟨t839, A120, H⟩ := H
    try dsimp only at H
    have A12 := zi A120
    clear A120
    by_cases c13 : t839 = true
    ·subst c13
     rw [if_pos rfl] at H
     by_cases c14 : t837 = true
     ·subst c14
      rw [if_pos rfl] at H
      by_cases c15 : t832.toList = t809.toList
      ·rw [if_pos c15] at H
       have c15b0 : (t832.toList == t809.toList) = true := beq_iff_eq.mpr c15
       have c15b1 : (t832.toList != t809.toList) = false := bne_eq_false_iff_eq.mpr c15
       clear c15
       by_cases c16 : (t833 == t810 && (t834 == t811 && (t835 == t812 && (t836.toList == t813.toList)))) = true
       ·rw [if_pos c16] at H
        have c16b0 : (t833 == t810 && (t834 == t811 && (t835 == t812 && (t836.toList == t813.toList)))) = true := c16
        (try (have c16b1 : decide (t833 = t810 && (t834 == t811 && (t835 == t812 && (t836.toList == t813.toList)))) = true := by simpa using c16))
        (try (have c16b2 : (t833 == t810 && (t834 == t811 && (t835 == t812 && (t836.toList == t813.toList)))) = true := by simpa using c16))
        clear c16
        replace H := Option.bind_eq_some_iff.mp H
        obtain ⟨t840, A170, H⟩ := H
        try dsimp only at H
        have A17 := zi A170
        clear A170
        by_cases c18 : t840 = true
        ·subst c18
         rw [if_pos rfl] at H
         replace H := Option.bind_eq_some_iff.mp H
         obtain ⟨t841, A190, H⟩ := H
         try dsimp only at H
         have A19 := zi A190
         clear A190
         have hleaf := Option.some.inj H
         go_enter Tryz.func3, Tryz.ntmps3
         go_wp2_with (first | ((with_reducible refine gate_callee (f := 7) rfl ?_); refine goesL_ (some 10) rfl rfl Tryz.func7 zq rfl #[.slice A0 l0.length c0] rfl zy ?_; (with_reducible refine (laws_big.calls _ _ l0 false _ ?side1 ?side2 A2.out).mono ?_); (case side1 => exact z3a); (case side2 => exact HC0.out); rintro e w' ⟨rfl, ⟨nd, rfl⟩⟩; refine ⟨_, rfl, ?_⟩) | ((with_reducible refine gate_callee (f := 8) rfl ?_); refine goesL_ (some 12) rfl rfl Tryz.func8 zq rfl #[.slice A0 l0.length c0] rfl zy ?_; (with_reducible refine (spec_DrawPutEntry.calls k _ _ l0 t809 t810 t811 t812 t813 t814 _ ?side1 ?side2 A4.out).mono ?_); (case side1 => exact z3a); (case side2 => exact HC0.out); rintro e w20 ⟨v815, rfl, ho0, hb⟩; refine ⟨_, rfl, ?_⟩; have n0_ := zi (Kd.R_lower ho0 (below_size zz)); have n1_ := zi (below_step zz hb); clear HB; have HO816 := n0_; have HB := n1_; clear n0_ n1_; (try clear hb); (try clear hb2); (try clear hk); (try clear hi); (try clear ho0)) | ((with_reducible refine gate_dst (N := 3) rfl ?_); refine box_event zr (N := 3) zr (cs := #[.string (⟨#[]⟩ : ByteArray), .int .i64 0, .int .i64 0, .int .i64 0, .string (⟨#[]⟩ : ByteArray), .slice none 0 0]) (t := 28) z1h ?_; intro gb817 hg w21 hbox hb; have n0_ := zi (Kd.R_below z6i hb); have n1_ := zi (below_step zz hb); have n2_ := zi hbox; have n3_ := zi ((z6t : w.heap.size ≤ gb817)); have n4_ := zi ((z6t : w.heap.size ≤ gb817)); clear HO816; clear HB; have HO816 := n0_; have HB := n1_; have BK817 := n2_; have GW817 := n3_; have GE817 := n4_; clear n0_ n1_ n2_ n3_ n4_; clear hb hbox hg; obtain ⟨hcz22_0, hcz22_1, hcz22_2, hcz22_3, hcz22_4, hcz22_5, hfz22_0, hfz22_1, hfz22_2, hfz22_3, hfz22_4, hfz22_5⟩ := zg BK817.out; obtain ⟨Ao23, co23, eo23⟩ := Kd.R_slice HO816.out; subst eo23) | ((with_reducible refine gate_callee (f := 9) rfl ?_); refine goesL_ (some 14) rfl rfl Tryz.func9 zq rfl #[.agg #[.string t809, .int .i64 t810, .int .i64 t811, .int .i64 t812, .string t813, .slice Ao23 t814.length co23]] rfl zy ?_; (with_reducible refine (impl_PutEntry.calls (hG_ := globI_on HG_.out z1v) k t809 t810 t811 t812 t813 _ _ t814 t818 _ ?side1 ?side2 A5.out).mono ?_); (case side1 => refine (Kd.R_reads' (e := 35) (base := w.heap.size) (ok := fun k_ => True) (n := t814.length) (c := co23) ?_).2.2; exact (by (with_reducible repeat (first | apply Kd.R_alloc | apply Kd.R_drewN | apply Kd.R_drew)); exact (Kd.R_mono (Kd.R_far (p := ⟨gb817, 5, none⟩) (Kd.R_far (p := ⟨gb817, 4, none⟩) (Kd.R_far (p := ⟨gb817, 3, none⟩) (Kd.R_far (p := ⟨gb817, 2, none⟩) (Kd.R_far (p := ⟨gb817, 1, none⟩) (Kd.R_far (p := ⟨gb817, 0, none⟩) (Kd.R_types HO816.out BK817.out zt) (fun _ hk => hk.2) (.string t809)) (fun _ hk => hk.2) (.int .i64 t810)) (fun _ hk => hk.2) (.int .i64 t811)) (fun _ hk => hk.2) (.int .i64 t812)) (fun _ hk => hk.2) (.string t813)) (fun _ hk => hk.2) (.slice Ao23 t814.length co23)) (fun _ h_ => h_.1)))); (case side2 => exact (Kd.R_reads' HO816.out).2.1); rintro e w24 ⟨rfl, hb⟩; refine ⟨_, rfl, ?_⟩; have n0_ := zi (Kd.R_below (by (with_reducible repeat (first | apply Kd.R_alloc | apply Kd.R_drewN | apply Kd.R_drew)); exact (Kd.R_mono (Kd.R_far (p := ⟨gb817, 5, none⟩) (Kd.R_far (p := ⟨gb817, 4, none⟩) (Kd.R_far (p := ⟨gb817, 3, none⟩) (Kd.R_far (p := ⟨gb817, 2, none⟩) (Kd.R_far (p := ⟨gb817, 1, none⟩) (Kd.R_far (p := ⟨gb817, 0, none⟩) (Kd.R_types HO816.out BK817.out zt) (fun _ hk => hk.2) (.string t809)) (fun _ hk => hk.2) (.int .i64 t810)) (fun _ hk => hk.2) (.int .i64 t811)) (fun _ hk => hk.2) (.int .i64 t812)) (fun _ hk => hk.2) (.string t813)) (fun _ hk => hk.2) (.slice Ao23 t814.length co23)) (fun _ h_ => h_.1))) hb); have n1_ := zi (blk_below (g := gb817) (o := .cells #[.string t809, .int .i64 t810, .int .i64 t811, .int .i64 t812, .string t813, .slice Ao23 t814.length co23] 28 (0, 0)) (by (repeat refine zj ?_); refine blk_put (cs := #[.string t809, .int .i64 t810, .int .i64 t811, .int .i64 t812, .string t813, .slice none 0 0]) ?_ 5 _ rfl; (repeat refine zj ?_); refine blk_put (cs := #[.string t809, .int .i64 t810, .int .i64 t811, .int .i64 t812, .string (⟨#[]⟩ : ByteArray), .slice none 0 0]) ?_ 4 _ rfl; (repeat refine zj ?_); refine blk_put (cs := #[.string t809, .int .i64 t810, .int .i64 t811, .int .i64 0, .string (⟨#[]⟩ : ByteArray), .slice none 0 0]) ?_ 3 _ rfl; (repeat refine zj ?_); refine blk_put (cs := #[.string t809, .int .i64 t810, .int .i64 0, .int .i64 0, .string (⟨#[]⟩ : ByteArray), .slice none 0 0]) ?_ 2 _ rfl; (repeat refine zj ?_); refine blk_put (cs := #[.string t809, .int .i64 0, .int .i64 0, .int .i64 0, .string (⟨#[]⟩ : ByteArray), .slice none 0 0]) ?_ 1 _ rfl; (repeat refine zj ?_); refine blk_put (cs := #[.string (⟨#[]⟩ : ByteArray), .int .i64 0, .int .i64 0, .int .i64 0, .string (⟨#[]⟩ : ByteArray), .slice none 0 0]) ?_ 0 _ rfl; (repeat refine zj ?_); exact BK817.out) hb); have n2_ := zi (below_step z6j hb); clear HO816; clear BK817; clear HB; have HO816 := n0_; have BK817 := n1_; have HB := n2_; clear n0_ n1_ n2_; (try clear hb); (try clear hb2); (try clear hk); (try clear hi); obtain ⟨hcz25_0, hcz25_1, hcz25_2, hcz25_3, hcz25_4, hcz25_5, hfz25_0, hfz25_1, hfz25_2, hfz25_3, hfz25_4, hfz25_5⟩ := zg BK817.out) | ((with_reducible refine gate_callee (f := 10) rfl ?_); refine goesL_ (some 16) rfl rfl Tryz.func10 zq rfl #[.agg #[.string t809, .int .i64 t810, .int .i64 t811, .int .i64 t812, .string t813, .slice Ao23 t814.length co23]] rfl zy ?_; (with_reducible refine (spec_EntryOk.calls k t809 t810 t811 t812 t813 _ _ t814 true _ ?side1 ?side2 A6.out).mono ?_); (case side1 => exact z6p); (case side2 => exact (Kd.R_reads' HO816.out).2.1); rintro e w26 ⟨rfl, hb⟩; refine ⟨_, rfl, ?_⟩; have n0_ := zi (Kd.R_below z6i hb); have n1_ := zi (blk_below (g := gb817) (o := .cells #[.string t809, .int .i64 t810, .int .i64 t811, .int .i64 t812, .string t813, .slice Ao23 t814.length co23] 28 (0, 0)) z6k hb); have n2_ := zi (below_step z6j hb); clear HO816; clear BK817; clear HB; have HO816 := n0_; have BK817 := n1_; have HB := n2_; clear n0_ n1_ n2_; (try clear hb); (try clear hb2); (try clear hk); (try clear hi)) | ((with_reducible refine gate_callee (f := 12) rfl ?_); refine goesL_ (some 27) rfl rfl Tryz.func12 zq rfl #[.string t818] rfl zy ?_; (with_reducible refine (impl_GetEntry.calls (hG_ := globI_on HG_.out z1v) k t818 t821 t822 t823 t824 t825 t826 true _ A8.out).mono ?_); rintro e w27 ⟨v827, rfl, ho0, hb⟩; refine ⟨_, rfl, ?_⟩; have n0_ := zi (Kd.R_elder' z6i (Kd.R_base ho0) hb); have n1_ := zi (Kd.R_lower (Kd.R_new' ho0 (Kd.R_lt z6i)) (below_size z6j)); have n2_ := zi (blk_below (g := gb817) (o := .cells #[.string t809, .int .i64 t810, .int .i64 t811, .int .i64 t812, .string t813, .slice Ao23 t814.length co23] 28 (0, 0)) z6k hb); have n3_ := zi (below_step z6j hb); clear HO816; clear BK817; clear HB; have HO816 := n0_; have HO828 := n1_; have BK817 := n2_; have HB := n3_; clear n0_ n1_ n2_ n3_; (try clear hb); (try clear hb2); (try clear hk); (try clear hi); (try clear ho0)) | ((with_reducible refine gate_dst (N := 5) rfl ?_); refine box_event zr (N := 5) zr (cs := #[.string (⟨#[]⟩ : ByteArray), .int .i64 0, .int .i64 0, .int .i64 0, .string (⟨#[]⟩ : ByteArray), .slice none 0 0]) (t := 28) z1h ?_; intro gb830 hg w28 hbox hb; have n0_ := zi (Kd.R_below z6i hb); have n1_ := zi (Kd.R_below z6l hb); have n2_ := zi (blk_below (g := gb817) (o := .cells #[.string t809, .int .i64 t810, .int .i64 t811, .int .i64 t812, .string t813, .slice Ao23 t814.length co23] 28 (0, 0)) z6k hb); have n3_ := zi (below_step z6j hb); have n4_ := zi hbox; have n5_ := zi ((by rw [hg]; exact (below_size z6j) : w.heap.size ≤ gb830)); have n6_ := zi ((by rw [hg]; exact (below_size z6j) : w.heap.size ≤ gb830)); have n7_ := zi ((by rw [hg]; exact Nat.ne_of_lt (blk_lt (g := gb817) (o := .cells #[.string t809, .int .i64 t810, .int .i64 t811, .int .i64 t812, .string t813, .slice Ao23 t814.length co23] 28 (0, 0)) z6k) : gb817 ≠ gb830)); have n8_ := zi ((by rw [hg]; exact Nat.ne_of_gt (blk_lt (g := gb817) (o := .cells #[.string t809, .int .i64 t810, .int .i64 t811, .int .i64 t812, .string t813, .slice Ao23 t814.length co23] 28 (0, 0)) z6k) : gb830 ≠ gb817)); clear HO816; clear HO828; clear BK817; clear HB; have HO816 := n0_; have HO828 := n1_; have BK817 := n2_; have HB := n3_; have BK830 := n4_; have GW830 := n5_; have GE830 := n6_; have NB817_830 := n7_; have NB830_817 := n8_; clear n0_ n1_ n2_ n3_ n4_ n5_ n6_ n7_ n8_; clear hb hbox hg; have hnb29 := NB830_817.out; have hnc29 := NB817_830.out; obtain ⟨hcz30_0, hcz30_1, hcz30_2, hcz30_3, hcz30_4, hcz30_5, hfz30_0, hfz30_1, hfz30_2, hfz30_3, hfz30_4, hfz30_5⟩ := zg BK830.out; obtain ⟨Ao31, co31, eo31⟩ := Kd.R_slice HO828.out; subst eo31; obtain ⟨hcz32_0, hcz32_1, hcz32_2, hcz32_3, hcz32_4, hcz32_5, hfz32_0, hfz32_1, hfz32_2, hfz32_3, hfz32_4, hfz32_5⟩ := zg BK817.out) | ((with_reducible refine gate_callee (f := 14) rfl ?_); refine goesL_ (some 35) rfl rfl Tryz.func14 zq rfl #[.string t809, .agg #[.int .i64 t810, .int .i64 t811, .int .i64 t812, .string t813]] rfl zy ?_; (with_reducible refine (impl_EntryName.calls (hG_ := globI_on HG_.out z1v) k t809 t810 t811 t812 t813 t831 _ A9.out).mono ?_); rintro e w33 ⟨rfl, hb⟩; refine ⟨_, rfl, ?_⟩; have n0_ := zi (Kd.R_below (by (with_reducible repeat (first | apply Kd.R_alloc | apply Kd.R_drewN | apply Kd.R_drew)); exact (Kd.R_mono (Kd.R_far (p := ⟨gb830, 5, none⟩) (Kd.R_far (p := ⟨gb830, 4, none⟩) (Kd.R_far (p := ⟨gb830, 3, none⟩) (Kd.R_far (p := ⟨gb830, 2, none⟩) (Kd.R_far (p := ⟨gb830, 1, none⟩) (Kd.R_far (p := ⟨gb830, 0, none⟩) (Kd.R_types HO816.out BK830.out zt) (fun _ hk => hk.2) (.string t821)) (fun _ hk => hk.2) (.int .i64 t822)) (fun _ hk => hk.2) (.int .i64 t823)) (fun _ hk => hk.2) (.int .i64 t824)) (fun _ hk => hk.2) (.string t825)) (fun _ hk => hk.2) (.slice Ao31 t826.length co31)) (fun _ h_ => h_.1))) hb); have n1_ := zi (Kd.R_below (by (with_reducible repeat (first | apply Kd.R_alloc | apply Kd.R_drewN | apply Kd.R_drew)); exact (Kd.R_mono (Kd.R_far (p := ⟨gb830, 5, none⟩) (Kd.R_far (p := ⟨gb830, 4, none⟩) (Kd.R_far (p := ⟨gb830, 3, none⟩) (Kd.R_far (p := ⟨gb830, 2, none⟩) (Kd.R_far (p := ⟨gb830, 1, none⟩) (Kd.R_far (p := ⟨gb830, 0, none⟩) (Kd.R_types HO828.out BK830.out zt) (fun _ hk => hk.2) (.string t821)) (fun _ hk => hk.2) (.int .i64 t822)) (fun _ hk => hk.2) (.int .i64 t823)) (fun _ hk => hk.2) (.int .i64 t824)) (fun _ hk => hk.2) (.string t825)) (fun _ hk => hk.2) (.slice Ao31 t826.length co31)) (fun _ h_ => h_.1))) hb); have n2_ := zi (blk_below (g := gb817) (o := .cells #[.string t809, .int .i64 t810, .int .i64 t811, .int .i64 t812, .string t813, .slice Ao23 t814.length co23] 28 (0, 0)) (by (repeat refine zj ?_); refine blk_far ?_ NB817_830.out _; (repeat refine zj ?_); refine blk_far ?_ NB817_830.out _; (repeat refine zj ?_); refine blk_far ?_ NB817_830.out _; (repeat refine zj ?_); refine blk_far ?_ NB817_830.out _; (repeat refine zj ?_); refine blk_far ?_ NB817_830.out _; (repeat refine zj ?_); refine blk_far ?_ NB817_830.out _; (repeat refine zj ?_); exact BK817.out) hb); have n3_ := zi (blk_below (g := gb830) (o := .cells #[.string t821, .int .i64 t822, .int .i64 t823, .int .i64 t824, .string t825, .slice Ao31 t826.length co31] 28 (0, 0)) (by (repeat refine zj ?_); refine blk_put (cs := #[.string t821, .int .i64 t822, .int .i64 t823, .int .i64 t824, .string t825, .slice none 0 0]) ?_ 5 _ rfl; (repeat refine zj ?_); refine blk_put (cs := #[.string t821, .int .i64 t822, .int .i64 t823, .int .i64 t824, .string (⟨#[]⟩ : ByteArray), .slice none 0 0]) ?_ 4 _ rfl; (repeat refine zj ?_); refine blk_put (cs := #[.string t821, .int .i64 t822, .int .i64 t823, .int .i64 0, .string (⟨#[]⟩ : ByteArray), .slice none 0 0]) ?_ 3 _ rfl; (repeat refine zj ?_); refine blk_put (cs := #[.string t821, .int .i64 t822, .int .i64 0, .int .i64 0, .string (⟨#[]⟩ : ByteArray), .slice none 0 0]) ?_ 2 _ rfl; (repeat refine zj ?_); refine blk_put (cs := #[.string t821, .int .i64 0, .int .i64 0, .int .i64 0, .string (⟨#[]⟩ : ByteArray), .slice none 0 0]) ?_ 1 _ rfl; (repeat refine zj ?_); refine blk_put (cs := #[.string (⟨#[]⟩ : ByteArray), .int .i64 0, .int .i64 0, .int .i64 0, .string (⟨#[]⟩ : ByteArray), .slice none 0 0]) ?_ 0 _ rfl; (repeat refine zj ?_); exact BK830.out) hb); have n4_ := zi (below_step z6m hb); clear HO816; clear HO828; clear BK817; clear BK830; clear HB; have HO816 := n0_; have HO828 := n1_; have BK817 := n2_; have BK830 := n3_; have HB := n4_; clear n0_ n1_ n2_ n3_ n4_; (try clear hb); (try clear hb2); (try clear hk); (try clear hi)) | ((with_reducible refine gate_callee (f := 13) rfl ?_); refine goesL_ (some 36) rfl rfl Tryz.func13 zq rfl #[.string t831] rfl zy ?_; (with_reducible refine (impl_ParseName.calls (hG_ := globI_on HG_.out z1v) k t831 t832 t833 t834 t835 t836 true _ A10.out).mono ?_); rintro e w34 ⟨rfl, hb⟩; refine ⟨_, rfl, ?_⟩; have n0_ := zi (Kd.R_below z6i hb); have n1_ := zi (Kd.R_below z6l hb); have n2_ := zi (blk_below (g := gb817) (o := .cells #[.string t809, .int .i64 t810, .int .i64 t811, .int .i64 t812, .string t813, .slice Ao23 t814.length co23] 28 (0, 0)) z6k hb); have n3_ := zi (blk_below (g := gb830) (o := .cells #[.string t821, .int .i64 t822, .int .i64 t823, .int .i64 t824, .string t825, .slice Ao31 t826.length co31] 28 (0, 0)) z6n hb); have n4_ := zi (below_step z6m hb); clear HO816; clear HO828; clear BK817; clear BK830; clear HB; have HO816 := n0_; have HO828 := n1_; have BK817 := n2_; have BK830 := n3_; have HB := n4_; clear n0_ n1_ n2_ n3_ n4_; (try clear hb); (try clear hb2); (try clear hk); (try clear hi)) | ((with_reducible refine gate_dst (N := 7) rfl ?_); refine box_event zr (N := 7) zr (cs := #[.string (⟨#[]⟩ : ByteArray), .int .i64 0, .int .i64 0, .int .i64 0, .string (⟨#[]⟩ : ByteArray)]) (t := 35) z1h ?_; intro gb838 hg w35 hbox hb; have n0_ := zi (Kd.R_below (Kd.R_elderB z6i gb838 (Nat.le_of_eq hg.symm)) hb); have n1_ := zi (Kd.R_below (Kd.R_elderB z6l gb838 (Nat.le_of_eq hg.symm)) hb); have n2_ := zi (blk_below (g := gb817) (o := .cells #[.string t809, .int .i64 t810, .int .i64 t811, .int .i64 t812, .string t813, .slice Ao23 t814.length co23] 28 (0, 0)) z6k hb); have n3_ := zi (blk_below (g := gb830) (o := .cells #[.string t821, .int .i64 t822, .int .i64 t823, .int .i64 t824, .string t825, .slice Ao31 t826.length co31] 28 (0, 0)) z6n hb); have n4_ := zi (below_step z6m hb); have n5_ := zi hbox; have n6_ := zi ((by rw [hg]; exact (below_size z6m) : w.heap.size ≤ gb838)); have n7_ := zi ((by rw [hg]; exact (below_size z6m) : w.heap.size ≤ gb838)); have n8_ := zi ((by rw [hg]; exact Nat.ne_of_lt (blk_lt (g := gb817) (o := .cells #[.string t809, .int .i64 t810, .int .i64 t811, .int .i64 t812, .string t813, .slice Ao23 t814.length co23] 28 (0, 0)) z6k) : gb817 ≠ gb838)); have n9_ := zi ((by rw [hg]; exact Nat.ne_of_gt (blk_lt (g := gb817) (o := .cells #[.string t809, .int .i64 t810, .int .i64 t811, .int .i64 t812, .string t813, .slice Ao23 t814.length co23] 28 (0, 0)) z6k) : gb838 ≠ gb817)); have n10_ := zi ((by rw [hg]; exact Nat.ne_of_lt (blk_lt (g := gb830) (o := .cells #[.string t821, .int .i64 t822, .int .i64 t823, .int .i64 t824, .string t825, .slice Ao31 t826.length co31] 28 (0, 0)) z6n) : gb830 ≠ gb838)); have n11_ := zi ((by rw [hg]; exact Nat.ne_of_gt (blk_lt (g := gb830) (o := .cells #[.string t821, .int .i64 t822, .int .i64 t823, .int .i64 t824, .string t825, .slice Ao31 t826.length co31] 28 (0, 0)) z6n) : gb838 ≠ gb830)); clear HO816; clear HO828; clear BK817; clear BK830; clear HB; have HO816 := n0_; have HO828 := n1_; have BK817 := n2_; have BK830 := n3_; have HB := n4_; have BK838 := n5_; have GW838 := n6_; have GE838 := n7_; have NB817_838 := n8_; have NB838_817 := n9_; have NB830_838 := n10_; have NB838_830 := n11_; clear n0_ n1_ n2_ n3_ n4_ n5_ n6_ n7_ n8_ n9_ n10_ n11_; clear hb hbox hg; have hnb36 := NB838_817.out; have hnc36 := NB817_838.out; have hnb37 := NB838_830.out; have hnc37 := NB830_838.out; obtain ⟨hcz38_0, hcz38_1, hcz38_2, hcz38_3, hcz38_4, hfz38_0, hfz38_1, hfz38_2, hfz38_3, hfz38_4⟩ := zf BK838.out; obtain ⟨hcz39_0, hcz39_1, hcz39_2, hcz39_3, hcz39_4, hcz39_5, hfz39_0, hfz39_1, hfz39_2, hfz39_3, hfz39_4, hfz39_5⟩ := zg BK830.out; obtain ⟨hcz40_0, hcz40_1, hcz40_2, hcz40_3, hcz40_4, hcz40_5, hfz40_0, hfz40_1, hfz40_2, hfz40_3, hfz40_4, hfz40_5⟩ := zg BK817.out) | (go_at_call 15; (with_reducible refine (laws_sameEntry.calls k t821 t822 t823 t824 t825 _ _ t826 t809 t810 t811 t812 t813 _ _ t814 true _ ?side1 ?side2 ?side3 ?side4 A12.out).mono ?_); (case side1 => refine (Kd.R_reads' (e := 35) (base := w.heap.size) (ok := fun k_ => ((True ∧ some k_ ≠ (.slice Ao23 t814.length co23 : Value).ownBlock) ∧ k_ ≠ gb838)) (n := t826.length) (c := co31) ?_).2.2; exact (by (with_reducible repeat (first | apply Kd.R_alloc | apply Kd.R_drewN | apply Kd.R_drew)); exact (Kd.R_mono (Kd.R_far (p := ⟨gb838, 4, none⟩) (Kd.R_far (p := ⟨gb838, 3, none⟩) (Kd.R_far (p := ⟨gb838, 2, none⟩) (Kd.R_far (p := ⟨gb838, 1, none⟩) (Kd.R_far (p := ⟨gb838, 0, none⟩) (Kd.R_mono HO828.out (fun k_ hk => (⟨hk, hk.2⟩ : _ ∧ k_ ≠ gb838))) (fun _ hk => hk.2) (.string t832)) (fun _ hk => hk.2) (.int .i64 t833)) (fun _ hk => hk.2) (.int .i64 t834)) (fun _ hk => hk.2) (.int .i64 t835)) (fun _ hk => hk.2) (.string t836)) (fun _ h_ => h_.1)))); (case side2 => exact (Kd.R_reads' HO828.out).2.1); (case side3 => refine (Kd.R_reads' (e := 35) (base := w.heap.size) (ok := fun k_ => ((True ∧ some k_ ≠ (.slice Ao31 t826.length co31 : Value).ownBlock) ∧ k_ ≠ gb838)) (n := t814.length) (c := co23) ?_).2.2; exact (by (with_reducible repeat (first | apply Kd.R_alloc | apply Kd.R_drewN | apply Kd.R_drew)); exact (Kd.R_mono (Kd.R_far (p := ⟨gb838, 4, none⟩) (Kd.R_far (p := ⟨gb838, 3, none⟩) (Kd.R_far (p := ⟨gb838, 2, none⟩) (Kd.R_far (p := ⟨gb838, 1, none⟩) (Kd.R_far (p := ⟨gb838, 0, none⟩) (Kd.R_mono HO816.out (fun k_ hk => (⟨hk, hk.2⟩ : _ ∧ k_ ≠ gb838))) (fun _ hk => hk.2) (.string t832)) (fun _ hk => hk.2) (.int .i64 t833)) (fun _ hk => hk.2) (.int .i64 t834)) (fun _ hk => hk.2) (.int .i64 t835)) (fun _ hk => hk.2) (.string t836)) (fun _ h_ => h_.1)))); (case side4 => exact (Kd.R_reads' HO816.out).2.1); rintro e w41 ⟨rfl, hb⟩; have n0_ := zi (Kd.R_below (by (with_reducible repeat (first | apply Kd.R_alloc | apply Kd.R_drewN | apply Kd.R_drew)); exact (Kd.R_mono (Kd.R_far (p := ⟨gb838, 4, none⟩) (Kd.R_far (p := ⟨gb838, 3, none⟩) (Kd.R_far (p := ⟨gb838, 2, none⟩) (Kd.R_far (p := ⟨gb838, 1, none⟩) (Kd.R_far (p := ⟨gb838, 0, none⟩) (Kd.R_mono HO816.out (fun k_ hk => (⟨hk, hk.2⟩ : _ ∧ k_ ≠ gb838))) (fun _ hk => hk.2) (.string t832)) (fun _ hk => hk.2) (.int .i64 t833)) (fun _ hk => hk.2) (.int .i64 t834)) (fun _ hk => hk.2) (.int .i64 t835)) (fun _ hk => hk.2) (.string t836)) (fun _ h_ => h_.1))) hb); have n1_ := zi (Kd.R_below (by (with_reducible repeat (first | apply Kd.R_alloc | apply Kd.R_drewN | apply Kd.R_drew)); exact (Kd.R_mono (Kd.R_far (p := ⟨gb838, 4, none⟩) (Kd.R_far (p := ⟨gb838, 3, none⟩) (Kd.R_far (p := ⟨gb838, 2, none⟩) (Kd.R_far (p := ⟨gb838, 1, none⟩) (Kd.R_far (p := ⟨gb838, 0, none⟩) (Kd.R_mono HO828.out (fun k_ hk => (⟨hk, hk.2⟩ : _ ∧ k_ ≠ gb838))) (fun _ hk => hk.2) (.string t832)) (fun _ hk => hk.2) (.int .i64 t833)) (fun _ hk => hk.2) (.int .i64 t834)) (fun _ hk => hk.2) (.int .i64 t835)) (fun _ hk => hk.2) (.string t836)) (fun _ h_ => h_.1))) hb); have n2_ := zi (blk_below (g := gb817) (o := .cells #[.string t809, .int .i64 t810, .int .i64 t811, .int .i64 t812, .string t813, .slice Ao23 t814.length co23] 28 (0, 0)) (by (repeat refine zj ?_); refine blk_far ?_ NB817_838.out _; (repeat refine zj ?_); refine blk_far ?_ NB817_838.out _; (repeat refine zj ?_); refine blk_far ?_ NB817_838.out _; (repeat refine zj ?_); refine blk_far ?_ NB817_838.out _; (repeat refine zj ?_); refine blk_far ?_ NB817_838.out _; (repeat refine zj ?_); exact BK817.out) hb); have n3_ := zi (blk_below (g := gb830) (o := .cells #[.string t821, .int .i64 t822, .int .i64 t823, .int .i64 t824, .string t825, .slice Ao31 t826.length co31] 28 (0, 0)) (by (repeat refine zj ?_); refine blk_far ?_ NB830_838.out _; (repeat refine zj ?_); refine blk_far ?_ NB830_838.out _; (repeat refine zj ?_); refine blk_far ?_ NB830_838.out _; (repeat refine zj ?_); refine blk_far ?_ NB830_838.out _; (repeat refine zj ?_); refine blk_far ?_ NB830_838.out _; (repeat refine zj ?_); exact BK830.out) hb); have n4_ := zi (blk_below (g := gb838) (o := .cells #[.string t832, .int .i64 t833, .int .i64 t834, .int .i64 t835, .string t836] 35 (0, 0)) (by (repeat refine zj ?_); refine blk_put (cs := #[.string t832, .int .i64 t833, .int .i64 t834, .int .i64 t835, .string (⟨#[]⟩ : ByteArray)]) ?_ 4 _ rfl; (repeat refine zj ?_); refine blk_put (cs := #[.string t832, .int .i64 t833, .int .i64 t834, .int .i64 0, .string (⟨#[]⟩ : ByteArray)]) ?_ 3 _ rfl; (repeat refine zj ?_); refine blk_put (cs := #[.string t832, .int .i64 t833, .int .i64 0, .int .i64 0, .string (⟨#[]⟩ : ByteArray)]) ?_ 2 _ rfl; (repeat refine zj ?_); refine blk_put (cs := #[.string t832, .int .i64 0, .int .i64 0, .int .i64 0, .string (⟨#[]⟩ : ByteArray)]) ?_ 1 _ rfl; (repeat refine zj ?_); refine blk_put (cs := #[.string (⟨#[]⟩ : ByteArray), .int .i64 0, .int .i64 0, .int .i64 0, .string (⟨#[]⟩ : ByteArray)]) ?_ 0 _ rfl; (repeat refine zj ?_); exact BK838.out) hb); have n5_ := zi (below_step z6o hb); clear HO816; clear HO828; clear BK817; clear BK830; clear BK838; clear HB; have HO816 := n0_; have HO828 := n1_; have BK817 := n2_; have BK830 := n3_; have BK838 := n4_; have HB := n5_; clear n0_ n1_ n2_ n3_ n4_ n5_; (try clear hb); (try clear hb2); (try clear hk); (try clear hi); obtain ⟨hcz42_0, hcz42_1, hcz42_2, hcz42_3, hcz42_4, hfz42_0, hfz42_1, hfz42_2, hfz42_3, hfz42_4⟩ := zf BK838.out; obtain ⟨hcz43_0, hcz43_1, hcz43_2, hcz43_3, hcz43_4, hcz43_5, hfz43_0, hfz43_1, hfz43_2, hfz43_3, hfz43_4, hfz43_5⟩ := zg BK817.out) | (go_at_call 16; (with_reducible refine (impl_NeedOk.calls k t832 t833 t834 t835 t836 true _ A17.out).mono ?_); rintro e w44 ⟨rfl, hb⟩; have n0_ := zi (Kd.R_below z6i hb); have n1_ := zi (Kd.R_below z6l hb); have n2_ := zi (blk_below (g := gb817) (o := .cells #[.string t809, .int .i64 t810, .int .i64 t811, .int .i64 t812, .string t813, .slice Ao23 t814.length co23] 28 (0, 0)) z6k hb); have n3_ := zi (blk_below (g := gb830) (o := .cells #[.string t821, .int .i64 t822, .int .i64 t823, .int .i64 t824, .string t825, .slice Ao31 t826.length co31] 28 (0, 0)) z6n hb); have n4_ := zi (blk_below (g := gb838) (o := .cells #[.string t832, .int .i64 t833, .int .i64 t834, .int .i64 t835, .string t836] 35 (0, 0)) (by (repeat refine zj ?_); exact BK838.out) hb); have n5_ := zi (below_step z6o hb); clear HO816; clear HO828; clear BK817; clear BK830; clear BK838; clear HB; have HO816 := n0_; have HO828 := n1_; have BK817 := n2_; have BK830 := n3_; have BK838 := n4_; have HB := n5_; clear n0_ n1_ n2_ n3_ n4_ n5_; (try clear hb); (try clear hb2); (try clear hk); (try clear hi); obtain ⟨hcz45_0, hcz45_1, hcz45_2, hcz45_3, hcz45_4, hcz45_5, hfz45_0, hfz45_1, hfz45_2, hfz45_3, hfz45_4, hfz45_5⟩ := zg BK817.out) | (go_at_call 17; (with_reducible refine (impl_NeedsOk.calls k _ _ t814 t841 _ ?side1 ?side2 A19.out).mono ?_); (case side1 => exact z6p); (case side2 => exact (Kd.R_reads' HO816.out).2.1); rintro e w46 ⟨rfl, hb⟩; have n0_ := zi (Kd.R_below z6i hb); have n1_ := zi (Kd.R_below z6l hb); have n2_ := zi (blk_below (g := gb817) (o := .cells #[.string t809, .int .i64 t810, .int .i64 t811, .int .i64 t812, .string t813, .slice Ao23 t814.length co23] 28 (0, 0)) z6k hb); have n3_ := zi (blk_below (g := gb830) (o := .cells #[.string t821, .int .i64 t822, .int .i64 t823, .int .i64 t824, .string t825, .slice Ao31 t826.length co31] 28 (0, 0)) z6n hb); have n4_ := zi (blk_below (g := gb838) (o := .cells #[.string t832, .int .i64 t833, .int .i64 t834, .int .i64 t835, .string t836] 35 (0, 0)) (by (repeat refine zj ?_); exact BK838.out) hb); have n5_ := zi (below_step z6o hb); clear HO816; clear HO828; clear BK817; clear BK830; clear BK838; clear HB; have HO816 := n0_; have HO828 := n1_; have BK817 := n2_; have BK830 := n3_; have BK838 := n4_; have HB := n5_; clear n0_ n1_ n2_ n3_ n4_ n5_; (try clear hb); (try clear hb2); (try clear hk); (try clear hi)))
         go_ret
         exact ⟨z1b, z6o⟩
        ·replace c18 := Bool.eq_false_iff.mpr c18
         subst c18
         rw [if_neg zh] at H
         exact absurd H zt
       ·rw [if_neg c16] at H
        have c16b0 : (t833 == t810 && (t834 == t811 && (t835 == t812 && (t836.toList == t813.toList)))) = false := by simpa using c16
        (try (have c16b1 : decide (t833 = t810 && (t834 == t811 && (t835 == t812 && (t836.toList == t813.toList)))) = false := by simpa using c16))
        (try (have c16b2 : (t833 == t810 && (t834 == t811 && (t835 == t812 && (t836.toList == t813.toList)))) = false := by simpa using c16))
        (try (have c16b3 : ¬ (t833 = t810 && (t834 == t811 && (t835 == t812 && (t836.toList == t813.toList)))) := by simpa using c16))
        clear c16
        exact absurd H zt
      ·rw [if_neg c15] at H
       have c15b0 : (t832.toList == t809.toList) = false := beq_eq_false_iff_ne.mpr c15
       have c15b1 : (t832.toList != t809.toList) = true := bne_iff_ne.mpr c15
       exact absurd H zt
     ·replace c14 := Bool.eq_false_iff.mpr c14
      subst c14
      rw [if_neg zh] at H
      exact absurd H zt
    ·replace c13 := Bool.eq_false_iff.mpr c13
     subst c13
     rw [if_neg zh] at H
     exact absurd H zt
   ·replace c11 := Bool.eq_false_iff.mpr c11
    subst c11
    rw [if_neg zh] at H
    exact absurd H zt
  ·replace c7 := Bool.eq_false_iff.mpr c7
   subst c7
   rw [if_neg zh] at H
   by_cases c183 : t818.toList = ([] : List UInt8)
   ·rw [if_pos c183] at H
    have c183b0 : (t818.toList == ([] : List UInt8)) = true := beq_iff_eq.mpr c183
    have c183b1 : (t818.toList != ([] : List UInt8)) = false := bne_eq_false_iff_eq.mpr c183
    clear c183
    replace H := Option.bind_eq_some_iff.mp H
    obtain ⟨t820, A1840, H⟩ := H
    try dsimp only at H
    have A184 := zi A1840
    clear A1840
    have hleaf := Option.some.inj H
    go_enter Tryz.func3, Tryz.ntmps3
    go_wp2_with (first | ((with_reducible refine gate_callee (f := 7) rfl ?_); refine goesL_ (some 10) rfl rfl Tryz.func7 zq rfl #[.slice A0 l0.length c0] rfl zy ?_; (with_reducible refine (laws_big.calls _ _ l0 false _ ?side1 ?side2 A2.out).mono ?_); (case side1 => exact z3a); (case side2 => exact HC0.out); rintro e w' ⟨rfl, ⟨nd, rfl⟩⟩; refine ⟨_, rfl, ?_⟩) | ((with_reducible refine gate_callee (f := 8) rfl ?_); refine goesL_ (some 12) rfl rfl Tryz.func8 zq rfl #[.slice A0 l0.length c0] rfl zy ?_; (with_reducible refine (spec_DrawPutEntry.calls k _ _ l0 t809 t810 t811 t812 t813 t814 _ ?side1 ?side2 A4.out).mono ?_); (case side1 => exact z3a); (case side2 => exact HC0.out); rintro e w185 ⟨v815, rfl, ho0, hb⟩; refine ⟨_, rfl, ?_⟩; have n0_ := zi (Kd.R_lower ho0 (below_size zz)); have n1_ := zi (below_step zz hb); clear HB; have HO816 := n0_; have HB := n1_; clear n0_ n1_; (try clear hb); (try clear hb2); (try clear hk); (try clear hi); (try clear ho0)) | ((with_reducible refine gate_dst (N := 3) rfl ?_); refine box_event zr (N := 3) zr (cs := #[.string (⟨#[]⟩ : ByteArray), .int .i64 0, .int .i64 0, .int .i64 0, .string (⟨#[]⟩ : ByteArray), .slice none 0 0]) (t := 28) z1h ?_; intro gb817 hg w186 hbox hb; have n0_ := zi (Kd.R_below z6i hb); have n1_ := zi (below_step zz hb); have n2_ := zi hbox; have n3_ := zi ((z6t : w.heap.size ≤ gb817)); have n4_ := zi ((z6t : w.heap.size ≤ gb817)); clear HO816; clear HB; have HO816 := n0_; have HB := n1_; have BK817 := n2_; have GW817 := n3_; have GE817 := n4_; clear n0_ n1_ n2_ n3_ n4_; clear hb hbox hg; obtain ⟨hcz187_0, hcz187_1, hcz187_2, hcz187_3, hcz187_4, hcz187_5, hfz187_0, hfz187_1, hfz187_2, hfz187_3, hfz187_4, hfz187_5⟩ := zg BK817.out; obtain ⟨Ao188, co188, eo188⟩ := Kd.R_slice HO816.out; subst eo188) | ((with_reducible refine gate_callee (f := 9) rfl ?_); refine goesL_ (some 14) rfl rfl Tryz.func9 zq rfl #[.agg #[.string t809, .int .i64 t810, .int .i64 t811, .int .i64 t812, .string t813, .slice Ao188 t814.length co188]] rfl zy ?_; (with_reducible refine (impl_PutEntry.calls (hG_ := globI_on HG_.out z1v) k t809 t810 t811 t812 t813 _ _ t814 t818 _ ?side1 ?side2 A5.out).mono ?_); (case side1 => refine (Kd.R_reads' (e := 35) (base := w.heap.size) (ok := fun k_ => True) (n := t814.length) (c := co188) ?_).2.2; exact (by (with_reducible repeat (first | apply Kd.R_alloc | apply Kd.R_drewN | apply Kd.R_drew)); exact (Kd.R_mono (Kd.R_far (p := ⟨gb817, 5, none⟩) (Kd.R_far (p := ⟨gb817, 4, none⟩) (Kd.R_far (p := ⟨gb817, 3, none⟩) (Kd.R_far (p := ⟨gb817, 2, none⟩) (Kd.R_far (p := ⟨gb817, 1, none⟩) (Kd.R_far (p := ⟨gb817, 0, none⟩) (Kd.R_types HO816.out BK817.out zt) (fun _ hk => hk.2) (.string t809)) (fun _ hk => hk.2) (.int .i64 t810)) (fun _ hk => hk.2) (.int .i64 t811)) (fun _ hk => hk.2) (.int .i64 t812)) (fun _ hk => hk.2) (.string t813)) (fun _ hk => hk.2) (.slice Ao188 t814.length co188)) (fun _ h_ => h_.1)))); (case side2 => exact (Kd.R_reads' HO816.out).2.1); rintro e w189 ⟨rfl, hb⟩; refine ⟨_, rfl, ?_⟩; have n0_ := zi (Kd.R_below (by (with_reducible repeat (first | apply Kd.R_alloc | apply Kd.R_drewN | apply Kd.R_drew)); exact (Kd.R_mono (Kd.R_far (p := ⟨gb817, 5, none⟩) (Kd.R_far (p := ⟨gb817, 4, none⟩) (Kd.R_far (p := ⟨gb817, 3, none⟩) (Kd.R_far (p := ⟨gb817, 2, none⟩) (Kd.R_far (p := ⟨gb817, 1, none⟩) (Kd.R_far (p := ⟨gb817, 0, none⟩) (Kd.R_types HO816.out BK817.out zt) (fun _ hk => hk.2) (.string t809)) (fun _ hk => hk.2) (.int .i64 t810)) (fun _ hk => hk.2) (.int .i64 t811)) (fun _ hk => hk.2) (.int .i64 t812)) (fun _ hk => hk.2) (.string t813)) (fun _ hk => hk.2) (.slice Ao188 t814.length co188)) (fun _ h_ => h_.1))) hb); have n1_ := zi (blk_below (g := gb817) (o := .cells #[.string t809, .int .i64 t810, .int .i64 t811, .int .i64 t812, .string t813, .slice Ao188 t814.length co188] 28 (0, 0)) (by (repeat refine zj ?_); refine blk_put (cs := #[.string t809, .int .i64 t810, .int .i64 t811, .int .i64 t812, .string t813, .slice none 0 0]) ?_ 5 _ rfl; (repeat refine zj ?_); refine blk_put (cs := #[.string t809, .int .i64 t810, .int .i64 t811, .int .i64 t812, .string (⟨#[]⟩ : ByteArray), .slice none 0 0]) ?_ 4 _ rfl; (repeat refine zj ?_); refine blk_put (cs := #[.string t809, .int .i64 t810, .int .i64 t811, .int .i64 0, .string (⟨#[]⟩ : ByteArray), .slice none 0 0]) ?_ 3 _ rfl; (repeat refine zj ?_); refine blk_put (cs := #[.string t809, .int .i64 t810, .int .i64 0, .int .i64 0, .string (⟨#[]⟩ : ByteArray), .slice none 0 0]) ?_ 2 _ rfl; (repeat refine zj ?_); refine blk_put (cs := #[.string t809, .int .i64 0, .int .i64 0, .int .i64 0, .string (⟨#[]⟩ : ByteArray), .slice none 0 0]) ?_ 1 _ rfl; (repeat refine zj ?_); refine blk_put (cs := #[.string (⟨#[]⟩ : ByteArray), .int .i64 0, .int .i64 0, .int .i64 0, .string (⟨#[]⟩ : ByteArray), .slice none 0 0]) ?_ 0 _ rfl; (repeat refine zj ?_); exact BK817.out) hb); have n2_ := zi (below_step z6j hb); clear HO816; clear BK817; clear HB; have HO816 := n0_; have BK817 := n1_; have HB := n2_; clear n0_ n1_ n2_; (try clear hb); (try clear hb2); (try clear hk); (try clear hi); obtain ⟨hcz190_0, hcz190_1, hcz190_2, hcz190_3, hcz190_4, hcz190_5, hfz190_0, hfz190_1, hfz190_2, hfz190_3, hfz190_4, hfz190_5⟩ := zg BK817.out) | ((with_reducible refine gate_callee (f := 10) rfl ?_); refine goesL_ (some 16) rfl rfl Tryz.func10 zq rfl #[.agg #[.string t809, .int .i64 t810, .int .i64 t811, .int .i64 t812, .string t813, .slice Ao188 t814.length co188]] rfl zy ?_; (with_reducible refine (spec_EntryOk.calls k t809 t810 t811 t812 t813 _ _ t814 false _ ?side1 ?side2 A6.out).mono ?_); (case side1 => exact z6p); (case side2 => exact (Kd.R_reads' HO816.out).2.1); rintro e w191 ⟨rfl, hb⟩; refine ⟨_, rfl, ?_⟩; have n0_ := zi (Kd.R_below z6i hb); have n1_ := zi (blk_below (g := gb817) (o := .cells #[.string t809, .int .i64 t810, .int .i64 t811, .int .i64 t812, .string t813, .slice Ao188 t814.length co188] 28 (0, 0)) z6k hb); have n2_ := zi (below_step z6j hb); clear HO816; clear BK817; clear HB; have HO816 := n0_; have BK817 := n1_; have HB := n2_; clear n0_ n1_ n2_; (try clear hb); (try clear hb2); (try clear hk); (try clear hi); obtain ⟨hcz192_0, hcz192_1, hcz192_2, hcz192_3, hcz192_4, hcz192_5, hfz192_0, hfz192_1, hfz192_2, hfz192_3, hfz192_4, hfz192_5⟩ := zg BK817.out) | (go_at_call 11; (with_reducible refine (impl_EntryOk.calls k t809 t810 t811 t812 t813 _ _ t814 t820 _ ?side1 ?side2 A184.out).mono ?_); (case side1 => exact z6p); (case side2 => exact (Kd.R_reads' HO816.out).2.1); rintro e w193 ⟨rfl, hb⟩; have n0_ := zi (Kd.R_below z6i hb); have n1_ := zi (blk_below (g := gb817) (o := .cells #[.string t809, .int .i64 t810, .int .i64 t811, .int .i64 t812, .string t813, .slice Ao188 t814.length co188] 28 (0, 0)) z6k hb); have n2_ := zi (below_step z6j hb); clear HO816; clear BK817; clear HB; have HO816 := n0_; have BK817 := n1_; have HB := n2_; clear n0_ n1_ n2_; (try clear hb); (try clear hb2); (try clear hk); (try clear hi)))
    go_ret
    exact ⟨z1b, z6j⟩
   ·rw [if_neg c183] at H
    have c183b0 : (t818.toList == ([] : List UInt8)) = false := beq_eq_false_iff_ne.mpr c183
    have c183b1 : (t818.toList != ([] : List UInt8)) = true := bne_iff_ne.mpr c183
    exact absurd H zt
def laws_FnEntries.Pure : Prop := ∀ (l0 : List Int), l0.length ≤ maxLen → l0.length * 1 ≤ 140737488351232 → (∀ x ∈ l0, (Lit.int .u8 x).wf = true) → ∃ k, laws_FnEntries.f k l0 = some true
theorem laws_FnEntries.walk (P : laws_FnEntries.Pure) (a0 : Option Addr) (len0 cap0 : Nat) (z0 : List Int) (w : World) (hG_ : GlobI w) (w0 : (a0 = none ∧ len0 = 0 ∧ cap0 = 0 ∧ z0 = []) ∨ ∃ x, a0 = some x ∧ len0 ≤ cap0 ∧ cap0 ≤ maxLen ∧ z0.length = cap0 ∧ (∀ i, i < z0.length → w.cell? (x.add i) = some (.int .u8 (z0.getD i 0))) ∧ ∀ n ∈ z0, (Lit.int .u8 n).wf = true) (y0 : len0 * 1 ≤ 140737488351232) :
  Calls Tryz.prog 3 #[.slice a0 len0 cap0] w fun e w' => e = .returned (.bool true) ∧ Below w.heap.size w w' := by
 obtain ⟨l0, rfl, hr0, hm0, hw0, hc0⟩ := ReadsInt.ofRowC w0
 obtain ⟨k, h⟩ := P l0 hm0 y0 hw0
 refine (laws_FnEntries.calls (hG_ := hG_) k _ _ l0 w (Kd.C_of_reads (d := (0 : Int)) (h1 := fun _ => rfl) hr0) hc0 h).mono ?_
 rintro e w' ⟨rfl, hd⟩
 exact ⟨rfl, hd⟩
end Go.Proofs.YtgdknepphkhnlaaGreatDoor.X

/- Plain lemmas for what the printed functions compute: enough rounds ('Ev'), tests, bounds of whole numbers, lists. No Go, no memory. -/
set_option linter.unusedVariables false
namespace Go.Proofs.YtgdknepphkhnlaaGreatDoor.Z
open Go.RowKit Go.Proofs.YtgdknepphkhnlaaGreatDoorW.PrintWords Go.Proofs.YtgdknepphkhnlaaGreatDoorW.PrintMore
theorem evT {α : Type} {c : Prop} [Decidable c] {f g : Nat → Option α} {r : α} (h : c) (H : Ev f r) : Ev (fun k => if c then f k else g k) r := by
 obtain ⟨K, hK⟩ := H
 exact ⟨K, fun k hk => (if_pos h).trans (hK k hk)⟩
theorem evF {α : Type} {c : Prop} [Decidable c] {f g : Nat → Option α} {r : α} (h : ¬ c) (H : Ev g r) : Ev (fun k => if c then f k else g k) r := by
 obtain ⟨K, hK⟩ := H
 exact ⟨K, fun k hk => (if_neg h).trans (hK k hk)⟩
theorem evI {α : Type} {c : Prop} [Decidable c] {f g : Nat → Option α} {r : α} (H : c → Ev f r) (H' : ¬ c → Ev g r) : Ev (fun k => if c then f k else g k) r := by
 by_cases h : c
 ·exact evT h (H h)
 ·exact evF h (H' h)
theorem evB {α β : Type} {g : Nat → Option α} {f : Nat → α → Option β} {a : α} {r : β} (h : Ev g a) (k : Ev (fun n => f n a) r) : Ev (fun n => (g n).bind (f n)) r := Ev.bind h k
theorem evR {α : Type} {r r' : α} (h : r = r') : Ev (fun _ => some r) r' := h ▸ Ev.now r
theorem evC {α β : Type} {x : Option α} {f : Nat → α → Option β} {a : α} {r : β} (h : x = some a) (k : Ev (fun n => f n a) r) : Ev (fun n => x.bind (f n)) r := by
 subst h
 exact k
theorem evS {α : Type} {g f : Nat → Option α} {r : α} (h : ∀ k, g (k + 1) = f k) (k : Ev f r) : Ev g r := Ev.step h k
theorem evE {α : Type} {g : Nat → Option α} {r r' : α} (h : r = r') (k : Ev g r) : Ev g r' := h ▸ k
theorem ev_one {α : Type} {g : Nat → Option α} {r r' : α} (h : Ev g r) (h' : Ev g r') : r = r' := by
 obtain ⟨K, hK⟩ := h
 obtain ⟨L, hL⟩ := h'
 have a := hK (max K L) (Nat.le_max_left _ _)
 have b := hL (max K L) (Nat.le_max_right _ _)
 rw [a] at b
 exact Option.some.inj b
theorem w64 {x : Int} (h : -9223372036854775808 ≤ x ∧ x ≤ 9223372036854775807) : wrap64 x = x := by unfold wrap64; omega
theorem w64s {i n : Nat} (h : i < n) (hn : n ≤ 9223372036854775807) : wrap64 ((i : Int) + 1) = ((i + 1 : Nat) : Int) := by unfold wrap64; omega
theorem wu64 {x : Int} (h : 0 ≤ x ∧ x ≤ 18446744073709551615) : IntKind.u64.wrap x = x := by
 simp [IntKind.wrap, IntKind.bits, IntKind.signed]
 omega
theorem wi64 (x : Int) : IntKind.i64.wrap x = wrap64 x := by rw [Go.IntKind.wrap_i64]; unfold wrap64; rfl
theorem wraps_i64 (n : Int) (h₀ : 0 ≤ n) (h₁ : n < 2 ^ 63) : IntKind.i64.wrap n = n := by
 rw [wi64, w64]
 have : (2 : Int) ^ 63 = 9223372036854775808 := by decide
 omega
theorem rd_get {l : List Int} {i : Nat} (h : i < l.length) : l[i]? = some (rd l (i : Int)) := by
 simp [rd, List.getElem?_eq_getElem h]
theorem rdOf_get {α : Type} {d : α} {l : List α} {i : Nat} (h : i < l.length) : l[i]? = some (rdOf d l (i : Int)) := by
 simp [rdOf, List.getElem?_eq_getElem h]
end Go.Proofs.YtgdknepphkhnlaaGreatDoor.Z

namespace Go.Proofs.YtgdknepphkhnlaaGreatDoor.X
open Go.RowKit Go.Proofs.YtgdknepphkhnlaaGreatDoorW.PrintWords Go.Proofs.YtgdknepphkhnlaaGreatDoorW.PrintLast Go.Proofs.YtgdknepphkhnlaaGreatDoorW.PrintMore
attribute [local go_sem] max2_int min2_int max_two min_two max_three min_three max_four min_four
set_option linter.unusedVariables false
set_option linter.unusedSimpArgs false
mutual
def spec_GetNum.l0 : Nat → List Int → Int → Int → Int → Option (Int × Int × Bool)
 | 0, _, _, _, _ => none
 | k + 1, x0, x1, x7, x8 => if x8 < 5 then (if x1 ≥ 0 then (if x1 < (x0.length : Int) then (spec_GetNum.j1 k x0 x1 x7 x8 (decide ((wrap64 (x1 + x8)) < (x0.length : Int)))) else (spec_GetNum.j1 k x0 x1 x7 x8 false)) else (spec_GetNum.j1 k x0 x1 x7 x8 false)) else (spec_GetNum.j1 k x0 x1 x7 x8 false)
def spec_GetNum.j1 : Nat → List Int → Int → Int → Int → Bool → Option (Int × Int × Bool)
 | 0, _, _, _, _, _ => none
 | k + 1, x0, x1, x7, x8, x29 => if x29 = true then (if 0 ≤ (wrap64 (x1 + x8)) then (if (wrap64 (x1 + x8)) < (x0.length : Int) then (if 0 ≤ (IntKind.u64.wrap (wrap64 (7 * x8))) then (if (wrap64 (rd x0 (wrap64 (x1 + x8)))) > 127 then (spec_GetNum.l0 k x0 x1 (Go.bits .or .i64 x7 (shl .i64 (Go.bits .and .i64 (wrap64 (rd x0 (wrap64 (x1 + x8)))) 127) (IntKind.u64.wrap (wrap64 (7 * x8))))) (wrap64 (x8 + 1))) else (if x8 > 0 then (if (wrap64 (rd x0 (wrap64 (x1 + x8)))) = 0 then (some (0, 0, false)) else (if (Go.bits .or .i64 x7 (shl .i64 (Go.bits .and .i64 (wrap64 (rd x0 (wrap64 (x1 + x8)))) 127) (IntKind.u64.wrap (wrap64 (7 * x8))))) > 1000000000 then (some (0, 0, false)) else (some (Go.bits .or .i64 x7 (shl .i64 (Go.bits .and .i64 (wrap64 (rd x0 (wrap64 (x1 + x8)))) 127) (IntKind.u64.wrap (wrap64 (7 * x8)))), wrap64 ((wrap64 (x1 + x8)) + 1), true)))) else (if (Go.bits .or .i64 x7 (shl .i64 (Go.bits .and .i64 (wrap64 (rd x0 (wrap64 (x1 + x8)))) 127) (IntKind.u64.wrap (wrap64 (7 * x8))))) > 1000000000 then (some (0, 0, false)) else (some (Go.bits .or .i64 x7 (shl .i64 (Go.bits .and .i64 (wrap64 (rd x0 (wrap64 (x1 + x8)))) 127) (IntKind.u64.wrap (wrap64 (7 * x8)))), wrap64 ((wrap64 (x1 + x8)) + 1), true))))) else (none)) else (none)) else (none)) else (some (0, 0, false))
end
def spec_GetNum.f (k : Nat) (l0 : List Int) (a1 : Int) : Option (Int × Int × Bool) := spec_GetNum.l0 k l0 a1 0 0
end Go.Proofs.YtgdknepphkhnlaaGreatDoor.X

/- What GetNum computes, the program's and the reference's, step by step: the same. No Go, no memory. -/
set_option linter.unusedVariables false
namespace Go.Proofs.YtgdknepphkhnlaaGreatDoor.Z
open Go.RowKit Go.Proofs.YtgdknepphkhnlaaGreatDoorW.PrintWords Go.Proofs.YtgdknepphkhnlaaGreatDoorW.PrintMore Go.Proofs.YtgdknepphkhnlaaGreatDoor.X
theorem or_comm64 (k : IntKind) (a b : Int) : Go.bits .or k a b = Go.bits .or k b a := by simp [Go.bits, BitVec.or_comm]
theorem and127 {c : Int} (hc : 0 ≤ c ∧ c ≤ 255) : Go.bits .and .i64 (wrap64 c) 127 = c % 128 := by
 rw [w64 zp]
 exact bits_mask .i64 63 zt wraps_i64 7 zt c hc.1 zp
theorem shl_at {y : Int} {i : Nat} (hi : i < 5) (hy : 0 ≤ y ∧ y < 128) : shl .i64 y (IntKind.u64.wrap (wrap64 (7 * (i : Int)))) = y * 2 ^ (7 * i) := by
 have h : i = 0 ∨ i = 1 ∨ i = 2 ∨ i = 3 ∨ i = 4 := by omega
 rcases h with rfl | rfl | rfl | rfl | rfl
 all_goals
  unfold shl
  rw [wi64]
  simp [IntKind.wrap, IntKind.bits, IntKind.signed, wrap64]
  omega
theorem gn_step {c n : Int} {i : Nat} (hi : i < 5) (hc : 0 ≤ c ∧ c ≤ 255) (hn : 0 ≤ n ∧ n < 2 ^ (7 * i)) :
  Go.bits .or .i64 n (shl .i64 (Go.bits .and .i64 (wrap64 c) 127) (IntKind.u64.wrap (wrap64 (7 * (i : Int))))) = n + (c % 128) * 2 ^ (7 * i) := by
 rw [and127 hc, shl_at hi zp, or_comm64]
 have hm : 0 ≤ c % 128 ∧ c % 128 < 128 := by omega
 generalize c % 128 = y at hm
 have h : i = 0 ∨ i = 1 ∨ i = 2 ∨ i = 3 ∨ i = 4 := by omega
 rcases h with rfl | rfl | rfl | rfl | rfl
 all_goals
  rw [bits_join .i64 63 zt wraps_i64 _ _ _ zp (by simp) zp hn.1 hn.2 zp]
  omega
theorem pow_next {n y : Int} {i : Nat} (hi : i < 5) (hn : 0 ≤ n ∧ n < 2 ^ (7 * i)) (hy : 0 ≤ y ∧ y < 128) : 0 ≤ n + y * 2 ^ (7 * i) ∧ n + y * 2 ^ (7 * i) < 2 ^ (7 * (i + 1)) := by
 have h : i = 0 ∨ i = 1 ∨ i = 2 ∨ i = 3 ∨ i = 4 := by omega
 rcases h with rfl | rfl | rfl | rfl | rfl <;> omega
theorem u64_ok {i : Nat} (hi : i < 5) : 0 ≤ IntKind.u64.wrap (wrap64 (7 * (i : Int))) := by
 rw [w64 zp, wu64 zp]
 omega
def GetOk (len : Nat) (a : Int) (r : Int × Int × Bool) : Prop := r = (0, 0, false) ∨ r.2.2 = true ∧ 0 ≤ r.1 ∧ r.1 ≤ 1000000000 ∧ a < r.2.1 ∧ r.2.1 ≤ len ∧ 0 ≤ a
end Go.Proofs.YtgdknepphkhnlaaGreatDoor.Z

/- Strings as lists of bytes. No Go, no memory. -/
set_option linter.unusedVariables false
namespace Go.Proofs.YtgdknepphkhnlaaGreatDoor.Z
open Go.RowKit Go.Proofs.YtgdknepphkhnlaaGreatDoorW.PrintWords Go.Proofs.YtgdknepphkhnlaaGreatDoorW.PrintMore
theorem tl_loop (a : ByteArray) (d : Nat) : ∀ i r, a.size = i + d → ByteArray.toList.loop a i r = r.reverse ++ a.data.toList.drop i := by
 have h2 := data_length a
 induction d with
 | zero =>
  intro i r h
  unfold ByteArray.toList.loop
  rw [if_neg zp, List.drop_eq_nil_of_le zp, List.append_nil]
 | succ d ih =>
  intro i r h
  unfold ByteArray.toList.loop
  rw [if_pos zp, ih (i + 1) _ zp]
  have hi : i < a.data.size := by
   have : a.data.size = a.size := rfl
   omega
  rw [List.drop_eq_getElem_cons (i := i) (by simpa using hi)]
  simp [ByteArray.get!]
  exact getElem!_pos a.data i hi
theorem tl (a : ByteArray) : a.toList = a.data.toList := by
 unfold ByteArray.toList
 rw [tl_loop a a.size 0 [] zp]
 simp
theorem tl_inj {a b : ByteArray} : a.toList = b.toList ↔ a = b := by
 constructor
 ·intro h
  rw [tl, tl] at h
  have h1 : a.data = b.data := Array.toList_inj.1 h
  cases a
  cases b
  simp_all
 ·rintro rfl
  rfl
end Go.Proofs.YtgdknepphkhnlaaGreatDoor.Z

namespace Go.Proofs.YtgdknepphkhnlaaGreatDoor.X
open Go.RowKit Go.Proofs.YtgdknepphkhnlaaGreatDoorW.PrintWords Go.Proofs.YtgdknepphkhnlaaGreatDoorW.PrintLast Go.Proofs.YtgdknepphkhnlaaGreatDoorW.PrintMore
attribute [local go_sem] max2_int min2_int max_two min_two max_three min_three max_four min_four
set_option linter.unusedVariables false
set_option linter.unusedSimpArgs false
mutual
def spec_PutNum.j0 : Nat → Int → List Int → Option (List Int)
 | 0, _, _ => none
 | k + 1, x1, x5 => if x1 < 0 then (spec_PutNum.j1 k 0 x5) else (spec_PutNum.j1 k x1 x5)
def spec_PutNum.j1 : Nat → Int → List Int → Option (List Int)
 | 0, _, _ => none
 | k + 1, x1, x5 => spec_PutNum.l0 k x1 x5
def spec_PutNum.l0 : Nat → Int → List Int → Option (List Int)
 | 0, _, _ => none
 | k + 1, x1, x5 => if x1 > 127 then (if x5.length < 140737488355328 then (spec_PutNum.l0 k (x1 / 128) (x5 ++ [(Go.bits .or .i64 (Go.bits .and .i64 x1 127) 128) % 256])) else (none)) else (if x5.length < 140737488355328 then (some (x5 ++ [(x1) % 256])) else (none))
end
def spec_PutNum.f (k : Nat) (l0 : List Int) (a1 : Int) : Option (List Int) := (some (([] : List Int) : List Int)).bind fun y305 => (if y305.length + l0.length < 140737488355328 then ((some (y305 ++ l0 : List Int)).bind fun y308 => (if a1 > 1000000000 then (spec_PutNum.j0 k 1000000000 y308) else (spec_PutNum.j0 k a1 y308))) else (none))
def spec_PutText.f (k : Nat) (l0 : List Int) (a1 : ByteArray) : Option (List Int) := (spec_PutNum.f k l0 (a1.size : Int)).bind fun t317 => (if t317.length + a1.size < 140737488355328 then (some (t317 ++ bytesOf a1)) else (none))
def spec_PutTexts.l0 : Nat → List ByteArray → List Int → Int → Option (List Int)
 | 0, _, _, _ => none
 | k + 1, x1, x5, x6 => if x6 < (x1.length : Int) then (if 0 ≤ x6 then ((spec_PutText.f k x5 (rdOf ByteArray.empty x1 x6)).bind fun t327 => (spec_PutTexts.l0 k x1 t327 (wrap64 (x6 + 1)))) else (none)) else (some x5)
def spec_PutTexts.f (k : Nat) (l0 : List Int) (l1 : List ByteArray) : Option (List Int) := (spec_PutNum.f k l0 (l1.length : Int)).bind fun t323 => (spec_PutTexts.l0 k l1 t323 0)
end Go.Proofs.YtgdknepphkhnlaaGreatDoor.X

/- What the putters compute (putNum, putText, putTexts), the program's and the reference's: the same bytes behind b; for seats without the laws' helpers. No Go, no memory. -/
set_option linter.unusedVariables false
namespace Go.Proofs.YtgdknepphkhnlaaGreatDoor.Z
open Go.RowKit Go.Proofs.YtgdknepphkhnlaaGreatDoorW.PrintWords Go.Proofs.YtgdknepphkhnlaaGreatDoorW.PrintMore Go.Proofs.YtgdknepphkhnlaaGreatDoor.X
def total (l : List ByteArray) : Nat := (l.map fun s => s.size).sum
theorem total_nil : total [] = 0 := rfl
theorem total_cons (s : ByteArray) (l : List ByteArray) : total (s :: l) = s.size + total l := by simp [total]
def encN : Nat → Nat → List Int
 | 0, n => [(n : Int) % 256]
 | d + 1, n => if n > 127 then ((n % 128 + 128 : Nat) : Int) :: encN d (n / 128) else [(n : Int) % 256]
theorem encN_length (d : Nat) : ∀ n, (encN d n).length ≤ d + 1 := by
 induction d with
 | zero => intro n; simp [encN]
 | succ d ih =>
  intro n
  unfold encN
  split
  ·have := ih (n / 128)
   simp
   omega
  ·simp
theorem encN_pos (d n : Nat) : 0 < (encN d n).length := by
 cases d with
 | zero => simp [encN]
 | succ d =>
  unfold encN
  split <;> simp
def near (n : Int) : Nat := (mx 0 (mn n 1000000000)).toNat
theorem near_eq (n : Int) : mx 0 (mn n 1000000000) = (near n : Int) := by
 unfold near mx mn
 split <;> split <;> omega
theorem near_le (n : Int) : near n ≤ 1000000000 := by
 unfold near mx mn
 split <;> split <;> omega
theorem near_of {n : Nat} (h : n ≤ 1000000000) : near (n : Int) = n := by
 unfold near mx mn
 split <;> split <;> omega
theorem orbyte {n : Nat} (hn : n ≤ 1000000000) : Go.bits .or .i64 (Go.bits .and .i64 (n : Int) 127) 128 % 256 = ((n % 128 + 128 : Nat) : Int) ∧ Go.bits .or .i64 128 (Go.bits .and .i64 (n : Int) 127) % 256 = ((n % 128 + 128 : Nat) : Int) := by
 have h1 : Go.bits .and .i64 (n : Int) 127 = (n : Int) % 128 := bits_mask .i64 63 zt wraps_i64 7 zt n zp zp
 rw [h1]
 have h2 : Go.bits .or .i64 128 ((n : Int) % 128) = 128 + (n : Int) % 128 :=
  bits_join .i64 63 zt wraps_i64 7 _ _ zp zt zt zp zp zp
 rw [or_comm64, h2]
 omega
theorem specPut_l0 (d : Nat) : ∀ (n : Nat) (b : List Int), n < 128 ^ (d + 1) → n ≤ 1000000000 → b.length + d < 140737488355328 → Ev (fun k => spec_PutNum.l0 k (n : Int) b) (b ++ encN d n) := by
 induction d with
 | zero =>
  intro n b h0 h1 h2
  refine evS (fun k => by rw [spec_PutNum.l0]) ?_
  exact evF (by simp at h0; omega) (evT zp (evR rfl))
 | succ d ih =>
  intro n b h0 h1 h2
  refine evS (fun k => by rw [spec_PutNum.l0]) ?_
  refine evI (fun h => ?_) (fun h => ?_)
  ·refine evT zp ?_
   rw [(orbyte h1).1, show (n : Int) / 128 = ((n / 128 : Nat) : Int) by omega]
   refine evE ?_ (ih (n / 128) _ (by rw [Nat.div_lt_iff_lt_mul zt]; rw [Nat.pow_succ] at h0; exact h0) zp (by simp; omega))
   rw [encN, if_pos zp]
   simp
  ·refine evT zp (evR ?_)
   rw [encN, if_neg zp]
theorem specPut_ev (b : List Int) (n : Int) (hb : b.length < 140737488355000) : Ev (fun k => spec_PutNum.f k b n) (b ++ encN 4 (near n)) := by
 unfold spec_PutNum.f
 have hm := near_le n
 have hfin : ∀ m : Int, m = (near n : Int) → Ev (fun k => spec_PutNum.j1 k m b) (b ++ encN 4 (near n)) := by
  intro m h
  rw [h]
  exact evS (fun k => by rw [spec_PutNum.j1]) (specPut_l0 4 (near n) b zp hm zp)
 have hj : ∀ m : Int, mx 0 m = (near n : Int) → Ev (fun k => spec_PutNum.j0 k m b) (b ++ encN 4 (near n)) := by
  intro m h
  refine evS (fun k => by rw [spec_PutNum.j0]) (evI (fun h0 => hfin _ ?_) (fun h0 => hfin _ ?_))
  ·rw [← h]
   unfold mx
   split <;> omega
  ·rw [← h]
   unfold mx
   split <;> omega
 refine evC rfl ?_
 refine evT (by simp; omega) ?_
 refine evC rfl ?_
 simp only [List.nil_append]
 refine evI (fun h0 => hj _ ?_) (fun h0 => hj _ ?_)
 ·rw [← near_eq]
  unfold mn
  rw [if_pos h0]
 ·rw [← near_eq]
  unfold mn
  rw [if_neg h0]
theorem implPut_l0 (d : Nat) : ∀ (n : Nat) (b : List Int), n < 128 ^ (d + 1) → n ≤ 1000000000 → b.length + d < 140737488355328 → Ev (fun k => impl_putNum.l0 k b (n : Int)) (b ++ encN d n) := by
 induction d with
 | zero =>
  intro n b h0 h1 h2
  refine evS (fun k => by rw [impl_putNum.l0]) ?_
  exact evF (by simp at h0; omega) (evT zp (evR rfl))
 | succ d ih =>
  intro n b h0 h1 h2
  refine evS (fun k => by rw [impl_putNum.l0]) ?_
  refine evI (fun h => ?_) (fun h => ?_)
  ·refine evT zp ?_
   rw [(orbyte h1).2, show (n : Int) / 128 = ((n / 128 : Nat) : Int) by omega]
   refine evE ?_ (ih (n / 128) _ (by rw [Nat.div_lt_iff_lt_mul zt]; rw [Nat.pow_succ] at h0; exact h0) zp (by simp; omega))
   rw [encN, if_pos zp]
   simp
  ·refine evT zp (evR ?_)
   rw [encN, if_neg zp]
theorem implputNum_ev (b : List Int) (n : Int) (hb : b.length < 140737488355000) : Ev (fun k => impl_putNum.f k b n) (b ++ encN 4 (near n)) := by
 unfold impl_putNum.f
 rw [near_eq]
 exact implPut_l0 4 (near n) b (by have := near_le n; omega) (near_le n) zp
def encT (s : ByteArray) : List Int := encN 4 (near (s.size : Int)) ++ bytesOf s
theorem encT_length (s : ByteArray) : (encT s).length ≤ s.size + 5 := by
 unfold encT
 rw [List.length_append, bytesOf_length]
 have := encN_length 4 (near (s.size : Int))
 omega
theorem specText_ev (b : List Int) (s : ByteArray) (hb : b.length + s.size < 140737488350000) : Ev (fun k => spec_PutText.f k b s) (b ++ encT s) := by
 unfold spec_PutText.f
 refine evB (specPut_ev b _ zp) ?_
 have := encN_length 4 (near (s.size : Int))
 refine evT z6q (evR ?_)
 rw [encT, List.append_assoc]
theorem implputText_ev (b : List Int) (s : ByteArray) (hb : b.length + s.size < 140737488350000) : Ev (fun k => impl_putText.f k b s) (b ++ encT s) := by
 unfold impl_putText.f
 refine evB (implputNum_ev b _ zp) ?_
 have := encN_length 4 (near (s.size : Int))
 refine evT z6q (evR ?_)
 rw [encT, List.append_assoc]
def encL (l : List ByteArray) : List Int := (l.map encT).flatten
theorem encL_cons (s : ByteArray) (l : List ByteArray) : encL (s :: l) = encT s ++ encL l := by simp [encL]
theorem encL_length (l : List ByteArray) : (encL l).length ≤ total l + 5 * l.length := by
 induction l with
 | nil => simp [encL, total_nil]
 | cons s l ih =>
  rw [encL_cons, total_cons, List.length_append, List.length_cons]
  have := encT_length s
  omega
theorem drop_rd (l : List ByteArray) (i : Nat) (h : i < l.length) : l.drop i = rdOf ByteArray.empty l (i : Int) :: l.drop (i + 1) := by
 rw [List.drop_eq_getElem_cons h]
 have := rdOf_get (d := ByteArray.empty) h
 rw [List.getElem?_eq_getElem h] at this
 rw [Option.some.inj this]
theorem specTexts_l0 (l : List ByteArray) (hn : l.length ≤ 4611686018427387904) (d : Nat) : ∀ (i : Nat) (b : List Int), i + d = l.length → b.length + total (l.drop i) + 5 * d < 140737488350000 → Ev (fun k => spec_PutTexts.l0 k l b (i : Int)) (b ++ encL (l.drop i)) := by
 induction d with
 | zero =>
  intro i b hi hb
  refine evS (fun k => by rw [spec_PutTexts.l0]) (evF zp (evR ?_))
  rw [List.drop_eq_nil_of_le zp]
  simp [encL]
 | succ d ih =>
  intro i b hi hb
  have hd := drop_rd l i zp
  rw [hd, total_cons] at hb
  refine evS (fun k => by rw [spec_PutTexts.l0]) (evT zp (evT zp ?_))
  refine evB (specText_ev b _ zp) ?_
  rw [w64s (show i < l.length by omega) zp]
  have he := encT_length (rdOf ByteArray.empty l (i : Int))
  refine evE ?_ (ih (i + 1) _ zp z6q)
  rw [hd, encL_cons, List.append_assoc]
theorem specTexts_ev (b : List Int) (l : List ByteArray) (hb : b.length + total l + 5 * l.length < 140737488340000) : Ev (fun k => spec_PutTexts.f k b l) (b ++ (encN 4 (near (l.length : Int)) ++ encL l)) := by
 unfold spec_PutTexts.f
 have := encN_length 4 (near (l.length : Int))
 refine evB (specPut_ev b _ zp) ?_
 refine evE ?_ (specTexts_l0 l zp l.length 0 _ zp (by rw [List.length_append, List.drop_zero]; omega))
 rw [List.drop_zero, List.append_assoc]
theorem implTexts_l0 (l : List ByteArray) (hn : l.length ≤ 4611686018427387904) (d : Nat) : ∀ (i : Nat) (b : List Int), i + d = l.length → b.length + total (l.drop i) + 5 * d < 140737488350000 → Ev (fun k => impl_putTexts.l0 k b l (l.length : Int) (i : Int)) (b ++ encL (l.drop i)) := by
 induction d with
 | zero =>
  intro i b hi hb
  refine evS (fun k => by rw [impl_putTexts.l0]) (evF zp (evR ?_))
  rw [List.drop_eq_nil_of_le zp]
  simp [encL]
 | succ d ih =>
  intro i b hi hb
  have hd := drop_rd l i zp
  rw [hd, total_cons] at hb
  refine evS (fun k => by rw [impl_putTexts.l0]) (evT zp (evT zp (evT zp ?_)))
  refine evB (implputText_ev b _ zp) ?_
  rw [w64s (show i < l.length by omega) zp]
  have he := encT_length (rdOf ByteArray.empty l (i : Int))
  refine evE ?_ (ih (i + 1) _ zp z6q)
  rw [hd, encL_cons, List.append_assoc]
theorem implputTexts_ev (b : List Int) (l : List ByteArray) (hb : b.length + total l + 5 * l.length < 140737488340000) : Ev (fun k => impl_putTexts.f k b l) (b ++ (encN 4 (near (l.length : Int)) ++ encL l)) := by
 unfold impl_putTexts.f
 have := encN_length 4 (near (l.length : Int))
 refine evB (implputNum_ev b _ zp) ?_
 refine evE ?_ (implTexts_l0 l zp l.length 0 _ zp (by rw [List.length_append, List.drop_zero]; omega))
 rw [List.drop_zero, List.append_assoc]
end Go.Proofs.YtgdknepphkhnlaaGreatDoor.Z
