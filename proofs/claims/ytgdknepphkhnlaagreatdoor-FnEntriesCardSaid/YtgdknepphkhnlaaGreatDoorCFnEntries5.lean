/- The law FnEntries, as a plain statement: a drawn entry that is right comes back of its text; a name does, too. Conditions: those of the row's reading alone. -/
/- Part 6 of 12 of this claim's texts. -/
import Derived.Lib.ConvBytes
import Derived.Laws.Append
import Derived.Deep.RegionHeld3
import Derived.Test.YtgdknepphkhnlaaGreatDoorCFnEntries0
import Derived.Test.YtgdknepphkhnlaaGreatDoorCFnEntries1
import Derived.Test.YtgdknepphkhnlaaGreatDoorCFnEntries2
import Derived.Test.YtgdknepphkhnlaaGreatDoorCFnEntries3
import Derived.Test.YtgdknepphkhnlaaGreatDoorCFnEntries4
namespace Go.Proofs.YtgdknepphkhnlaaGreatDoor.X
open Go.RowKit Go.Proofs.YtgdknepphkhnlaaGreatDoorW.PrintWords Go.Proofs.YtgdknepphkhnlaaGreatDoorW.PrintLast Go.Proofs.YtgdknepphkhnlaaGreatDoorW.PrintMore
attribute [local go_sem] max2_int min2_int max_two min_two max_three min_three max_four min_four
set_option linter.unusedVariables false
set_option linter.unusedSimpArgs false
def impl_ParseName.f (k : Nat) (a0 : ByteArray) : Option (ByteArray × Int × Int × Int × ByteArray × Bool) := (strings_Cut.f a0 (⟨#[64]⟩ : ByteArray)).bind fun bt414 => ((impl_ParseVersion.f k bt414.2.1).bind fun bt417 => (if bt417.2.2.2.2 = true then ((impl_EntryName.f k bt414.1 bt417.1 bt417.2.1 bt417.2.2.1 bt417.2.2.2.1).bind fun t423 => (if t423.toList = a0.toList then (if a0.toList = ([] : List UInt8) then (some ((⟨#[]⟩ : ByteArray), 0, 0, 0, (⟨#[]⟩ : ByteArray), false)) else (some (bt414.1, bt417.1, bt417.2.1, bt417.2.2.1, bt417.2.2.2.1, true))) else (some ((⟨#[]⟩ : ByteArray), 0, 0, 0, (⟨#[]⟩ : ByteArray), false)))) else (some ((⟨#[]⟩ : ByteArray), 0, 0, 0, (⟨#[]⟩ : ByteArray), false))))
set_option maxHeartbeats 8000000 in
set_option maxRecDepth 100000 in
theorem impl_ParseName.calls (k : Nat) (a0 : ByteArray) (r1 : ByteArray) (r2 : Int) (r3 : Int) (r4 : Int) (r5 : ByteArray) (r6 : Bool) (w : World) (hG_ : GlobI w) (h : impl_ParseName.f k a0 = some (r1, r2, r3, r4, r5, r6)) :
  Calls Tryz.prog 13 #[.string a0] w fun e w' => e = .returned (.tuple #[.agg #[.string r1, .int .i64 r2, .int .i64 r3, .int .i64 r4, .string r5], .bool r6]) ∧ Below w.heap.size w w' := by
 have HG_ := zi hG_
 clear hG_
 have hu35 := Tryz.underlying35
 have hu25 := Tryz.underlying25
 have HB := zi (Below.refl w.heap.size w)
 have H := h
 unfold impl_ParseName.f at H
 clear h
 replace H := Option.bind_eq_some_iff.mp H
 obtain ⟨⟨t414, t415, t416⟩, A20, H⟩ := H
 try dsimp only at H
 have A2 := zi A20
 clear A20
 replace H := Option.bind_eq_some_iff.mp H
 obtain ⟨⟨t417, t418, t419, t420, t421⟩, A30, H⟩ := H
 try dsimp only at H
 have A3 := zi A30
 clear A30
 by_cases c4 : t421 = true
 ·subst c4
  rw [if_pos rfl] at H
  replace H := Option.bind_eq_some_iff.mp H
  obtain ⟨t423, A50, H⟩ := H
  try dsimp only at H
  have A5 := zi A50
  clear A50
  by_cases c6 : t423.toList = a0.toList
  ·rw [if_pos c6] at H
   have c6b0 : (t423.toList == a0.toList) = true := beq_iff_eq.mpr c6
   have c6b1 : (t423.toList != a0.toList) = false := bne_eq_false_iff_eq.mpr c6
   clear c6
   by_cases c7 : a0.toList = ([] : List UInt8)
   ·rw [if_pos c7] at H
    have c7b0 : (a0.toList == ([] : List UInt8)) = true := beq_iff_eq.mpr c7
    have c7b1 : (a0.toList != ([] : List UInt8)) = false := bne_eq_false_iff_eq.mpr c7
    clear c7
    simp only [Option.some.injEq, Prod.mk.injEq] at H
    obtain ⟨rfl, rfl, rfl, rfl, rfl, rfl⟩ := H
    go_enter Tryz.func13, Tryz.ntmps13
    go_wp2_with (first | ((with_reducible refine gate_dst (N := 2) rfl ?_); refine box_event zr (N := 2) zr (cs := #[.string (⟨#[]⟩ : ByteArray), .int .i64 0, .int .i64 0, .int .i64 0, .string (⟨#[]⟩ : ByteArray)]) (t := 35) z1h ?_; intro gb413 hg w8 hbox hb; have n0_ := zi (below_step zz hb); have n1_ := zi hbox; have n2_ := zi ((z6t : w.heap.size ≤ gb413)); have n3_ := zi ((z6t : w.heap.size ≤ gb413)); clear HB; have HB := n0_; have BK413 := n1_; have GW413 := n2_; have GE413 := n3_; clear n0_ n1_ n2_ n3_; clear hb hbox hg) | ((with_reducible refine gate_callee (f := 39) rfl ?_); refine goesL_ (some 11) rfl rfl Tryz.func39 zq rfl #[.string a0, .string (⟨#[64]⟩ : ByteArray)] rfl zy ?_; (with_reducible refine (strings_Cut.calls a0 (⟨#[64]⟩ : ByteArray) t414 t415 t416 _ A2.out).mono ?_); rintro e w' ⟨rfl, ⟨nd, rfl⟩⟩; refine ⟨_, rfl, ?_⟩; (try (rw [drewN_self w8]; generalize hq_ : World.drewN w8 _ = w8; have n0_ : Aside0 (w8.heap[gb413]? = some (.cells #[.string (⟨#[]⟩ : ByteArray), .int .i64 0, .int .i64 0, .int .i64 0, .string (⟨#[]⟩ : ByteArray)] 35 (0, 0))) := ⟨by rw [← hq_]; exact z2t⟩; have n1_ : Aside0 (Below w.heap.size w w8) := ⟨by rw [← hq_]; exact z2u⟩; clear BK413 HB hq_; have BK413 := n0_; have HB := n1_; clear n0_ n1_))) | ((with_reducible refine gate_callee (f := 40) rfl ?_); refine goesL_ (some 17) rfl rfl Tryz.func40 zq rfl #[.string t415] rfl zy ?_; (with_reducible refine (impl_ParseVersion.calls (hG_ := globI_on HG_.out z1v) k t415 t417 t418 t419 t420 true _ A3.out).mono ?_); rintro e w9 ⟨rfl, hb⟩; refine ⟨_, rfl, ?_⟩; have n0_ := zi (blk_below (g := gb413) (o := .cells #[.string (⟨#[]⟩ : ByteArray), .int .i64 0, .int .i64 0, .int .i64 0, .string (⟨#[]⟩ : ByteArray)] 35 (0, 0)) z2t hb); have n1_ := zi (below_step z2u hb); clear BK413; clear HB; have BK413 := n0_; have HB := n1_; clear n0_ n1_; (try clear hb); (try clear hb2); (try clear hk); (try clear hi)) | ((with_reducible refine gate_dst (N := 7) rfl ?_); refine box_event zr (N := 7) zr (cs := #[.int .i64 0, .int .i64 0, .int .i64 0, .string (⟨#[]⟩ : ByteArray)]) (t := 25) z1h ?_; intro gb422 hg w10 hbox hb; have n0_ := zi (blk_below (g := gb413) (o := .cells #[.string (⟨#[]⟩ : ByteArray), .int .i64 0, .int .i64 0, .int .i64 0, .string (⟨#[]⟩ : ByteArray)] 35 (0, 0)) z2t hb); have n1_ := zi (below_step z2u hb); have n2_ := zi hbox; have n3_ := zi ((z6v : w.heap.size ≤ gb422)); have n4_ := zi ((z6v : w.heap.size ≤ gb422)); have n5_ := zi ((z6w : gb413 ≠ gb422)); have n6_ := zi ((z6x : gb422 ≠ gb413)); clear BK413; clear HB; have BK413 := n0_; have HB := n1_; have BK422 := n2_; have GW422 := n3_; have GE422 := n4_; have NB413_422 := n5_; have NB422_413 := n6_; clear n0_ n1_ n2_ n3_ n4_ n5_ n6_; clear hb hbox hg; have hnb11 := NB422_413.out; have hnc11 := NB413_422.out; obtain ⟨hcz12_0, hcz12_1, hcz12_2, hcz12_3, hfz12_0, hfz12_1, hfz12_2, hfz12_3⟩ := ze BK422.out) | (go_at_call 14; (with_reducible refine (impl_EntryName.calls (hG_ := globI_on HG_.out z1v) k t414 t417 t418 t419 t420 t423 _ A5.out).mono ?_); rintro e w13 ⟨rfl, hb⟩; have n0_ := zi (blk_below (g := gb413) (o := .cells #[.string (⟨#[]⟩ : ByteArray), .int .i64 0, .int .i64 0, .int .i64 0, .string (⟨#[]⟩ : ByteArray)] 35 (0, 0)) z2v hb); have n1_ := zi (blk_below (g := gb422) (o := .cells #[.int .i64 t417, .int .i64 t418, .int .i64 t419, .string t420] 25 (0, 0)) z2w hb); have n2_ := zi (below_step z2x hb); clear BK413; clear BK422; clear HB; have BK413 := n0_; have BK422 := n1_; have HB := n2_; clear n0_ n1_ n2_; (try clear hb); (try clear hb2); (try clear hk); (try clear hi); obtain ⟨hcz14_0, hcz14_1, hcz14_2, hcz14_3, hcz14_4, hfz14_0, hfz14_1, hfz14_2, hfz14_3, hfz14_4⟩ := zf BK413.out))
    refine bodyPost_ret (results_ct rfl _ _ gb413 35 #[.string (⟨#[]⟩ : ByteArray), .int .i64 0, .int .i64 0, .int .i64 0, .string (⟨#[]⟩ : ByteArray)] (0, 0) _ rfl (by (repeat refine zj ?_); refine blk_put (cs := #[.string (⟨#[]⟩ : ByteArray), .int .i64 0, .int .i64 0, .int .i64 0, .string (⟨#[]⟩ : ByteArray)]) ?_ 4 _ rfl; (repeat refine zj ?_); refine blk_put (cs := #[.string (⟨#[]⟩ : ByteArray), .int .i64 0, .int .i64 0, .int .i64 0, .string (⟨#[]⟩ : ByteArray)]) ?_ 3 _ rfl; (repeat refine zj ?_); refine blk_put (cs := #[.string (⟨#[]⟩ : ByteArray), .int .i64 0, .int .i64 0, .int .i64 0, .string (⟨#[]⟩ : ByteArray)]) ?_ 2 _ rfl; (repeat refine zj ?_); refine blk_put (cs := #[.string (⟨#[]⟩ : ByteArray), .int .i64 0, .int .i64 0, .int .i64 0, .string (⟨#[]⟩ : ByteArray)]) ?_ 1 _ rfl; (repeat refine zj ?_); refine blk_put (cs := #[.string (⟨#[]⟩ : ByteArray), .int .i64 0, .int .i64 0, .int .i64 0, .string (⟨#[]⟩ : ByteArray)]) ?_ 0 _ rfl; (repeat refine zj ?_); exact BK413.out) Tryz.underlying35 rfl zq) rfl ?_
    exact ⟨z1b, z2x⟩
   ·rw [if_neg c7] at H
    have c7b0 : (a0.toList == ([] : List UInt8)) = false := beq_eq_false_iff_ne.mpr c7
    have c7b1 : (a0.toList != ([] : List UInt8)) = true := bne_iff_ne.mpr c7
    simp only [Option.some.injEq, Prod.mk.injEq] at H
    obtain ⟨rfl, rfl, rfl, rfl, rfl, rfl⟩ := H
    go_enter Tryz.func13, Tryz.ntmps13
    go_wp2_with (first | ((with_reducible refine gate_dst (N := 2) rfl ?_); refine box_event zr (N := 2) zr (cs := #[.string (⟨#[]⟩ : ByteArray), .int .i64 0, .int .i64 0, .int .i64 0, .string (⟨#[]⟩ : ByteArray)]) (t := 35) z1h ?_; intro gb413 hg w15 hbox hb; have n0_ := zi (below_step zz hb); have n1_ := zi hbox; have n2_ := zi ((z6t : w.heap.size ≤ gb413)); have n3_ := zi ((z6t : w.heap.size ≤ gb413)); clear HB; have HB := n0_; have BK413 := n1_; have GW413 := n2_; have GE413 := n3_; clear n0_ n1_ n2_ n3_; clear hb hbox hg) | ((with_reducible refine gate_callee (f := 39) rfl ?_); refine goesL_ (some 11) rfl rfl Tryz.func39 zq rfl #[.string a0, .string (⟨#[64]⟩ : ByteArray)] rfl zy ?_; (with_reducible refine (strings_Cut.calls a0 (⟨#[64]⟩ : ByteArray) t414 t415 t416 _ A2.out).mono ?_); rintro e w' ⟨rfl, ⟨nd, rfl⟩⟩; refine ⟨_, rfl, ?_⟩; (try (rw [drewN_self w15]; generalize hq_ : World.drewN w15 _ = w15; have n0_ : Aside0 (w15.heap[gb413]? = some (.cells #[.string (⟨#[]⟩ : ByteArray), .int .i64 0, .int .i64 0, .int .i64 0, .string (⟨#[]⟩ : ByteArray)] 35 (0, 0))) := ⟨by rw [← hq_]; exact z2t⟩; have n1_ : Aside0 (Below w.heap.size w w15) := ⟨by rw [← hq_]; exact z2u⟩; clear BK413 HB hq_; have BK413 := n0_; have HB := n1_; clear n0_ n1_))) | ((with_reducible refine gate_callee (f := 40) rfl ?_); refine goesL_ (some 17) rfl rfl Tryz.func40 zq rfl #[.string t415] rfl zy ?_; (with_reducible refine (impl_ParseVersion.calls (hG_ := globI_on HG_.out z1v) k t415 t417 t418 t419 t420 true _ A3.out).mono ?_); rintro e w16 ⟨rfl, hb⟩; refine ⟨_, rfl, ?_⟩; have n0_ := zi (blk_below (g := gb413) (o := .cells #[.string (⟨#[]⟩ : ByteArray), .int .i64 0, .int .i64 0, .int .i64 0, .string (⟨#[]⟩ : ByteArray)] 35 (0, 0)) z2t hb); have n1_ := zi (below_step z2u hb); clear BK413; clear HB; have BK413 := n0_; have HB := n1_; clear n0_ n1_; (try clear hb); (try clear hb2); (try clear hk); (try clear hi)) | ((with_reducible refine gate_dst (N := 7) rfl ?_); refine box_event zr (N := 7) zr (cs := #[.int .i64 0, .int .i64 0, .int .i64 0, .string (⟨#[]⟩ : ByteArray)]) (t := 25) z1h ?_; intro gb422 hg w17 hbox hb; have n0_ := zi (blk_below (g := gb413) (o := .cells #[.string (⟨#[]⟩ : ByteArray), .int .i64 0, .int .i64 0, .int .i64 0, .string (⟨#[]⟩ : ByteArray)] 35 (0, 0)) z2t hb); have n1_ := zi (below_step z2u hb); have n2_ := zi hbox; have n3_ := zi ((z6v : w.heap.size ≤ gb422)); have n4_ := zi ((z6v : w.heap.size ≤ gb422)); have n5_ := zi ((z6w : gb413 ≠ gb422)); have n6_ := zi ((z6x : gb422 ≠ gb413)); clear BK413; clear HB; have BK413 := n0_; have HB := n1_; have BK422 := n2_; have GW422 := n3_; have GE422 := n4_; have NB413_422 := n5_; have NB422_413 := n6_; clear n0_ n1_ n2_ n3_ n4_ n5_ n6_; clear hb hbox hg; have hnb18 := NB422_413.out; have hnc18 := NB413_422.out; obtain ⟨hcz19_0, hcz19_1, hcz19_2, hcz19_3, hfz19_0, hfz19_1, hfz19_2, hfz19_3⟩ := ze BK422.out) | (go_at_call 14; (with_reducible refine (impl_EntryName.calls (hG_ := globI_on HG_.out z1v) k t414 t417 t418 t419 t420 t423 _ A5.out).mono ?_); rintro e w20 ⟨rfl, hb⟩; have n0_ := zi (blk_below (g := gb413) (o := .cells #[.string (⟨#[]⟩ : ByteArray), .int .i64 0, .int .i64 0, .int .i64 0, .string (⟨#[]⟩ : ByteArray)] 35 (0, 0)) z2v hb); have n1_ := zi (blk_below (g := gb422) (o := .cells #[.int .i64 t417, .int .i64 t418, .int .i64 t419, .string t420] 25 (0, 0)) z2w hb); have n2_ := zi (below_step z2x hb); clear BK413; clear BK422; clear HB; have BK413 := n0_; have BK422 := n1_; have HB := n2_; clear n0_ n1_ n2_; (try clear hb); (try clear hb2); (try clear hk); (try clear hi); obtain ⟨hcz21_0, hcz21_1, hcz21_2, hcz21_3, hfz21_0, hfz21_1, hfz21_2, hfz21_3⟩ := ze BK422.out; obtain ⟨hcz22_0, hcz22_1, hcz22_2, hcz22_3, hcz22_4, hfz22_0, hfz22_1, hfz22_2, hfz22_3, hfz22_4⟩ := zf BK413.out))
    refine bodyPost_ret (results_ct rfl _ _ gb413 35 #[.string t414, .int .i64 t417, .int .i64 t418, .int .i64 t419, .string t420] (0, 0) _ rfl (by (repeat refine zj ?_); refine blk_put (cs := #[.string t414, .int .i64 t417, .int .i64 t418, .int .i64 t419, .string (⟨#[]⟩ : ByteArray)]) ?_ 4 _ rfl; (repeat refine zj ?_); refine blk_put (cs := #[.string t414, .int .i64 t417, .int .i64 t418, .int .i64 0, .string (⟨#[]⟩ : ByteArray)]) ?_ 3 _ rfl; (repeat refine zj ?_); refine blk_put (cs := #[.string t414, .int .i64 t417, .int .i64 0, .int .i64 0, .string (⟨#[]⟩ : ByteArray)]) ?_ 2 _ rfl; (repeat refine zj ?_); refine blk_put (cs := #[.string t414, .int .i64 0, .int .i64 0, .int .i64 0, .string (⟨#[]⟩ : ByteArray)]) ?_ 1 _ rfl; (repeat refine zj ?_); refine blk_put (cs := #[.string (⟨#[]⟩ : ByteArray), .int .i64 0, .int .i64 0, .int .i64 0, .string (⟨#[]⟩ : ByteArray)]) ?_ 0 _ rfl; (repeat refine zj ?_); exact BK413.out) Tryz.underlying35 rfl zq) rfl ?_
    exact ⟨z1b, z2x⟩
  ·rw [if_neg c6] at H
   have c6b0 : (t423.toList == a0.toList) = false := beq_eq_false_iff_ne.mpr c6
   have c6b1 : (t423.toList != a0.toList) = true := bne_iff_ne.mpr c6
   simp only [Option.some.injEq, Prod.mk.injEq] at H
   obtain ⟨rfl, rfl, rfl, rfl, rfl, rfl⟩ := H
   go_enter Tryz.func13, Tryz.ntmps13
   go_wp2_with (first | ((with_reducible refine gate_dst (N := 2) rfl ?_); refine box_event zr (N := 2) zr (cs := #[.string (⟨#[]⟩ : ByteArray), .int .i64 0, .int .i64 0, .int .i64 0, .string (⟨#[]⟩ : ByteArray)]) (t := 35) z1h ?_; intro gb413 hg w23 hbox hb; have n0_ := zi (below_step zz hb); have n1_ := zi hbox; have n2_ := zi ((z6t : w.heap.size ≤ gb413)); have n3_ := zi ((z6t : w.heap.size ≤ gb413)); clear HB; have HB := n0_; have BK413 := n1_; have GW413 := n2_; have GE413 := n3_; clear n0_ n1_ n2_ n3_; clear hb hbox hg) | ((with_reducible refine gate_callee (f := 39) rfl ?_); refine goesL_ (some 11) rfl rfl Tryz.func39 zq rfl #[.string a0, .string (⟨#[64]⟩ : ByteArray)] rfl zy ?_; (with_reducible refine (strings_Cut.calls a0 (⟨#[64]⟩ : ByteArray) t414 t415 t416 _ A2.out).mono ?_); rintro e w' ⟨rfl, ⟨nd, rfl⟩⟩; refine ⟨_, rfl, ?_⟩; (try (rw [drewN_self w23]; generalize hq_ : World.drewN w23 _ = w23; have n0_ : Aside0 (w23.heap[gb413]? = some (.cells #[.string (⟨#[]⟩ : ByteArray), .int .i64 0, .int .i64 0, .int .i64 0, .string (⟨#[]⟩ : ByteArray)] 35 (0, 0))) := ⟨by rw [← hq_]; exact z2t⟩; have n1_ : Aside0 (Below w.heap.size w w23) := ⟨by rw [← hq_]; exact z2u⟩; clear BK413 HB hq_; have BK413 := n0_; have HB := n1_; clear n0_ n1_))) | ((with_reducible refine gate_callee (f := 40) rfl ?_); refine goesL_ (some 17) rfl rfl Tryz.func40 zq rfl #[.string t415] rfl zy ?_; (with_reducible refine (impl_ParseVersion.calls (hG_ := globI_on HG_.out z1v) k t415 t417 t418 t419 t420 true _ A3.out).mono ?_); rintro e w24 ⟨rfl, hb⟩; refine ⟨_, rfl, ?_⟩; have n0_ := zi (blk_below (g := gb413) (o := .cells #[.string (⟨#[]⟩ : ByteArray), .int .i64 0, .int .i64 0, .int .i64 0, .string (⟨#[]⟩ : ByteArray)] 35 (0, 0)) z2t hb); have n1_ := zi (below_step z2u hb); clear BK413; clear HB; have BK413 := n0_; have HB := n1_; clear n0_ n1_; (try clear hb); (try clear hb2); (try clear hk); (try clear hi)) | ((with_reducible refine gate_dst (N := 7) rfl ?_); refine box_event zr (N := 7) zr (cs := #[.int .i64 0, .int .i64 0, .int .i64 0, .string (⟨#[]⟩ : ByteArray)]) (t := 25) z1h ?_; intro gb422 hg w25 hbox hb; have n0_ := zi (blk_below (g := gb413) (o := .cells #[.string (⟨#[]⟩ : ByteArray), .int .i64 0, .int .i64 0, .int .i64 0, .string (⟨#[]⟩ : ByteArray)] 35 (0, 0)) z2t hb); have n1_ := zi (below_step z2u hb); have n2_ := zi hbox; have n3_ := zi ((z6v : w.heap.size ≤ gb422)); have n4_ := zi ((z6v : w.heap.size ≤ gb422)); have n5_ := zi ((z6w : gb413 ≠ gb422)); have n6_ := zi ((z6x : gb422 ≠ gb413)); clear BK413; clear HB; have BK413 := n0_; have HB := n1_; have BK422 := n2_; have GW422 := n3_; have GE422 := n4_; have NB413_422 := n5_; have NB422_413 := n6_; clear n0_ n1_ n2_ n3_ n4_ n5_ n6_; clear hb hbox hg; have hnb26 := NB422_413.out; have hnc26 := NB413_422.out; obtain ⟨hcz27_0, hcz27_1, hcz27_2, hcz27_3, hfz27_0, hfz27_1, hfz27_2, hfz27_3⟩ := ze BK422.out) | (go_at_call 14; (with_reducible refine (impl_EntryName.calls (hG_ := globI_on HG_.out z1v) k t414 t417 t418 t419 t420 t423 _ A5.out).mono ?_); rintro e w28 ⟨rfl, hb⟩; have n0_ := zi (blk_below (g := gb413) (o := .cells #[.string (⟨#[]⟩ : ByteArray), .int .i64 0, .int .i64 0, .int .i64 0, .string (⟨#[]⟩ : ByteArray)] 35 (0, 0)) z2v hb); have n1_ := zi (blk_below (g := gb422) (o := .cells #[.int .i64 t417, .int .i64 t418, .int .i64 t419, .string t420] 25 (0, 0)) z2w hb); have n2_ := zi (below_step z2x hb); clear BK413; clear BK422; clear HB; have BK413 := n0_; have BK422 := n1_; have HB := n2_; clear n0_ n1_ n2_; (try clear hb); (try clear hb2); (try clear hk); (try clear hi); obtain ⟨hcz29_0, hcz29_1, hcz29_2, hcz29_3, hcz29_4, hfz29_0, hfz29_1, hfz29_2, hfz29_3, hfz29_4⟩ := zf BK413.out))
   refine bodyPost_ret (results_ct rfl _ _ gb413 35 #[.string (⟨#[]⟩ : ByteArray), .int .i64 0, .int .i64 0, .int .i64 0, .string (⟨#[]⟩ : ByteArray)] (0, 0) _ rfl (by (repeat refine zj ?_); refine blk_put (cs := #[.string (⟨#[]⟩ : ByteArray), .int .i64 0, .int .i64 0, .int .i64 0, .string (⟨#[]⟩ : ByteArray)]) ?_ 4 _ rfl; (repeat refine zj ?_); refine blk_put (cs := #[.string (⟨#[]⟩ : ByteArray), .int .i64 0, .int .i64 0, .int .i64 0, .string (⟨#[]⟩ : ByteArray)]) ?_ 3 _ rfl; (repeat refine zj ?_); refine blk_put (cs := #[.string (⟨#[]⟩ : ByteArray), .int .i64 0, .int .i64 0, .int .i64 0, .string (⟨#[]⟩ : ByteArray)]) ?_ 2 _ rfl; (repeat refine zj ?_); refine blk_put (cs := #[.string (⟨#[]⟩ : ByteArray), .int .i64 0, .int .i64 0, .int .i64 0, .string (⟨#[]⟩ : ByteArray)]) ?_ 1 _ rfl; (repeat refine zj ?_); refine blk_put (cs := #[.string (⟨#[]⟩ : ByteArray), .int .i64 0, .int .i64 0, .int .i64 0, .string (⟨#[]⟩ : ByteArray)]) ?_ 0 _ rfl; (repeat refine zj ?_); exact BK413.out) Tryz.underlying35 rfl zq) rfl ?_
   exact ⟨z1b, z2x⟩
 ·replace c4 := Bool.eq_false_iff.mpr c4
  subst c4
  rw [if_neg zh] at H
  simp only [Option.some.injEq, Prod.mk.injEq] at H
  obtain ⟨rfl, rfl, rfl, rfl, rfl, rfl⟩ := H
  go_enter Tryz.func13, Tryz.ntmps13
  go_wp2_with (first | ((with_reducible refine gate_dst (N := 2) rfl ?_); refine box_event zr (N := 2) zr (cs := #[.string (⟨#[]⟩ : ByteArray), .int .i64 0, .int .i64 0, .int .i64 0, .string (⟨#[]⟩ : ByteArray)]) (t := 35) z1h ?_; intro gb413 hg w30 hbox hb; have n0_ := zi (below_step zz hb); have n1_ := zi hbox; have n2_ := zi ((z6t : w.heap.size ≤ gb413)); have n3_ := zi ((z6t : w.heap.size ≤ gb413)); clear HB; have HB := n0_; have BK413 := n1_; have GW413 := n2_; have GE413 := n3_; clear n0_ n1_ n2_ n3_; clear hb hbox hg) | ((with_reducible refine gate_callee (f := 39) rfl ?_); refine goesL_ (some 11) rfl rfl Tryz.func39 zq rfl #[.string a0, .string (⟨#[64]⟩ : ByteArray)] rfl zy ?_; (with_reducible refine (strings_Cut.calls a0 (⟨#[64]⟩ : ByteArray) t414 t415 t416 _ A2.out).mono ?_); rintro e w' ⟨rfl, ⟨nd, rfl⟩⟩; refine ⟨_, rfl, ?_⟩; (try (rw [drewN_self w30]; generalize hq_ : World.drewN w30 _ = w30; have n0_ : Aside0 (w30.heap[gb413]? = some (.cells #[.string (⟨#[]⟩ : ByteArray), .int .i64 0, .int .i64 0, .int .i64 0, .string (⟨#[]⟩ : ByteArray)] 35 (0, 0))) := ⟨by rw [← hq_]; exact z2t⟩; have n1_ : Aside0 (Below w.heap.size w w30) := ⟨by rw [← hq_]; exact z2u⟩; clear BK413 HB hq_; have BK413 := n0_; have HB := n1_; clear n0_ n1_))) | ((with_reducible refine gate_callee (f := 40) rfl ?_); refine goesL_ (some 17) rfl rfl Tryz.func40 zq rfl #[.string t415] rfl zy ?_; (with_reducible refine (impl_ParseVersion.calls (hG_ := globI_on HG_.out z1v) k t415 t417 t418 t419 t420 false _ A3.out).mono ?_); rintro e w31 ⟨rfl, hb⟩; refine ⟨_, rfl, ?_⟩; have n0_ := zi (blk_below (g := gb413) (o := .cells #[.string (⟨#[]⟩ : ByteArray), .int .i64 0, .int .i64 0, .int .i64 0, .string (⟨#[]⟩ : ByteArray)] 35 (0, 0)) z2t hb); have n1_ := zi (below_step z2u hb); clear BK413; clear HB; have BK413 := n0_; have HB := n1_; clear n0_ n1_; (try clear hb); (try clear hb2); (try clear hk); (try clear hi)) | ((with_reducible refine gate_dst (N := 7) rfl ?_); refine box_event zr (N := 7) zr (cs := #[.int .i64 0, .int .i64 0, .int .i64 0, .string (⟨#[]⟩ : ByteArray)]) (t := 25) z1h ?_; intro gb422 hg w32 hbox hb; have n0_ := zi (blk_below (g := gb413) (o := .cells #[.string (⟨#[]⟩ : ByteArray), .int .i64 0, .int .i64 0, .int .i64 0, .string (⟨#[]⟩ : ByteArray)] 35 (0, 0)) z2t hb); have n1_ := zi (below_step z2u hb); have n2_ := zi hbox; have n3_ := zi ((z6v : w.heap.size ≤ gb422)); have n4_ := zi ((z6v : w.heap.size ≤ gb422)); have n5_ := zi ((z6w : gb413 ≠ gb422)); have n6_ := zi ((z6x : gb422 ≠ gb413)); clear BK413; clear HB; have BK413 := n0_; have HB := n1_; have BK422 := n2_; have GW422 := n3_; have GE422 := n4_; have NB413_422 := n5_; have NB422_413 := n6_; clear n0_ n1_ n2_ n3_ n4_ n5_ n6_; clear hb hbox hg; have hnb33 := NB422_413.out; have hnc33 := NB413_422.out; obtain ⟨hcz34_0, hcz34_1, hcz34_2, hcz34_3, hfz34_0, hfz34_1, hfz34_2, hfz34_3⟩ := ze BK422.out; obtain ⟨hcz35_0, hcz35_1, hcz35_2, hcz35_3, hcz35_4, hfz35_0, hfz35_1, hfz35_2, hfz35_3, hfz35_4⟩ := zf BK413.out))
  refine bodyPost_ret (results_ct rfl _ _ gb413 35 #[.string (⟨#[]⟩ : ByteArray), .int .i64 0, .int .i64 0, .int .i64 0, .string (⟨#[]⟩ : ByteArray)] (0, 0) _ rfl (by (repeat refine zj ?_); refine blk_put (cs := #[.string (⟨#[]⟩ : ByteArray), .int .i64 0, .int .i64 0, .int .i64 0, .string (⟨#[]⟩ : ByteArray)]) ?_ 4 _ rfl; (repeat refine zj ?_); refine blk_put (cs := #[.string (⟨#[]⟩ : ByteArray), .int .i64 0, .int .i64 0, .int .i64 0, .string (⟨#[]⟩ : ByteArray)]) ?_ 3 _ rfl; (repeat refine zj ?_); refine blk_put (cs := #[.string (⟨#[]⟩ : ByteArray), .int .i64 0, .int .i64 0, .int .i64 0, .string (⟨#[]⟩ : ByteArray)]) ?_ 2 _ rfl; (repeat refine zj ?_); refine blk_put (cs := #[.string (⟨#[]⟩ : ByteArray), .int .i64 0, .int .i64 0, .int .i64 0, .string (⟨#[]⟩ : ByteArray)]) ?_ 1 _ rfl; (repeat refine zj ?_); refine blk_put (cs := #[.string (⟨#[]⟩ : ByteArray), .int .i64 0, .int .i64 0, .int .i64 0, .string (⟨#[]⟩ : ByteArray)]) ?_ 0 _ rfl; (repeat refine zj ?_); refine blk_far ?_ NB413_422.out _; (repeat refine zj ?_); refine blk_far ?_ NB413_422.out _; (repeat refine zj ?_); refine blk_far ?_ NB413_422.out _; (repeat refine zj ?_); refine blk_far ?_ NB413_422.out _; (repeat refine zj ?_); exact BK413.out) Tryz.underlying35 rfl zq) rfl ?_
  exact ⟨z1b, z2x⟩
mutual
def impl_GetNum.l0 : Nat → List Int → Int → Int → Int → Option (Int × Int × Bool)
 | 0, _, _, _, _ => none
 | k + 1, x0, x1, x7, x8 => if x8 < 5 then (impl_GetNum.j1 k x0 x1 x7 x8 (decide (x1 < (x0.length : Int)))) else (impl_GetNum.j1 k x0 x1 x7 x8 false)
def impl_GetNum.j1 : Nat → List Int → Int → Int → Int → Bool → Option (Int × Int × Bool)
 | 0, _, _, _, _, _ => none
 | k + 1, x0, x1, x7, x8, x23 => if x23 = true then (if 0 ≤ x1 then (if x1 < (x0.length : Int) then (if 0 ≤ (IntKind.u64.wrap (wrap64 (7 * x8))) then (if (wrap64 (rd x0 x1)) < 128 then (if (wrap64 (rd x0 x1)) = 0 then (if x8 > 0 then (some (0, 0, false)) else (if (Go.bits .or .i64 x7 (shl .i64 (Go.bits .and .i64 (wrap64 (rd x0 x1)) 127) (IntKind.u64.wrap (wrap64 (7 * x8))))) > 1000000000 then (some (0, 0, false)) else (some (Go.bits .or .i64 x7 (shl .i64 (Go.bits .and .i64 (wrap64 (rd x0 x1)) 127) (IntKind.u64.wrap (wrap64 (7 * x8)))), wrap64 (x1 + 1), true)))) else (if (Go.bits .or .i64 x7 (shl .i64 (Go.bits .and .i64 (wrap64 (rd x0 x1)) 127) (IntKind.u64.wrap (wrap64 (7 * x8))))) > 1000000000 then (some (0, 0, false)) else (some (Go.bits .or .i64 x7 (shl .i64 (Go.bits .and .i64 (wrap64 (rd x0 x1)) 127) (IntKind.u64.wrap (wrap64 (7 * x8)))), wrap64 (x1 + 1), true)))) else (impl_GetNum.l0 k x0 (wrap64 (x1 + 1)) (Go.bits .or .i64 x7 (shl .i64 (Go.bits .and .i64 (wrap64 (rd x0 x1)) 127) (IntKind.u64.wrap (wrap64 (7 * x8))))) (wrap64 (x8 + 1)))) else (none)) else (none)) else (none)) else (some (0, 0, false))
end
def impl_GetNum.f (k : Nat) (l0 : List Int) (a1 : Int) : Option (Int × Int × Bool) := (impl_inRange.f a1 0 (wrap64 ((l0.length : Int) - 1))).bind fun t424 => (if t424 = true then (impl_GetNum.l0 k l0 a1 0 0) else (some (0, 0, false)))
set_option maxHeartbeats 8000000 in
set_option maxRecDepth 100000 in
theorem impl_GetNum.calls (k : Nat) (A0 : Option Addr) (c0 : Nat) (l0 : List Int) (a1 : Int) (r1 : Int) (r2 : Int) (r3 : Bool) (w : World) (hr0 : Kd.C (Kd.int .u8) w A0 l0.length l0) (hc0 : l0.length ≤ c0) (h : impl_GetNum.f k l0 a1 = some (r1, r2, r3)) :
  Calls Tryz.prog 99 #[.slice A0 l0.length c0, .int .i64 a1] w fun e w' => e = .returned (.tuple #[.int .i64 r1, .int .i64 r2, .bool r3]) ∧ Drawn0 w w' := by
 have HR0 := zi hr0
 have HC0 := zi hc0
 clear hr0 hc0
 have H := h
 unfold impl_GetNum.f at H
 clear h
 replace H := Option.bind_eq_some_iff.mp H
 obtain ⟨t424, A30, H⟩ := H
 try dsimp only at H
 have A3 := zi A30
 clear A30
 by_cases c4 : t424 = true
 ·subst c4
  rw [if_pos rfl] at H
  have H' := zi H
  clear H
  go_enter Tryz.func99, Tryz.ntmps99
  go_wp2_with (first | ((with_reducible refine gate_callee (f := 97) rfl ?_); refine goesL_ (some 14) rfl rfl Tryz.func97 zq rfl #[.int .i64 a1, .int .i64 0, .int .i64 (wrap64 ((l0.length : Int) - 1))] rfl zy ?_; (with_reducible refine (impl_inRange.calls a1 0 (wrap64 ((l0.length : Int) - 1)) true _ A3.out).mono ?_); rintro e w' ⟨rfl, ⟨nd, rfl⟩⟩; refine ⟨_, rfl, ?_⟩))
  go_loopg [1, 7, 8] k (fun kq v1 v7 v8 w' => ∃ (x1_1 : Int) (x7_1 : Int) (x8_1 : Int), v1 = .int .i64 x1_1 ∧ v7 = .int .i64 x7_1 ∧ v8 = .int .i64 x8_1 ∧ Aside0 (impl_GetNum.l0 kq l0 x1_1 x7_1 x8_1 = some (r1, r2, r3)) ∧ Aside0 (kq ≤ k) ∧ Drawn0 w w')
  case atStart => exact ⟨(a1), (0), (0), zu, zu, zu, H', ⟨Nat.le_refl _⟩, zv⟩
  case round =>
   clear H'
   try clear p2
   try clear c4
   obtain ⟨x1_1, x7_1, x8_1, rfl, rfl, rfl, HA, HK1, ⟨m1, rfl⟩⟩ := hrel
   cases gk with
   | zero => exact absurd HA.out (by simp [impl_GetNum.l0])
   | succ k1 =>
    have H := HA.out
    clear HA
    simp only [impl_GetNum.l0] at H
    have HC5 := zi H
    clear H
    go_upto_region 5 with (fail)
    go_cut [23] (fun v23 wc => ∃ (kq : Nat) (x23_4 : Bool), v23 = .bool x23_4 ∧ Aside0 (impl_GetNum.j1 kq l0 x1_1 x7_1 x8_1 x23_4 = some (r1, r2, r3)) ∧ Aside0 (kq ≤ k1) ∧ Drawn0 w wc)
    case first =>
     have H := HC5.out
     clear HC5
     by_cases c6 : x8_1 < 5
     ·rw [if_pos c6] at H
      have c6b0 := decide_eq_true c6
      clear c6
      (first | rw [c6b0] | (simp only [i64_w, i32_w]; rw [c6b0]) | skip)
      have H' := zi H
      clear H
      go_wp2
      go_meet
      case rel => exact ⟨_, (decide (x1_1 < (l0.length : Int))), zu, H', ⟨z2y⟩, zv⟩
     ·rw [if_neg c6] at H
      have c6b0 := decide_eq_false c6
      clear c6
      (first | rw [c6b0] | (simp only [i64_w, i32_w]; rw [c6b0]) | skip)
      have H' := zi H
      clear H
      go_wp2
      go_meet
      case rel => exact ⟨_, (false), zu, H', ⟨z2y⟩, zv⟩
    case rest =>
     clear HC5
     try clear p2
     try clear c4
     try clear c6
     try clear c6b0
     try clear p6
     try clear p2
     obtain ⟨kq, x23_4, rfl, HA, HJ4, ⟨mc4, rfl⟩⟩ := hcut
     cases kq with
     | zero => exact absurd HA.out (by simp [impl_GetNum.j1])
     | succ kj4 =>
      have H := HA.out
      clear HA
      simp only [impl_GetNum.j1] at H
      by_cases c7 : x23_4 = true
      ·subst c7
       rw [if_pos rfl] at H
       by_cases c8 : 0 ≤ x1_1
       ·rw [if_pos c8] at H
        have c8b0 := decide_eq_true c8
        clear c8
        by_cases c9 : x1_1 < (l0.length : Int)
        ·rw [if_pos c9] at H
         have c9b0 := decide_eq_true c9
         clear c9
         obtain ⟨ji10, hji10⟩ : ∃ j_ : Int, (IntKind.u64.wrap (wrap64 (7 * x8_1))) = j_ := ⟨_, rfl⟩
         replace H : (if 0 ≤ (ji10) then (if (wrap64 (rd l0 x1_1)) < 128 then (if (wrap64 (rd l0 x1_1)) = 0 then (if x8_1 > 0 then (some (0, 0, false)) else (if (Go.bits .or .i64 x7_1 (shl .i64 (Go.bits .and .i64 (wrap64 (rd l0 x1_1)) 127) (ji10))) > 1000000000 then (some (0, 0, false)) else (some (Go.bits .or .i64 x7_1 (shl .i64 (Go.bits .and .i64 (wrap64 (rd l0 x1_1)) 127) (ji10)), wrap64 (x1_1 + 1), true)))) else (if (Go.bits .or .i64 x7_1 (shl .i64 (Go.bits .and .i64 (wrap64 (rd l0 x1_1)) 127) (ji10))) > 1000000000 then (some (0, 0, false)) else (some (Go.bits .or .i64 x7_1 (shl .i64 (Go.bits .and .i64 (wrap64 (rd l0 x1_1)) 127) (ji10)), wrap64 (x1_1 + 1), true)))) else (impl_GetNum.l0 kj4 l0 (wrap64 (x1_1 + 1)) (Go.bits .or .i64 x7_1 (shl .i64 (Go.bits .and .i64 (wrap64 (rd l0 x1_1)) 127) (ji10))) (wrap64 (x8_1 + 1)))) else (none)) = some (r1, r2, r3) := by first | (rw [hji10] at H; exact H) | (simp only [hji10] at H ⊢; exact H)
         by_cases c11 : 0 ≤ (ji10)
         ·rw [if_pos c11] at H
          have c11b0 := eq_true c11
          have c11b1 := decide_eq_true c11
          clear c11
          obtain ⟨ji12, hji12⟩ : ∃ j_ : Int, (shl .i64 (Go.bits .and .i64 (wrap64 (rd l0 x1_1)) 127) (ji10)) = j_ := ⟨_, rfl⟩
          replace H : (if (wrap64 (rd l0 x1_1)) < 128 then (if (wrap64 (rd l0 x1_1)) = 0 then (if x8_1 > 0 then (some (0, 0, false)) else (if (Go.bits .or .i64 x7_1 (ji12)) > 1000000000 then (some (0, 0, false)) else (some (Go.bits .or .i64 x7_1 (ji12), wrap64 (x1_1 + 1), true)))) else (if (Go.bits .or .i64 x7_1 (ji12)) > 1000000000 then (some (0, 0, false)) else (some (Go.bits .or .i64 x7_1 (ji12), wrap64 (x1_1 + 1), true)))) else (impl_GetNum.l0 kj4 l0 (wrap64 (x1_1 + 1)) (Go.bits .or .i64 x7_1 (ji12)) (wrap64 (x8_1 + 1)))) = some (r1, r2, r3) := by first | (rw [hji12] at H; exact H) | (simp only [hji12] at H ⊢; exact H)
          have hji12_ : (IntKind.i64.wrap ((Go.bits .and .i64 (wrap64 (rd l0 x1_1)) 127) * 2 ^ min (ji10).toNat 64)) = ji12 := hji12
          have hji12z : (ji10) ≤ 64 → (IntKind.i64.wrap ((Go.bits .and .i64 (wrap64 (rd l0 x1_1)) 127) * 2 ^ (ji10).toNat)) = ji12 := shl_small hji12
          have hji12y : (wrap64 ((Go.bits .and .i64 (wrap64 (rd l0 x1_1)) 127) * 2 ^ min (ji10).toNat 64)) = ji12 := (i64_w _).symm.trans hji12_
          have hji12x : (ji10) ≤ 64 → (wrap64 ((Go.bits .and .i64 (wrap64 (rd l0 x1_1)) 127) * 2 ^ (ji10).toNat)) = ji12 := fun h_ => (i64_w _).symm.trans (hji12z h_)
          by_cases c13 : (wrap64 (rd l0 x1_1)) < 128
          ·rw [if_pos c13] at H
           have c13b0 := decide_eq_true c13
           clear c13
           by_cases c14 : (wrap64 (rd l0 x1_1)) = 0
           ·rw [if_pos c14] at H
            have c14b0 : ((wrap64 (rd l0 x1_1)) == 0) = true := beq_iff_eq.mpr c14
            have c14b1 : ((wrap64 (rd l0 x1_1)) != 0) = false := bne_eq_false_iff_eq.mpr c14
            clear c14
            by_cases c15 : x8_1 > 0
            ·rw [if_pos c15] at H
             have c15b0 := decide_eq_true c15
             clear c15
             simp only [Option.some.injEq, Prod.mk.injEq] at H
             obtain ⟨rfl, rfl, rfl⟩ := H
             have p425 : 0 ≤ (x1_1 : Int) := of_decide_eq_true zw
             have q425 : x1_1 < (l0.length : Int) := of_decide_eq_true zw
             obtain ⟨ad425, e425, hx425_0⟩ := Kd.at_int HR0.out x1_1 p425 q425
             cases e425
             replace p425 := eq_true p425
             replace q425 := eq_true q425
             go_wp2
             go_ret3
             exact ⟨z2z, zv⟩
            ·rw [if_neg c15] at H
             have c15b0 := decide_eq_false c15
             clear c15
             by_cases c16 : (Go.bits .or .i64 x7_1 (ji12)) > 1000000000
             ·rw [if_pos c16] at H
              have c16b0 := decide_eq_true c16
              clear c16
              simp only [Option.some.injEq, Prod.mk.injEq] at H
              obtain ⟨rfl, rfl, rfl⟩ := H
              have p425 : 0 ≤ (x1_1 : Int) := of_decide_eq_true zw
              have q425 : x1_1 < (l0.length : Int) := of_decide_eq_true zw
              obtain ⟨ad425, e425, hx425_0⟩ := Kd.at_int HR0.out x1_1 p425 q425
              cases e425
              replace p425 := eq_true p425
              replace q425 := eq_true q425
              go_wp2
              go_ret3
              exact ⟨z2z, zv⟩
             ·rw [if_neg c16] at H
              have c16b0 := decide_eq_false c16
              clear c16
              simp only [Option.some.injEq, Prod.mk.injEq] at H
              obtain ⟨rfl, rfl, rfl⟩ := H
              have p425 : 0 ≤ (x1_1 : Int) := of_decide_eq_true zw
              have q425 : x1_1 < (l0.length : Int) := of_decide_eq_true zw
              obtain ⟨ad425, e425, hx425_0⟩ := Kd.at_int HR0.out x1_1 p425 q425
              cases e425
              replace p425 := eq_true p425
              replace q425 := eq_true q425
              go_wp2
              go_ret3
              exact ⟨z2z, zv⟩
           ·rw [if_neg c14] at H
            have c14b0 : ((wrap64 (rd l0 x1_1)) == 0) = false := beq_eq_false_iff_ne.mpr c14
            have c14b1 : ((wrap64 (rd l0 x1_1)) != 0) = true := bne_iff_ne.mpr c14
            by_cases c17 : (Go.bits .or .i64 x7_1 (ji12)) > 1000000000
            ·rw [if_pos c17] at H
             have c17b0 := decide_eq_true c17
             clear c17
             simp only [Option.some.injEq, Prod.mk.injEq] at H
             obtain ⟨rfl, rfl, rfl⟩ := H
             have p425 : 0 ≤ (x1_1 : Int) := of_decide_eq_true zw
             have q425 : x1_1 < (l0.length : Int) := of_decide_eq_true zw
             obtain ⟨ad425, e425, hx425_0⟩ := Kd.at_int HR0.out x1_1 p425 q425
             cases e425
             replace p425 := eq_true p425
             replace q425 := eq_true q425
             go_wp2
             go_ret3
             exact ⟨z2z, zv⟩
            ·rw [if_neg c17] at H
             have c17b0 := decide_eq_false c17
             clear c17
             simp only [Option.some.injEq, Prod.mk.injEq] at H
             obtain ⟨rfl, rfl, rfl⟩ := H
             have p425 : 0 ≤ (x1_1 : Int) := of_decide_eq_true zw
             have q425 : x1_1 < (l0.length : Int) := of_decide_eq_true zw
             obtain ⟨ad425, e425, hx425_0⟩ := Kd.at_int HR0.out x1_1 p425 q425
             cases e425
             replace p425 := eq_true p425
             replace q425 := eq_true q425
             go_wp2
             go_ret3
             exact ⟨z2z, zv⟩
          ·rw [if_neg c13] at H
           have c13b0 := decide_eq_false c13
           clear c13
           have H' := zi H
           clear H
           have p425 : 0 ≤ (x1_1 : Int) := of_decide_eq_true zw
           have q425 : x1_1 < (l0.length : Int) := of_decide_eq_true zw
           obtain ⟨ad425, e425, hx425_0⟩ := Kd.at_int HR0.out x1_1 p425 q425
           cases e425
           replace p425 := eq_true p425
           replace q425 := eq_true q425
           go_wp2
           go_roundg kj4
           case measure => have := HK1.out; have := HJ4.out; omega
           case rel => exact ⟨(wrap64 (x1_1 + 1)), (Go.bits .or .i64 x7_1 (ji12)), (wrap64 (x8_1 + 1)), zu, (by first | rfl | (simp; done) | (simp only [← hji12] <;> (first | rfl | simp)) | (simp [*]; done)), zu, H', ⟨by have := HK1.out; have := HJ4.out; omega⟩, zv⟩
         ·rw [if_neg c11] at H
          exact absurd H (by simp)
        ·rw [if_neg c9] at H
         exact absurd H (by simp)
       ·rw [if_neg c8] at H
        exact absurd H (by simp)
      ·replace c7 := Bool.eq_false_iff.mpr c7
       subst c7
       rw [if_neg zh] at H
       simp only [Option.some.injEq, Prod.mk.injEq] at H
       obtain ⟨rfl, rfl, rfl⟩ := H
       go_wp2
       go_ret3
       exact ⟨zu, zv⟩
 ·replace c4 := Bool.eq_false_iff.mpr c4
  subst c4
  rw [if_neg zh] at H
  simp only [Option.some.injEq, Prod.mk.injEq] at H
  obtain ⟨rfl, rfl, rfl⟩ := H
  go_enter Tryz.func99, Tryz.ntmps99
  go_wp2_with (first | ((with_reducible refine gate_callee (f := 97) rfl ?_); refine goesL_ (some 14) rfl rfl Tryz.func97 zq rfl #[.int .i64 a1, .int .i64 0, .int .i64 (wrap64 ((l0.length : Int) - 1))] rfl zy ?_; (with_reducible refine (impl_inRange.calls a1 0 (wrap64 ((l0.length : Int) - 1)) false _ A3.out).mono ?_); rintro e w' ⟨rfl, ⟨nd, rfl⟩⟩; refine ⟨_, rfl, ?_⟩))
  go_ret3
  exact ⟨zu, zv⟩
def impl_GetText.f (k : Nat) (l0 : List Int) (a1 : Int) : Option (ByteArray × Int × Bool) := (impl_GetNum.f k l0 a1).bind fun bt426 => (if bt426.2.2 = true then (if bt426.1 > (wrap64 ((l0.length : Int) - bt426.2.1)) then (some ((⟨#[]⟩ : ByteArray), 0, false)) else (if 0 ≤ bt426.2.1 then (if bt426.2.1 ≤ (wrap64 (bt426.2.1 + bt426.1)) then (if (wrap64 (bt426.2.1 + bt426.1)) ≤ (l0.length : Int) then (some (strOfNums ((l0.take ((wrap64 (bt426.2.1 + bt426.1)) : Int).toNat).drop (bt426.2.1 : Int).toNat), wrap64 (bt426.2.1 + bt426.1), true)) else (none)) else (none)) else (none))) else (some ((⟨#[]⟩ : ByteArray), 0, false)))
set_option maxHeartbeats 8000000 in
set_option maxRecDepth 100000 in
theorem impl_GetText.calls (k : Nat) (A0 : Option Addr) (c0 : Nat) (l0 : List Int) (a1 : Int) (r1 : ByteArray) (r2 : Int) (r3 : Bool) (w : World) (hr0 : Kd.C (Kd.int .u8) w A0 l0.length l0) (hc0 : l0.length ≤ c0) (h : impl_GetText.f k l0 a1 = some (r1, r2, r3)) :
  Calls Tryz.prog 72 #[.slice A0 l0.length c0, .int .i64 a1] w fun e w' => e = .returned (.tuple #[.string r1, .int .i64 r2, .bool r3]) ∧ Drawn0 w w' := by
 have HR0 := zi hr0
 have HC0 := zi hc0
 clear hr0 hc0
 have H := h
 unfold impl_GetText.f at H
 clear h
 replace H := Option.bind_eq_some_iff.mp H
 obtain ⟨⟨t426, t427, t428⟩, A30, H⟩ := H
 try dsimp only at H
 have A3 := zi A30
 clear A30
 by_cases c4 : t428 = true
 ·subst c4
  rw [if_pos rfl] at H
  by_cases c5 : t426 > (wrap64 ((l0.length : Int) - t427))
  ·rw [if_pos c5] at H
   have c5b0 := decide_eq_true c5
   clear c5
   simp only [Option.some.injEq, Prod.mk.injEq] at H
   obtain ⟨rfl, rfl, rfl⟩ := H
   go_enter Tryz.func72, Tryz.ntmps72
   go_wp2_with (first | ((with_reducible refine gate_callee (f := 99) rfl ?_); refine goesL_ (some 13) rfl rfl Tryz.func99 zq rfl #[.slice A0 l0.length c0, .int .i64 a1] rfl zy ?_; (with_reducible refine (impl_GetNum.calls k _ _ l0 a1 t426 t427 true _ ?side1 ?side2 A3.out).mono ?_); (case side1 => exact z3a); (case side2 => exact HC0.out); rintro e w' ⟨rfl, ⟨nd, rfl⟩⟩; refine ⟨_, rfl, ?_⟩))
   go_ret3
   exact ⟨zu, zv⟩
  ·rw [if_neg c5] at H
   have c5b0 := decide_eq_false c5
   clear c5
   by_cases c6 : 0 ≤ t427
   ·rw [if_pos c6] at H
    have c6b0 := eq_true c6
    have c6b1 := decide_eq_true c6
    clear c6
    by_cases c7 : t427 ≤ (wrap64 (t427 + t426))
    ·rw [if_pos c7] at H
     have c7b0 := eq_true c7
     have c7b1 := decide_eq_true c7
     by_cases c8 : (wrap64 (t427 + t426)) ≤ (l0.length : Int)
     ·rw [if_pos c8] at H
      have c8b0 := eq_true c8
      have c8b1 := decide_eq_true c8
      simp only [Option.some.injEq, Prod.mk.injEq] at H
      obtain ⟨rfl, rfl, rfl⟩ := H
      go_enter Tryz.func72, Tryz.ntmps72
      go_wp2_with (first | ((with_reducible refine gate_callee (f := 99) rfl ?_); refine goesL_ (some 13) rfl rfl Tryz.func99 zq rfl #[.slice A0 l0.length c0, .int .i64 a1] rfl zy ?_; (with_reducible refine (impl_GetNum.calls k _ _ l0 a1 t426 t427 true _ ?side1 ?side2 A3.out).mono ?_); (case side1 => exact z3a); (case side2 => exact HC0.out); rintro e w' ⟨rfl, ⟨nd, rfl⟩⟩; refine ⟨_, rfl, ?_⟩; obtain ⟨i09, hi09, _, hsz9, _⟩ := info_parts info5; obtain ⟨A9, hcut9, hA9, hC9⟩ := print_mid_of (P := Tryz.prog) (Value.int .u8) 0 22 5 .i64 .i64 Tryz.underlying22 hi09 hsz9 A0 c0 l0 t427 (wrap64 (t427 + t426)) (of_decide_eq_true zw) (by first | omega | exact of_decide_eq_true zw) (of_decide_eq_true zw) HC0.out; have HR429 := zi (Kd.C_of_reads (h1 := fun _ => rfl) (hA9 _ (Kd.reads_of_C HR0.out))); have HC429 := zi hC9; clear hA9 hC9 hi09 hsz9; have hcv10 := Kd.C_string (P := Tryz.prog) (A := A9) (c := (c0 - t427.toNat)) Tryz.underlying22 Tryz.underlying5 Tryz.underlying9 HR429.out; have hcv11 : ∀ (n_ : Nat), n_ = ((l0.take ((wrap64 (t427 + t426)) : Int).toNat).drop (t427 : Int).toNat).length → ∀ m_, (convert 22 9 (.slice A9 n_ (c0 - t427.toNat))).run Tryz.prog (w.drewN m_) = .ok (.string (strOfNums ((l0.take ((wrap64 (t427 + t426)) : Int).toNat).drop (t427 : Int).toNat))) (w.drewN m_) := fun n_ hn_ m_ => hn_ ▸ Kd.C_string (P := Tryz.prog) (A := A9) (c := (c0 - t427.toNat)) Tryz.underlying22 Tryz.underlying5 Tryz.underlying9 (Kd.C_drewN HR429.out m_)))
      go_ret3
      exact ⟨zu, zv⟩
     ·rw [if_neg c8] at H
      exact absurd H (by simp)
    ·rw [if_neg c7] at H
     exact absurd H (by simp)
   ·rw [if_neg c6] at H
    exact absurd H (by simp)
 ·replace c4 := Bool.eq_false_iff.mpr c4
  subst c4
  rw [if_neg zh] at H
  simp only [Option.some.injEq, Prod.mk.injEq] at H
  obtain ⟨rfl, rfl, rfl⟩ := H
  go_enter Tryz.func72, Tryz.ntmps72
  go_wp2_with (first | ((with_reducible refine gate_callee (f := 99) rfl ?_); refine goesL_ (some 13) rfl rfl Tryz.func99 zq rfl #[.slice A0 l0.length c0, .int .i64 a1] rfl zy ?_; (with_reducible refine (impl_GetNum.calls k _ _ l0 a1 t426 t427 false _ ?side1 ?side2 A3.out).mono ?_); (case side1 => exact z3a); (case side2 => exact HC0.out); rintro e w' ⟨rfl, ⟨nd, rfl⟩⟩; refine ⟨_, rfl, ?_⟩))
  go_ret3
  exact ⟨zu, zv⟩
end Go.Proofs.YtgdknepphkhnlaaGreatDoor.X

/- A string made a row of bytes of its own ('[]byte(s)'), as an event of a walk: the row is read from then on; its block is new. No conditions beyond what each lemma names. -/
set_option linter.unusedVariables false
namespace Go.Proofs.YtgdknepphkhnlaaGreatDoor.Y
open Go.RowKit Go.Proofs.YtgdknepphkhnlaaGreatDoorW.PrintWords
theorem bytes_get (s : ByteArray) (j : Nat) (hj : j < s.size) : (Value.int .u8 ((s.data.toList.getD j 0).toNat : Nat)) = Value.int .u8 ((bytesOf s).getD j 0) := by
 have h : j < s.data.toList.length := by rw [Array.length_toList]; exact hj
 simp [bytesOf, List.getD_eq_getElem?_getD, List.getElem?_eq_getElem h]
theorem conv_reads (w : World) (e : TypeId) (s : ByteArray) (h : s.size ≤ 9223372036854775807) : (Kd.int .u8).C (Lib.bytesWorld w e s) (some ⟨w.heap.size, 0, none⟩) (bytesOf s).length (bytesOf s) := by
 refine Kd.C_of_reads (d := (0 : Int)) (h1 := fun _ => rfl) ⟨rfl, by rw [bytesOf_length]; exact h, fun _ => ⟨_, rfl, fun j hj => ?_⟩⟩
 rw [bytesOf_length] at hj
 rw [add_plain, Lib.bytesWorld_cell w e s j hj, bytes_get s j hj]
theorem conv_below (w : World) (e : TypeId) (s : ByteArray) : Below w.heap.size w (Lib.bytesWorld w e s) :=
 ⟨rfl, rfl, rfl, by rw [Lib.bytesWorld_size]; omega, fun k hk => Lib.bytesWorld_at_old w e s k hk⟩
theorem conv_far {w : World} {A : Option Addr} {n : Nat} {xs : List Int} (h : (Kd.int .u8).C w A n xs) : ∀ ad, A = some ad → 0 < n → ad.block < w.heap.size := by
 intro ad ha hn
 obtain ⟨ad', e, hc⟩ := (Kd.reads_of_C (d := (0 : Int)) (h1 := fun _ => rfl) h).2.2 hn
 have e2 : ad = ad' := Option.some.inj (ha.symm.trans e)
 subst e2
 have := World.block_lt_of_cell? w _ (hc 0 hn)
 rwa [add_block] at this
section
variable {P : Program} {ops : Array Oper} {rest : List Oper} {o : Oper} {a : Act} {Q : Exit → Act → World → Prop}
theorem conv_event {W : World} (hgd : o.guard = none) {N : Tmp} (hd : o.dst = some N) (src dst e : TypeId) (x : Operand) (ho : o.op = .convert src dst x) (s : ByteArray) (hx : a.eval x = .string s)
  (hs : P.underlying src = some .string) (ht : P.underlying dst = some (.slice e)) (he : P.underlying e = some (.int .u8)) (y : List Int) (hy : y = bytesOf s) (hm : s.size ≤ 9223372036854775807)
  (h : ∀ A c w1, (Kd.int .u8).C w1 A y.length y → y.length ≤ c → Below W.heap.size W w1 → wpList P ops Q rest (a.put o.dst (.slice A y.length c)) w1) : wpList P ops Q (o :: rest) a W := by
 subst hy
 refine Kd.event_run hgd (w1 := Lib.bytesWorld W e s) (v := .slice (some ⟨W.heap.size, 0, none⟩) (bytesOf s).length (grownCap W s.size 0 e)) ?_ (h _ _ _ (conv_reads W e s hm) ?_ (conv_below W e s))
 ·have hr := Lib.run_convert_string_bytes (P := P) W src dst e s hs ht he
  rw [bytesOf_length]
  simp [execOp, ho, hx, hr]
 ·rw [bytesOf_length]
  exact grownCap_ge W s.size 0 e
end
end Go.Proofs.YtgdknepphkhnlaaGreatDoor.Y

/- Small lemmas for a struct of three cells whose methods change nothing below its block. No conditions beyond what each names. -/
set_option linter.unusedVariables false
namespace Go.Proofs.YtgdknepphkhnlaaGreatDoor.Gt
open Go.RowKit Go.Proofs.YtgdknepphkhnlaaGreatDoorW.PrintWords
theorem three {w : World} {g : Nat} {T : TypeId} {x0 x1 x2 : Value} (h : w.heap[g]? = some (.cells #[x0, x1, x2] T (0, 0))) :
  w.cell? ⟨g, 0, none⟩ = some x0 ∧ w.cell? ⟨g, 1, none⟩ = some x1 ∧ w.cell? ⟨g, 2, none⟩ = some x2 ∧ w.frozen? ⟨g, 1, none⟩ = false ∧ w.frozen? ⟨g, 2, none⟩ = false := ⟨(blk_cell h 0).trans rfl, (blk_cell h 1).trans rfl, (blk_cell h 2).trans rfl, blk_frozen h 1, blk_frozen h 2⟩
theorem C_far {w W : World} {A : Option Addr} {n : Nat} {xs : List Int} (h : (Kd.int .u8).C w A n xs) (hb : ∀ ad, A = some ad → 0 < n → W.heap[ad.block]? = w.heap[ad.block]?) : (Kd.int .u8).C W A n xs := by
 have hr := Kd.reads_of_C (d := (0 : Int)) (h1 := fun _ => rfl) h
 refine Kd.C_of_reads (d := (0 : Int)) (h1 := fun _ => rfl) ⟨hr.1, hr.2.1, fun hn => ?_⟩
 obtain ⟨ad, e, hc⟩ := hr.2.2 hn
 refine ⟨ad, e, fun j hj => (World.cell?_of_block ?_).trans (hc j hj)⟩
 rw [add_block]
 exact hb ad e hn
theorem C_set {w : World} {A : Option Addr} {n : Nat} {xs : List Int} {g j : Nat} {u : Value} (h : (Kd.int .u8).C w A n xs) (hf : ∀ ad, A = some ad → 0 < n → ad.block < g) : (Kd.int .u8).C (w.setCell ⟨g, j, none⟩ u) A n xs :=
 C_far h (fun ad e hn => Below.heap_setCell w ⟨g, j, none⟩ u ad.block (Nat.ne_of_lt (hf ad e hn)))
theorem C_low {G : Nat} {W w2 : World} {A : Option Addr} {n : Nat} {xs : List Int} (h : (Kd.int .u8).C W A n xs) (hf : ∀ ad, A = some ad → 0 < n → ad.block < G) (k : Below G W w2) : (Kd.int .u8).C w2 A n xs :=
 C_far h (fun ad e hn => k.block _ (hf ad e hn))
theorem blk_low {G a : Nat} {W w2 : World} {o : Obj} (k : Below G W w2) (h : W.heap[a]? = some o) (hlt : a < G) : w2.heap[a]? = some o := (k.block a hlt).trans h
theorem below_low {B G : Nat} {w W w2 : World} (h : Below B w W) (hG : B ≤ G) (k : Below G W w2) : Below B w w2 := h.trans ⟨k.os, k.tape, k.output, k.size, fun i hi => k.block i (Nat.lt_of_lt_of_le hi hG)⟩
end Go.Proofs.YtgdknepphkhnlaaGreatDoor.Gt

namespace Go.Proofs.YtgdknepphkhnlaaGreatDoor.X
open Go.RowKit Go.Proofs.YtgdknepphkhnlaaGreatDoorW.PrintWords Go.Proofs.YtgdknepphkhnlaaGreatDoorW.PrintLast Go.Proofs.YtgdknepphkhnlaaGreatDoorW.PrintMore
attribute [local go_sem] max2_int min2_int max_two min_two max_three min_three max_four min_four
set_option linter.unusedVariables false
set_option linter.unusedSimpArgs false
def impl_getter_text.f (k : Nat) (b : List Int) (i : Int) (bad : Bool) : Option (ByteArray × Int × Bool) := (impl_GetText.f k b i).bind fun t => (if bad = true then (some ((⟨#[]⟩ : ByteArray), i, true)) else (if t.2.2 = true then (some (t.1, t.2.1, false)) else (some ((⟨#[]⟩ : ByteArray), i, true))))
set_option maxHeartbeats 2000000 in
set_option maxRecDepth 100000 in
theorem impl_getter_text.calls (k G : Nat) (A : Option Addr) (c : Nat) (b : List Int) (i : Int) (bad : Bool) (s : ByteArray) (i' : Int) (bad' : Bool) (w : World) (hG : w.heap[G]? = some (.cells #[.slice A b.length c, .int .i64 i, .bool bad] 62 (0, 0)))
  (hC : Kd.C (Kd.int .u8) w A b.length b) (hc : b.length ≤ c) (h : impl_getter_text.f k b i bad = some (s, i', bad')) :
  Calls Tryz.prog 37 #[.pointer (some ⟨G, 0, none⟩)] w fun e w' => e = .returned (.string s) ∧ w'.heap[G]? = some (.cells #[.slice A b.length c, .int .i64 i', .bool bad'] 62 (0, 0)) ∧ Below G w w' := by
 have HG := zi hG
 have HC := zi hC
 have HR := zi hc
 have HB := zi (Below.refl G w)
 obtain ⟨z0, z1, z2, f1, f2⟩ := Gt.three hG
 clear hG hC hc
 obtain ⟨⟨t1, t2, t3⟩, a1, h⟩ := Option.bind_eq_some_iff.mp h
 have A1 := zi a1
 clear a1
 cases bad with
 | true =>
  simp only [if_true, Option.some.injEq, Prod.mk.injEq] at h
  obtain ⟨rfl, rfl, rfl⟩ := h
  go_enter Tryz.func37, Tryz.ntmps37
  go_wp2_with (first | (go_at_call 72; (with_reducible refine (impl_GetText.calls k A c b i t1 t2 t3 _ ?side1 ?side2 A1.out).mono ?_); (case side1 => exact z3b); (case side2 => exact HR.out); rintro e w' ⟨rfl, ⟨nd, rfl⟩⟩; (try first | exact ⟨rfl, _, World.drewN_drewN _ _ _⟩ | exact ⟨rfl, _, Eq.trans (World.drewN_drewN _ _ _) (congrArg (World.drewN _) (Nat.add_assoc _ _ _))⟩)))
  repeat (go_quiet (first | (go_at_call 72; (with_reducible refine (impl_GetText.calls k A c b i t1 t2 t3 _ ?side1 ?side2 A1.out).mono ?_); (case side1 => exact z3b); (case side2 => exact HR.out); rintro e w' ⟨rfl, ⟨nd, rfl⟩⟩; (try first | exact ⟨rfl, _, World.drewN_drewN _ _ _⟩ | exact ⟨rfl, _, Eq.trans (World.drewN_drewN _ _ _) (congrArg (World.drewN _) (Nat.add_assoc _ _ _))⟩))); try go_wp2_with (first | (go_at_call 72; (with_reducible refine (impl_GetText.calls k A c b i t1 t2 t3 _ ?side1 ?side2 A1.out).mono ?_); (case side1 => exact z3b); (case side2 => exact HR.out); rintro e w' ⟨rfl, ⟨nd, rfl⟩⟩; (try first | exact ⟨rfl, _, World.drewN_drewN _ _ _⟩ | exact ⟨rfl, _, Eq.trans (World.drewN_drewN _ _ _) (congrArg (World.drewN _) (Nat.add_assoc _ _ _))⟩))))
  go_ret
  exact ⟨rfl, blk_put (by exact HG.out) 2 _ rfl, (pw_below_drewN HB.out _).setCell (p := ⟨G, 2, none⟩) (Nat.le_refl _) _⟩
 | false =>
  simp only [Bool.false_eq_true, if_false] at h
  by_cases c3 : t3 = true
  ·subst c3
   simp only [if_true, Option.some.injEq, Prod.mk.injEq] at h
   obtain ⟨rfl, rfl, rfl⟩ := h
   go_enter Tryz.func37, Tryz.ntmps37
   go_wp2_with (first | (go_at_call 72; (with_reducible refine (impl_GetText.calls k A c b i t1 t2 true _ ?side1 ?side2 A1.out).mono ?_); (case side1 => exact z3b); (case side2 => exact HR.out); rintro e w' ⟨rfl, ⟨nd, rfl⟩⟩; (try first | exact ⟨rfl, _, World.drewN_drewN _ _ _⟩ | exact ⟨rfl, _, Eq.trans (World.drewN_drewN _ _ _) (congrArg (World.drewN _) (Nat.add_assoc _ _ _))⟩)))
   repeat (go_quiet (first | (go_at_call 72; (with_reducible refine (impl_GetText.calls k A c b i t1 t2 true _ ?side1 ?side2 A1.out).mono ?_); (case side1 => exact z3b); (case side2 => exact HR.out); rintro e w' ⟨rfl, ⟨nd, rfl⟩⟩; (try first | exact ⟨rfl, _, World.drewN_drewN _ _ _⟩ | exact ⟨rfl, _, Eq.trans (World.drewN_drewN _ _ _) (congrArg (World.drewN _) (Nat.add_assoc _ _ _))⟩))); try go_wp2_with (first | (go_at_call 72; (with_reducible refine (impl_GetText.calls k A c b i t1 t2 true _ ?side1 ?side2 A1.out).mono ?_); (case side1 => exact z3b); (case side2 => exact HR.out); rintro e w' ⟨rfl, ⟨nd, rfl⟩⟩; (try first | exact ⟨rfl, _, World.drewN_drewN _ _ _⟩ | exact ⟨rfl, _, Eq.trans (World.drewN_drewN _ _ _) (congrArg (World.drewN _) (Nat.add_assoc _ _ _))⟩))))
   go_ret
   exact ⟨rfl, blk_put (by exact HG.out) 1 _ rfl, (pw_below_drewN HB.out _).setCell (p := ⟨G, 1, none⟩) (Nat.le_refl _) _⟩
  ·have e3 : t3 = false := by simpa using c3
   subst e3
   simp only [Bool.false_eq_true, if_false, Option.some.injEq, Prod.mk.injEq] at h
   obtain ⟨rfl, rfl, rfl⟩ := h
   go_enter Tryz.func37, Tryz.ntmps37
   go_wp2_with (first | (go_at_call 72; (with_reducible refine (impl_GetText.calls k A c b i t1 t2 false _ ?side1 ?side2 A1.out).mono ?_); (case side1 => exact z3b); (case side2 => exact HR.out); rintro e w' ⟨rfl, ⟨nd, rfl⟩⟩; (try first | exact ⟨rfl, _, World.drewN_drewN _ _ _⟩ | exact ⟨rfl, _, Eq.trans (World.drewN_drewN _ _ _) (congrArg (World.drewN _) (Nat.add_assoc _ _ _))⟩)))
   repeat (go_quiet (first | (go_at_call 72; (with_reducible refine (impl_GetText.calls k A c b i t1 t2 false _ ?side1 ?side2 A1.out).mono ?_); (case side1 => exact z3b); (case side2 => exact HR.out); rintro e w' ⟨rfl, ⟨nd, rfl⟩⟩; (try first | exact ⟨rfl, _, World.drewN_drewN _ _ _⟩ | exact ⟨rfl, _, Eq.trans (World.drewN_drewN _ _ _) (congrArg (World.drewN _) (Nat.add_assoc _ _ _))⟩))); try go_wp2_with (first | (go_at_call 72; (with_reducible refine (impl_GetText.calls k A c b i t1 t2 false _ ?side1 ?side2 A1.out).mono ?_); (case side1 => exact z3b); (case side2 => exact HR.out); rintro e w' ⟨rfl, ⟨nd, rfl⟩⟩; (try first | exact ⟨rfl, _, World.drewN_drewN _ _ _⟩ | exact ⟨rfl, _, Eq.trans (World.drewN_drewN _ _ _) (congrArg (World.drewN _) (Nat.add_assoc _ _ _))⟩))))
   go_ret
   exact ⟨rfl, blk_put (by exact HG.out) 2 _ rfl, (pw_below_drewN HB.out _).setCell (p := ⟨G, 2, none⟩) (Nat.le_refl _) _⟩
mutual
def impl_GetTexts.j0 : Nat → List Int → Int → Int → Bool → Option (List ByteArray × Int × Bool)
 | 0, _, _, _, _ => none
 | k + 1, x0, x7, x8, x26 => if x26 = true then (some (([] : List ByteArray), 0, false)) else (impl_GetTexts.l0 k x0 x8 ([] : List ByteArray) x7 0)
def impl_GetTexts.l0 : Nat → List Int → Int → List ByteArray → Int → Int → Option (List ByteArray × Int × Bool)
 | 0, _, _, _, _, _ => none
 | k + 1, x0, x8, x10, x27, x28 => if x28 < x27 then ((impl_GetText.f k x0 x8).bind fun bt433 => (if bt433.2.2 = true then (if x10.length < 8796093022208 then (impl_GetTexts.l0 k x0 bt433.2.1 (x10 ++ [bt433.1]) x27 (wrap64 (x28 + 1))) else (none)) else (some (([] : List ByteArray), 0, false)))) else (some (x10, x8, true))
end
def impl_GetTexts.f (k : Nat) (l0 : List Int) (a1 : Int) : Option (List ByteArray × Int × Bool) := (impl_GetNum.f k l0 a1).bind fun bt430 => (if bt430.2.2 = true then (impl_GetTexts.j0 k l0 bt430.1 bt430.2.1 (decide (bt430.1 > 200))) else (impl_GetTexts.j0 k l0 bt430.1 bt430.2.1 true))
set_option maxHeartbeats 8000000 in
set_option maxRecDepth 100000 in
theorem impl_GetTexts.calls (k : Nat) (A0 : Option Addr) (c0 : Nat) (l0 : List Int) (a1 : Int) (r1 : List ByteArray) (r2 : Int) (r3 : Bool) (w : World) (hr0 : Kd.C (Kd.int .u8) w A0 l0.length l0) (hc0 : l0.length ≤ c0) (h : impl_GetTexts.f k l0 a1 = some (r1, r2, r3)) :
  Calls Tryz.prog 73 #[.slice A0 l0.length c0, .int .i64 a1] w fun e w' => ∃ v0_ : Value, e = .returned (.tuple #[v0_, .int .i64 r2, .bool r3]) ∧ Kd.R Kd.string 9 w' w.heap.size (fun _ => True) v0_ r1 ∧ Below w.heap.size w w' := by
 have HR0 := zi hr0
 have HC0 := zi hc0
 clear hr0 hc0
 have HB := zi (Below.refl w.heap.size w)
 have H := h
 unfold impl_GetTexts.f at H
 clear h
 replace H := Option.bind_eq_some_iff.mp H
 obtain ⟨⟨t430, t431, t432⟩, A30, H⟩ := H
 try dsimp only at H
 have A3 := zi A30
 clear A30
 have HC4 := zi H
 clear H
 go_enter Tryz.func73, Tryz.ntmps73
 go_upto_region 2 with (first | ((with_reducible refine gate_callee (f := 99) rfl ?_); refine goesL_ (some 17) rfl rfl Tryz.func99 zq rfl #[.slice A0 l0.length c0, .int .i64 a1] rfl zy ?_; (with_reducible refine (impl_GetNum.calls k _ _ l0 a1 t430 t431 t432 _ ?side1 ?side2 A3.out).mono ?_); (case side1 => exact z3a); (case side2 => exact HC0.out); rintro e w' ⟨rfl, ⟨nd, rfl⟩⟩; refine ⟨_, rfl, ?_⟩))
 (try simp only [Act.put, z7w, z7x, z7y])
 go_cut [26] (fun v26 wc => ∃ (kq : Nat) (x26_3 : Bool), v26 = .bool x26_3 ∧ Aside0 (impl_GetTexts.j0 kq l0 t430 t431 x26_3 = some (r1, r2, r3)) ∧ Aside0 (kq ≤ k) ∧ Aside0 (Below w.heap.size w wc))
 case first =>
  have H := HC4.out
  clear HC4
  by_cases c5 : t432 = true
  ·subst c5
   rw [if_pos rfl] at H
   have H' := zi H
   clear H
   go_wp2
   go_meet
   case rel => exact ⟨_, (decide (t430 > 200)), zu, H', ⟨z1d⟩, ⟨zz⟩⟩
  ·replace c5 := Bool.eq_false_iff.mpr c5
   subst c5
   rw [if_neg zh] at H
   have H' := zi H
   clear H
   go_wp2
   go_meet
   case rel => exact ⟨_, (true), zu, H', ⟨z1d⟩, ⟨zz⟩⟩
 case rest =>
  clear HC4
  try clear p2
  try clear c5
  obtain ⟨kq, x26_3, rfl, HA, HJ3, HB⟩ := hcut
  cases kq with
  | zero => exact absurd HA.out (by simp [impl_GetTexts.j0])
  | succ kj3 =>
   have H := HA.out
   clear HA
   simp only [impl_GetTexts.j0] at H
   by_cases c6 : x26_3 = true
   ·subst c6
    rw [if_pos rfl] at H
    simp only [Option.some.injEq, Prod.mk.injEq] at H
    obtain ⟨rfl, rfl, rfl⟩ := H
    go_wp2
    go_ret3
    exact ⟨_, z1b, z2d, zz⟩
   ·replace c6 := Bool.eq_false_iff.mpr c6
    subst c6
    rw [if_neg zh] at H
    have H' := zi H
    clear H
    go_wp2
    go_loopg [8, 10, 28] kj3 (fun kq v8 v10 v28 w' => ∃ (x8_2 : Int) (x10_2 : List ByteArray) (x28_2 : Int), v8 = .int .i64 x8_2 ∧ v28 = .int .i64 x28_2 ∧ Aside0 (impl_GetTexts.l0 kq l0 x8_2 x10_2 t430 x28_2 = some (r1, r2, r3)) ∧ Aside0 (kq ≤ kj3) ∧ Aside0 (Kd.R Kd.string 9 w' w.heap.size (fun _ => True) v10 x10_2) ∧ Aside0 (Below w.heap.size w w'))
    case atStart => exact ⟨(t431), (([] : List ByteArray)), (0), zu, zu, H', ⟨Nat.le_refl _⟩, ⟨z2d⟩, ⟨zz⟩⟩
    case round =>
     clear H'
     try clear p2
     try clear c5
     try clear c6
     try clear p2
     obtain ⟨x8_2, x10_2, x28_2, rfl, rfl, HA, HK2, HO_10, HB⟩ := hrel
     cases gk with
     | zero => exact absurd HA.out (by simp [impl_GetTexts.l0])
     | succ k2 =>
      have H := HA.out
      clear HA
      simp only [impl_GetTexts.l0] at H
      by_cases c7 : x28_2 < t430
      ·rw [if_pos c7] at H
       have c7b0 := decide_eq_true c7
       clear c7
       replace H := Option.bind_eq_some_iff.mp H
       obtain ⟨⟨t433, t434, t435⟩, A80, H⟩ := H
       try dsimp only at H
       have A8 := zi A80
       clear A80
       by_cases c9 : t435 = true
       ·subst c9
        rw [if_pos rfl] at H
        by_cases c10 : x10_2.length < 8796093022208
        ·rw [if_pos c10] at H
         have LMc10 := zi c10
         clear c10
         obtain ⟨y436, hy436⟩ : ∃ y_ : List ByteArray, y_ = (x10_2 ++ [t433]) := ⟨_, rfl⟩
         replace H : (impl_GetTexts.l0 k2 l0 t434 y436 t430 (wrap64 (x28_2 + 1))) = some (r1, r2, r3) := by first | (rw [hy436]; with_reducible exact H) | (have H2_ := (Option.bind_some _ _).symm.trans H; rw [hy436]; with_reducible exact H2_) | (have H2_ := (Option.bind_some _ _).symm.trans H; with_reducible exact H2_) | with_reducible exact H | (rw [hy436]; exact H) | exact H
         have Ny436 := zi hy436
         clear hy436
         have H' := zi H
         clear H
         go_wp2_with (first | ((with_reducible refine gate_callee (f := 72) rfl ?_); refine goesL_ (some 33) rfl rfl Tryz.func72 zq rfl #[.slice A0 l0.length c0, .int .i64 x8_2] rfl zy ?_; (with_reducible refine (impl_GetText.calls k2 _ _ l0 x8_2 t433 t434 true _ ?side1 ?side2 A8.out).mono ?_); (case side1 => repeat (first | exact (Kd.C_below HR0.out HB.out) | (with_reducible refine Kd.C_alloc ?_ _) | (with_reducible refine Kd.C_drewN ?_ _) | (with_reducible refine Kd.C_drew ?_))); (case side2 => exact HC0.out); rintro e w' ⟨rfl, ⟨nd, rfl⟩⟩; refine ⟨_, rfl, ?_⟩) | ((with_reducible refine gate_builtin (b := .append) (xs := #[.tmp 39, .tmp 41]) rfl ?_); at_builtin; refine Kd.R_append Kd.string (w0 := w) w.heap.size rfl (.tmp 39) (.tmp 41) 55 9 (.string ⟨#[]⟩) 16 rfl Tryz.underlying55 info9 rfl zt zp u10 x10_2 t433 [.string t433] (fun _ => True) (fun _ => False) rfl rfl ?aP (fun _ hk => hk.elim) ?aF ?aO ?aB ?aS ?aL ?_; (case aP => exact rfl); (case aB => exact zz); (case aF => exact (fun _ _ => trivial)); (case aO => exact (by (with_reducible repeat (first | apply Kd.R_alloc | apply Kd.R_drewN | apply Kd.R_drew)); exact HO_10.out)); (case aS => exact (below_size zz)); (case aL => have := LMc10.out; omega); intro v437 w11 ho hb hg hat; rw [← Ny436.out] at ho; have n0_ := zi hb; have n1_ := zi ho; clear HB; clear HO_10; have HB := n0_; have HO438 := n1_; clear n0_ n1_; clear ho hb hg hat))
         go_roundg k2
         case measure => have := HJ3.out; have := HK2.out; omega
         case rel => exact ⟨(t434), (y436), (wrap64 (x28_2 + 1)), zu, zu, H', ⟨by have := HJ3.out; have := HK2.out; omega⟩, ⟨by (with_reducible repeat (first | apply Kd.R_alloc | apply Kd.R_drewN | apply Kd.R_drew)); exact HO438.out⟩, ⟨zz⟩⟩
        ·rw [if_neg c10] at H
         exact absurd H (by simp)
       ·replace c9 := Bool.eq_false_iff.mpr c9
        subst c9
        rw [if_neg zh] at H
        simp only [Option.some.injEq, Prod.mk.injEq] at H
        obtain ⟨rfl, rfl, rfl⟩ := H
        go_wp2_with (first | ((with_reducible refine gate_callee (f := 72) rfl ?_); refine goesL_ (some 33) rfl rfl Tryz.func72 zq rfl #[.slice A0 l0.length c0, .int .i64 x8_2] rfl zy ?_; (with_reducible refine (impl_GetText.calls k2 _ _ l0 x8_2 t433 t434 false _ ?side1 ?side2 A8.out).mono ?_); (case side1 => repeat (first | exact (Kd.C_below HR0.out HB.out) | (with_reducible refine Kd.C_alloc ?_ _) | (with_reducible refine Kd.C_drewN ?_ _) | (with_reducible refine Kd.C_drew ?_))); (case side2 => exact HC0.out); rintro e w' ⟨rfl, ⟨nd, rfl⟩⟩; refine ⟨_, rfl, ?_⟩))
        go_ret3
        exact ⟨_, z1b, z2d, zz⟩
      ·rw [if_neg c7] at H
       have c7b0 := decide_eq_false c7
       clear c7
       simp only [Option.some.injEq, Prod.mk.injEq] at H
       obtain ⟨rfl, rfl, rfl⟩ := H
       go_wp2
       go_ret3
       exact ⟨_, z1b, by (with_reducible repeat (first | apply Kd.R_alloc | apply Kd.R_drewN | apply Kd.R_drew)); exact HO_10.out, zz⟩
def impl_getter_texts.f (k : Nat) (b : List Int) (i : Int) (bad : Bool) : Option (List ByteArray × Int × Bool) := (impl_GetTexts.f k b i).bind fun t => (if bad = true then (some (([] : List ByteArray), i, true)) else (if t.2.2 = true then (some (t.1, t.2.1, false)) else (some (([] : List ByteArray), i, true))))
set_option maxHeartbeats 2000000 in
set_option maxRecDepth 100000 in
theorem impl_getter_texts.calls (k G : Nat) (A : Option Addr) (c : Nat) (b : List Int) (i : Int) (bad : Bool) (s : List ByteArray) (i' : Int) (bad' : Bool) (w : World) (hG : w.heap[G]? = some (.cells #[.slice A b.length c, .int .i64 i, .bool bad] 62 (0, 0)))
  (hC : Kd.C (Kd.int .u8) w A b.length b) (hc : b.length ≤ c) (h : impl_getter_texts.f k b i bad = some (s, i', bad')) :
  Calls Tryz.prog 38 #[.pointer (some ⟨G, 0, none⟩)] w fun e w' => ∃ v : Value, e = .returned v ∧ Kd.R Kd.string 9 w' w.heap.size (fun _ => True) v s ∧ w'.heap[G]? = some (.cells #[.slice A b.length c, .int .i64 i', .bool bad'] 62 (0, 0)) ∧ Below G w w' := by
 have HG := zi hG
 have HC := zi hC
 have HR := zi hc
 have HB := zi (Below.refl G w)
 have HLt := zi (blk_lt hG)
 have HL := zi (Nat.le_of_lt (blk_lt hG))
 obtain ⟨z0, z1, z2, f1, f2⟩ := Gt.three hG
 clear hG hC hc
 obtain ⟨⟨t1, t2, t3⟩, a1, h⟩ := Option.bind_eq_some_iff.mp h
 have A1 := zi a1
 clear a1
 cases bad with
 | true =>
  simp only [if_true, Option.some.injEq, Prod.mk.injEq] at h
  obtain ⟨rfl, rfl, rfl⟩ := h
  go_enter Tryz.func38, Tryz.ntmps38
  try go_wp2
  go_region_held3 (fun w' => w'.cell? ⟨G, 0, none⟩ = some (.slice A b.length c) ∧ w'.cell? ⟨G, 1, none⟩ = some (.int .i64 i))
   (first | exact ⟨z0, z1⟩ | exact ⟨y0, y1⟩)
   ((go_at_call 73; (with_reducible refine (impl_GetTexts.calls k A c b i t1 t2 t3 _ ?side1 ?side2 A1.out).mono ?_); (case side1 => exact Kd.C_drew HC.out); (case side2 => exact HR.out); rintro e w1 ⟨v, rfl, ho, hb⟩; have HG1 := zi (blk_below (g := G) (blk_drew HG.out) hb); have HB1 := zi (below_then (B := G) (w := w) (w1 := w.drew) (w2 := w1) (below_drew HB.out) HL.out hb); have HO := zi ho; obtain ⟨y0, y1, y2, f3, f4⟩ := Gt.three HG1.out; clear hb ho))
  go_wp2
  go_ret
  exact ⟨_, rfl, Kd.R_nil _ _ _ _ _, blk_put (by exact HG1.out) 2 _ rfl, HB1.out.setCell (p := ⟨G, 2, none⟩) (Nat.le_refl _) _⟩
 | false =>
  simp only [Bool.false_eq_true, if_false] at h
  by_cases c3 : t3 = true
  ·subst c3
   simp only [if_true, Option.some.injEq, Prod.mk.injEq] at h
   obtain ⟨rfl, rfl, rfl⟩ := h
   go_enter Tryz.func38, Tryz.ntmps38
   try go_wp2
   go_region_held3 (fun w' => w'.cell? ⟨G, 0, none⟩ = some (.slice A b.length c) ∧ w'.cell? ⟨G, 1, none⟩ = some (.int .i64 i))
    (first | exact ⟨z0, z1⟩ | exact ⟨y0, y1⟩)
    ((go_at_call 73; (with_reducible refine (impl_GetTexts.calls k A c b i t1 t2 true _ ?side1 ?side2 A1.out).mono ?_); (case side1 => exact Kd.C_drew HC.out); (case side2 => exact HR.out); rintro e w1 ⟨v, rfl, ho, hb⟩; have HG1 := zi (blk_below (g := G) (blk_drew HG.out) hb); have HB1 := zi (below_then (B := G) (w := w) (w1 := w.drew) (w2 := w1) (below_drew HB.out) HL.out hb); have HO := zi ho; obtain ⟨y0, y1, y2, f3, f4⟩ := Gt.three HG1.out; clear hb ho))
   go_wp2
   go_ret
   exact ⟨_, rfl, Kd.R_mono (Kd.R_far (p := ⟨G, 1, none⟩) (Kd.R_bound HO.out) (fun k hk => Nat.ne_of_gt (Nat.lt_of_lt_of_le HLt.out hk.2.1)) _) (fun _ _ => trivial), blk_put (by exact HG1.out) 1 _ rfl, HB1.out.setCell (p := ⟨G, 1, none⟩) (Nat.le_refl _) _⟩
  ·have e3 : t3 = false := by simpa using c3
   subst e3
   simp only [Bool.false_eq_true, if_false, Option.some.injEq, Prod.mk.injEq] at h
   obtain ⟨rfl, rfl, rfl⟩ := h
   go_enter Tryz.func38, Tryz.ntmps38
   try go_wp2
   go_region_held3 (fun w' => w'.cell? ⟨G, 0, none⟩ = some (.slice A b.length c) ∧ w'.cell? ⟨G, 1, none⟩ = some (.int .i64 i))
    (first | exact ⟨z0, z1⟩ | exact ⟨y0, y1⟩)
    ((go_at_call 73; (with_reducible refine (impl_GetTexts.calls k A c b i t1 t2 false _ ?side1 ?side2 A1.out).mono ?_); (case side1 => exact Kd.C_drew HC.out); (case side2 => exact HR.out); rintro e w1 ⟨v, rfl, ho, hb⟩; have HG1 := zi (blk_below (g := G) (blk_drew HG.out) hb); have HB1 := zi (below_then (B := G) (w := w) (w1 := w.drew) (w2 := w1) (below_drew HB.out) HL.out hb); have HO := zi ho; obtain ⟨y0, y1, y2, f3, f4⟩ := Gt.three HG1.out; clear hb ho))
   go_wp2
   go_ret
   exact ⟨_, rfl, Kd.R_nil _ _ _ _ _, blk_put (by exact HG1.out) 2 _ rfl, HB1.out.setCell (p := ⟨G, 2, none⟩) (Nat.le_refl _) _⟩
mutual
def impl_GetEntry.j0 : Nat → ByteArray → List ByteArray → Bool → ByteArray → Int → Int → Int → ByteArray → Option (ByteArray × Int × Int × Int × ByteArray × (List (S35)) × Bool)
 | 0, _, _, _, _, _, _, _, _ => none
 | k + 1, x0, x6, x29, x459000, x459001, x459002, x459003, x459004 => if x29 = true then (some ((⟨#[]⟩ : ByteArray), 0, 0, 0, (⟨#[]⟩ : ByteArray), ([] : List (S35)), false)) else (impl_GetEntry.l0 k x0 x6 (x6.length : Int) 0 x459000 x459001 x459002 x459003 x459004 ([] : List (S35)))
def impl_GetEntry.l0 : Nat → ByteArray → List ByteArray → Int → Int → ByteArray → Int → Int → Int → ByteArray → List (S35) → Option (ByteArray × Int × Int × Int × ByteArray × (List (S35)) × Bool)
 | 0, _, _, _, _, _, _, _, _, _, _ => none
 | k + 1, x0, x36, x37, x38, x460000, x460001, x460002, x460003, x460004, x460005 => if x38 < x37 then (if 0 ≤ x38 then (if x38 < (x36.length : Int) then ((impl_ParseName.f k (rdOf ByteArray.empty x36 x38)).bind fun bt461 => (if bt461.2.2.2.2.2 = true then (if x460005.length < 2513169434916 then (impl_GetEntry.l0 k x0 x36 x37 (wrap64 (x38 + 1)) x460000 x460001 x460002 x460003 x460004 (x460005 ++ [(⟨bt461.1, (⟨bt461.2.1, bt461.2.2.1, bt461.2.2.2.1, bt461.2.2.2.2.1⟩ : S25)⟩ : S35)])) else (none)) else (some ((⟨#[]⟩ : ByteArray), 0, 0, 0, (⟨#[]⟩ : ByteArray), ([] : List (S35)), false)))) else (none)) else (none)) else ((impl_PutEntry.f k x460000 x460001 x460002 x460003 x460004 x460005).bind fun t471 => (if t471.toList = x0.toList then (some (x460000, x460001, x460002, x460003, x460004, x460005, true)) else (some ((⟨#[]⟩ : ByteArray), 0, 0, 0, (⟨#[]⟩ : ByteArray), ([] : List (S35)), false))))
end
def impl_GetEntry.f (k : Nat) (a0 : ByteArray) : Option (ByteArray × Int × Int × Int × ByteArray × (List (S35)) × Bool) := if a0.size ≤ 9223372036854775807 then ((some (bytesOf a0 : List Int)).bind fun y440 => ((impl_getter_text.f k y440 0 false).bind fun bt444 => ((impl_getter_texts.f k y440 bt444.2.1 bt444.2.2).bind fun bt447 => ((impl_ParseName.f k bt444.1).bind fun bt452 => (if bt447.2.2 = true then (impl_GetEntry.j0 k a0 bt447.1 true bt452.1 bt452.2.1 bt452.2.2.1 bt452.2.2.2.1 bt452.2.2.2.2.1) else (impl_GetEntry.j0 k a0 bt447.1 (!bt452.2.2.2.2.2) bt452.1 bt452.2.1 bt452.2.2.1 bt452.2.2.2.1 bt452.2.2.2.2.1)))))) else (none)
set_option maxHeartbeats 8000000 in
set_option maxRecDepth 100000 in
theorem impl_GetEntry.calls (k : Nat) (a0 : ByteArray) (r1 : ByteArray) (r2 : Int) (r3 : Int) (r4 : Int) (r5 : ByteArray) (r6 : List (S35)) (r7 : Bool) (w : World) (hG_ : GlobI w) (h : impl_GetEntry.f k a0 = some (r1, r2, r3, r4, r5, r6, r7)) :
  Calls Tryz.prog 12 #[.string a0] w fun e w' => ∃ v5_ : Value, e = .returned (.tuple #[.agg #[.string r1, .int .i64 r2, .int .i64 r3, .int .i64 r4, .string r5, v5_], .bool r7]) ∧ Kd.R k35 35 w' w.heap.size (fun _ => True) v5_ r6 ∧ Below w.heap.size w w' := by
 have HG_ := zi hG_
 clear hG_
 have hu28 := Tryz.underlying28
 have hu62 := Tryz.underlying62
 have hu35 := Tryz.underlying35
 have hu25 := Tryz.underlying25
 have HB := zi (Below.refl w.heap.size w)
 have H := h
 unfold impl_GetEntry.f at H
 clear h
 by_cases c2 : a0.size ≤ 9223372036854775807
 ·rw [if_pos c2] at H
  have c2b0 := eq_true c2
  have c2b1 := decide_eq_true c2
  try have c2b2 : (9223372036854775807 < a0.size) = False := eq_false (Nat.not_lt.2 c2)
  clear c2
  obtain ⟨y440, hy440⟩ : ∃ y_ : List Int, y_ = (bytesOf a0) := ⟨_, rfl⟩
  replace H : ((impl_getter_text.f k y440 0 false).bind fun bt444 => ((impl_getter_texts.f k y440 bt444.2.1 bt444.2.2).bind fun bt447 => ((impl_ParseName.f k bt444.1).bind fun bt452 => (if bt447.2.2 = true then (impl_GetEntry.j0 k a0 bt447.1 true bt452.1 bt452.2.1 bt452.2.2.1 bt452.2.2.2.1 bt452.2.2.2.2.1) else (impl_GetEntry.j0 k a0 bt447.1 (!bt452.2.2.2.2.2) bt452.1 bt452.2.1 bt452.2.2.1 bt452.2.2.2.1 bt452.2.2.2.2.1))))) = some (r1, r2, r3, r4, r5, r6, r7) := by first | (rw [hy440]; with_reducible exact H) | (have H2_ := (Option.bind_some _ _).symm.trans H; rw [hy440]; with_reducible exact H2_) | (have H2_ := (Option.bind_some _ _).symm.trans H; with_reducible exact H2_) | with_reducible exact H | (rw [hy440]; exact H) | exact H
  have Ny440 := zi hy440
  clear hy440
  replace H := Option.bind_eq_some_iff.mp H
  obtain ⟨⟨t444, t445, t446⟩, A30, H⟩ := H
  try dsimp only at H
  have A3 := zi A30
  clear A30
  replace H := Option.bind_eq_some_iff.mp H
  obtain ⟨⟨t447, t450, t451⟩, A40, H⟩ := H
  try dsimp only at H
  have A4 := zi A40
  clear A40
  replace H := Option.bind_eq_some_iff.mp H
  obtain ⟨⟨t452, t453, t454, t455, t456, t457⟩, A50, H⟩ := H
  try dsimp only at H
  have A5 := zi A50
  clear A50
  have HC6 := zi H
  clear H
  go_enter Tryz.func12, Tryz.ntmps12
  go_upto_region 5 with (first | ((with_reducible refine gate_dst (N := 2) rfl ?_); refine box_event zr (N := 2) zr (cs := #[.string (⟨#[]⟩ : ByteArray), .int .i64 0, .int .i64 0, .int .i64 0, .string (⟨#[]⟩ : ByteArray), .slice none 0 0]) (t := 28) z1h ?_; intro gb439 hg w7 hbox hb; have n0_ := zi (below_step zz hb); have n1_ := zi hbox; have n2_ := zi ((z6t : w.heap.size ≤ gb439)); have n3_ := zi ((z6t : w.heap.size ≤ gb439)); clear HB; have HB := n0_; have BK439 := n1_; have GW439 := n2_; have GE439 := n3_; clear n0_ n1_ n2_ n3_; clear hb hbox hg) | ((with_reducible refine gate_dst (N := 15) rfl ?_); refine Y.conv_event ?hg (N := 15) ?hd 9 22 5 (.tmp 14) ?ho a0 ?hx Tryz.underlying9 Tryz.underlying22 Tryz.underlying5 y440 Ny440.out (of_decide_eq_true zw) ?_; (case hd => exact zr); (case hg => exact zr); (case ho => exact zr); (case hx => exact zr); intro Av440 cv440 w8 hC hcap hb; have n0_ := zi (blk_below (g := gb439) (o := .cells #[.string (⟨#[]⟩ : ByteArray), .int .i64 0, .int .i64 0, .int .i64 0, .string (⟨#[]⟩ : ByteArray), .slice none 0 0] 28 (0, 0)) z3c hb); have n1_ := zi (below_step z3d hb); have n2_ := zi hC; have n3_ := zi hcap; clear BK439; clear HB; have BK439 := n0_; have HB := n1_; have HRv440 := n2_; have HCv440 := n3_; clear n0_ n1_ n2_ n3_; clear hb hC hcap) | ((with_reducible refine gate_dst (N := 4) rfl ?_); refine box_event zr (N := 4) zr (cs := #[.slice none 0 0, .int .i64 0, .bool false]) (t := 62) z1h ?_; intro gb443 hg w9 hbox hb; have n0_ := zi (blk_below (g := gb439) (o := .cells #[.string (⟨#[]⟩ : ByteArray), .int .i64 0, .int .i64 0, .int .i64 0, .string (⟨#[]⟩ : ByteArray), .slice none 0 0] 28 (0, 0)) z3c hb); have n1_ := zi (Kd.C_below z3e hb); have n2_ := zi (below_step z3d hb); have n3_ := zi hbox; have n4_ := zi ((by rw [hg]; exact (below_size z3d) : w.heap.size ≤ gb443)); have n5_ := zi ((by rw [hg]; exact (below_size z3d) : w.heap.size ≤ gb443)); have n6_ := zi ((z6y : gb439 ≠ gb443)); have n7_ := zi ((z6z : gb443 ≠ gb439)); have n8_ := zi ((by rw [hg]; exact blk_lt (g := gb439) (o := .cells #[.string (⟨#[]⟩ : ByteArray), .int .i64 0, .int .i64 0, .int .i64 0, .string (⟨#[]⟩ : ByteArray), .slice none 0 0] 28 (0, 0)) z3c : gb439 < gb443)); have n9_ := zi ((by rw [hg]; exact Y.conv_far z3e : ∀ ad, Av440 = some ad → 0 < y440.length → ad.block < gb443)); clear BK439; clear HRv440; clear HB; have BK439 := n0_; have HRv440 := n1_; have HB := n2_; have BK443 := n3_; have GW443 := n4_; have GE443 := n5_; have NB439_443 := n6_; have NB443_439 := n7_; have NL439_443 := n8_; have HFv440 := n9_; clear n0_ n1_ n2_ n3_ n4_ n5_ n6_ n7_ n8_ n9_; clear hb hbox hg; have hnb10 := NB443_439.out; have hnc10 := NB439_443.out; obtain ⟨hcz11_0, hcz11_1, hcz11_2, hfz11_0, hfz11_1, hfz11_2⟩ := zd BK443.out) | (go_at_call 37; (with_reducible refine (impl_getter_text.calls k gb443 Av440 cv440 y440 0 false t444 t445 t446 _ ?side1 ?side2 ?side3 A3.out).mono ?_); (case side1 => exact (by (repeat refine zj ?_); refine blk_put (cs := #[.slice Av440 y440.length cv440, .int .i64 0, .bool false]) ?_ 2 _ rfl; (repeat refine zj ?_); refine blk_put (cs := #[.slice Av440 y440.length cv440, .int .i64 0, .bool false]) ?_ 1 _ rfl; (repeat refine zj ?_); refine blk_put (cs := #[.slice none 0 0, .int .i64 0, .bool false]) ?_ 0 _ rfl; (repeat refine zj ?_); exact BK443.out)); (case side2 => exact z3f); (case side3 => exact HCv440.out); rintro e w12 ⟨rfl, hbk, hb⟩; have n0_ := zi (Gt.blk_low (o := .cells #[.string (⟨#[]⟩ : ByteArray), .int .i64 0, .int .i64 0, .int .i64 0, .string (⟨#[]⟩ : ByteArray), .slice none 0 0] 28 (0, 0)) hb (by (repeat refine zj ?_); refine blk_far ?_ NB439_443.out _; (repeat refine zj ?_); refine blk_far ?_ NB439_443.out _; (repeat refine zj ?_); refine blk_far ?_ NB439_443.out _; (repeat refine zj ?_); exact BK439.out) NL439_443.out); have n1_ := zi hbk; have n2_ := zi (Gt.C_low (xs := y440) z3f HFv440.out hb); have n3_ := zi (Gt.below_low z3g GW443.out hb); clear BK439; clear BK443; clear HRv440; clear HB; have BK439 := n0_; have BK443 := n1_; have HRv440 := n2_; have HB := n3_; clear n0_ n1_ n2_ n3_; (try clear hb); (try clear hbk); (try clear ho0)) | (go_at_call 38; (with_reducible refine (impl_getter_texts.calls k gb443 Av440 cv440 y440 t445 t446 t447 t450 t451 _ ?side1 ?side2 ?side3 A4.out).mono ?_); (case side1 => exact z3h); (case side2 => exact z3f); (case side3 => exact HCv440.out); rintro e w13 ⟨v448, rfl, ho0, hbk, hb⟩; have n0_ := zi (Gt.blk_low (o := .cells #[.string (⟨#[]⟩ : ByteArray), .int .i64 0, .int .i64 0, .int .i64 0, .string (⟨#[]⟩ : ByteArray), .slice none 0 0] 28 (0, 0)) hb z3c NL439_443.out); have n1_ := zi hbk; have n2_ := zi (Gt.C_low (xs := y440) z3f HFv440.out hb); have n3_ := zi (Kd.R_lower ho0 (below_size z3g)); have n4_ := zi (Gt.below_low z3g GW443.out hb); clear BK439; clear BK443; clear HRv440; clear HB; have BK439 := n0_; have BK443 := n1_; have HRv440 := n2_; have HO449 := n3_; have HB := n4_; clear n0_ n1_ n2_ n3_ n4_; (try clear hb); (try clear hbk); (try clear ho0)) | ((with_reducible refine gate_callee (f := 13) rfl ?_); refine goesL_ (some 21) rfl rfl Tryz.func13 zq rfl #[.string t444] rfl zy ?_; (with_reducible refine (impl_ParseName.calls (hG_ := globI_on HG_.out z1v) k t444 t452 t453 t454 t455 t456 t457 _ A5.out).mono ?_); rintro e w14 ⟨rfl, hb⟩; refine ⟨_, rfl, ?_⟩; have n0_ := zi (Kd.R_below (by (with_reducible repeat (first | apply Kd.R_alloc | apply Kd.R_drewN | apply Kd.R_drew)); exact HO449.out) hb); have n1_ := zi (blk_below (g := gb439) (o := .cells #[.string (⟨#[]⟩ : ByteArray), .int .i64 0, .int .i64 0, .int .i64 0, .string (⟨#[]⟩ : ByteArray), .slice none 0 0] 28 (0, 0)) z3c hb); have n2_ := zi (Kd.C_below z3e hb); have n3_ := zi (blk_below (g := gb443) (o := .cells #[.slice Av440 y440.length cv440, .int .i64 t450, .bool t451] 62 (0, 0)) z3h hb); have n4_ := zi (below_step z3g hb); clear HO449; clear BK439; clear HRv440; clear BK443; clear HB; have HO449 := n0_; have BK439 := n1_; have HRv440 := n2_; have BK443 := n3_; have HB := n4_; clear n0_ n1_ n2_ n3_ n4_; (try clear hb); (try clear hb2); (try clear hk); (try clear hi)) | ((with_reducible refine gate_dst (N := 7) rfl ?_); refine box_event zr (N := 7) zr (cs := #[.string (⟨#[]⟩ : ByteArray), .int .i64 0, .int .i64 0, .int .i64 0, .string (⟨#[]⟩ : ByteArray)]) (t := 35) z1h ?_; intro gb458 hg w15 hbox hb; have n0_ := zi (Kd.R_below (by (with_reducible repeat (first | apply Kd.R_alloc | apply Kd.R_drewN | apply Kd.R_drew)); exact HO449.out) hb); have n1_ := zi (blk_below (g := gb439) (o := .cells #[.string (⟨#[]⟩ : ByteArray), .int .i64 0, .int .i64 0, .int .i64 0, .string (⟨#[]⟩ : ByteArray), .slice none 0 0] 28 (0, 0)) z3c hb); have n2_ := zi (Kd.C_below z3e hb); have n3_ := zi (blk_below (g := gb443) (o := .cells #[.slice Av440 y440.length cv440, .int .i64 t450, .bool t451] 62 (0, 0)) z3h hb); have n4_ := zi (below_step z3g hb); have n5_ := zi hbox; have n6_ := zi ((by rw [hg]; exact (below_size z3g) : w.heap.size ≤ gb458)); have n7_ := zi ((by rw [hg]; exact (below_size z3g) : w.heap.size ≤ gb458)); have n8_ := zi ((z6y : gb439 ≠ gb458)); have n9_ := zi ((z6z : gb458 ≠ gb439)); have n10_ := zi ((by rw [hg]; exact Nat.ne_of_lt (blk_lt (g := gb443) (o := .cells #[.slice Av440 y440.length cv440, .int .i64 t450, .bool t451] 62 (0, 0)) z3h) : gb443 ≠ gb458)); have n11_ := zi ((by rw [hg]; exact Nat.ne_of_gt (blk_lt (g := gb443) (o := .cells #[.slice Av440 y440.length cv440, .int .i64 t450, .bool t451] 62 (0, 0)) z3h) : gb458 ≠ gb443)); have n12_ := zi ((by rw [hg]; exact blk_lt (g := gb439) (o := .cells #[.string (⟨#[]⟩ : ByteArray), .int .i64 0, .int .i64 0, .int .i64 0, .string (⟨#[]⟩ : ByteArray), .slice none 0 0] 28 (0, 0)) z3c : gb439 < gb458)); have n13_ := zi ((by rw [hg]; exact blk_lt (g := gb443) (o := .cells #[.slice Av440 y440.length cv440, .int .i64 t450, .bool t451] 62 (0, 0)) z3h : gb443 < gb458)); have n14_ := zi ((by rw [hg]; exact Y.conv_far z3e : ∀ ad, Av440 = some ad → 0 < y440.length → ad.block < gb458)); clear HO449; clear BK439; clear HRv440; clear BK443; clear HB; have HO449 := n0_; have BK439 := n1_; have HRv440 := n2_; have BK443 := n3_; have HB := n4_; have BK458 := n5_; have GW458 := n6_; have GE458 := n7_; have NB439_458 := n8_; have NB458_439 := n9_; have NB443_458 := n10_; have NB458_443 := n11_; have NL439_458 := n12_; have NL443_458 := n13_; have HFv440 := n14_; clear n0_ n1_ n2_ n3_ n4_ n5_ n6_ n7_ n8_ n9_ n10_ n11_ n12_ n13_ n14_; clear hb hbox hg; have hnb16 := NB458_439.out; have hnc16 := NB439_458.out; have hnb17 := NB458_443.out; have hnc17 := NB443_458.out; obtain ⟨hcz18_0, hcz18_1, hcz18_2, hcz18_3, hcz18_4, hfz18_0, hfz18_1, hfz18_2, hfz18_3, hfz18_4⟩ := zf BK458.out))
  (try simp only [Act.put, z7w, z7x, z7y])
  go_cut [29] (fun v29 wc => ∃ (kq : Nat) (x29_5 : Bool), v29 = .bool x29_5 ∧ Aside0 (impl_GetEntry.j0 kq a0 t447 x29_5 t452 t453 t454 t455 t456 = some (r1, r2, r3, r4, r5, r6, r7)) ∧ Aside0 (kq ≤ k) ∧ Aside0 (Kd.R Kd.string 9 wc w.heap.size (fun _ => True) v448 t447) ∧ Aside0 (wc.heap[gb439]? = some (.cells #[.string (⟨#[]⟩ : ByteArray), .int .i64 0, .int .i64 0, .int .i64 0, .string (⟨#[]⟩ : ByteArray), (.slice none 0 0)] 28 (0, 0))) ∧ Aside0 (wc.heap[gb458]? = some (.cells #[.string t452, .int .i64 t453, .int .i64 t454, .int .i64 t455, .string t456] 35 (0, 0))) ∧ Aside0 (Below w.heap.size w wc))
  case first =>
   have H := HC6.out
   clear HC6
   by_cases c19 : t451 = true
   ·subst c19
    rw [if_pos rfl] at H
    have H' := zi H
    clear H
    have hnb20 := NB443_439.out
    have hnc20 := NB439_443.out
    have hnb21 := NB443_458.out
    have hnc21 := NB458_443.out
    obtain ⟨hcz22_0, hcz22_1, hcz22_2, hfz22_0, hfz22_1, hfz22_2⟩ := zd BK443.out
    go_wp2
    go_meet
    case rel => exact ⟨_, (true), zu, H', ⟨z1d⟩, ⟨by (with_reducible repeat (first | apply Kd.R_alloc | apply Kd.R_drewN | apply Kd.R_drew)); exact Kd.R_mono (Kd.R_far (p := ⟨gb458, 4, none⟩) (Kd.R_far (p := ⟨gb458, 3, none⟩) (Kd.R_far (p := ⟨gb458, 2, none⟩) (Kd.R_far (p := ⟨gb458, 1, none⟩) (Kd.R_far (p := ⟨gb458, 0, none⟩) (Kd.R_types HO449.out BK458.out zt) (fun _ hk => hk.2) (.string t452)) (fun _ hk => hk.2) (.int .i64 t453)) (fun _ hk => hk.2) (.int .i64 t454)) (fun _ hk => hk.2) (.int .i64 t455)) (fun _ hk => hk.2) (.string t456)) (fun _ hk => trivial)⟩, ⟨by (repeat refine zj ?_); refine blk_far ?_ NB439_458.out _; (repeat refine zj ?_); refine blk_far ?_ NB439_458.out _; (repeat refine zj ?_); refine blk_far ?_ NB439_458.out _; (repeat refine zj ?_); refine blk_far ?_ NB439_458.out _; (repeat refine zj ?_); refine blk_far ?_ NB439_458.out _; (repeat refine zj ?_); exact BK439.out⟩, ⟨by (repeat refine zj ?_); refine blk_put (cs := #[.string t452, .int .i64 t453, .int .i64 t454, .int .i64 t455, .string (⟨#[]⟩ : ByteArray)]) ?_ 4 _ rfl; (repeat refine zj ?_); refine blk_put (cs := #[.string t452, .int .i64 t453, .int .i64 t454, .int .i64 0, .string (⟨#[]⟩ : ByteArray)]) ?_ 3 _ rfl; (repeat refine zj ?_); refine blk_put (cs := #[.string t452, .int .i64 t453, .int .i64 0, .int .i64 0, .string (⟨#[]⟩ : ByteArray)]) ?_ 2 _ rfl; (repeat refine zj ?_); refine blk_put (cs := #[.string t452, .int .i64 0, .int .i64 0, .int .i64 0, .string (⟨#[]⟩ : ByteArray)]) ?_ 1 _ rfl; (repeat refine zj ?_); refine blk_put (cs := #[.string (⟨#[]⟩ : ByteArray), .int .i64 0, .int .i64 0, .int .i64 0, .string (⟨#[]⟩ : ByteArray)]) ?_ 0 _ rfl; (repeat refine zj ?_); exact BK458.out⟩, ⟨by repeat (first | (with_reducible first | exact HB.out | apply below_alloc | apply pw_below_drewN | apply below_drew1 | refine below_set ?_ GE439.out | refine below_set ?_ GE443.out | refine below_set ?_ GE458.out) | exact HB.out)⟩⟩
   ·replace c19 := Bool.eq_false_iff.mpr c19
    subst c19
    rw [if_neg zh] at H
    have H' := zi H
    clear H
    have hnb23 := NB443_439.out
    have hnc23 := NB439_443.out
    have hnb24 := NB443_458.out
    have hnc24 := NB458_443.out
    obtain ⟨hcz25_0, hcz25_1, hcz25_2, hfz25_0, hfz25_1, hfz25_2⟩ := zd BK443.out
    go_wp2
    go_meet
    case rel => exact ⟨_, (!t457), zu, H', ⟨z1d⟩, ⟨by (with_reducible repeat (first | apply Kd.R_alloc | apply Kd.R_drewN | apply Kd.R_drew)); exact Kd.R_mono (Kd.R_far (p := ⟨gb458, 4, none⟩) (Kd.R_far (p := ⟨gb458, 3, none⟩) (Kd.R_far (p := ⟨gb458, 2, none⟩) (Kd.R_far (p := ⟨gb458, 1, none⟩) (Kd.R_far (p := ⟨gb458, 0, none⟩) (Kd.R_types HO449.out BK458.out zt) (fun _ hk => hk.2) (.string t452)) (fun _ hk => hk.2) (.int .i64 t453)) (fun _ hk => hk.2) (.int .i64 t454)) (fun _ hk => hk.2) (.int .i64 t455)) (fun _ hk => hk.2) (.string t456)) (fun _ hk => trivial)⟩, ⟨by (repeat refine zj ?_); refine blk_far ?_ NB439_458.out _; (repeat refine zj ?_); refine blk_far ?_ NB439_458.out _; (repeat refine zj ?_); refine blk_far ?_ NB439_458.out _; (repeat refine zj ?_); refine blk_far ?_ NB439_458.out _; (repeat refine zj ?_); refine blk_far ?_ NB439_458.out _; (repeat refine zj ?_); exact BK439.out⟩, ⟨by (repeat refine zj ?_); refine blk_put (cs := #[.string t452, .int .i64 t453, .int .i64 t454, .int .i64 t455, .string (⟨#[]⟩ : ByteArray)]) ?_ 4 _ rfl; (repeat refine zj ?_); refine blk_put (cs := #[.string t452, .int .i64 t453, .int .i64 t454, .int .i64 0, .string (⟨#[]⟩ : ByteArray)]) ?_ 3 _ rfl; (repeat refine zj ?_); refine blk_put (cs := #[.string t452, .int .i64 t453, .int .i64 0, .int .i64 0, .string (⟨#[]⟩ : ByteArray)]) ?_ 2 _ rfl; (repeat refine zj ?_); refine blk_put (cs := #[.string t452, .int .i64 0, .int .i64 0, .int .i64 0, .string (⟨#[]⟩ : ByteArray)]) ?_ 1 _ rfl; (repeat refine zj ?_); refine blk_put (cs := #[.string (⟨#[]⟩ : ByteArray), .int .i64 0, .int .i64 0, .int .i64 0, .string (⟨#[]⟩ : ByteArray)]) ?_ 0 _ rfl; (repeat refine zj ?_); exact BK458.out⟩, ⟨by repeat (first | (with_reducible first | exact HB.out | apply below_alloc | apply pw_below_drewN | apply below_drew1 | refine below_set ?_ GE439.out | refine below_set ?_ GE443.out | refine below_set ?_ GE458.out) | exact HB.out)⟩⟩
  case rest =>
   clear HC6
   try clear c1
   try clear c2
   try clear c2b0
   try clear c2b1
   try clear c2b2
   try clear p2
   try clear c10
   try clear c12
   try clear c13
   try clear c16
   try clear c17
   try clear c19
   try clear c20
   try clear c21
   try clear c23
   try clear c24
   try clear hcz11_0
   try clear hcz11_1
   try clear hcz11_2
   try clear hcz18_0
   try clear hcz18_1
   try clear hcz18_2
   try clear hcz18_3
   try clear hcz18_4
   try clear hcz22_0
   try clear hcz22_1
   try clear hcz22_2
   try clear hcz25_0
   try clear hcz25_1
   try clear hcz25_2
   try clear hfz11_0
   try clear hfz11_1
   try clear hfz11_2
   try clear hfz18_0
   try clear hfz18_1
   try clear hfz18_2
   try clear hfz18_3
   try clear hfz18_4
   try clear hfz22_0
   try clear hfz22_1
   try clear hfz22_2
   try clear hfz25_0
   try clear hfz25_1
   try clear hfz25_2
   obtain ⟨kq, x29_5, rfl, HA, HJ5, HO_6, BK439, BK458, HB⟩ := hcut
   cases kq with
   | zero => exact absurd HA.out (by simp [impl_GetEntry.j0])
   | succ kj5 =>
    have H := HA.out
    clear HA
    simp only [impl_GetEntry.j0] at H
    by_cases c26 : x29_5 = true
    ·subst c26
     rw [if_pos rfl] at H
     simp only [Option.some.injEq, Prod.mk.injEq] at H
     obtain ⟨rfl, rfl, rfl, rfl, rfl, rfl, rfl⟩ := H
     have hnb27 := NB439_458.out
     have hnc27 := NB458_439.out
     obtain ⟨hcz28_0, hcz28_1, hcz28_2, hcz28_3, hcz28_4, hcz28_5, hfz28_0, hfz28_1, hfz28_2, hfz28_3, hfz28_4, hfz28_5⟩ := zg BK439.out
     go_wp2
     refine bodyPost_ret (results_ct rfl _ _ gb439 28 #[.string (⟨#[]⟩ : ByteArray), .int .i64 0, .int .i64 0, .int .i64 0, .string (⟨#[]⟩ : ByteArray), .slice none 0 0] (0, 0) _ rfl (by (repeat refine zj ?_); refine blk_put (cs := #[.string (⟨#[]⟩ : ByteArray), .int .i64 0, .int .i64 0, .int .i64 0, .string (⟨#[]⟩ : ByteArray), .slice none 0 0]) ?_ 5 _ rfl; (repeat refine zj ?_); refine blk_put (cs := #[.string (⟨#[]⟩ : ByteArray), .int .i64 0, .int .i64 0, .int .i64 0, .string (⟨#[]⟩ : ByteArray), .slice none 0 0]) ?_ 4 _ rfl; (repeat refine zj ?_); refine blk_put (cs := #[.string (⟨#[]⟩ : ByteArray), .int .i64 0, .int .i64 0, .int .i64 0, .string (⟨#[]⟩ : ByteArray), .slice none 0 0]) ?_ 3 _ rfl; (repeat refine zj ?_); refine blk_put (cs := #[.string (⟨#[]⟩ : ByteArray), .int .i64 0, .int .i64 0, .int .i64 0, .string (⟨#[]⟩ : ByteArray), .slice none 0 0]) ?_ 2 _ rfl; (repeat refine zj ?_); refine blk_put (cs := #[.string (⟨#[]⟩ : ByteArray), .int .i64 0, .int .i64 0, .int .i64 0, .string (⟨#[]⟩ : ByteArray), .slice none 0 0]) ?_ 1 _ rfl; (repeat refine zj ?_); refine blk_put (cs := #[.string (⟨#[]⟩ : ByteArray), .int .i64 0, .int .i64 0, .int .i64 0, .string (⟨#[]⟩ : ByteArray), .slice none 0 0]) ?_ 0 _ rfl; (repeat refine zj ?_); exact BK439.out) Tryz.underlying28 rfl zq) rfl ?_
     exact ⟨_, z1b, z2d, z3i⟩
    ·replace c26 := Bool.eq_false_iff.mpr c26
     subst c26
     rw [if_neg zh] at H
     have H' := zi H
     clear H
     have hnb29 := NB458_439.out
     have hnc29 := NB439_458.out
     obtain ⟨hcz30_0, hcz30_1, hcz30_2, hcz30_3, hcz30_4, hfz30_0, hfz30_1, hfz30_2, hfz30_3, hfz30_4⟩ := zf BK458.out
     go_wp2_with (first | ((with_reducible refine gate_dst (N := 9) rfl ?_); refine box_event zr (N := 9) zr (cs := #[.string (⟨#[]⟩ : ByteArray), .int .i64 0, .int .i64 0, .int .i64 0, .string (⟨#[]⟩ : ByteArray), .slice none 0 0]) (t := 28) z1h ?_; intro gb459 hg w31 hbox hb; have n0_ := zi (Kd.R_below (by (with_reducible repeat (first | apply Kd.R_alloc | apply Kd.R_drewN | apply Kd.R_drew)); exact HO_6.out) hb); have n1_ := zi (blk_below (g := gb439) (o := .cells #[.string (⟨#[]⟩ : ByteArray), .int .i64 0, .int .i64 0, .int .i64 0, .string (⟨#[]⟩ : ByteArray), .slice none 0 0] 28 (0, 0)) z3c hb); have n2_ := zi (blk_below (g := gb458) (o := .cells #[.string t452, .int .i64 t453, .int .i64 t454, .int .i64 t455, .string t456] 35 (0, 0)) z3j hb); have n3_ := zi (below_step z3i hb); have n4_ := zi hbox; have n5_ := zi ((by rw [hg]; exact (below_size z3i) : w.heap.size ≤ gb459)); have n6_ := zi ((by rw [hg]; exact (below_size z3i) : w.heap.size ≤ gb459)); have n7_ := zi ((z6y : gb439 ≠ gb459)); have n8_ := zi ((z6z : gb459 ≠ gb439)); have n9_ := zi ((z7a : gb458 ≠ gb459)); have n10_ := zi ((z7b : gb459 ≠ gb458)); clear HO_6; clear BK439; clear BK458; clear HB; have HO_6 := n0_; have BK439 := n1_; have BK458 := n2_; have HB := n3_; have BK459 := n4_; have GW459 := n5_; have GE459 := n6_; have NB439_459 := n7_; have NB459_439 := n8_; have NB458_459 := n9_; have NB459_458 := n10_; clear n0_ n1_ n2_ n3_ n4_ n5_ n6_ n7_ n8_ n9_ n10_; clear hb hbox hg; have hnb32 := NB459_439.out; have hnc32 := NB439_459.out; have hnb33 := NB459_458.out; have hnc33 := NB458_459.out; obtain ⟨hcz34_0, hcz34_1, hcz34_2, hcz34_3, hcz34_4, hcz34_5, hfz34_0, hfz34_1, hfz34_2, hfz34_3, hfz34_4, hfz34_5⟩ := zg BK459.out; obtain ⟨Ao35, co35, eo35⟩ := Kd.R_slice HO_6.out; subst eo35))
     go_loopg [38] kj5 (fun kq v38 w' => ∃ (x38_2 : Int) (x440000_2 : ByteArray) (x440001_2 : Int) (x440002_2 : Int) (x440003_2 : Int) (x440004_2 : ByteArray) (x460005_2 : List (S35)) (u460005 : Value), v38 = .int .i64 x38_2 ∧ Aside0 (impl_GetEntry.l0 kq a0 t447 (t447.length : Int) x38_2 t452 t453 t454 t455 t456 x460005_2 = some (r1, r2, r3, r4, r5, r6, r7)) ∧ Aside0 (kq ≤ kj5) ∧ Aside0 (Kd.R Kd.string 9 w' w.heap.size (fun _ => True) (.slice Ao35 t447.length co35) t447) ∧ Aside0 (Kd.R k35 35 w' w.heap.size (fun k_ => k_ ≠ gb458) u460005 x460005_2) ∧ Aside0 (w'.heap[gb439]? = some (.cells #[.string x440000_2, .int .i64 x440001_2, .int .i64 x440002_2, .int .i64 x440003_2, .string x440004_2, (.slice none 0 0)] 28 (0, 0))) ∧ Aside0 (w'.heap[gb458]? = some (.cells #[.string t452, .int .i64 t453, .int .i64 t454, .int .i64 t455, .string t456] 35 (0, 0))) ∧ Aside0 (w'.heap[gb459]? = some (.cells #[.string t452, .int .i64 t453, .int .i64 t454, .int .i64 t455, .string t456, u460005] 28 (0, 0))) ∧ Aside0 (Below w.heap.size w w'))
     case atStart => exact ⟨(0), ((⟨#[]⟩ : ByteArray)), (0), (0), (0), ((⟨#[]⟩ : ByteArray)), (([] : List (S35))), (.slice none 0 0), zu, H', ⟨Nat.le_refl _⟩, ⟨by (with_reducible repeat (first | apply Kd.R_alloc | apply Kd.R_drewN | apply Kd.R_drew)); exact Kd.R_mono (Kd.R_far (p := ⟨gb459, 5, none⟩) (Kd.R_far (p := ⟨gb459, 4, none⟩) (Kd.R_far (p := ⟨gb459, 3, none⟩) (Kd.R_far (p := ⟨gb459, 2, none⟩) (Kd.R_far (p := ⟨gb459, 1, none⟩) (Kd.R_far (p := ⟨gb459, 0, none⟩) (Kd.R_types HO_6.out BK459.out zt) (fun _ hk => hk.2) (.string t452)) (fun _ hk => hk.2) (.int .i64 t453)) (fun _ hk => hk.2) (.int .i64 t454)) (fun _ hk => hk.2) (.int .i64 t455)) (fun _ hk => hk.2) (.string t456)) (fun _ hk => hk.2) (.slice none 0 0)) (fun _ hk => trivial)⟩, ⟨z2d⟩, ⟨by (repeat refine zj ?_); refine blk_far ?_ NB439_459.out _; (repeat refine zj ?_); refine blk_far ?_ NB439_459.out _; (repeat refine zj ?_); refine blk_far ?_ NB439_459.out _; (repeat refine zj ?_); refine blk_far ?_ NB439_459.out _; (repeat refine zj ?_); refine blk_far ?_ NB439_459.out _; (repeat refine zj ?_); refine blk_far ?_ NB439_459.out _; (repeat refine zj ?_); exact BK439.out⟩, ⟨by (repeat refine zj ?_); refine blk_far ?_ NB458_459.out _; (repeat refine zj ?_); refine blk_far ?_ NB458_459.out _; (repeat refine zj ?_); refine blk_far ?_ NB458_459.out _; (repeat refine zj ?_); refine blk_far ?_ NB458_459.out _; (repeat refine zj ?_); refine blk_far ?_ NB458_459.out _; (repeat refine zj ?_); refine blk_far ?_ NB458_459.out _; (repeat refine zj ?_); exact BK458.out⟩, ⟨by (repeat refine zj ?_); refine blk_put (cs := #[.string t452, .int .i64 t453, .int .i64 t454, .int .i64 t455, .string t456, .slice none 0 0]) ?_ 5 _ rfl; (repeat refine zj ?_); refine blk_put (cs := #[.string t452, .int .i64 t453, .int .i64 t454, .int .i64 t455, .string (⟨#[]⟩ : ByteArray), .slice none 0 0]) ?_ 4 _ rfl; (repeat refine zj ?_); refine blk_put (cs := #[.string t452, .int .i64 t453, .int .i64 t454, .int .i64 0, .string (⟨#[]⟩ : ByteArray), .slice none 0 0]) ?_ 3 _ rfl; (repeat refine zj ?_); refine blk_put (cs := #[.string t452, .int .i64 t453, .int .i64 0, .int .i64 0, .string (⟨#[]⟩ : ByteArray), .slice none 0 0]) ?_ 2 _ rfl; (repeat refine zj ?_); refine blk_put (cs := #[.string t452, .int .i64 0, .int .i64 0, .int .i64 0, .string (⟨#[]⟩ : ByteArray), .slice none 0 0]) ?_ 1 _ rfl; (repeat refine zj ?_); refine blk_put (cs := #[.string (⟨#[]⟩ : ByteArray), .int .i64 0, .int .i64 0, .int .i64 0, .string (⟨#[]⟩ : ByteArray), .slice none 0 0]) ?_ 0 _ rfl; (repeat refine zj ?_); exact BK459.out⟩, ⟨z3k⟩⟩
     case round =>
      clear H'
      try clear c1
      try clear c2
      try clear c2b0
      try clear c2b1
      try clear c2b2
      try clear p2
      try clear c3
      try clear c10
      try clear c12
      try clear c13
      try clear c16
      try clear c17
      try clear c19
      try clear c20
      try clear c21
      try clear c23
      try clear c24
      try clear c26
      try clear c27
      try clear c29
      try clear c32
      try clear c33
      try clear hcz11_0
      try clear hcz11_1
      try clear hcz11_2
      try clear hcz18_0
      try clear hcz18_1
      try clear hcz18_2
      try clear hcz18_3
      try clear hcz18_4
      try clear hcz22_0
      try clear hcz22_1
      try clear hcz22_2
      try clear hcz25_0
      try clear hcz25_1
      try clear hcz25_2
      try clear hcz28_0
      try clear hcz28_1
      try clear hcz28_2
      try clear hcz28_3
      try clear hcz28_4
      try clear hcz28_5
      try clear hcz30_0
      try clear hcz30_1
      try clear hcz30_2
      try clear hcz30_3
      try clear hcz30_4
      try clear hcz34_0
      try clear hcz34_1
      try clear hcz34_2
      try clear hcz34_3
      try clear hcz34_4
      try clear hcz34_5
      try clear hfz11_0
      try clear hfz11_1
      try clear hfz11_2
      try clear hfz18_0
      try clear hfz18_1
      try clear hfz18_2
      try clear hfz18_3
      try clear hfz18_4
      try clear hfz22_0
      try clear hfz22_1
      try clear hfz22_2
      try clear hfz25_0
      try clear hfz25_1
      try clear hfz25_2
      try clear hfz28_0
      try clear hfz28_1
      try clear hfz28_2
      try clear hfz28_3
      try clear hfz28_4
      try clear hfz28_5
      try clear hfz30_0
      try clear hfz30_1
      try clear hfz30_2
      try clear hfz30_3
      try clear hfz30_4
      try clear hfz34_0
      try clear hfz34_1
      try clear hfz34_2
      try clear hfz34_3
      try clear hfz34_4
      try clear hfz34_5
      try clear p2
      obtain ⟨x38_2, x440000_2, x440001_2, x440002_2, x440003_2, x440004_2, x460005_2, u460005, rfl, HA, HK2, HO_36, HO_460005, BK439, BK458, BK459, HB⟩ := hrel
      cases gk with
      | zero => exact absurd HA.out (by simp [impl_GetEntry.l0])
      | succ k2 =>
       have H := HA.out
       clear HA
       simp only [impl_GetEntry.l0] at H
       by_cases c36 : x38_2 < (t447.length : Int)
       ·rw [if_pos c36] at H
        have c36b0 := decide_eq_true c36
        clear c36
        by_cases c37 : 0 ≤ x38_2
        ·rw [if_pos c37] at H
         have c37b0 := decide_eq_true c37
         clear c37
         by_cases c38 : x38_2 < (t447.length : Int)
         ·rw [if_pos c38] at H
          have c38b0 := decide_eq_true c38
          clear c38
          replace H := Option.bind_eq_some_iff.mp H
          obtain ⟨⟨t461, t462, t463, t464, t465, t466⟩, A390, H⟩ := H
          try dsimp only at H
          have A39 := zi A390
          clear A390
          by_cases c40 : t466 = true
          ·subst c40
           rw [if_pos rfl] at H
           by_cases c41 : x460005_2.length < 2513169434916
           ·rw [if_pos c41] at H
            have LMc41 := zi c41
            clear c41
            obtain ⟨y468, hy468⟩ : ∃ y_ : List (S35), y_ = (x460005_2 ++ [(⟨t461, (⟨t462, t463, t464, t465⟩ : S25)⟩ : S35)]) := ⟨_, rfl⟩
            replace H : (impl_GetEntry.l0 k2 a0 t447 (t447.length : Int) (wrap64 (x38_2 + 1)) t452 t453 t454 t455 t456 y468) = some (r1, r2, r3, r4, r5, r6, r7) := by first | (rw [hy468]; with_reducible exact H) | (have H2_ := (Option.bind_some _ _).symm.trans H; rw [hy468]; with_reducible exact H2_) | (have H2_ := (Option.bind_some _ _).symm.trans H; with_reducible exact H2_) | with_reducible exact H | (rw [hy468]; exact H) | exact H
            have Ny468 := zi hy468
            clear hy468
            have H' := zi H
            clear H
            have p460 : 0 ≤ (x38_2 : Int) := of_decide_eq_true zw
            have q460 : x38_2 < (t447.length : Int) := of_decide_eq_true zw
            obtain ⟨ad460, e460, hx460_0⟩ := Kd.at_string (Kd.R_reads' HO_36.out).2.2 x38_2 p460 q460
            cases e460
            replace p460 := eq_true p460
            replace q460 := eq_true q460
            go_wp2_with (first | ((with_reducible refine gate_callee (f := 13) rfl ?_); refine goesL_ (some 44) rfl rfl Tryz.func13 zq rfl #[.string (rdOf ByteArray.empty t447 x38_2)] rfl zy ?_; (with_reducible refine (impl_ParseName.calls (hG_ := globI_on HG_.out z1v) k2 (rdOf ByteArray.empty t447 x38_2) t461 t462 t463 t464 t465 true _ A39.out).mono ?_); rintro e w42 ⟨rfl, hb⟩; refine ⟨_, rfl, ?_⟩; have n0_ := zi (Kd.R_below z3l hb); have n1_ := zi (Kd.R_below z3m hb); have n2_ := zi (blk_below (g := gb439) (o := .cells #[.string x440000_2, .int .i64 x440001_2, .int .i64 x440002_2, .int .i64 x440003_2, .string x440004_2, .slice none 0 0] 28 (0, 0)) z3c hb); have n3_ := zi (blk_below (g := gb458) (o := .cells #[.string t452, .int .i64 t453, .int .i64 t454, .int .i64 t455, .string t456] 35 (0, 0)) z3j hb); have n4_ := zi (blk_below (g := gb459) (o := .cells #[.string t452, .int .i64 t453, .int .i64 t454, .int .i64 t455, .string t456, u460005] 28 (0, 0)) z3n hb); have n5_ := zi (below_step z3k hb); clear HO_36; clear HO_460005; clear BK439; clear BK458; clear BK459; clear HB; have HO_36 := n0_; have HO_460005 := n1_; have BK439 := n2_; have BK458 := n3_; have BK459 := n4_; have HB := n5_; clear n0_ n1_ n2_ n3_ n4_ n5_; (try clear hb); (try clear hb2); (try clear hk); (try clear hi)) | ((with_reducible refine gate_dst (N := 12) rfl ?_); refine box_event zr (N := 12) zr (cs := #[.string (⟨#[]⟩ : ByteArray), .int .i64 0, .int .i64 0, .int .i64 0, .string (⟨#[]⟩ : ByteArray)]) (t := 35) z1h ?_; intro gb467 hg w43 hbox hb; have n0_ := zi (Kd.R_below z3l hb); have n1_ := zi (Kd.R_below (Kd.R_elderB z3m gb467 (Nat.le_of_eq hg.symm)) hb); have n2_ := zi (blk_below (g := gb439) (o := .cells #[.string x440000_2, .int .i64 x440001_2, .int .i64 x440002_2, .int .i64 x440003_2, .string x440004_2, .slice none 0 0] 28 (0, 0)) z3c hb); have n3_ := zi (blk_below (g := gb458) (o := .cells #[.string t452, .int .i64 t453, .int .i64 t454, .int .i64 t455, .string t456] 35 (0, 0)) z3j hb); have n4_ := zi (blk_below (g := gb459) (o := .cells #[.string t452, .int .i64 t453, .int .i64 t454, .int .i64 t455, .string t456, u460005] 28 (0, 0)) z3n hb); have n5_ := zi (below_step z3k hb); have n6_ := zi hbox; have n7_ := zi ((z7c : w.heap.size ≤ gb467)); have n8_ := zi ((z7c : w.heap.size ≤ gb467)); have n9_ := zi ((by rw [hg]; exact Nat.ne_of_lt (blk_lt (g := gb439) (o := .cells #[.string x440000_2, .int .i64 x440001_2, .int .i64 x440002_2, .int .i64 x440003_2, .string x440004_2, .slice none 0 0] 28 (0, 0)) z3c) : gb439 ≠ gb467)); have n10_ := zi ((by rw [hg]; exact Nat.ne_of_gt (blk_lt (g := gb439) (o := .cells #[.string x440000_2, .int .i64 x440001_2, .int .i64 x440002_2, .int .i64 x440003_2, .string x440004_2, .slice none 0 0] 28 (0, 0)) z3c) : gb467 ≠ gb439)); have n11_ := zi ((z7a : gb458 ≠ gb467)); have n12_ := zi ((z7b : gb467 ≠ gb458)); have n13_ := zi ((by rw [hg]; exact Nat.ne_of_lt (blk_lt (g := gb459) (o := .cells #[.string t452, .int .i64 t453, .int .i64 t454, .int .i64 t455, .string t456, u460005] 28 (0, 0)) z3n) : gb459 ≠ gb467)); have n14_ := zi ((by rw [hg]; exact Nat.ne_of_gt (blk_lt (g := gb459) (o := .cells #[.string t452, .int .i64 t453, .int .i64 t454, .int .i64 t455, .string t456, u460005] 28 (0, 0)) z3n) : gb467 ≠ gb459)); clear HO_36; clear HO_460005; clear BK439; clear BK458; clear BK459; clear HB; have HO_36 := n0_; have HO_460005 := n1_; have BK439 := n2_; have BK458 := n3_; have BK459 := n4_; have HB := n5_; have BK467 := n6_; have GW467 := n7_; have GE467 := n8_; have NB439_467 := n9_; have NB467_439 := n10_; have NB458_467 := n11_; have NB467_458 := n12_; have NB459_467 := n13_; have NB467_459 := n14_; clear n0_ n1_ n2_ n3_ n4_ n5_ n6_ n7_ n8_ n9_ n10_ n11_ n12_ n13_ n14_; clear hb hbox hg; have hnb44 := NB467_439.out; have hnc44 := NB439_467.out; have hnb45 := NB467_458.out; have hnc45 := NB458_467.out; have hnb46 := NB467_459.out; have hnc46 := NB459_467.out; obtain ⟨hcz47_0, hcz47_1, hcz47_2, hcz47_3, hcz47_4, hfz47_0, hfz47_1, hfz47_2, hfz47_3, hfz47_4⟩ := zf BK467.out; have hnb48 := NB459_439.out; have hnc48 := NB439_459.out; have hnb49 := NB459_458.out; have hnc49 := NB458_459.out; obtain ⟨hcz50_0, hcz50_1, hcz50_2, hcz50_3, hcz50_4, hcz50_5, hfz50_0, hfz50_1, hfz50_2, hfz50_3, hfz50_4, hfz50_5⟩ := zg BK459.out) | ((with_reducible refine gate_builtin (b := .append) (xs := #[.tmp 51, .tmp 53]) rfl ?_); at_builtin; refine Kd.R_append k35 (w0 := w) w.heap.size rfl (.tmp 51) (.tmp 53) 26 35 (.agg #[(.string ⟨#[]⟩), (.int .i64 0), (.int .i64 0), (.int .i64 0), (.string ⟨#[]⟩)]) 56 rfl Tryz.underlying26 info35 rfl zt zp u460005 x460005_2 (⟨t461, (⟨t462, t463, t464, t465⟩ : S25)⟩ : S35) [.string t461, .int .i64 t462, .int .i64 t463, .int .i64 t464, .string t465] (fun k_ => k_ ≠ gb458 ∧ k_ ≠ gb467) (fun _ => False) rfl z1h ?aP (fun _ hk => hk.elim) ?aF ?aO ?aB ?aS ?aL ?_; (case aP => exact k35_mkM _ _ _ (⟨t461, (⟨t462, t463, t464, t465⟩ : S25)⟩ : S35)); (case aB => exact z3o); (case aF => exact (fun k_ hk => ⟨Kd.freshB (g := gb458) (o := .cells #[.string t452, .int .i64 t453, .int .i64 t454, .int .i64 t455, .string t456] 35 (0, 0)) (by (repeat refine zj ?_); refine blk_far ?_ NB458_467.out _; (repeat refine zj ?_); refine blk_far ?_ NB458_467.out _; (repeat refine zj ?_); refine blk_far ?_ NB458_467.out _; (repeat refine zj ?_); refine blk_far ?_ NB458_467.out _; (repeat refine zj ?_); refine blk_far ?_ NB458_467.out _; (repeat refine zj ?_); exact BK458.out) k_ hk, Kd.freshB (g := gb467) (o := .cells #[.string t461, .int .i64 t462, .int .i64 t463, .int .i64 t464, .string t465] 35 (0, 0)) (by (repeat refine zj ?_); refine blk_put (cs := #[.string t461, .int .i64 t462, .int .i64 t463, .int .i64 t464, .string (⟨#[]⟩ : ByteArray)]) ?_ 4 _ rfl; (repeat refine zj ?_); refine blk_put (cs := #[.string t461, .int .i64 t462, .int .i64 t463, .int .i64 0, .string (⟨#[]⟩ : ByteArray)]) ?_ 3 _ rfl; (repeat refine zj ?_); refine blk_put (cs := #[.string t461, .int .i64 t462, .int .i64 0, .int .i64 0, .string (⟨#[]⟩ : ByteArray)]) ?_ 2 _ rfl; (repeat refine zj ?_); refine blk_put (cs := #[.string t461, .int .i64 0, .int .i64 0, .int .i64 0, .string (⟨#[]⟩ : ByteArray)]) ?_ 1 _ rfl; (repeat refine zj ?_); refine blk_put (cs := #[.string (⟨#[]⟩ : ByteArray), .int .i64 0, .int .i64 0, .int .i64 0, .string (⟨#[]⟩ : ByteArray)]) ?_ 0 _ rfl; (repeat refine zj ?_); exact BK467.out) k_ hk⟩)); (case aO => exact (by (with_reducible repeat (first | apply Kd.R_alloc | apply Kd.R_drewN | apply Kd.R_drew)); exact Kd.R_mono (Kd.R_far (p := ⟨gb467, 4, none⟩) (Kd.R_far (p := ⟨gb467, 3, none⟩) (Kd.R_far (p := ⟨gb467, 2, none⟩) (Kd.R_far (p := ⟨gb467, 1, none⟩) (Kd.R_far (p := ⟨gb467, 0, none⟩) (Kd.R_mono HO_460005.out (fun k_ hk => (⟨hk, hk.2⟩ : _ ∧ k_ ≠ gb467))) (fun _ hk => hk.2) (.string t461)) (fun _ hk => hk.2) (.int .i64 t462)) (fun _ hk => hk.2) (.int .i64 t463)) (fun _ hk => hk.2) (.int .i64 t464)) (fun _ hk => hk.2) (.string t465)) (fun _ hk => ⟨hk.1.1, hk.1.2⟩))); (case aS => exact (below_size z3o)); (case aL => have := LMc41.out; omega); intro v469 w51 ho hb hg hat; rw [← Ny468.out] at ho; have n0_ := zi (Kd.R_over' (by (with_reducible repeat (first | apply Kd.R_alloc | apply Kd.R_drewN | apply Kd.R_drew)); exact (Kd.R_mono (Kd.R_far (p := ⟨gb467, 4, none⟩) (Kd.R_far (p := ⟨gb467, 3, none⟩) (Kd.R_far (p := ⟨gb467, 2, none⟩) (Kd.R_far (p := ⟨gb467, 1, none⟩) (Kd.R_far (p := ⟨gb467, 0, none⟩) (Kd.R_types HO_36.out BK467.out zt) (fun _ hk => hk.2) (.string t461)) (fun _ hk => hk.2) (.int .i64 t462)) (fun _ hk => hk.2) (.int .i64 t463)) (fun _ hk => hk.2) (.int .i64 t464)) (fun _ hk => hk.2) (.string t465)) (fun _ h_ => h_.1))) (Kd.R_typed (by (with_reducible repeat (first | apply Kd.R_alloc | apply Kd.R_drewN | apply Kd.R_drew)); exact (Kd.R_mono (Kd.R_far (p := ⟨gb467, 4, none⟩) (Kd.R_far (p := ⟨gb467, 3, none⟩) (Kd.R_far (p := ⟨gb467, 2, none⟩) (Kd.R_far (p := ⟨gb467, 1, none⟩) (Kd.R_far (p := ⟨gb467, 0, none⟩) (Kd.R_mono HO_460005.out (fun k_ hk => (⟨hk, hk.2⟩ : _ ∧ k_ ≠ gb467))) (fun _ hk => hk.2) (.string t461)) (fun _ hk => hk.2) (.int .i64 t462)) (fun _ hk => hk.2) (.int .i64 t463)) (fun _ hk => hk.2) (.int .i64 t464)) (fun _ hk => hk.2) (.string t465)) (fun _ h_ => h_.1)))) zt hg); have n1_ := zi (blk_grown (g := gb439) (o := .cells #[.string x440000_2, .int .i64 x440001_2, .int .i64 x440002_2, .int .i64 x440003_2, .string x440004_2, .slice none 0 0] 28 (0, 0)) (by (repeat refine zj ?_); refine blk_far ?_ NB439_467.out _; (repeat refine zj ?_); refine blk_far ?_ NB439_467.out _; (repeat refine zj ?_); refine blk_far ?_ NB439_467.out _; (repeat refine zj ?_); refine blk_far ?_ NB439_467.out _; (repeat refine zj ?_); refine blk_far ?_ NB439_467.out _; (repeat refine zj ?_); exact BK439.out) hg (Kd.R_ne HO_460005.out BK439.out zt)); have n2_ := zi (blk_grown (g := gb458) (o := .cells #[.string t452, .int .i64 t453, .int .i64 t454, .int .i64 t455, .string t456] 35 (0, 0)) (by (repeat refine zj ?_); refine blk_far ?_ NB458_467.out _; (repeat refine zj ?_); refine blk_far ?_ NB458_467.out _; (repeat refine zj ?_); refine blk_far ?_ NB458_467.out _; (repeat refine zj ?_); refine blk_far ?_ NB458_467.out _; (repeat refine zj ?_); refine blk_far ?_ NB458_467.out _; (repeat refine zj ?_); exact BK458.out) hg (Kd.R_away HO_460005.out (fun _ hk => hk.1))); have n3_ := zi (blk_grown (g := gb459) (o := .cells #[.string t452, .int .i64 t453, .int .i64 t454, .int .i64 t455, .string t456, u460005] 28 (0, 0)) (by (repeat refine zj ?_); refine blk_far ?_ NB459_467.out _; (repeat refine zj ?_); refine blk_far ?_ NB459_467.out _; (repeat refine zj ?_); refine blk_far ?_ NB459_467.out _; (repeat refine zj ?_); refine blk_far ?_ NB459_467.out _; (repeat refine zj ?_); refine blk_far ?_ NB459_467.out _; (repeat refine zj ?_); exact BK459.out) hg (Kd.R_ne HO_460005.out BK459.out zt)); have n4_ := zi (blk_grown (g := gb467) (o := .cells #[.string t461, .int .i64 t462, .int .i64 t463, .int .i64 t464, .string t465] 35 (0, 0)) (by (repeat refine zj ?_); refine blk_put (cs := #[.string t461, .int .i64 t462, .int .i64 t463, .int .i64 t464, .string (⟨#[]⟩ : ByteArray)]) ?_ 4 _ rfl; (repeat refine zj ?_); refine blk_put (cs := #[.string t461, .int .i64 t462, .int .i64 t463, .int .i64 0, .string (⟨#[]⟩ : ByteArray)]) ?_ 3 _ rfl; (repeat refine zj ?_); refine blk_put (cs := #[.string t461, .int .i64 t462, .int .i64 0, .int .i64 0, .string (⟨#[]⟩ : ByteArray)]) ?_ 2 _ rfl; (repeat refine zj ?_); refine blk_put (cs := #[.string t461, .int .i64 0, .int .i64 0, .int .i64 0, .string (⟨#[]⟩ : ByteArray)]) ?_ 1 _ rfl; (repeat refine zj ?_); refine blk_put (cs := #[.string (⟨#[]⟩ : ByteArray), .int .i64 0, .int .i64 0, .int .i64 0, .string (⟨#[]⟩ : ByteArray)]) ?_ 0 _ rfl; (repeat refine zj ?_); exact BK467.out) hg (Kd.R_away HO_460005.out (fun _ hk => hk.2))); have n5_ := zi hb; have n6_ := zi ho; clear HO_36; clear BK439; clear BK458; clear BK459; clear BK467; clear HB; clear HO_460005; have HO_36 := n0_; have BK439 := n1_; have BK458 := n2_; have BK459 := n3_; have BK467 := n4_; have HB := n5_; have HO470 := n6_; clear n0_ n1_ n2_ n3_ n4_ n5_ n6_; clear ho hb hg hat; obtain ⟨Ao52, co52, eo52⟩ := Kd.R_slice HO470.out; subst eo52; obtain ⟨hcz53_0, hcz53_1, hcz53_2, hcz53_3, hcz53_4, hcz53_5, hfz53_0, hfz53_1, hfz53_2, hfz53_3, hfz53_4, hfz53_5⟩ := zg BK459.out))
            go_roundg k2
            case measure => have := HJ5.out; have := HK2.out; omega
            case rel => exact ⟨(wrap64 (x38_2 + 1)), (x440000_2), (x440001_2), (x440002_2), (x440003_2), (x440004_2), (y468), (.slice Ao52 y468.length co52), zu, H', ⟨by have := HJ5.out; have := HK2.out; omega⟩, ⟨by (with_reducible repeat (first | apply Kd.R_alloc | apply Kd.R_drewN | apply Kd.R_drew)); exact Kd.R_mono (Kd.R_far (p := ⟨gb459, 5, none⟩) (Kd.R_types HO_36.out BK459.out zt) (fun _ hk => hk.2) (.slice Ao52 y468.length co52)) (fun _ hk => trivial)⟩, ⟨by (with_reducible repeat (first | apply Kd.R_alloc | apply Kd.R_drewN | apply Kd.R_drew)); exact Kd.R_mono (Kd.R_far (p := ⟨gb459, 5, none⟩) (Kd.R_types HO470.out BK459.out zt) (fun _ hk => hk.2) (.slice Ao52 y468.length co52)) (fun _ hk => hk.1.1)⟩, ⟨by (repeat refine zj ?_); refine blk_far ?_ NB439_459.out _; (repeat refine zj ?_); exact BK439.out⟩, ⟨by (repeat refine zj ?_); refine blk_far ?_ NB458_459.out _; (repeat refine zj ?_); exact BK458.out⟩, ⟨by (repeat refine zj ?_); refine blk_put (cs := #[.string t452, .int .i64 t453, .int .i64 t454, .int .i64 t455, .string t456, u460005]) ?_ 5 _ rfl; (repeat refine zj ?_); exact BK459.out⟩, ⟨z3o⟩⟩
           ·rw [if_neg c41] at H
            exact absurd H (by simp)
          ·replace c40 := Bool.eq_false_iff.mpr c40
           subst c40
           rw [if_neg zh] at H
           simp only [Option.some.injEq, Prod.mk.injEq] at H
           obtain ⟨rfl, rfl, rfl, rfl, rfl, rfl, rfl⟩ := H
           have p460 : 0 ≤ (x38_2 : Int) := of_decide_eq_true zw
           have q460 : x38_2 < (t447.length : Int) := of_decide_eq_true zw
           obtain ⟨ad460, e460, hx460_0⟩ := Kd.at_string (Kd.R_reads' HO_36.out).2.2 x38_2 p460 q460
           cases e460
           replace p460 := eq_true p460
           replace q460 := eq_true q460
           go_wp2_with (first | ((with_reducible refine gate_callee (f := 13) rfl ?_); refine goesL_ (some 44) rfl rfl Tryz.func13 zq rfl #[.string (rdOf ByteArray.empty t447 x38_2)] rfl zy ?_; (with_reducible refine (impl_ParseName.calls (hG_ := globI_on HG_.out z1v) k2 (rdOf ByteArray.empty t447 x38_2) t461 t462 t463 t464 t465 false _ A39.out).mono ?_); rintro e w54 ⟨rfl, hb⟩; refine ⟨_, rfl, ?_⟩; have n0_ := zi (Kd.R_below z3l hb); have n1_ := zi (Kd.R_below z3m hb); have n2_ := zi (blk_below (g := gb439) (o := .cells #[.string x440000_2, .int .i64 x440001_2, .int .i64 x440002_2, .int .i64 x440003_2, .string x440004_2, .slice none 0 0] 28 (0, 0)) z3c hb); have n3_ := zi (blk_below (g := gb458) (o := .cells #[.string t452, .int .i64 t453, .int .i64 t454, .int .i64 t455, .string t456] 35 (0, 0)) z3j hb); have n4_ := zi (blk_below (g := gb459) (o := .cells #[.string t452, .int .i64 t453, .int .i64 t454, .int .i64 t455, .string t456, u460005] 28 (0, 0)) z3n hb); have n5_ := zi (below_step z3k hb); clear HO_36; clear HO_460005; clear BK439; clear BK458; clear BK459; clear HB; have HO_36 := n0_; have HO_460005 := n1_; have BK439 := n2_; have BK458 := n3_; have BK459 := n4_; have HB := n5_; clear n0_ n1_ n2_ n3_ n4_ n5_; (try clear hb); (try clear hb2); (try clear hk); (try clear hi)) | ((with_reducible refine gate_dst (N := 12) rfl ?_); refine box_event zr (N := 12) zr (cs := #[.string (⟨#[]⟩ : ByteArray), .int .i64 0, .int .i64 0, .int .i64 0, .string (⟨#[]⟩ : ByteArray)]) (t := 35) z1h ?_; intro gb467 hg w55 hbox hb; have n0_ := zi (Kd.R_below z3l hb); have n1_ := zi (Kd.R_below (Kd.R_elderB z3m gb467 (Nat.le_of_eq hg.symm)) hb); have n2_ := zi (blk_below (g := gb439) (o := .cells #[.string x440000_2, .int .i64 x440001_2, .int .i64 x440002_2, .int .i64 x440003_2, .string x440004_2, .slice none 0 0] 28 (0, 0)) z3c hb); have n3_ := zi (blk_below (g := gb458) (o := .cells #[.string t452, .int .i64 t453, .int .i64 t454, .int .i64 t455, .string t456] 35 (0, 0)) z3j hb); have n4_ := zi (blk_below (g := gb459) (o := .cells #[.string t452, .int .i64 t453, .int .i64 t454, .int .i64 t455, .string t456, u460005] 28 (0, 0)) z3n hb); have n5_ := zi (below_step z3k hb); have n6_ := zi hbox; have n7_ := zi ((z7c : w.heap.size ≤ gb467)); have n8_ := zi ((z7c : w.heap.size ≤ gb467)); have n9_ := zi ((by rw [hg]; exact Nat.ne_of_lt (blk_lt (g := gb439) (o := .cells #[.string x440000_2, .int .i64 x440001_2, .int .i64 x440002_2, .int .i64 x440003_2, .string x440004_2, .slice none 0 0] 28 (0, 0)) z3c) : gb439 ≠ gb467)); have n10_ := zi ((by rw [hg]; exact Nat.ne_of_gt (blk_lt (g := gb439) (o := .cells #[.string x440000_2, .int .i64 x440001_2, .int .i64 x440002_2, .int .i64 x440003_2, .string x440004_2, .slice none 0 0] 28 (0, 0)) z3c) : gb467 ≠ gb439)); have n11_ := zi ((z7a : gb458 ≠ gb467)); have n12_ := zi ((z7b : gb467 ≠ gb458)); have n13_ := zi ((by rw [hg]; exact Nat.ne_of_lt (blk_lt (g := gb459) (o := .cells #[.string t452, .int .i64 t453, .int .i64 t454, .int .i64 t455, .string t456, u460005] 28 (0, 0)) z3n) : gb459 ≠ gb467)); have n14_ := zi ((by rw [hg]; exact Nat.ne_of_gt (blk_lt (g := gb459) (o := .cells #[.string t452, .int .i64 t453, .int .i64 t454, .int .i64 t455, .string t456, u460005] 28 (0, 0)) z3n) : gb467 ≠ gb459)); clear HO_36; clear HO_460005; clear BK439; clear BK458; clear BK459; clear HB; have HO_36 := n0_; have HO_460005 := n1_; have BK439 := n2_; have BK458 := n3_; have BK459 := n4_; have HB := n5_; have BK467 := n6_; have GW467 := n7_; have GE467 := n8_; have NB439_467 := n9_; have NB467_439 := n10_; have NB458_467 := n11_; have NB467_458 := n12_; have NB459_467 := n13_; have NB467_459 := n14_; clear n0_ n1_ n2_ n3_ n4_ n5_ n6_ n7_ n8_ n9_ n10_ n11_ n12_ n13_ n14_; clear hb hbox hg; have hnb56 := NB467_439.out; have hnc56 := NB439_467.out; have hnb57 := NB467_458.out; have hnc57 := NB458_467.out; have hnb58 := NB467_459.out; have hnc58 := NB459_467.out; obtain ⟨hcz59_0, hcz59_1, hcz59_2, hcz59_3, hcz59_4, hfz59_0, hfz59_1, hfz59_2, hfz59_3, hfz59_4⟩ := zf BK467.out; have hnb60 := NB439_458.out; have hnc60 := NB458_439.out; have hnb61 := NB439_459.out; have hnc61 := NB459_439.out; obtain ⟨hcz62_0, hcz62_1, hcz62_2, hcz62_3, hcz62_4, hcz62_5, hfz62_0, hfz62_1, hfz62_2, hfz62_3, hfz62_4, hfz62_5⟩ := zg BK439.out))
           refine bodyPost_ret (results_ct rfl _ _ gb439 28 #[.string (⟨#[]⟩ : ByteArray), .int .i64 0, .int .i64 0, .int .i64 0, .string (⟨#[]⟩ : ByteArray), .slice none 0 0] (0, 0) _ rfl (by (repeat refine zj ?_); refine blk_put (cs := #[.string (⟨#[]⟩ : ByteArray), .int .i64 0, .int .i64 0, .int .i64 0, .string (⟨#[]⟩ : ByteArray), .slice none 0 0]) ?_ 5 _ rfl; (repeat refine zj ?_); refine blk_put (cs := #[.string (⟨#[]⟩ : ByteArray), .int .i64 0, .int .i64 0, .int .i64 0, .string x440004_2, .slice none 0 0]) ?_ 4 _ rfl; (repeat refine zj ?_); refine blk_put (cs := #[.string (⟨#[]⟩ : ByteArray), .int .i64 0, .int .i64 0, .int .i64 x440003_2, .string x440004_2, .slice none 0 0]) ?_ 3 _ rfl; (repeat refine zj ?_); refine blk_put (cs := #[.string (⟨#[]⟩ : ByteArray), .int .i64 0, .int .i64 x440002_2, .int .i64 x440003_2, .string x440004_2, .slice none 0 0]) ?_ 2 _ rfl; (repeat refine zj ?_); refine blk_put (cs := #[.string (⟨#[]⟩ : ByteArray), .int .i64 x440001_2, .int .i64 x440002_2, .int .i64 x440003_2, .string x440004_2, .slice none 0 0]) ?_ 1 _ rfl; (repeat refine zj ?_); refine blk_put (cs := #[.string x440000_2, .int .i64 x440001_2, .int .i64 x440002_2, .int .i64 x440003_2, .string x440004_2, .slice none 0 0]) ?_ 0 _ rfl; (repeat refine zj ?_); refine blk_far ?_ NB439_467.out _; (repeat refine zj ?_); refine blk_far ?_ NB439_467.out _; (repeat refine zj ?_); refine blk_far ?_ NB439_467.out _; (repeat refine zj ?_); refine blk_far ?_ NB439_467.out _; (repeat refine zj ?_); refine blk_far ?_ NB439_467.out _; (repeat refine zj ?_); exact BK439.out) Tryz.underlying28 rfl zq) rfl ?_
           exact ⟨_, z1b, z2d, z3o⟩
         ·rw [if_neg c38] at H
          exact absurd H (by simp)
        ·rw [if_neg c37] at H
         exact absurd H (by simp)
       ·rw [if_neg c36] at H
        have c36b0 := decide_eq_false c36
        clear c36
        replace H := Option.bind_eq_some_iff.mp H
        obtain ⟨t471, A630, H⟩ := H
        try dsimp only at H
        have A63 := zi A630
        clear A630
        by_cases c64 : t471.toList = a0.toList
        ·rw [if_pos c64] at H
         have c64b0 : (t471.toList == a0.toList) = true := beq_iff_eq.mpr c64
         have c64b1 : (t471.toList != a0.toList) = false := bne_eq_false_iff_eq.mpr c64
         clear c64
         simp only [Option.some.injEq, Prod.mk.injEq] at H
         obtain ⟨rfl, rfl, rfl, rfl, rfl, rfl, rfl⟩ := H
         have hnb65 := NB459_439.out
         have hnc65 := NB439_459.out
         have hnb66 := NB459_458.out
         have hnc66 := NB458_459.out
         obtain ⟨hcz67_0, hcz67_1, hcz67_2, hcz67_3, hcz67_4, hcz67_5, hfz67_0, hfz67_1, hfz67_2, hfz67_3, hfz67_4, hfz67_5⟩ := zg BK459.out
         obtain ⟨Ao68, co68, eo68⟩ := Kd.R_slice HO_460005.out
         subst eo68
         go_wp2_with (first | ((with_reducible refine gate_callee (f := 9) rfl ?_); refine goesL_ (some 58) rfl rfl Tryz.func9 zq rfl #[.agg #[.string t452, .int .i64 t453, .int .i64 t454, .int .i64 t455, .string t456, .slice Ao68 x460005_2.length co68]] rfl zy ?_; (with_reducible refine (impl_PutEntry.calls (hG_ := globI_on HG_.out z1v) k2 t452 t453 t454 t455 t456 _ _ x460005_2 t471 _ ?side1 ?side2 A63.out).mono ?_); (case side1 => repeat (first | exact (Kd.R_reads' HO_460005.out).2.2 | (with_reducible refine Kd.C_alloc ?_ _) | (with_reducible refine Kd.C_drewN ?_ _) | (with_reducible refine Kd.C_drew ?_))); (case side2 => exact (Kd.R_reads' HO_460005.out).2.1); rintro e w69 ⟨rfl, hb⟩; refine ⟨_, rfl, ?_⟩; have n0_ := zi (Kd.R_below z3l hb); have n1_ := zi (Kd.R_below z3m hb); have n2_ := zi (blk_below (g := gb439) (o := .cells #[.string x440000_2, .int .i64 x440001_2, .int .i64 x440002_2, .int .i64 x440003_2, .string x440004_2, .slice none 0 0] 28 (0, 0)) z3c hb); have n3_ := zi (blk_below (g := gb458) (o := .cells #[.string t452, .int .i64 t453, .int .i64 t454, .int .i64 t455, .string t456] 35 (0, 0)) z3j hb); have n4_ := zi (blk_below (g := gb459) (o := .cells #[.string t452, .int .i64 t453, .int .i64 t454, .int .i64 t455, .string t456, .slice Ao68 x460005_2.length co68] 28 (0, 0)) z3n hb); have n5_ := zi (below_step z3k hb); clear HO_36; clear HO_460005; clear BK439; clear BK458; clear BK459; clear HB; have HO_36 := n0_; have HO_460005 := n1_; have BK439 := n2_; have BK458 := n3_; have BK459 := n4_; have HB := n5_; clear n0_ n1_ n2_ n3_ n4_ n5_; (try clear hb); (try clear hb2); (try clear hk); (try clear hi); obtain ⟨hcz70_0, hcz70_1, hcz70_2, hcz70_3, hcz70_4, hcz70_5, hfz70_0, hfz70_1, hfz70_2, hfz70_3, hfz70_4, hfz70_5⟩ := zg BK459.out; have hnb71 := NB439_458.out; have hnc71 := NB458_439.out; obtain ⟨hcz72_0, hcz72_1, hcz72_2, hcz72_3, hcz72_4, hcz72_5, hfz72_0, hfz72_1, hfz72_2, hfz72_3, hfz72_4, hfz72_5⟩ := zg BK439.out))
         refine bodyPost_ret (results_ct rfl _ _ gb439 28 #[.string t452, .int .i64 t453, .int .i64 t454, .int .i64 t455, .string t456, .slice Ao68 x460005_2.length co68] (0, 0) _ rfl (by (repeat refine zj ?_); refine blk_put (cs := #[.string t452, .int .i64 t453, .int .i64 t454, .int .i64 t455, .string t456, .slice none 0 0]) ?_ 5 _ rfl; (repeat refine zj ?_); refine blk_put (cs := #[.string t452, .int .i64 t453, .int .i64 t454, .int .i64 t455, .string x440004_2, .slice none 0 0]) ?_ 4 _ rfl; (repeat refine zj ?_); refine blk_put (cs := #[.string t452, .int .i64 t453, .int .i64 t454, .int .i64 x440003_2, .string x440004_2, .slice none 0 0]) ?_ 3 _ rfl; (repeat refine zj ?_); refine blk_put (cs := #[.string t452, .int .i64 t453, .int .i64 x440002_2, .int .i64 x440003_2, .string x440004_2, .slice none 0 0]) ?_ 2 _ rfl; (repeat refine zj ?_); refine blk_put (cs := #[.string t452, .int .i64 x440001_2, .int .i64 x440002_2, .int .i64 x440003_2, .string x440004_2, .slice none 0 0]) ?_ 1 _ rfl; (repeat refine zj ?_); refine blk_put (cs := #[.string x440000_2, .int .i64 x440001_2, .int .i64 x440002_2, .int .i64 x440003_2, .string x440004_2, .slice none 0 0]) ?_ 0 _ rfl; (repeat refine zj ?_); exact BK439.out) Tryz.underlying28 rfl zq) rfl ?_
         exact ⟨_, z1b, by (with_reducible repeat (first | apply Kd.R_alloc | apply Kd.R_drewN | apply Kd.R_drew)); exact Kd.R_mono (Kd.R_far (p := ⟨gb439, 5, none⟩) (Kd.R_far (p := ⟨gb439, 4, none⟩) (Kd.R_far (p := ⟨gb439, 3, none⟩) (Kd.R_far (p := ⟨gb439, 2, none⟩) (Kd.R_far (p := ⟨gb439, 1, none⟩) (Kd.R_far (p := ⟨gb439, 0, none⟩) (Kd.R_types HO_460005.out BK439.out zt) (fun _ hk => hk.2) (.string t452)) (fun _ hk => hk.2) (.int .i64 t453)) (fun _ hk => hk.2) (.int .i64 t454)) (fun _ hk => hk.2) (.int .i64 t455)) (fun _ hk => hk.2) (.string t456)) (fun _ hk => hk.2) (.slice Ao68 x460005_2.length co68)) (fun _ hk => trivial), z3k⟩
        ·rw [if_neg c64] at H
         have c64b0 : (t471.toList == a0.toList) = false := beq_eq_false_iff_ne.mpr c64
         have c64b1 : (t471.toList != a0.toList) = true := bne_iff_ne.mpr c64
         simp only [Option.some.injEq, Prod.mk.injEq] at H
         obtain ⟨rfl, rfl, rfl, rfl, rfl, rfl, rfl⟩ := H
         have hnb73 := NB459_439.out
         have hnc73 := NB439_459.out
         have hnb74 := NB459_458.out
         have hnc74 := NB458_459.out
         obtain ⟨hcz75_0, hcz75_1, hcz75_2, hcz75_3, hcz75_4, hcz75_5, hfz75_0, hfz75_1, hfz75_2, hfz75_3, hfz75_4, hfz75_5⟩ := zg BK459.out
         obtain ⟨Ao76, co76, eo76⟩ := Kd.R_slice HO_460005.out
         subst eo76
         go_wp2_with (first | ((with_reducible refine gate_callee (f := 9) rfl ?_); refine goesL_ (some 58) rfl rfl Tryz.func9 zq rfl #[.agg #[.string t452, .int .i64 t453, .int .i64 t454, .int .i64 t455, .string t456, .slice Ao76 x460005_2.length co76]] rfl zy ?_; (with_reducible refine (impl_PutEntry.calls (hG_ := globI_on HG_.out z1v) k2 t452 t453 t454 t455 t456 _ _ x460005_2 t471 _ ?side1 ?side2 A63.out).mono ?_); (case side1 => repeat (first | exact (Kd.R_reads' HO_460005.out).2.2 | (with_reducible refine Kd.C_alloc ?_ _) | (with_reducible refine Kd.C_drewN ?_ _) | (with_reducible refine Kd.C_drew ?_))); (case side2 => exact (Kd.R_reads' HO_460005.out).2.1); rintro e w77 ⟨rfl, hb⟩; refine ⟨_, rfl, ?_⟩; have n0_ := zi (Kd.R_below z3l hb); have n1_ := zi (Kd.R_below z3m hb); have n2_ := zi (blk_below (g := gb439) (o := .cells #[.string x440000_2, .int .i64 x440001_2, .int .i64 x440002_2, .int .i64 x440003_2, .string x440004_2, .slice none 0 0] 28 (0, 0)) z3c hb); have n3_ := zi (blk_below (g := gb458) (o := .cells #[.string t452, .int .i64 t453, .int .i64 t454, .int .i64 t455, .string t456] 35 (0, 0)) z3j hb); have n4_ := zi (blk_below (g := gb459) (o := .cells #[.string t452, .int .i64 t453, .int .i64 t454, .int .i64 t455, .string t456, .slice Ao76 x460005_2.length co76] 28 (0, 0)) z3n hb); have n5_ := zi (below_step z3k hb); clear HO_36; clear HO_460005; clear BK439; clear BK458; clear BK459; clear HB; have HO_36 := n0_; have HO_460005 := n1_; have BK439 := n2_; have BK458 := n3_; have BK459 := n4_; have HB := n5_; clear n0_ n1_ n2_ n3_ n4_ n5_; (try clear hb); (try clear hb2); (try clear hk); (try clear hi); have hnb78 := NB439_458.out; have hnc78 := NB458_439.out; obtain ⟨hcz79_0, hcz79_1, hcz79_2, hcz79_3, hcz79_4, hcz79_5, hfz79_0, hfz79_1, hfz79_2, hfz79_3, hfz79_4, hfz79_5⟩ := zg BK439.out))
         refine bodyPost_ret (results_ct rfl _ _ gb439 28 #[.string (⟨#[]⟩ : ByteArray), .int .i64 0, .int .i64 0, .int .i64 0, .string (⟨#[]⟩ : ByteArray), .slice none 0 0] (0, 0) _ rfl (by (repeat refine zj ?_); refine blk_put (cs := #[.string (⟨#[]⟩ : ByteArray), .int .i64 0, .int .i64 0, .int .i64 0, .string (⟨#[]⟩ : ByteArray), .slice none 0 0]) ?_ 5 _ rfl; (repeat refine zj ?_); refine blk_put (cs := #[.string (⟨#[]⟩ : ByteArray), .int .i64 0, .int .i64 0, .int .i64 0, .string x440004_2, .slice none 0 0]) ?_ 4 _ rfl; (repeat refine zj ?_); refine blk_put (cs := #[.string (⟨#[]⟩ : ByteArray), .int .i64 0, .int .i64 0, .int .i64 x440003_2, .string x440004_2, .slice none 0 0]) ?_ 3 _ rfl; (repeat refine zj ?_); refine blk_put (cs := #[.string (⟨#[]⟩ : ByteArray), .int .i64 0, .int .i64 x440002_2, .int .i64 x440003_2, .string x440004_2, .slice none 0 0]) ?_ 2 _ rfl; (repeat refine zj ?_); refine blk_put (cs := #[.string (⟨#[]⟩ : ByteArray), .int .i64 x440001_2, .int .i64 x440002_2, .int .i64 x440003_2, .string x440004_2, .slice none 0 0]) ?_ 1 _ rfl; (repeat refine zj ?_); refine blk_put (cs := #[.string x440000_2, .int .i64 x440001_2, .int .i64 x440002_2, .int .i64 x440003_2, .string x440004_2, .slice none 0 0]) ?_ 0 _ rfl; (repeat refine zj ?_); exact BK439.out) Tryz.underlying28 rfl zq) rfl ?_
         exact ⟨_, z1b, z2d, z3k⟩
 ·rw [if_neg c2] at H
  exact absurd H (by simp)
def laws_big.f (l0 : List Int) : Option (Bool) := some (decide ((l0.length : Int) > 1048576))
set_option maxHeartbeats 8000000 in
set_option maxRecDepth 100000 in
theorem laws_big.calls (A0 : Option Addr) (c0 : Nat) (l0 : List Int) (r : Bool) (w : World) (hr0 : Kd.C (Kd.int .u8) w A0 l0.length l0) (hc0 : l0.length ≤ c0) (h : laws_big.f l0 = some r) :
  Calls Tryz.prog 7 #[.slice A0 l0.length c0] w fun e w' => e = .returned (.bool r) ∧ Drawn0 w w' := by
 have HR0 := zi hr0
 have HC0 := zi hc0
 clear hr0 hc0
 have H := h
 unfold laws_big.f at H
 clear h
 obtain rfl := Option.some.inj H
 go_enter Tryz.func7, Tryz.ntmps7
 go_wp2
 go_ret
 exact ⟨zu, zv⟩
end Go.Proofs.YtgdknepphkhnlaaGreatDoor.X
