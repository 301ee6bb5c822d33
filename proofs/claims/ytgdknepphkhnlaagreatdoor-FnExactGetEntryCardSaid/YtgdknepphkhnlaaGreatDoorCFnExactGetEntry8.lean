/- The law FnExactGetEntry, as a plain statement: the program's GetEntry answers as the reference's, and shares no memory with another call's answer. Conditions: those of the row's reading alone. -/
/- Part 9 of 13 of this claim's texts. -/
import Derived.Test.YtgdknepphkhnlaaGreatDoorCFnExactGetEntry1
import Derived.Test.YtgdknepphkhnlaaGreatDoorCFnExactGetEntry4
import Derived.Test.YtgdknepphkhnlaaGreatDoorCFnExactGetEntry6
import Derived.Test.YtgdknepphkhnlaaGreatDoorCFnExactGetEntry7
namespace Go.Proofs.YtgdknepphkhnlaaGreatDoor.X
open Go.RowKit Go.Proofs.YtgdknepphkhnlaaGreatDoorW.PrintWords Go.Proofs.YtgdknepphkhnlaaGreatDoorW.PrintLast Go.Proofs.YtgdknepphkhnlaaGreatDoorW.PrintMore
attribute [local go_sem] max2_int min2_int max_two min_two max_three min_three max_four min_four
set_option linter.unusedVariables false
set_option linter.unusedSimpArgs false
mutual
def spec_GetEntry.j0 : Nat → List ByteArray → Bool → ByteArray → Int → Int → Int → ByteArray → ByteArray → Int → Int → Int → ByteArray → Option (ByteArray × Int × Int × Int × ByteArray × (List (S35)) × Bool)
 | 0, _, _, _, _, _, _, _, _, _, _, _, _ => none
 | k + 1, x9, x54, x511000, x511001, x511002, x511003, x511004, x529000, x529001, x529002, x529003, x529004 => if x54 = true then (some (x511000, x511001, x511002, x511003, x511004, ([] : List (S35)), false)) else (spec_GetEntry.l0 k x9 0 x511000 x511001 x511002 x511003 x511004 x529000 x529001 x529002 x529003 x529004 ([] : List (S35)))
def spec_GetEntry.l0 : Nat → List ByteArray → Int → ByteArray → Int → Int → Int → ByteArray → ByteArray → Int → Int → Int → ByteArray → List (S35) → Option (ByteArray × Int × Int × Int × ByteArray × (List (S35)) × Bool)
 | 0, _, _, _, _, _, _, _, _, _, _, _, _, _ => none
 | k + 1, x9, x15, x511000, x511001, x511002, x511003, x511004, x530000, x530001, x530002, x530003, x530004, x530005 => if x15 < (x9.length : Int) then (if 0 ≤ x15 then ((spec_ParseName.f k (rdOf ByteArray.empty x9 x15)).bind fun bt531 => (if bt531.2.2.2.2.2 = true then (if x530005.length < 2513169434916 then (spec_GetEntry.l0 k x9 (wrap64 (x15 + 1)) x511000 x511001 x511002 x511003 x511004 x530000 x530001 x530002 x530003 x530004 (x530005 ++ [(⟨bt531.1, (⟨bt531.2.1, bt531.2.2.1, bt531.2.2.2.1, bt531.2.2.2.2.1⟩ : S25)⟩ : S35)])) else (none)) else (some (x511000, x511001, x511002, x511003, x511004, ([] : List (S35)), false)))) else (none)) else ((spec_EntryOk.f k x530000 x530001 x530002 x530003 x530004 x530005).bind fun t541 => (if t541 = true then (some (x530000, x530001, x530002, x530003, x530004, x530005, true)) else (some (x511000, x511001, x511002, x511003, x511004, ([] : List (S35)), false))))
end
def spec_GetEntry.f (k : Nat) (a0 : ByteArray) : Option (ByteArray × Int × Int × Int × ByteArray × (List (S35)) × Bool) := if a0.size ≤ 9223372036854775807 then ((some (bytesOf a0 : List Int)).bind fun y511 => ((spec_GetText.f k y511 0).bind fun bt514 => ((spec_GetTexts.f k y511 bt514.2.1).bind fun bt517 => ((spec_ParseName.f k bt514.1).bind fun bt522 => (if bt514.2.2 = true then (if bt517.2.2 = true then (if bt522.2.2.2.2.2 = true then (spec_GetEntry.j0 k bt517.1 (bt517.2.1 != (y511.length : Int)) (⟨#[]⟩ : ByteArray) 0 0 0 (⟨#[]⟩ : ByteArray) bt522.1 bt522.2.1 bt522.2.2.1 bt522.2.2.2.1 bt522.2.2.2.2.1) else (spec_GetEntry.j0 k bt517.1 true (⟨#[]⟩ : ByteArray) 0 0 0 (⟨#[]⟩ : ByteArray) bt522.1 bt522.2.1 bt522.2.2.1 bt522.2.2.2.1 bt522.2.2.2.2.1)) else (spec_GetEntry.j0 k bt517.1 true (⟨#[]⟩ : ByteArray) 0 0 0 (⟨#[]⟩ : ByteArray) bt522.1 bt522.2.1 bt522.2.2.1 bt522.2.2.2.1 bt522.2.2.2.2.1)) else (spec_GetEntry.j0 k bt517.1 true (⟨#[]⟩ : ByteArray) 0 0 0 (⟨#[]⟩ : ByteArray) bt522.1 bt522.2.1 bt522.2.2.1 bt522.2.2.2.1 bt522.2.2.2.2.1)))))) else (none)
set_option maxHeartbeats 8000000 in
set_option maxRecDepth 100000 in
theorem spec_GetEntry.calls (k : Nat) (a0 : ByteArray) (r1 : ByteArray) (r2 : Int) (r3 : Int) (r4 : Int) (r5 : ByteArray) (r6 : List (S35)) (r7 : Bool) (w : World) (h : spec_GetEntry.f k a0 = some (r1, r2, r3, r4, r5, r6, r7)) :
  Calls Tryz.prog 18 #[.string a0] w fun e w' => ∃ v5_ : Value, e = .returned (.tuple #[.agg #[.string r1, .int .i64 r2, .int .i64 r3, .int .i64 r4, .string r5, v5_], .bool r7]) ∧ Kd.R k35 35 w' w.heap.size (fun _ => True) v5_ r6 ∧ Below w.heap.size w w' := by
 have hu28 := Tryz.underlying28
 have hu35 := Tryz.underlying35
 have hu25 := Tryz.underlying25
 have HB := zi (Below.refl w.heap.size w)
 have H := h
 unfold spec_GetEntry.f at H
 clear h
 by_cases c2 : a0.size ≤ 9223372036854775807
 ·rw [if_pos c2] at H
  have c2b0 := eq_true c2
  have c2b1 := decide_eq_true c2
  try have c2b2 : (9223372036854775807 < a0.size) = False := eq_false (Nat.not_lt.2 c2)
  clear c2
  obtain ⟨y511, hy511⟩ : ∃ y_ : List Int, y_ = (bytesOf a0) := ⟨_, rfl⟩
  replace H : ((spec_GetText.f k y511 0).bind fun bt514 => ((spec_GetTexts.f k y511 bt514.2.1).bind fun bt517 => ((spec_ParseName.f k bt514.1).bind fun bt522 => (if bt514.2.2 = true then (if bt517.2.2 = true then (if bt522.2.2.2.2.2 = true then (spec_GetEntry.j0 k bt517.1 (bt517.2.1 != (y511.length : Int)) (⟨#[]⟩ : ByteArray) 0 0 0 (⟨#[]⟩ : ByteArray) bt522.1 bt522.2.1 bt522.2.2.1 bt522.2.2.2.1 bt522.2.2.2.2.1) else (spec_GetEntry.j0 k bt517.1 true (⟨#[]⟩ : ByteArray) 0 0 0 (⟨#[]⟩ : ByteArray) bt522.1 bt522.2.1 bt522.2.2.1 bt522.2.2.2.1 bt522.2.2.2.2.1)) else (spec_GetEntry.j0 k bt517.1 true (⟨#[]⟩ : ByteArray) 0 0 0 (⟨#[]⟩ : ByteArray) bt522.1 bt522.2.1 bt522.2.2.1 bt522.2.2.2.1 bt522.2.2.2.2.1)) else (spec_GetEntry.j0 k bt517.1 true (⟨#[]⟩ : ByteArray) 0 0 0 (⟨#[]⟩ : ByteArray) bt522.1 bt522.2.1 bt522.2.2.1 bt522.2.2.2.1 bt522.2.2.2.2.1))))) = some (r1, r2, r3, r4, r5, r6, r7) := by first | (rw [hy511]; with_reducible exact H) | (have H2_ := (Option.bind_some _ _).symm.trans H; rw [hy511]; with_reducible exact H2_) | (have H2_ := (Option.bind_some _ _).symm.trans H; with_reducible exact H2_) | with_reducible exact H | (rw [hy511]; exact H) | exact H
  have Ny511 := zi hy511
  clear hy511
  replace H := Option.bind_eq_some_iff.mp H
  obtain ⟨⟨t514, t515, t516⟩, A30, H⟩ := H
  try dsimp only at H
  have A3 := zi A30
  clear A30
  replace H := Option.bind_eq_some_iff.mp H
  obtain ⟨⟨t517, t518, t519⟩, A40, H⟩ := H
  try dsimp only at H
  have A4 := zi A40
  clear A40
  replace H := Option.bind_eq_some_iff.mp H
  obtain ⟨⟨t522, t523, t524, t525, t526, t527⟩, A50, H⟩ := H
  try dsimp only at H
  have A5 := zi A50
  clear A50
  have HC6 := zi H
  clear H
  go_enter Tryz.func18, Tryz.ntmps18
  go_upto_region 6 with (first | ((with_reducible refine gate_dst (N := 2) rfl ?_); (try (refine gate_guard zr ?_; dsimp only)); refine box_event zr (N := 2) zr (cs := #[.string (⟨#[]⟩ : ByteArray), .int .i64 0, .int .i64 0, .int .i64 0, .string (⟨#[]⟩ : ByteArray), .slice none 0 0]) (t := 28) zs ?_; intro gb509 hg w7 hbox hb; have n0_ := zi (below_step zt hb); have n1_ := zi hbox; have n2_ := zi ((z5s : w.heap.size ≤ gb509)); have n3_ := zi ((z5s : w.heap.size ≤ gb509)); clear HB; have HB := n0_; have BK509 := n1_; have GW509 := n2_; have GE509 := n3_; clear n0_ n1_ n2_ n3_; clear hb hbox hg) | ((with_reducible refine gate_dst (N := 4) rfl ?_); (try (refine gate_guard zr ?_; dsimp only)); refine box_event zr (N := 4) zr (cs := #[.string (⟨#[]⟩ : ByteArray), .int .i64 0, .int .i64 0, .int .i64 0, .string (⟨#[]⟩ : ByteArray), .slice none 0 0]) (t := 28) zs ?_; intro gb510 hg w8 hbox hb; have n0_ := zi (blk_below (g := gb509) (o := .cells #[.string (⟨#[]⟩ : ByteArray), .int .i64 0, .int .i64 0, .int .i64 0, .string (⟨#[]⟩ : ByteArray), .slice none 0 0] 28 (0, 0)) z4n hb); have n1_ := zi (below_step z4o hb); have n2_ := zi hbox; have n3_ := zi ((by rw [hg]; exact (below_size z4o) : w.heap.size ≤ gb510)); have n4_ := zi ((by rw [hg]; exact (below_size z4o) : w.heap.size ≤ gb510)); have n5_ := zi ((z6r : gb509 ≠ gb510)); have n6_ := zi ((z6s : gb510 ≠ gb509)); clear BK509; clear HB; have BK509 := n0_; have HB := n1_; have BK510 := n2_; have GW510 := n3_; have GE510 := n4_; have NB509_510 := n5_; have NB510_509 := n6_; clear n0_ n1_ n2_ n3_ n4_ n5_ n6_; clear hb hbox hg; have hnb9 := NB510_509.out; have hnc9 := NB509_510.out; obtain ⟨hcz10_0, hcz10_1, hcz10_2, hcz10_3, hcz10_4, hcz10_5, hfz10_0, hfz10_1, hfz10_2, hfz10_3, hfz10_4, hfz10_5⟩ := zg BK510.out) | ((with_reducible refine gate_dst (N := 20) rfl ?_); (try (refine gate_guard zr ?_; dsimp only)); refine Y.conv_event ?hg (N := 20) ?hd 9 22 5 (.tmp 19) ?ho a0 ?hx Tryz.underlying9 Tryz.underlying22 Tryz.underlying5 y511 Ny511.out (of_decide_eq_true z1e) ?_; (case hd => exact zr); (case hg => exact zr); (case ho => exact zr); (case hx => exact zr); intro Av511 cv511 w11 hC hcap hb; have n0_ := zi (blk_below (g := gb509) (o := .cells #[.string (⟨#[]⟩ : ByteArray), .int .i64 0, .int .i64 0, .int .i64 0, .string (⟨#[]⟩ : ByteArray), .slice none 0 0] 28 (0, 0)) (by (repeat refine zh ?_); refine blk_far ?_ NB509_510.out _; (repeat refine zh ?_); refine blk_far ?_ NB509_510.out _; (repeat refine zh ?_); refine blk_far ?_ NB509_510.out _; (repeat refine zh ?_); refine blk_far ?_ NB509_510.out _; (repeat refine zh ?_); refine blk_far ?_ NB509_510.out _; (repeat refine zh ?_); refine blk_far ?_ NB509_510.out _; (repeat refine zh ?_); exact BK509.out) hb); have n1_ := zi (blk_below (g := gb510) (o := .cells #[.string (⟨#[]⟩ : ByteArray), .int .i64 0, .int .i64 0, .int .i64 0, .string (⟨#[]⟩ : ByteArray), .slice none 0 0] 28 (0, 0)) (by (repeat refine zh ?_); refine blk_put (cs := #[.string (⟨#[]⟩ : ByteArray), .int .i64 0, .int .i64 0, .int .i64 0, .string (⟨#[]⟩ : ByteArray), .slice none 0 0]) ?_ 5 _ rfl; (repeat refine zh ?_); refine blk_put (cs := #[.string (⟨#[]⟩ : ByteArray), .int .i64 0, .int .i64 0, .int .i64 0, .string (⟨#[]⟩ : ByteArray), .slice none 0 0]) ?_ 4 _ rfl; (repeat refine zh ?_); refine blk_put (cs := #[.string (⟨#[]⟩ : ByteArray), .int .i64 0, .int .i64 0, .int .i64 0, .string (⟨#[]⟩ : ByteArray), .slice none 0 0]) ?_ 3 _ rfl; (repeat refine zh ?_); refine blk_put (cs := #[.string (⟨#[]⟩ : ByteArray), .int .i64 0, .int .i64 0, .int .i64 0, .string (⟨#[]⟩ : ByteArray), .slice none 0 0]) ?_ 2 _ rfl; (repeat refine zh ?_); refine blk_put (cs := #[.string (⟨#[]⟩ : ByteArray), .int .i64 0, .int .i64 0, .int .i64 0, .string (⟨#[]⟩ : ByteArray), .slice none 0 0]) ?_ 1 _ rfl; (repeat refine zh ?_); refine blk_put (cs := #[.string (⟨#[]⟩ : ByteArray), .int .i64 0, .int .i64 0, .int .i64 0, .string (⟨#[]⟩ : ByteArray), .slice none 0 0]) ?_ 0 _ rfl; (repeat refine zh ?_); exact BK510.out) hb); have n2_ := zi (below_step z4p hb); have n3_ := zi hC; have n4_ := zi hcap; clear BK509; clear BK510; clear HB; have BK509 := n0_; have BK510 := n1_; have HB := n2_; have HRv511 := n3_; have HCv511 := n4_; clear n0_ n1_ n2_ n3_ n4_; clear hb hC hcap) | ((with_reducible refine gate_callee (f := 43) rfl ?_); refine goesL_ (some 23) rfl rfl Tryz.func43 z1a rfl #[.slice Av511 y511.length cv511, .int .i64 0] rfl z1b ?_; (with_reducible refine (spec_GetText.calls k _ _ y511 0 t514 t515 t516 _ ?side1 ?side2 A3.out).mono ?_); (case side1 => repeat (first | exact z4q | (with_reducible refine Kd.C_alloc ?_ _) | (with_reducible refine Kd.C_drewN ?_ _) | (with_reducible refine Kd.C_drew ?_))); (case side2 => exact HCv511.out); rintro e w' ⟨rfl, ⟨nd, rfl⟩⟩; refine ⟨_, rfl, ?_⟩; (try (rw [drewN_self w11]; generalize hq_ : World.drewN w11 _ = w11; have n0_ : Aside0 (w11.heap[gb509]? = some (.cells #[.string (⟨#[]⟩ : ByteArray), .int .i64 0, .int .i64 0, .int .i64 0, .string (⟨#[]⟩ : ByteArray), .slice none 0 0] 28 (0, 0))) := ⟨by rw [← hq_]; exact z4n⟩; have n1_ : Aside0 (w11.heap[gb510]? = some (.cells #[.string (⟨#[]⟩ : ByteArray), .int .i64 0, .int .i64 0, .int .i64 0, .string (⟨#[]⟩ : ByteArray), .slice none 0 0] 28 (0, 0))) := ⟨by rw [← hq_]; exact z4r⟩; have n2_ : Aside0 (Below w.heap.size w w11) := ⟨by rw [← hq_]; exact z4p⟩; have n3_ : Aside0 (Kd.C (Kd.int .u8) w11 Av511 y511.length y511) := ⟨by rw [← hq_]; exact z4q⟩; clear BK509 BK510 HB HRv511 hq_; have BK509 := n0_; have BK510 := n1_; have HB := n2_; have HRv511 := n3_; clear n0_ n1_ n2_ n3_))) | ((with_reducible refine gate_callee (f := 44) rfl ?_); refine goesL_ (some 30) rfl rfl Tryz.func44 z1a rfl #[.slice Av511 y511.length cv511, .int .i64 t515] rfl z1b ?_; (with_reducible refine (spec_GetTexts.calls k _ _ y511 t515 t517 t518 t519 _ ?side1 ?side2 A4.out).mono ?_); (case side1 => repeat (first | exact z4q | (with_reducible refine Kd.C_alloc ?_ _) | (with_reducible refine Kd.C_drewN ?_ _) | (with_reducible refine Kd.C_drew ?_))); (case side2 => exact HCv511.out); rintro e w12 ⟨v520, rfl, ho0, hb⟩; refine ⟨_, rfl, ?_⟩; have n0_ := zi (Kd.R_lower ho0 (below_size z4p)); have n1_ := zi (blk_below (g := gb509) (o := .cells #[.string (⟨#[]⟩ : ByteArray), .int .i64 0, .int .i64 0, .int .i64 0, .string (⟨#[]⟩ : ByteArray), .slice none 0 0] 28 (0, 0)) z4n hb); have n2_ := zi (blk_below (g := gb510) (o := .cells #[.string (⟨#[]⟩ : ByteArray), .int .i64 0, .int .i64 0, .int .i64 0, .string (⟨#[]⟩ : ByteArray), .slice none 0 0] 28 (0, 0)) z4r hb); have n3_ := zi (Kd.C_below z4q hb); have n4_ := zi (below_step z4p hb); clear BK509; clear BK510; clear HRv511; clear HB; have HO521 := n0_; have BK509 := n1_; have BK510 := n2_; have HRv511 := n3_; have HB := n4_; clear n0_ n1_ n2_ n3_ n4_; (try clear hb); (try clear hb2); (try clear hk); (try clear hi); (try clear ho0)) | ((with_reducible refine gate_callee (f := 24) rfl ?_); refine goesL_ (some 36) rfl rfl Tryz.func24 z1a rfl #[.string t514] rfl z1b ?_; (with_reducible refine (spec_ParseName.calls k t514 t522 t523 t524 t525 t526 t527 _ A5.out).mono ?_); rintro e w13 ⟨rfl, hb⟩; refine ⟨_, rfl, ?_⟩; have n0_ := zi (Kd.R_below (by (with_reducible repeat (first | apply Kd.R_alloc | apply Kd.R_drewN | apply Kd.R_drew)); exact HO521.out) hb); have n1_ := zi (blk_below (g := gb509) (o := .cells #[.string (⟨#[]⟩ : ByteArray), .int .i64 0, .int .i64 0, .int .i64 0, .string (⟨#[]⟩ : ByteArray), .slice none 0 0] 28 (0, 0)) z4n hb); have n2_ := zi (blk_below (g := gb510) (o := .cells #[.string (⟨#[]⟩ : ByteArray), .int .i64 0, .int .i64 0, .int .i64 0, .string (⟨#[]⟩ : ByteArray), .slice none 0 0] 28 (0, 0)) z4r hb); have n3_ := zi (Kd.C_below z4q hb); have n4_ := zi (below_step z4p hb); clear HO521; clear BK509; clear BK510; clear HRv511; clear HB; have HO521 := n0_; have BK509 := n1_; have BK510 := n2_; have HRv511 := n3_; have HB := n4_; clear n0_ n1_ n2_ n3_ n4_; (try clear hb); (try clear hb2); (try clear hk); (try clear hi)) | ((with_reducible refine gate_dst (N := 12) rfl ?_); (try (refine gate_guard zr ?_; dsimp only)); refine box_event zr (N := 12) zr (cs := #[.string (⟨#[]⟩ : ByteArray), .int .i64 0, .int .i64 0, .int .i64 0, .string (⟨#[]⟩ : ByteArray)]) (t := 35) zs ?_; intro gb528 hg w14 hbox hb; have n0_ := zi (Kd.R_below (by (with_reducible repeat (first | apply Kd.R_alloc | apply Kd.R_drewN | apply Kd.R_drew)); exact HO521.out) hb); have n1_ := zi (blk_below (g := gb509) (o := .cells #[.string (⟨#[]⟩ : ByteArray), .int .i64 0, .int .i64 0, .int .i64 0, .string (⟨#[]⟩ : ByteArray), .slice none 0 0] 28 (0, 0)) z4n hb); have n2_ := zi (blk_below (g := gb510) (o := .cells #[.string (⟨#[]⟩ : ByteArray), .int .i64 0, .int .i64 0, .int .i64 0, .string (⟨#[]⟩ : ByteArray), .slice none 0 0] 28 (0, 0)) z4r hb); have n3_ := zi (Kd.C_below z4q hb); have n4_ := zi (below_step z4p hb); have n5_ := zi hbox; have n6_ := zi ((by rw [hg]; exact (below_size z4p) : w.heap.size ≤ gb528)); have n7_ := zi ((by rw [hg]; exact (below_size z4p) : w.heap.size ≤ gb528)); have n8_ := zi ((z6r : gb509 ≠ gb528)); have n9_ := zi ((z6s : gb528 ≠ gb509)); have n10_ := zi ((z6t : gb510 ≠ gb528)); have n11_ := zi ((z6u : gb528 ≠ gb510)); have n12_ := zi ((by rw [hg]; exact blk_lt (g := gb509) (o := .cells #[.string (⟨#[]⟩ : ByteArray), .int .i64 0, .int .i64 0, .int .i64 0, .string (⟨#[]⟩ : ByteArray), .slice none 0 0] 28 (0, 0)) z4n : gb509 < gb528)); have n13_ := zi ((by rw [hg]; exact blk_lt (g := gb510) (o := .cells #[.string (⟨#[]⟩ : ByteArray), .int .i64 0, .int .i64 0, .int .i64 0, .string (⟨#[]⟩ : ByteArray), .slice none 0 0] 28 (0, 0)) z4r : gb510 < gb528)); have n14_ := zi ((by rw [hg]; exact Y.conv_far z4q : ∀ ad, Av511 = some ad → 0 < y511.length → ad.block < gb528)); clear HO521; clear BK509; clear BK510; clear HRv511; clear HB; have HO521 := n0_; have BK509 := n1_; have BK510 := n2_; have HRv511 := n3_; have HB := n4_; have BK528 := n5_; have GW528 := n6_; have GE528 := n7_; have NB509_528 := n8_; have NB528_509 := n9_; have NB510_528 := n10_; have NB528_510 := n11_; have NL509_528 := n12_; have NL510_528 := n13_; have HFv511 := n14_; clear n0_ n1_ n2_ n3_ n4_ n5_ n6_ n7_ n8_ n9_ n10_ n11_ n12_ n13_ n14_; clear hb hbox hg; have hnb15 := NB528_509.out; have hnc15 := NB509_528.out; have hnb16 := NB528_510.out; have hnc16 := NB510_528.out; obtain ⟨hcz17_0, hcz17_1, hcz17_2, hcz17_3, hcz17_4, hfz17_0, hfz17_1, hfz17_2, hfz17_3, hfz17_4⟩ := zf BK528.out))
  (try simp only [Act.put, z7g, z7h, z7i])
  go_cut [54] (fun v54 wc => ∃ (kq : Nat) (x54_5 : Bool), v54 = .bool x54_5 ∧ Aside0 (spec_GetEntry.j0 kq t517 x54_5 (⟨#[]⟩ : ByteArray) 0 0 0 (⟨#[]⟩ : ByteArray) t522 t523 t524 t525 t526 = some (r1, r2, r3, r4, r5, r6, r7)) ∧ Aside0 (kq ≤ k) ∧ Aside0 (Kd.R Kd.string 9 wc w.heap.size (fun _ => True) v520 t517) ∧ Aside0 (wc.heap[gb509]? = some (.cells #[.string (⟨#[]⟩ : ByteArray), .int .i64 0, .int .i64 0, .int .i64 0, .string (⟨#[]⟩ : ByteArray), (.slice none 0 0)] 28 (0, 0))) ∧ Aside0 (wc.heap[gb510]? = some (.cells #[.string (⟨#[]⟩ : ByteArray), .int .i64 0, .int .i64 0, .int .i64 0, .string (⟨#[]⟩ : ByteArray), (.slice none 0 0)] 28 (0, 0))) ∧ Aside0 (wc.heap[gb528]? = some (.cells #[.string t522, .int .i64 t523, .int .i64 t524, .int .i64 t525, .string t526] 35 (0, 0))) ∧ Aside0 (Below w.heap.size w wc))
  case first =>
   have H := HC6.out
   clear HC6
   by_cases c18 : t516 = true
   ·subst c18
    rw [if_pos rfl] at H
    by_cases c19 : t519 = true
    ·subst c19
     rw [if_pos rfl] at H
     by_cases c20 : t527 = true
     ·subst c20
      rw [if_pos rfl] at H
      have H' := zi H
      clear H
      go_wp2
      go_meet
      case rel => exact ⟨_, ((t518 != (y511.length : Int))), z1d, H', ⟨z1q⟩, ⟨z6v⟩, ⟨z4s⟩, ⟨z4t⟩, ⟨z4u⟩, ⟨z4v⟩⟩
     ·replace c20 := Bool.eq_false_iff.mpr c20
      subst c20
      rw [if_neg zj] at H
      have H' := zi H
      clear H
      go_wp2
      go_meet
      case rel => exact ⟨_, (true), z1d, H', ⟨z1q⟩, ⟨z6v⟩, ⟨z4s⟩, ⟨z4t⟩, ⟨z4u⟩, ⟨z4v⟩⟩
    ·replace c19 := Bool.eq_false_iff.mpr c19
     subst c19
     rw [if_neg zj] at H
     have H' := zi H
     clear H
     go_wp2
     go_meet
     case rel => exact ⟨_, (true), z1d, H', ⟨z1q⟩, ⟨z6v⟩, ⟨z4s⟩, ⟨z4t⟩, ⟨z4u⟩, ⟨z4v⟩⟩
   ·replace c18 := Bool.eq_false_iff.mpr c18
    subst c18
    rw [if_neg zj] at H
    have H' := zi H
    clear H
    go_wp2
    go_meet
    case rel => exact ⟨_, (true), z1d, H', ⟨z1q⟩, ⟨z6v⟩, ⟨z4s⟩, ⟨z4t⟩, ⟨z4u⟩, ⟨z4v⟩⟩
  case rest =>
   clear HC6
   try clear c1
   try clear c2
   try clear c2b0
   try clear c2b1
   try clear c2b2
   try clear p2
   try clear c4
   try clear c9
   try clear c15
   try clear c16
   try clear c18
   try clear c19
   try clear c20
   try clear hcz10_0
   try clear hcz10_1
   try clear hcz10_2
   try clear hcz10_3
   try clear hcz10_4
   try clear hcz10_5
   try clear hcz17_0
   try clear hcz17_1
   try clear hcz17_2
   try clear hcz17_3
   try clear hcz17_4
   try clear hfz10_0
   try clear hfz10_1
   try clear hfz10_2
   try clear hfz10_3
   try clear hfz10_4
   try clear hfz10_5
   try clear hfz17_0
   try clear hfz17_1
   try clear hfz17_2
   try clear hfz17_3
   try clear hfz17_4
   obtain ⟨kq, x54_5, rfl, HA, HJ5, HO_9, BK509, BK510, BK528, HB⟩ := hcut
   cases kq with
   | zero => exact absurd HA.out (by simp [spec_GetEntry.j0])
   | succ kj5 =>
    have H := HA.out
    clear HA
    simp only [spec_GetEntry.j0] at H
    by_cases c21 : x54_5 = true
    ·subst c21
     rw [if_pos rfl] at H
     simp only [Option.some.injEq, Prod.mk.injEq] at H
     obtain ⟨rfl, rfl, rfl, rfl, rfl, rfl, rfl⟩ := H
     have hnb22 := NB510_509.out
     have hnc22 := NB509_510.out
     have hnb23 := NB510_528.out
     have hnc23 := NB528_510.out
     obtain ⟨hcz24_0, hcz24_1, hcz24_2, hcz24_3, hcz24_4, hcz24_5, hfz24_0, hfz24_1, hfz24_2, hfz24_3, hfz24_4, hfz24_5⟩ := zg BK510.out
     have hnb25 := NB509_528.out
     have hnc25 := NB528_509.out
     obtain ⟨hcz26_0, hcz26_1, hcz26_2, hcz26_3, hcz26_4, hcz26_5, hfz26_0, hfz26_1, hfz26_2, hfz26_3, hfz26_4, hfz26_5⟩ := zg BK509.out
     go_wp2
     refine bodyPost_ret (results_ct rfl _ _ gb509 28 #[.string (⟨#[]⟩ : ByteArray), .int .i64 0, .int .i64 0, .int .i64 0, .string (⟨#[]⟩ : ByteArray), .slice none 0 0] (0, 0) _ rfl (by (repeat refine zh ?_); refine blk_put (cs := #[.string (⟨#[]⟩ : ByteArray), .int .i64 0, .int .i64 0, .int .i64 0, .string (⟨#[]⟩ : ByteArray), .slice none 0 0]) ?_ 5 _ rfl; (repeat refine zh ?_); refine blk_put (cs := #[.string (⟨#[]⟩ : ByteArray), .int .i64 0, .int .i64 0, .int .i64 0, .string (⟨#[]⟩ : ByteArray), .slice none 0 0]) ?_ 4 _ rfl; (repeat refine zh ?_); refine blk_put (cs := #[.string (⟨#[]⟩ : ByteArray), .int .i64 0, .int .i64 0, .int .i64 0, .string (⟨#[]⟩ : ByteArray), .slice none 0 0]) ?_ 3 _ rfl; (repeat refine zh ?_); refine blk_put (cs := #[.string (⟨#[]⟩ : ByteArray), .int .i64 0, .int .i64 0, .int .i64 0, .string (⟨#[]⟩ : ByteArray), .slice none 0 0]) ?_ 2 _ rfl; (repeat refine zh ?_); refine blk_put (cs := #[.string (⟨#[]⟩ : ByteArray), .int .i64 0, .int .i64 0, .int .i64 0, .string (⟨#[]⟩ : ByteArray), .slice none 0 0]) ?_ 1 _ rfl; (repeat refine zh ?_); refine blk_put (cs := #[.string (⟨#[]⟩ : ByteArray), .int .i64 0, .int .i64 0, .int .i64 0, .string (⟨#[]⟩ : ByteArray), .slice none 0 0]) ?_ 0 _ rfl; (repeat refine zh ?_); exact BK509.out) Tryz.underlying28 rfl z1a) rfl ?_
     exact ⟨_, zw, z2n, z4v⟩
    ·replace c21 := Bool.eq_false_iff.mpr c21
     subst c21
     rw [if_neg zj] at H
     have H' := zi H
     clear H
     have hnb27 := NB528_509.out
     have hnc27 := NB509_528.out
     have hnb28 := NB528_510.out
     have hnc28 := NB510_528.out
     obtain ⟨hcz29_0, hcz29_1, hcz29_2, hcz29_3, hcz29_4, hfz29_0, hfz29_1, hfz29_2, hfz29_3, hfz29_4⟩ := zf BK528.out
     go_wp2_with (first | ((with_reducible refine gate_dst (N := 14) rfl ?_); (try (refine gate_guard zr ?_; dsimp only)); refine box_event zr (N := 14) zr (cs := #[.string (⟨#[]⟩ : ByteArray), .int .i64 0, .int .i64 0, .int .i64 0, .string (⟨#[]⟩ : ByteArray), .slice none 0 0]) (t := 28) zs ?_; intro gb529 hg w30 hbox hb; have n0_ := zi (Kd.R_below z4w hb); have n1_ := zi (blk_below (g := gb509) (o := .cells #[.string (⟨#[]⟩ : ByteArray), .int .i64 0, .int .i64 0, .int .i64 0, .string (⟨#[]⟩ : ByteArray), .slice none 0 0] 28 (0, 0)) z4n hb); have n2_ := zi (blk_below (g := gb510) (o := .cells #[.string (⟨#[]⟩ : ByteArray), .int .i64 0, .int .i64 0, .int .i64 0, .string (⟨#[]⟩ : ByteArray), .slice none 0 0] 28 (0, 0)) z4r hb); have n3_ := zi (blk_below (g := gb528) (o := .cells #[.string t522, .int .i64 t523, .int .i64 t524, .int .i64 t525, .string t526] 35 (0, 0)) z4x hb); have n4_ := zi (below_step z4v hb); have n5_ := zi hbox; have n6_ := zi ((by rw [hg]; exact (below_size z4v) : w.heap.size ≤ gb529)); have n7_ := zi ((by rw [hg]; exact (below_size z4v) : w.heap.size ≤ gb529)); have n8_ := zi ((z6r : gb509 ≠ gb529)); have n9_ := zi ((z6s : gb529 ≠ gb509)); have n10_ := zi ((z6t : gb510 ≠ gb529)); have n11_ := zi ((z6u : gb529 ≠ gb510)); have n12_ := zi ((z6w : gb528 ≠ gb529)); have n13_ := zi ((z6x : gb529 ≠ gb528)); clear HO_9; clear BK509; clear BK510; clear BK528; clear HB; have HO_9 := n0_; have BK509 := n1_; have BK510 := n2_; have BK528 := n3_; have HB := n4_; have BK529 := n5_; have GW529 := n6_; have GE529 := n7_; have NB509_529 := n8_; have NB529_509 := n9_; have NB510_529 := n10_; have NB529_510 := n11_; have NB528_529 := n12_; have NB529_528 := n13_; clear n0_ n1_ n2_ n3_ n4_ n5_ n6_ n7_ n8_ n9_ n10_ n11_ n12_ n13_; clear hb hbox hg; have hnb31 := NB529_509.out; have hnc31 := NB509_529.out; have hnb32 := NB529_510.out; have hnc32 := NB510_529.out; have hnb33 := NB529_528.out; have hnc33 := NB528_529.out; obtain ⟨hcz34_0, hcz34_1, hcz34_2, hcz34_3, hcz34_4, hcz34_5, hfz34_0, hfz34_1, hfz34_2, hfz34_3, hfz34_4, hfz34_5⟩ := zg BK529.out))
     go_loopg [15] kj5 (fun kq v15 w' => ∃ (x15_2 : Int) (x510000_2 : ByteArray) (x510001_2 : Int) (x510002_2 : Int) (x510003_2 : Int) (x510004_2 : ByteArray) (x530005_2 : List (S35)) (u530005 : Value), v15 = .int .i64 x15_2 ∧ Aside0 (spec_GetEntry.l0 kq t517 x15_2 (⟨#[]⟩ : ByteArray) 0 0 0 (⟨#[]⟩ : ByteArray) t522 t523 t524 t525 t526 x530005_2 = some (r1, r2, r3, r4, r5, r6, r7)) ∧ Aside0 (kq ≤ kj5) ∧ Aside0 (Kd.R Kd.string 9 w' w.heap.size (fun _ => True) v520 t517) ∧ Aside0 (Kd.R k35 35 w' w.heap.size (fun k_ => k_ ≠ gb528) u530005 x530005_2) ∧ Aside0 (w'.heap[gb509]? = some (.cells #[.string x510000_2, .int .i64 x510001_2, .int .i64 x510002_2, .int .i64 x510003_2, .string x510004_2, (.slice none 0 0)] 28 (0, 0))) ∧ Aside0 (w'.heap[gb510]? = some (.cells #[.string (⟨#[]⟩ : ByteArray), .int .i64 0, .int .i64 0, .int .i64 0, .string (⟨#[]⟩ : ByteArray), (.slice none 0 0)] 28 (0, 0))) ∧ Aside0 (w'.heap[gb528]? = some (.cells #[.string t522, .int .i64 t523, .int .i64 t524, .int .i64 t525, .string t526] 35 (0, 0))) ∧ Aside0 (w'.heap[gb529]? = some (.cells #[.string t522, .int .i64 t523, .int .i64 t524, .int .i64 t525, .string t526, u530005] 28 (0, 0))) ∧ Aside0 (Below w.heap.size w w'))
     case atStart => exact ⟨(0), ((⟨#[]⟩ : ByteArray)), (0), (0), (0), ((⟨#[]⟩ : ByteArray)), (([] : List (S35))), (.slice none 0 0), z1d, H', ⟨Nat.le_refl _⟩, ⟨by (with_reducible repeat (first | apply Kd.R_alloc | apply Kd.R_drewN | apply Kd.R_drew)); exact Kd.R_mono (Kd.R_far (p := ⟨gb529, 5, none⟩) (Kd.R_far (p := ⟨gb529, 4, none⟩) (Kd.R_far (p := ⟨gb529, 3, none⟩) (Kd.R_far (p := ⟨gb529, 2, none⟩) (Kd.R_far (p := ⟨gb529, 1, none⟩) (Kd.R_far (p := ⟨gb529, 0, none⟩) (Kd.R_types HO_9.out BK529.out z1g) (fun _ hk => hk.2) (.string t522)) (fun _ hk => hk.2) (.int .i64 t523)) (fun _ hk => hk.2) (.int .i64 t524)) (fun _ hk => hk.2) (.int .i64 t525)) (fun _ hk => hk.2) (.string t526)) (fun _ hk => hk.2) (.slice none 0 0)) (fun _ hk => trivial)⟩, ⟨z2n⟩, ⟨by (repeat refine zh ?_); refine blk_far ?_ NB509_529.out _; (repeat refine zh ?_); refine blk_far ?_ NB509_529.out _; (repeat refine zh ?_); refine blk_far ?_ NB509_529.out _; (repeat refine zh ?_); refine blk_far ?_ NB509_529.out _; (repeat refine zh ?_); refine blk_far ?_ NB509_529.out _; (repeat refine zh ?_); refine blk_far ?_ NB509_529.out _; (repeat refine zh ?_); exact BK509.out⟩, ⟨by (repeat refine zh ?_); refine blk_far ?_ NB510_529.out _; (repeat refine zh ?_); refine blk_far ?_ NB510_529.out _; (repeat refine zh ?_); refine blk_far ?_ NB510_529.out _; (repeat refine zh ?_); refine blk_far ?_ NB510_529.out _; (repeat refine zh ?_); refine blk_far ?_ NB510_529.out _; (repeat refine zh ?_); refine blk_far ?_ NB510_529.out _; (repeat refine zh ?_); exact BK510.out⟩, ⟨by (repeat refine zh ?_); refine blk_far ?_ NB528_529.out _; (repeat refine zh ?_); refine blk_far ?_ NB528_529.out _; (repeat refine zh ?_); refine blk_far ?_ NB528_529.out _; (repeat refine zh ?_); refine blk_far ?_ NB528_529.out _; (repeat refine zh ?_); refine blk_far ?_ NB528_529.out _; (repeat refine zh ?_); refine blk_far ?_ NB528_529.out _; (repeat refine zh ?_); exact BK528.out⟩, ⟨by (repeat refine zh ?_); refine blk_put (cs := #[.string t522, .int .i64 t523, .int .i64 t524, .int .i64 t525, .string t526, .slice none 0 0]) ?_ 5 _ rfl; (repeat refine zh ?_); refine blk_put (cs := #[.string t522, .int .i64 t523, .int .i64 t524, .int .i64 t525, .string (⟨#[]⟩ : ByteArray), .slice none 0 0]) ?_ 4 _ rfl; (repeat refine zh ?_); refine blk_put (cs := #[.string t522, .int .i64 t523, .int .i64 t524, .int .i64 0, .string (⟨#[]⟩ : ByteArray), .slice none 0 0]) ?_ 3 _ rfl; (repeat refine zh ?_); refine blk_put (cs := #[.string t522, .int .i64 t523, .int .i64 0, .int .i64 0, .string (⟨#[]⟩ : ByteArray), .slice none 0 0]) ?_ 2 _ rfl; (repeat refine zh ?_); refine blk_put (cs := #[.string t522, .int .i64 0, .int .i64 0, .int .i64 0, .string (⟨#[]⟩ : ByteArray), .slice none 0 0]) ?_ 1 _ rfl; (repeat refine zh ?_); refine blk_put (cs := #[.string (⟨#[]⟩ : ByteArray), .int .i64 0, .int .i64 0, .int .i64 0, .string (⟨#[]⟩ : ByteArray), .slice none 0 0]) ?_ 0 _ rfl; (repeat refine zh ?_); exact BK529.out⟩, ⟨z4y⟩⟩
     case round =>
      clear H'
      try clear c1
      try clear c2
      try clear c2b0
      try clear c2b1
      try clear c2b2
      try clear p2
      try clear c3
      try clear c4
      try clear c9
      try clear c15
      try clear c16
      try clear c18
      try clear c19
      try clear c20
      try clear c21
      try clear c22
      try clear c23
      try clear c24
      try clear c25
      try clear c27
      try clear c28
      try clear c31
      try clear c32
      try clear c33
      try clear hcz10_0
      try clear hcz10_1
      try clear hcz10_2
      try clear hcz10_3
      try clear hcz10_4
      try clear hcz10_5
      try clear hcz17_0
      try clear hcz17_1
      try clear hcz17_2
      try clear hcz17_3
      try clear hcz17_4
      try clear hcz24_0
      try clear hcz24_1
      try clear hcz24_2
      try clear hcz24_3
      try clear hcz24_4
      try clear hcz24_5
      try clear hcz26_0
      try clear hcz26_1
      try clear hcz26_2
      try clear hcz26_3
      try clear hcz26_4
      try clear hcz26_5
      try clear hcz29_0
      try clear hcz29_1
      try clear hcz29_2
      try clear hcz29_3
      try clear hcz29_4
      try clear hcz34_0
      try clear hcz34_1
      try clear hcz34_2
      try clear hcz34_3
      try clear hcz34_4
      try clear hcz34_5
      try clear hfz10_0
      try clear hfz10_1
      try clear hfz10_2
      try clear hfz10_3
      try clear hfz10_4
      try clear hfz10_5
      try clear hfz17_0
      try clear hfz17_1
      try clear hfz17_2
      try clear hfz17_3
      try clear hfz17_4
      try clear hfz24_0
      try clear hfz24_1
      try clear hfz24_2
      try clear hfz24_3
      try clear hfz24_4
      try clear hfz24_5
      try clear hfz26_0
      try clear hfz26_1
      try clear hfz26_2
      try clear hfz26_3
      try clear hfz26_4
      try clear hfz26_5
      try clear hfz29_0
      try clear hfz29_1
      try clear hfz29_2
      try clear hfz29_3
      try clear hfz29_4
      try clear hfz34_0
      try clear hfz34_1
      try clear hfz34_2
      try clear hfz34_3
      try clear hfz34_4
      try clear hfz34_5
      try clear p2
      obtain ⟨x15_2, x510000_2, x510001_2, x510002_2, x510003_2, x510004_2, x530005_2, u530005, rfl, HA, HK2, HO_9, HO_530005, BK509, BK510, BK528, BK529, HB⟩ := hrel
      cases gk with
      | zero => exact absurd HA.out (by simp [spec_GetEntry.l0])
      | succ k2 =>
       have H := HA.out
       clear HA
       simp only [spec_GetEntry.l0] at H
       by_cases c35 : x15_2 < (t517.length : Int)
       ·rw [if_pos c35] at H
        have c35b0 := decide_eq_true c35
        clear c35
        by_cases c36 : 0 ≤ x15_2
        ·rw [if_pos c36] at H
         have c36b0 := decide_eq_true c36
         clear c36
         replace H := Option.bind_eq_some_iff.mp H
         obtain ⟨⟨t531, t532, t533, t534, t535, t536⟩, A370, H⟩ := H
         try dsimp only at H
         have A37 := zi A370
         clear A370
         by_cases c38 : t536 = true
         ·subst c38
          rw [if_pos rfl] at H
          by_cases c39 : x530005_2.length < 2513169434916
          ·rw [if_pos c39] at H
           have LMc39 := zi c39
           clear c39
           obtain ⟨y538, hy538⟩ : ∃ y_ : List (S35), y_ = (x530005_2 ++ [(⟨t531, (⟨t532, t533, t534, t535⟩ : S25)⟩ : S35)]) := ⟨_, rfl⟩
           replace H : (spec_GetEntry.l0 k2 t517 (wrap64 (x15_2 + 1)) (⟨#[]⟩ : ByteArray) 0 0 0 (⟨#[]⟩ : ByteArray) t522 t523 t524 t525 t526 y538) = some (r1, r2, r3, r4, r5, r6, r7) := by first | (rw [hy538]; with_reducible exact H) | (have H2_ := (Option.bind_some _ _).symm.trans H; rw [hy538]; with_reducible exact H2_) | (have H2_ := (Option.bind_some _ _).symm.trans H; with_reducible exact H2_) | with_reducible exact H | (rw [hy538]; exact H) | exact H
           have Ny538 := zi hy538
           clear hy538
           have H' := zi H
           clear H
           obtain ⟨Ao40, co40, eo40⟩ := Kd.R_slice HO_9.out
           subst eo40
           have p530 : 0 ≤ (x15_2 : Int) := of_decide_eq_true z1e
           have q530 : x15_2 < (t517.length : Int) := of_decide_eq_true z1e
           obtain ⟨ad530, e530, hx530_0⟩ := Kd.at_string (Kd.R_reads' HO_9.out).2.2 x15_2 p530 q530
           cases e530
           replace p530 := eq_true p530
           replace q530 := eq_true q530
           go_wp2_with (first | ((with_reducible refine gate_callee (f := 24) rfl ?_); refine goesL_ (some 72) rfl rfl Tryz.func24 z1a rfl #[.string (rdOf ByteArray.empty t517 x15_2)] rfl z1b ?_; (with_reducible refine (spec_ParseName.calls k2 (rdOf ByteArray.empty t517 x15_2) t531 t532 t533 t534 t535 true _ A37.out).mono ?_); rintro e w41 ⟨rfl, hb⟩; refine ⟨_, rfl, ?_⟩; have n0_ := zi (Kd.R_below z4w hb); have n1_ := zi (Kd.R_below z4z hb); have n2_ := zi (blk_below (g := gb509) (o := .cells #[.string x510000_2, .int .i64 x510001_2, .int .i64 x510002_2, .int .i64 x510003_2, .string x510004_2, .slice none 0 0] 28 (0, 0)) z4n hb); have n3_ := zi (blk_below (g := gb510) (o := .cells #[.string (⟨#[]⟩ : ByteArray), .int .i64 0, .int .i64 0, .int .i64 0, .string (⟨#[]⟩ : ByteArray), .slice none 0 0] 28 (0, 0)) z4r hb); have n4_ := zi (blk_below (g := gb528) (o := .cells #[.string t522, .int .i64 t523, .int .i64 t524, .int .i64 t525, .string t526] 35 (0, 0)) z4x hb); have n5_ := zi (blk_below (g := gb529) (o := .cells #[.string t522, .int .i64 t523, .int .i64 t524, .int .i64 t525, .string t526, u530005] 28 (0, 0)) z5a hb); have n6_ := zi (below_step z4y hb); clear HO_9; clear HO_530005; clear BK509; clear BK510; clear BK528; clear BK529; clear HB; have HO_9 := n0_; have HO_530005 := n1_; have BK509 := n2_; have BK510 := n3_; have BK528 := n4_; have BK529 := n5_; have HB := n6_; clear n0_ n1_ n2_ n3_ n4_ n5_ n6_; (try clear hb); (try clear hb2); (try clear hk); (try clear hi)) | ((with_reducible refine gate_dst (N := 16) rfl ?_); (try (refine gate_guard zr ?_; dsimp only)); refine box_event zr (N := 16) zr (cs := #[.string (⟨#[]⟩ : ByteArray), .int .i64 0, .int .i64 0, .int .i64 0, .string (⟨#[]⟩ : ByteArray)]) (t := 35) zs ?_; intro gb537 hg w42 hbox hb; have n0_ := zi (Kd.R_below z4w hb); have n1_ := zi (Kd.R_below (Kd.R_elderB z4z gb537 (Nat.le_of_eq hg.symm)) hb); have n2_ := zi (blk_below (g := gb509) (o := .cells #[.string x510000_2, .int .i64 x510001_2, .int .i64 x510002_2, .int .i64 x510003_2, .string x510004_2, .slice none 0 0] 28 (0, 0)) z4n hb); have n3_ := zi (blk_below (g := gb510) (o := .cells #[.string (⟨#[]⟩ : ByteArray), .int .i64 0, .int .i64 0, .int .i64 0, .string (⟨#[]⟩ : ByteArray), .slice none 0 0] 28 (0, 0)) z4r hb); have n4_ := zi (blk_below (g := gb528) (o := .cells #[.string t522, .int .i64 t523, .int .i64 t524, .int .i64 t525, .string t526] 35 (0, 0)) z4x hb); have n5_ := zi (blk_below (g := gb529) (o := .cells #[.string t522, .int .i64 t523, .int .i64 t524, .int .i64 t525, .string t526, u530005] 28 (0, 0)) z5a hb); have n6_ := zi (below_step z4y hb); have n7_ := zi hbox; have n8_ := zi ((z6y : w.heap.size ≤ gb537)); have n9_ := zi ((z6y : w.heap.size ≤ gb537)); have n10_ := zi ((by rw [hg]; exact Nat.ne_of_lt (blk_lt (g := gb509) (o := .cells #[.string x510000_2, .int .i64 x510001_2, .int .i64 x510002_2, .int .i64 x510003_2, .string x510004_2, .slice none 0 0] 28 (0, 0)) z4n) : gb509 ≠ gb537)); have n11_ := zi ((by rw [hg]; exact Nat.ne_of_gt (blk_lt (g := gb509) (o := .cells #[.string x510000_2, .int .i64 x510001_2, .int .i64 x510002_2, .int .i64 x510003_2, .string x510004_2, .slice none 0 0] 28 (0, 0)) z4n) : gb537 ≠ gb509)); have n12_ := zi ((z6t : gb510 ≠ gb537)); have n13_ := zi ((z6u : gb537 ≠ gb510)); have n14_ := zi ((z6w : gb528 ≠ gb537)); have n15_ := zi ((z6x : gb537 ≠ gb528)); have n16_ := zi ((by rw [hg]; exact Nat.ne_of_lt (blk_lt (g := gb529) (o := .cells #[.string t522, .int .i64 t523, .int .i64 t524, .int .i64 t525, .string t526, u530005] 28 (0, 0)) z5a) : gb529 ≠ gb537)); have n17_ := zi ((by rw [hg]; exact Nat.ne_of_gt (blk_lt (g := gb529) (o := .cells #[.string t522, .int .i64 t523, .int .i64 t524, .int .i64 t525, .string t526, u530005] 28 (0, 0)) z5a) : gb537 ≠ gb529)); clear HO_9; clear HO_530005; clear BK509; clear BK510; clear BK528; clear BK529; clear HB; have HO_9 := n0_; have HO_530005 := n1_; have BK509 := n2_; have BK510 := n3_; have BK528 := n4_; have BK529 := n5_; have HB := n6_; have BK537 := n7_; have GW537 := n8_; have GE537 := n9_; have NB509_537 := n10_; have NB537_509 := n11_; have NB510_537 := n12_; have NB537_510 := n13_; have NB528_537 := n14_; have NB537_528 := n15_; have NB529_537 := n16_; have NB537_529 := n17_; clear n0_ n1_ n2_ n3_ n4_ n5_ n6_ n7_ n8_ n9_ n10_ n11_ n12_ n13_ n14_ n15_ n16_ n17_; clear hb hbox hg; have hnb43 := NB537_509.out; have hnc43 := NB509_537.out; have hnb44 := NB537_510.out; have hnc44 := NB510_537.out; have hnb45 := NB537_528.out; have hnc45 := NB528_537.out; have hnb46 := NB537_529.out; have hnc46 := NB529_537.out; obtain ⟨hcz47_0, hcz47_1, hcz47_2, hcz47_3, hcz47_4, hfz47_0, hfz47_1, hfz47_2, hfz47_3, hfz47_4⟩ := zf BK537.out; have hnb48 := NB529_509.out; have hnc48 := NB509_529.out; have hnb49 := NB529_510.out; have hnc49 := NB510_529.out; have hnb50 := NB529_528.out; have hnc50 := NB528_529.out; obtain ⟨hcz51_0, hcz51_1, hcz51_2, hcz51_3, hcz51_4, hcz51_5, hfz51_0, hfz51_1, hfz51_2, hfz51_3, hfz51_4, hfz51_5⟩ := zg BK529.out) | ((with_reducible refine gate_builtin (b := .append) (xs := #[.tmp 79, .tmp 81]) rfl ?_); (try (refine gate_guard zr ?_; dsimp only)); at_builtin; refine Kd.R_append k35 (w0 := w) w.heap.size rfl (.tmp 79) (.tmp 81) 26 35 (.agg #[(.string ⟨#[]⟩), (.int .i64 0), (.int .i64 0), (.int .i64 0), (.string ⟨#[]⟩)]) 56 rfl Tryz.underlying26 info35 rfl z1g zq u530005 x530005_2 (⟨t531, (⟨t532, t533, t534, t535⟩ : S25)⟩ : S35) [.string t531, .int .i64 t532, .int .i64 t533, .int .i64 t534, .string t535] (fun k_ => k_ ≠ gb528 ∧ k_ ≠ gb537) (fun _ => False) rfl zs ?aP (fun _ hk => hk.elim) ?aF ?aO ?aB ?aS ?aL ?_; (case aP => exact k35_mkM _ _ _ (⟨t531, (⟨t532, t533, t534, t535⟩ : S25)⟩ : S35)); (case aB => exact z5b); (case aF => exact (fun k_ hk => ⟨Kd.freshB (g := gb528) (o := .cells #[.string t522, .int .i64 t523, .int .i64 t524, .int .i64 t525, .string t526] 35 (0, 0)) (by (repeat refine zh ?_); refine blk_far ?_ NB528_537.out _; (repeat refine zh ?_); refine blk_far ?_ NB528_537.out _; (repeat refine zh ?_); refine blk_far ?_ NB528_537.out _; (repeat refine zh ?_); refine blk_far ?_ NB528_537.out _; (repeat refine zh ?_); refine blk_far ?_ NB528_537.out _; (repeat refine zh ?_); exact BK528.out) k_ hk, Kd.freshB (g := gb537) (o := .cells #[.string t531, .int .i64 t532, .int .i64 t533, .int .i64 t534, .string t535] 35 (0, 0)) (by (repeat refine zh ?_); refine blk_put (cs := #[.string t531, .int .i64 t532, .int .i64 t533, .int .i64 t534, .string (⟨#[]⟩ : ByteArray)]) ?_ 4 _ rfl; (repeat refine zh ?_); refine blk_put (cs := #[.string t531, .int .i64 t532, .int .i64 t533, .int .i64 0, .string (⟨#[]⟩ : ByteArray)]) ?_ 3 _ rfl; (repeat refine zh ?_); refine blk_put (cs := #[.string t531, .int .i64 t532, .int .i64 0, .int .i64 0, .string (⟨#[]⟩ : ByteArray)]) ?_ 2 _ rfl; (repeat refine zh ?_); refine blk_put (cs := #[.string t531, .int .i64 0, .int .i64 0, .int .i64 0, .string (⟨#[]⟩ : ByteArray)]) ?_ 1 _ rfl; (repeat refine zh ?_); refine blk_put (cs := #[.string (⟨#[]⟩ : ByteArray), .int .i64 0, .int .i64 0, .int .i64 0, .string (⟨#[]⟩ : ByteArray)]) ?_ 0 _ rfl; (repeat refine zh ?_); exact BK537.out) k_ hk⟩)); (case aO => exact (by (with_reducible repeat (first | apply Kd.R_alloc | apply Kd.R_drewN | apply Kd.R_drew)); exact Kd.R_mono (Kd.R_far (p := ⟨gb537, 4, none⟩) (Kd.R_far (p := ⟨gb537, 3, none⟩) (Kd.R_far (p := ⟨gb537, 2, none⟩) (Kd.R_far (p := ⟨gb537, 1, none⟩) (Kd.R_far (p := ⟨gb537, 0, none⟩) (Kd.R_mono HO_530005.out (fun k_ hk => (⟨hk, hk.2⟩ : _ ∧ k_ ≠ gb537))) (fun _ hk => hk.2) (.string t531)) (fun _ hk => hk.2) (.int .i64 t532)) (fun _ hk => hk.2) (.int .i64 t533)) (fun _ hk => hk.2) (.int .i64 t534)) (fun _ hk => hk.2) (.string t535)) (fun _ hk => ⟨hk.1.1, hk.1.2⟩))); (case aS => exact (below_size z5b)); (case aL => have := LMc39.out; omega); intro v539 w52 ho hb hg hat; rw [← Ny538.out] at ho; have n0_ := zi (Kd.R_over' (by (with_reducible repeat (first | apply Kd.R_alloc | apply Kd.R_drewN | apply Kd.R_drew)); exact (Kd.R_mono (Kd.R_far (p := ⟨gb537, 4, none⟩) (Kd.R_far (p := ⟨gb537, 3, none⟩) (Kd.R_far (p := ⟨gb537, 2, none⟩) (Kd.R_far (p := ⟨gb537, 1, none⟩) (Kd.R_far (p := ⟨gb537, 0, none⟩) (Kd.R_types HO_9.out BK537.out z1g) (fun _ hk => hk.2) (.string t531)) (fun _ hk => hk.2) (.int .i64 t532)) (fun _ hk => hk.2) (.int .i64 t533)) (fun _ hk => hk.2) (.int .i64 t534)) (fun _ hk => hk.2) (.string t535)) (fun _ h_ => h_.1))) (Kd.R_typed (by (with_reducible repeat (first | apply Kd.R_alloc | apply Kd.R_drewN | apply Kd.R_drew)); exact (Kd.R_mono (Kd.R_far (p := ⟨gb537, 4, none⟩) (Kd.R_far (p := ⟨gb537, 3, none⟩) (Kd.R_far (p := ⟨gb537, 2, none⟩) (Kd.R_far (p := ⟨gb537, 1, none⟩) (Kd.R_far (p := ⟨gb537, 0, none⟩) (Kd.R_mono HO_530005.out (fun k_ hk => (⟨hk, hk.2⟩ : _ ∧ k_ ≠ gb537))) (fun _ hk => hk.2) (.string t531)) (fun _ hk => hk.2) (.int .i64 t532)) (fun _ hk => hk.2) (.int .i64 t533)) (fun _ hk => hk.2) (.int .i64 t534)) (fun _ hk => hk.2) (.string t535)) (fun _ h_ => h_.1)))) z1g hg); have n1_ := zi (blk_grown (g := gb509) (o := .cells #[.string x510000_2, .int .i64 x510001_2, .int .i64 x510002_2, .int .i64 x510003_2, .string x510004_2, .slice none 0 0] 28 (0, 0)) (by (repeat refine zh ?_); refine blk_far ?_ NB509_537.out _; (repeat refine zh ?_); refine blk_far ?_ NB509_537.out _; (repeat refine zh ?_); refine blk_far ?_ NB509_537.out _; (repeat refine zh ?_); refine blk_far ?_ NB509_537.out _; (repeat refine zh ?_); refine blk_far ?_ NB509_537.out _; (repeat refine zh ?_); exact BK509.out) hg (Kd.R_ne HO_530005.out BK509.out z1g)); have n2_ := zi (blk_grown (g := gb510) (o := .cells #[.string (⟨#[]⟩ : ByteArray), .int .i64 0, .int .i64 0, .int .i64 0, .string (⟨#[]⟩ : ByteArray), .slice none 0 0] 28 (0, 0)) (by (repeat refine zh ?_); refine blk_far ?_ NB510_537.out _; (repeat refine zh ?_); refine blk_far ?_ NB510_537.out _; (repeat refine zh ?_); refine blk_far ?_ NB510_537.out _; (repeat refine zh ?_); refine blk_far ?_ NB510_537.out _; (repeat refine zh ?_); refine blk_far ?_ NB510_537.out _; (repeat refine zh ?_); exact BK510.out) hg (Kd.R_ne HO_530005.out BK510.out z1g)); have n3_ := zi (blk_grown (g := gb528) (o := .cells #[.string t522, .int .i64 t523, .int .i64 t524, .int .i64 t525, .string t526] 35 (0, 0)) (by (repeat refine zh ?_); refine blk_far ?_ NB528_537.out _; (repeat refine zh ?_); refine blk_far ?_ NB528_537.out _; (repeat refine zh ?_); refine blk_far ?_ NB528_537.out _; (repeat refine zh ?_); refine blk_far ?_ NB528_537.out _; (repeat refine zh ?_); refine blk_far ?_ NB528_537.out _; (repeat refine zh ?_); exact BK528.out) hg (Kd.R_away HO_530005.out (fun _ hk => hk.1))); have n4_ := zi (blk_grown (g := gb529) (o := .cells #[.string t522, .int .i64 t523, .int .i64 t524, .int .i64 t525, .string t526, u530005] 28 (0, 0)) (by (repeat refine zh ?_); refine blk_far ?_ NB529_537.out _; (repeat refine zh ?_); refine blk_far ?_ NB529_537.out _; (repeat refine zh ?_); refine blk_far ?_ NB529_537.out _; (repeat refine zh ?_); refine blk_far ?_ NB529_537.out _; (repeat refine zh ?_); refine blk_far ?_ NB529_537.out _; (repeat refine zh ?_); exact BK529.out) hg (Kd.R_ne HO_530005.out BK529.out z1g)); have n5_ := zi (blk_grown (g := gb537) (o := .cells #[.string t531, .int .i64 t532, .int .i64 t533, .int .i64 t534, .string t535] 35 (0, 0)) (by (repeat refine zh ?_); refine blk_put (cs := #[.string t531, .int .i64 t532, .int .i64 t533, .int .i64 t534, .string (⟨#[]⟩ : ByteArray)]) ?_ 4 _ rfl; (repeat refine zh ?_); refine blk_put (cs := #[.string t531, .int .i64 t532, .int .i64 t533, .int .i64 0, .string (⟨#[]⟩ : ByteArray)]) ?_ 3 _ rfl; (repeat refine zh ?_); refine blk_put (cs := #[.string t531, .int .i64 t532, .int .i64 0, .int .i64 0, .string (⟨#[]⟩ : ByteArray)]) ?_ 2 _ rfl; (repeat refine zh ?_); refine blk_put (cs := #[.string t531, .int .i64 0, .int .i64 0, .int .i64 0, .string (⟨#[]⟩ : ByteArray)]) ?_ 1 _ rfl; (repeat refine zh ?_); refine blk_put (cs := #[.string (⟨#[]⟩ : ByteArray), .int .i64 0, .int .i64 0, .int .i64 0, .string (⟨#[]⟩ : ByteArray)]) ?_ 0 _ rfl; (repeat refine zh ?_); exact BK537.out) hg (Kd.R_away HO_530005.out (fun _ hk => hk.2))); have n6_ := zi hb; have n7_ := zi ho; clear HO_9; clear BK509; clear BK510; clear BK528; clear BK529; clear BK537; clear HB; clear HO_530005; have HO_9 := n0_; have BK509 := n1_; have BK510 := n2_; have BK528 := n3_; have BK529 := n4_; have BK537 := n5_; have HB := n6_; have HO540 := n7_; clear n0_ n1_ n2_ n3_ n4_ n5_ n6_ n7_; clear ho hb hg hat; obtain ⟨Ao53, co53, eo53⟩ := Kd.R_slice HO540.out; subst eo53; obtain ⟨hcz54_0, hcz54_1, hcz54_2, hcz54_3, hcz54_4, hcz54_5, hfz54_0, hfz54_1, hfz54_2, hfz54_3, hfz54_4, hfz54_5⟩ := zg BK529.out))
           go_roundg k2
           case measure => have := HJ5.out; have := HK2.out; omega
           case rel => exact ⟨(wrap64 (x15_2 + 1)), (x510000_2), (x510001_2), (x510002_2), (x510003_2), (x510004_2), (y538), (.slice Ao53 y538.length co53), z1d, H', ⟨by have := HJ5.out; have := HK2.out; omega⟩, ⟨by (with_reducible repeat (first | apply Kd.R_alloc | apply Kd.R_drewN | apply Kd.R_drew)); exact Kd.R_mono (Kd.R_far (p := ⟨gb529, 5, none⟩) (Kd.R_types HO_9.out BK529.out z1g) (fun _ hk => hk.2) (.slice Ao53 y538.length co53)) (fun _ hk => trivial)⟩, ⟨by (with_reducible repeat (first | apply Kd.R_alloc | apply Kd.R_drewN | apply Kd.R_drew)); exact Kd.R_mono (Kd.R_far (p := ⟨gb529, 5, none⟩) (Kd.R_types HO540.out BK529.out z1g) (fun _ hk => hk.2) (.slice Ao53 y538.length co53)) (fun _ hk => hk.1.1)⟩, ⟨by (repeat refine zh ?_); refine blk_far ?_ NB509_529.out _; (repeat refine zh ?_); exact BK509.out⟩, ⟨by (repeat refine zh ?_); refine blk_far ?_ NB510_529.out _; (repeat refine zh ?_); exact BK510.out⟩, ⟨by (repeat refine zh ?_); refine blk_far ?_ NB528_529.out _; (repeat refine zh ?_); exact BK528.out⟩, ⟨by (repeat refine zh ?_); refine blk_put (cs := #[.string t522, .int .i64 t523, .int .i64 t524, .int .i64 t525, .string t526, u530005]) ?_ 5 _ rfl; (repeat refine zh ?_); exact BK529.out⟩, ⟨z5b⟩⟩
          ·rw [if_neg c39] at H
           exact absurd H (by simp)
         ·replace c38 := Bool.eq_false_iff.mpr c38
          subst c38
          rw [if_neg zj] at H
          simp only [Option.some.injEq, Prod.mk.injEq] at H
          obtain ⟨rfl, rfl, rfl, rfl, rfl, rfl, rfl⟩ := H
          obtain ⟨Ao55, co55, eo55⟩ := Kd.R_slice HO_9.out
          subst eo55
          have p530 : 0 ≤ (x15_2 : Int) := of_decide_eq_true z1e
          have q530 : x15_2 < (t517.length : Int) := of_decide_eq_true z1e
          obtain ⟨ad530, e530, hx530_0⟩ := Kd.at_string (Kd.R_reads' HO_9.out).2.2 x15_2 p530 q530
          cases e530
          replace p530 := eq_true p530
          replace q530 := eq_true q530
          go_wp2_with (first | ((with_reducible refine gate_callee (f := 24) rfl ?_); refine goesL_ (some 72) rfl rfl Tryz.func24 z1a rfl #[.string (rdOf ByteArray.empty t517 x15_2)] rfl z1b ?_; (with_reducible refine (spec_ParseName.calls k2 (rdOf ByteArray.empty t517 x15_2) t531 t532 t533 t534 t535 false _ A37.out).mono ?_); rintro e w56 ⟨rfl, hb⟩; refine ⟨_, rfl, ?_⟩; have n0_ := zi (Kd.R_below z4w hb); have n1_ := zi (Kd.R_below z4z hb); have n2_ := zi (blk_below (g := gb509) (o := .cells #[.string x510000_2, .int .i64 x510001_2, .int .i64 x510002_2, .int .i64 x510003_2, .string x510004_2, .slice none 0 0] 28 (0, 0)) z4n hb); have n3_ := zi (blk_below (g := gb510) (o := .cells #[.string (⟨#[]⟩ : ByteArray), .int .i64 0, .int .i64 0, .int .i64 0, .string (⟨#[]⟩ : ByteArray), .slice none 0 0] 28 (0, 0)) z4r hb); have n4_ := zi (blk_below (g := gb528) (o := .cells #[.string t522, .int .i64 t523, .int .i64 t524, .int .i64 t525, .string t526] 35 (0, 0)) z4x hb); have n5_ := zi (blk_below (g := gb529) (o := .cells #[.string t522, .int .i64 t523, .int .i64 t524, .int .i64 t525, .string t526, u530005] 28 (0, 0)) z5a hb); have n6_ := zi (below_step z4y hb); clear HO_9; clear HO_530005; clear BK509; clear BK510; clear BK528; clear BK529; clear HB; have HO_9 := n0_; have HO_530005 := n1_; have BK509 := n2_; have BK510 := n3_; have BK528 := n4_; have BK529 := n5_; have HB := n6_; clear n0_ n1_ n2_ n3_ n4_ n5_ n6_; (try clear hb); (try clear hb2); (try clear hk); (try clear hi)) | ((with_reducible refine gate_dst (N := 16) rfl ?_); (try (refine gate_guard zr ?_; dsimp only)); refine box_event zr (N := 16) zr (cs := #[.string (⟨#[]⟩ : ByteArray), .int .i64 0, .int .i64 0, .int .i64 0, .string (⟨#[]⟩ : ByteArray)]) (t := 35) zs ?_; intro gb537 hg w57 hbox hb; have n0_ := zi (Kd.R_below z4w hb); have n1_ := zi (Kd.R_below (Kd.R_elderB z4z gb537 (Nat.le_of_eq hg.symm)) hb); have n2_ := zi (blk_below (g := gb509) (o := .cells #[.string x510000_2, .int .i64 x510001_2, .int .i64 x510002_2, .int .i64 x510003_2, .string x510004_2, .slice none 0 0] 28 (0, 0)) z4n hb); have n3_ := zi (blk_below (g := gb510) (o := .cells #[.string (⟨#[]⟩ : ByteArray), .int .i64 0, .int .i64 0, .int .i64 0, .string (⟨#[]⟩ : ByteArray), .slice none 0 0] 28 (0, 0)) z4r hb); have n4_ := zi (blk_below (g := gb528) (o := .cells #[.string t522, .int .i64 t523, .int .i64 t524, .int .i64 t525, .string t526] 35 (0, 0)) z4x hb); have n5_ := zi (blk_below (g := gb529) (o := .cells #[.string t522, .int .i64 t523, .int .i64 t524, .int .i64 t525, .string t526, u530005] 28 (0, 0)) z5a hb); have n6_ := zi (below_step z4y hb); have n7_ := zi hbox; have n8_ := zi ((z6y : w.heap.size ≤ gb537)); have n9_ := zi ((z6y : w.heap.size ≤ gb537)); have n10_ := zi ((by rw [hg]; exact Nat.ne_of_lt (blk_lt (g := gb509) (o := .cells #[.string x510000_2, .int .i64 x510001_2, .int .i64 x510002_2, .int .i64 x510003_2, .string x510004_2, .slice none 0 0] 28 (0, 0)) z4n) : gb509 ≠ gb537)); have n11_ := zi ((by rw [hg]; exact Nat.ne_of_gt (blk_lt (g := gb509) (o := .cells #[.string x510000_2, .int .i64 x510001_2, .int .i64 x510002_2, .int .i64 x510003_2, .string x510004_2, .slice none 0 0] 28 (0, 0)) z4n) : gb537 ≠ gb509)); have n12_ := zi ((z6t : gb510 ≠ gb537)); have n13_ := zi ((z6u : gb537 ≠ gb510)); have n14_ := zi ((z6w : gb528 ≠ gb537)); have n15_ := zi ((z6x : gb537 ≠ gb528)); have n16_ := zi ((by rw [hg]; exact Nat.ne_of_lt (blk_lt (g := gb529) (o := .cells #[.string t522, .int .i64 t523, .int .i64 t524, .int .i64 t525, .string t526, u530005] 28 (0, 0)) z5a) : gb529 ≠ gb537)); have n17_ := zi ((by rw [hg]; exact Nat.ne_of_gt (blk_lt (g := gb529) (o := .cells #[.string t522, .int .i64 t523, .int .i64 t524, .int .i64 t525, .string t526, u530005] 28 (0, 0)) z5a) : gb537 ≠ gb529)); clear HO_9; clear HO_530005; clear BK509; clear BK510; clear BK528; clear BK529; clear HB; have HO_9 := n0_; have HO_530005 := n1_; have BK509 := n2_; have BK510 := n3_; have BK528 := n4_; have BK529 := n5_; have HB := n6_; have BK537 := n7_; have GW537 := n8_; have GE537 := n9_; have NB509_537 := n10_; have NB537_509 := n11_; have NB510_537 := n12_; have NB537_510 := n13_; have NB528_537 := n14_; have NB537_528 := n15_; have NB529_537 := n16_; have NB537_529 := n17_; clear n0_ n1_ n2_ n3_ n4_ n5_ n6_ n7_ n8_ n9_ n10_ n11_ n12_ n13_ n14_ n15_ n16_ n17_; clear hb hbox hg; have hnb58 := NB537_509.out; have hnc58 := NB509_537.out; have hnb59 := NB537_510.out; have hnc59 := NB510_537.out; have hnb60 := NB537_528.out; have hnc60 := NB528_537.out; have hnb61 := NB537_529.out; have hnc61 := NB529_537.out; obtain ⟨hcz62_0, hcz62_1, hcz62_2, hcz62_3, hcz62_4, hfz62_0, hfz62_1, hfz62_2, hfz62_3, hfz62_4⟩ := zf BK537.out; have hnb63 := NB510_509.out; have hnc63 := NB509_510.out; have hnb64 := NB510_528.out; have hnc64 := NB528_510.out; have hnb65 := NB510_529.out; have hnc65 := NB529_510.out; obtain ⟨hcz66_0, hcz66_1, hcz66_2, hcz66_3, hcz66_4, hcz66_5, hfz66_0, hfz66_1, hfz66_2, hfz66_3, hfz66_4, hfz66_5⟩ := zg BK510.out; have hnb67 := NB509_528.out; have hnc67 := NB528_509.out; have hnb68 := NB509_529.out; have hnc68 := NB529_509.out; obtain ⟨hcz69_0, hcz69_1, hcz69_2, hcz69_3, hcz69_4, hcz69_5, hfz69_0, hfz69_1, hfz69_2, hfz69_3, hfz69_4, hfz69_5⟩ := zg BK509.out))
          refine bodyPost_ret (results_ct rfl _ _ gb509 28 #[.string (⟨#[]⟩ : ByteArray), .int .i64 0, .int .i64 0, .int .i64 0, .string (⟨#[]⟩ : ByteArray), .slice none 0 0] (0, 0) _ rfl (by (repeat refine zh ?_); refine blk_put (cs := #[.string (⟨#[]⟩ : ByteArray), .int .i64 0, .int .i64 0, .int .i64 0, .string (⟨#[]⟩ : ByteArray), .slice none 0 0]) ?_ 5 _ rfl; (repeat refine zh ?_); refine blk_put (cs := #[.string (⟨#[]⟩ : ByteArray), .int .i64 0, .int .i64 0, .int .i64 0, .string x510004_2, .slice none 0 0]) ?_ 4 _ rfl; (repeat refine zh ?_); refine blk_put (cs := #[.string (⟨#[]⟩ : ByteArray), .int .i64 0, .int .i64 0, .int .i64 x510003_2, .string x510004_2, .slice none 0 0]) ?_ 3 _ rfl; (repeat refine zh ?_); refine blk_put (cs := #[.string (⟨#[]⟩ : ByteArray), .int .i64 0, .int .i64 x510002_2, .int .i64 x510003_2, .string x510004_2, .slice none 0 0]) ?_ 2 _ rfl; (repeat refine zh ?_); refine blk_put (cs := #[.string (⟨#[]⟩ : ByteArray), .int .i64 x510001_2, .int .i64 x510002_2, .int .i64 x510003_2, .string x510004_2, .slice none 0 0]) ?_ 1 _ rfl; (repeat refine zh ?_); refine blk_put (cs := #[.string x510000_2, .int .i64 x510001_2, .int .i64 x510002_2, .int .i64 x510003_2, .string x510004_2, .slice none 0 0]) ?_ 0 _ rfl; (repeat refine zh ?_); refine blk_far ?_ NB509_537.out _; (repeat refine zh ?_); refine blk_far ?_ NB509_537.out _; (repeat refine zh ?_); refine blk_far ?_ NB509_537.out _; (repeat refine zh ?_); refine blk_far ?_ NB509_537.out _; (repeat refine zh ?_); refine blk_far ?_ NB509_537.out _; (repeat refine zh ?_); exact BK509.out) Tryz.underlying28 rfl z1a) rfl ?_
          exact ⟨_, zw, z2n, z5b⟩
        ·rw [if_neg c36] at H
         exact absurd H (by simp)
       ·rw [if_neg c35] at H
        have c35b0 := decide_eq_false c35
        clear c35
        replace H := Option.bind_eq_some_iff.mp H
        obtain ⟨t541, A700, H⟩ := H
        try dsimp only at H
        have A70 := zi A700
        clear A700
        by_cases c71 : t541 = true
        ·subst c71
         rw [if_pos rfl] at H
         simp only [Option.some.injEq, Prod.mk.injEq] at H
         obtain ⟨rfl, rfl, rfl, rfl, rfl, rfl, rfl⟩ := H
         obtain ⟨Ao72, co72, eo72⟩ := Kd.R_slice HO_9.out
         subst eo72
         have hnb73 := NB529_509.out
         have hnc73 := NB509_529.out
         have hnb74 := NB529_510.out
         have hnc74 := NB510_529.out
         have hnb75 := NB529_528.out
         have hnc75 := NB528_529.out
         obtain ⟨hcz76_0, hcz76_1, hcz76_2, hcz76_3, hcz76_4, hcz76_5, hfz76_0, hfz76_1, hfz76_2, hfz76_3, hfz76_4, hfz76_5⟩ := zg BK529.out
         obtain ⟨Ao77, co77, eo77⟩ := Kd.R_slice HO_530005.out
         subst eo77
         go_wp2_with (first | ((with_reducible refine gate_callee (f := 10) rfl ?_); refine goesL_ (some 85) rfl rfl Tryz.func10 z1a rfl #[.agg #[.string t522, .int .i64 t523, .int .i64 t524, .int .i64 t525, .string t526, .slice Ao77 x530005_2.length co77]] rfl z1b ?_; (with_reducible refine (spec_EntryOk.calls k2 t522 t523 t524 t525 t526 _ _ x530005_2 true _ ?side1 ?side2 A70.out).mono ?_); (case side1 => repeat (first | exact (Kd.R_reads' HO_530005.out).2.2 | (with_reducible refine Kd.C_alloc ?_ _) | (with_reducible refine Kd.C_drewN ?_ _) | (with_reducible refine Kd.C_drew ?_))); (case side2 => exact (Kd.R_reads' HO_530005.out).2.1); rintro e w78 ⟨rfl, hb⟩; refine ⟨_, rfl, ?_⟩; have n0_ := zi (Kd.R_below z4w hb); have n1_ := zi (Kd.R_below z4z hb); have n2_ := zi (blk_below (g := gb509) (o := .cells #[.string x510000_2, .int .i64 x510001_2, .int .i64 x510002_2, .int .i64 x510003_2, .string x510004_2, .slice none 0 0] 28 (0, 0)) z4n hb); have n3_ := zi (blk_below (g := gb510) (o := .cells #[.string (⟨#[]⟩ : ByteArray), .int .i64 0, .int .i64 0, .int .i64 0, .string (⟨#[]⟩ : ByteArray), .slice none 0 0] 28 (0, 0)) z4r hb); have n4_ := zi (blk_below (g := gb528) (o := .cells #[.string t522, .int .i64 t523, .int .i64 t524, .int .i64 t525, .string t526] 35 (0, 0)) z4x hb); have n5_ := zi (blk_below (g := gb529) (o := .cells #[.string t522, .int .i64 t523, .int .i64 t524, .int .i64 t525, .string t526, .slice Ao77 x530005_2.length co77] 28 (0, 0)) z5a hb); have n6_ := zi (below_step z4y hb); clear HO_9; clear HO_530005; clear BK509; clear BK510; clear BK528; clear BK529; clear HB; have HO_9 := n0_; have HO_530005 := n1_; have BK509 := n2_; have BK510 := n3_; have BK528 := n4_; have BK529 := n5_; have HB := n6_; clear n0_ n1_ n2_ n3_ n4_ n5_ n6_; (try clear hb); (try clear hb2); (try clear hk); (try clear hi); obtain ⟨hcz79_0, hcz79_1, hcz79_2, hcz79_3, hcz79_4, hcz79_5, hfz79_0, hfz79_1, hfz79_2, hfz79_3, hfz79_4, hfz79_5⟩ := zg BK529.out; have hnb80 := NB509_510.out; have hnc80 := NB510_509.out; have hnb81 := NB509_528.out; have hnc81 := NB528_509.out; obtain ⟨hcz82_0, hcz82_1, hcz82_2, hcz82_3, hcz82_4, hcz82_5, hfz82_0, hfz82_1, hfz82_2, hfz82_3, hfz82_4, hfz82_5⟩ := zg BK509.out))
         refine bodyPost_ret (results_ct rfl _ _ gb509 28 #[.string t522, .int .i64 t523, .int .i64 t524, .int .i64 t525, .string t526, .slice Ao77 x530005_2.length co77] (0, 0) _ rfl (by (repeat refine zh ?_); refine blk_put (cs := #[.string t522, .int .i64 t523, .int .i64 t524, .int .i64 t525, .string t526, .slice none 0 0]) ?_ 5 _ rfl; (repeat refine zh ?_); refine blk_put (cs := #[.string t522, .int .i64 t523, .int .i64 t524, .int .i64 t525, .string x510004_2, .slice none 0 0]) ?_ 4 _ rfl; (repeat refine zh ?_); refine blk_put (cs := #[.string t522, .int .i64 t523, .int .i64 t524, .int .i64 x510003_2, .string x510004_2, .slice none 0 0]) ?_ 3 _ rfl; (repeat refine zh ?_); refine blk_put (cs := #[.string t522, .int .i64 t523, .int .i64 x510002_2, .int .i64 x510003_2, .string x510004_2, .slice none 0 0]) ?_ 2 _ rfl; (repeat refine zh ?_); refine blk_put (cs := #[.string t522, .int .i64 x510001_2, .int .i64 x510002_2, .int .i64 x510003_2, .string x510004_2, .slice none 0 0]) ?_ 1 _ rfl; (repeat refine zh ?_); refine blk_put (cs := #[.string x510000_2, .int .i64 x510001_2, .int .i64 x510002_2, .int .i64 x510003_2, .string x510004_2, .slice none 0 0]) ?_ 0 _ rfl; (repeat refine zh ?_); exact BK509.out) Tryz.underlying28 rfl z1a) rfl ?_
         exact ⟨_, zw, by (with_reducible repeat (first | apply Kd.R_alloc | apply Kd.R_drewN | apply Kd.R_drew)); exact Kd.R_mono (Kd.R_far (p := ⟨gb509, 5, none⟩) (Kd.R_far (p := ⟨gb509, 4, none⟩) (Kd.R_far (p := ⟨gb509, 3, none⟩) (Kd.R_far (p := ⟨gb509, 2, none⟩) (Kd.R_far (p := ⟨gb509, 1, none⟩) (Kd.R_far (p := ⟨gb509, 0, none⟩) (Kd.R_types HO_530005.out BK509.out z1g) (fun _ hk => hk.2) (.string t522)) (fun _ hk => hk.2) (.int .i64 t523)) (fun _ hk => hk.2) (.int .i64 t524)) (fun _ hk => hk.2) (.int .i64 t525)) (fun _ hk => hk.2) (.string t526)) (fun _ hk => hk.2) (.slice Ao77 x530005_2.length co77)) (fun _ hk => trivial), z4y⟩
        ·replace c71 := Bool.eq_false_iff.mpr c71
         subst c71
         rw [if_neg zj] at H
         simp only [Option.some.injEq, Prod.mk.injEq] at H
         obtain ⟨rfl, rfl, rfl, rfl, rfl, rfl, rfl⟩ := H
         obtain ⟨Ao83, co83, eo83⟩ := Kd.R_slice HO_9.out
         subst eo83
         have hnb84 := NB529_509.out
         have hnc84 := NB509_529.out
         have hnb85 := NB529_510.out
         have hnc85 := NB510_529.out
         have hnb86 := NB529_528.out
         have hnc86 := NB528_529.out
         obtain ⟨hcz87_0, hcz87_1, hcz87_2, hcz87_3, hcz87_4, hcz87_5, hfz87_0, hfz87_1, hfz87_2, hfz87_3, hfz87_4, hfz87_5⟩ := zg BK529.out
         obtain ⟨Ao88, co88, eo88⟩ := Kd.R_slice HO_530005.out
         subst eo88
         go_wp2_with (first | ((with_reducible refine gate_callee (f := 10) rfl ?_); refine goesL_ (some 85) rfl rfl Tryz.func10 z1a rfl #[.agg #[.string t522, .int .i64 t523, .int .i64 t524, .int .i64 t525, .string t526, .slice Ao88 x530005_2.length co88]] rfl z1b ?_; (with_reducible refine (spec_EntryOk.calls k2 t522 t523 t524 t525 t526 _ _ x530005_2 false _ ?side1 ?side2 A70.out).mono ?_); (case side1 => repeat (first | exact (Kd.R_reads' HO_530005.out).2.2 | (with_reducible refine Kd.C_alloc ?_ _) | (with_reducible refine Kd.C_drewN ?_ _) | (with_reducible refine Kd.C_drew ?_))); (case side2 => exact (Kd.R_reads' HO_530005.out).2.1); rintro e w89 ⟨rfl, hb⟩; refine ⟨_, rfl, ?_⟩; have n0_ := zi (Kd.R_below z4w hb); have n1_ := zi (Kd.R_below z4z hb); have n2_ := zi (blk_below (g := gb509) (o := .cells #[.string x510000_2, .int .i64 x510001_2, .int .i64 x510002_2, .int .i64 x510003_2, .string x510004_2, .slice none 0 0] 28 (0, 0)) z4n hb); have n3_ := zi (blk_below (g := gb510) (o := .cells #[.string (⟨#[]⟩ : ByteArray), .int .i64 0, .int .i64 0, .int .i64 0, .string (⟨#[]⟩ : ByteArray), .slice none 0 0] 28 (0, 0)) z4r hb); have n4_ := zi (blk_below (g := gb528) (o := .cells #[.string t522, .int .i64 t523, .int .i64 t524, .int .i64 t525, .string t526] 35 (0, 0)) z4x hb); have n5_ := zi (blk_below (g := gb529) (o := .cells #[.string t522, .int .i64 t523, .int .i64 t524, .int .i64 t525, .string t526, .slice Ao88 x530005_2.length co88] 28 (0, 0)) z5a hb); have n6_ := zi (below_step z4y hb); clear HO_9; clear HO_530005; clear BK509; clear BK510; clear BK528; clear BK529; clear HB; have HO_9 := n0_; have HO_530005 := n1_; have BK509 := n2_; have BK510 := n3_; have BK528 := n4_; have BK529 := n5_; have HB := n6_; clear n0_ n1_ n2_ n3_ n4_ n5_ n6_; (try clear hb); (try clear hb2); (try clear hk); (try clear hi); have hnb90 := NB510_509.out; have hnc90 := NB509_510.out; have hnb91 := NB510_528.out; have hnc91 := NB528_510.out; obtain ⟨hcz92_0, hcz92_1, hcz92_2, hcz92_3, hcz92_4, hcz92_5, hfz92_0, hfz92_1, hfz92_2, hfz92_3, hfz92_4, hfz92_5⟩ := zg BK510.out; have hnb93 := NB509_528.out; have hnc93 := NB528_509.out; obtain ⟨hcz94_0, hcz94_1, hcz94_2, hcz94_3, hcz94_4, hcz94_5, hfz94_0, hfz94_1, hfz94_2, hfz94_3, hfz94_4, hfz94_5⟩ := zg BK509.out))
         refine bodyPost_ret (results_ct rfl _ _ gb509 28 #[.string (⟨#[]⟩ : ByteArray), .int .i64 0, .int .i64 0, .int .i64 0, .string (⟨#[]⟩ : ByteArray), .slice none 0 0] (0, 0) _ rfl (by (repeat refine zh ?_); refine blk_put (cs := #[.string (⟨#[]⟩ : ByteArray), .int .i64 0, .int .i64 0, .int .i64 0, .string (⟨#[]⟩ : ByteArray), .slice none 0 0]) ?_ 5 _ rfl; (repeat refine zh ?_); refine blk_put (cs := #[.string (⟨#[]⟩ : ByteArray), .int .i64 0, .int .i64 0, .int .i64 0, .string x510004_2, .slice none 0 0]) ?_ 4 _ rfl; (repeat refine zh ?_); refine blk_put (cs := #[.string (⟨#[]⟩ : ByteArray), .int .i64 0, .int .i64 0, .int .i64 x510003_2, .string x510004_2, .slice none 0 0]) ?_ 3 _ rfl; (repeat refine zh ?_); refine blk_put (cs := #[.string (⟨#[]⟩ : ByteArray), .int .i64 0, .int .i64 x510002_2, .int .i64 x510003_2, .string x510004_2, .slice none 0 0]) ?_ 2 _ rfl; (repeat refine zh ?_); refine blk_put (cs := #[.string (⟨#[]⟩ : ByteArray), .int .i64 x510001_2, .int .i64 x510002_2, .int .i64 x510003_2, .string x510004_2, .slice none 0 0]) ?_ 1 _ rfl; (repeat refine zh ?_); refine blk_put (cs := #[.string x510000_2, .int .i64 x510001_2, .int .i64 x510002_2, .int .i64 x510003_2, .string x510004_2, .slice none 0 0]) ?_ 0 _ rfl; (repeat refine zh ?_); exact BK509.out) Tryz.underlying28 rfl z1a) rfl ?_
         exact ⟨_, zw, z2n, z4y⟩
 ·rw [if_neg c2] at H
  exact absurd H (by simp)
def laws_markText.l0 : Nat → Int → ByteArray → Option (ByteArray)
 | 0, _, _ => none
 | k + 1, x0, x3 => if x0 > 0 then ((some (([(wrap64 (48 + (Int.tmod x0 10))) % 256] : List Int) : List Int)).bind fun y542 => (if (strOfNums y542).size + x3.size ≤ 9223372036854775807 then (laws_markText.l0 k (wrap64 (Int.tdiv x0 10)) ((strOfNums y542) ++ x3)) else (none))) else (if 1 + x3.size ≤ 9223372036854775807 then (some ((⟨#[109]⟩ : ByteArray) ++ x3)) else (none))
def laws_markText.f (k : Nat) (a0 : Int) : Option (ByteArray) := if a0 ≤ 0 then (some (⟨#[109, 48]⟩ : ByteArray)) else (laws_markText.l0 k a0 (⟨#[]⟩ : ByteArray))
set_option maxHeartbeats 8000000 in
set_option maxRecDepth 100000 in
theorem laws_markText.calls (k : Nat) (a0 : Int) (r : ByteArray) (w : World) (h : laws_markText.f k a0 = some r) :
  Calls Tryz.prog 81 #[.int .i64 a0] w fun e w' => e = .returned (.string r) ∧ Below w.heap.size w w' := by
 have HB := zi (Below.refl w.heap.size w)
 have H := h
 unfold laws_markText.f at H
 clear h
 by_cases c2 : a0 ≤ 0
 ·rw [if_pos c2] at H
  have c2b0 := decide_eq_true c2
  clear c2
  obtain rfl := Option.some.inj H
  go_enter Tryz.func81, Tryz.ntmps81
  go_wp2
  go_ret
  exact ⟨zw, zt⟩
 ·rw [if_neg c2] at H
  have c2b0 := decide_eq_false c2
  clear c2
  have H' := zi H
  clear H
  go_enter Tryz.func81, Tryz.ntmps81
  go_wp2
  go_loopg [0, 3] k (fun kq v0 v3 w' => ∃ (x0_1 : Int) (x3_1 : ByteArray), v0 = .int .i64 x0_1 ∧ v3 = .string x3_1 ∧ Aside0 (laws_markText.l0 kq x0_1 x3_1 = some r) ∧ Aside0 (kq ≤ k) ∧ Aside0 (Below w.heap.size w w'))
  case atStart => exact ⟨(a0), ((⟨#[]⟩ : ByteArray)), z1d, z1d, H', ⟨Nat.le_refl _⟩, ⟨zt⟩⟩
  case round =>
   clear H'
   try clear c2
   try clear c2b0
   try clear p2
   obtain ⟨x0_1, x3_1, rfl, rfl, HA, HK1, HB⟩ := hrel
   cases gk with
   | zero => exact absurd HA.out (by simp [laws_markText.l0])
   | succ k1 =>
    have H := HA.out
    clear HA
    simp only [laws_markText.l0] at H
    by_cases c3 : x0_1 > 0
    ·rw [if_pos c3] at H
     have c3b0 := decide_eq_true c3
     clear c3
     obtain ⟨y542, hy542⟩ : ∃ y_ : List Int, y_ = (([(wrap64 (48 + (Int.tmod x0_1 10))) % 256] : List Int)) := ⟨_, rfl⟩
     replace H : (if (strOfNums y542).size + x3_1.size ≤ 9223372036854775807 then (laws_markText.l0 k1 (wrap64 (Int.tdiv x0_1 10)) ((strOfNums y542) ++ x3_1)) else (none)) = some r := by first | (rw [hy542]; with_reducible exact H) | (have H2_ := (Option.bind_some _ _).symm.trans H; rw [hy542]; with_reducible exact H2_) | (have H2_ := (Option.bind_some _ _).symm.trans H; with_reducible exact H2_) | with_reducible exact H | (rw [hy542]; exact H) | exact H
     have Ny542 := zi hy542
     clear hy542
     by_cases c4 : (strOfNums y542).size + x3_1.size ≤ 9223372036854775807
     ·rw [if_pos c4] at H
      have c4b0 := eq_true c4
      have c4b1 := decide_eq_true c4
      try have c4b2 : (9223372036854775807 < (strOfNums y542).size + x3_1.size) = False := eq_false (Nat.not_lt.2 c4)
      have H' := zi H
      clear H
      go_wp2_with (first | ((with_reducible refine gate_dst (N := 12) rfl ?_); refine Kd.R_lit (Kd.int .u8) _ 5 ?hg (N := 12) ?hd (xs := ([(wrap64 (48 + (Int.tmod x0_1 10))) % 256] : List Int)) (inner := [.int .u8 ((wrap64 (48 + (Int.tmod x0_1 10))) % 256)]) (ok := fun _ => True) (okp := fun _ => True) ?hr ?hp (fun _ hk => hk) trivial (Below.refl _ _) (Nat.le_refl _) (by simp) ?_; (case hd => exact zr); (case hg => exact zr); (case hr => exact zs); (case hp => exact (Reps.one (show Kd.M (Kd.int .u8) _ _ _ ((wrap64 (48 + (Int.tmod x0_1 10))) % 256) [.int .u8 ((wrap64 (48 + (Int.tmod x0_1 10))) % 256)] from rfl) (Reps.none _ _))); intro v543 w5 ho6 hb hg_ hnew_; clear hg_ hnew_; (first | rw [← Ny542.out] at ho6 | (simp only [Int.reduceToNat] at ho6; rw [← Ny542.out] at ho6)); have n0_ := zi (Kd.R_lower ho6 (below_size zt)); have n1_ := zi (below_step zt hb); clear HB; have HO544 := n0_; have HB := n1_; clear n0_ n1_; clear hb ho6; have hcv7 := own_string (P := Tryz.prog) Tryz.underlying22 Tryz.underlying5 Tryz.underlying9 (Kd.own_of_R HO544.out)))
      go_roundg k1
      case measure => have := HK1.out; omega
      case rel => exact ⟨(wrap64 (Int.tdiv x0_1 10)), ((strOfNums y542) ++ x3_1), z1d, z1d, H', ⟨z1h⟩, ⟨zt⟩⟩
     ·rw [if_neg c4] at H
      exact absurd H (by simp)
    ·rw [if_neg c3] at H
     have c3b0 := decide_eq_false c3
     clear c3
     by_cases c8 : 1 + x3_1.size ≤ 9223372036854775807
     ·rw [if_pos c8] at H
      have c8b0 := eq_true c8
      have c8b1 := decide_eq_true c8
      try have c8b2 : (9223372036854775807 < 1 + x3_1.size) = False := eq_false (Nat.not_lt.2 c8)
      obtain rfl := Option.some.inj H
      go_wp2
      go_ret
      exact ⟨zw, zt⟩
     ·rw [if_neg c8] at H
      exact absurd H (by simp)
def laws_markNeedS.l0 : Nat → List (S35) → Int → Int → Option (Int × (List (S35)))
 | 0, _, _, _ => none
 | k + 1, x0, x1, x5 => if x5 < (x0.length : Int) then ((laws_markText.f k x1).bind fun t545 => (if 0 ≤ x5 then ((some (x0.set (x5 : Int).toNat (⟨t545, (⟨(rd_T35 x0 x5).f1.f0, (rd_T35 x0 x5).f1.f1, (rd_T35 x0 x5).f1.f2, (rd_T35 x0 x5).f1.f3⟩ : S25)⟩ : S35) : List (S35))).bind fun y546 => ((some (y546.set (x5 : Int).toNat (⟨(rd_T35 y546 x5).f0, (⟨wrap64 (x1 + 1), (rd_T35 y546 x5).f1.f1, (rd_T35 y546 x5).f1.f2, (rd_T35 y546 x5).f1.f3⟩ : S25)⟩ : S35) : List (S35))).bind fun y547 => ((some (y547.set (x5 : Int).toNat (⟨(rd_T35 y547 x5).f0, (⟨(rd_T35 y547 x5).f1.f0, wrap64 ((wrap64 (x1 + 1)) + 1), (rd_T35 y547 x5).f1.f2, (rd_T35 y547 x5).f1.f3⟩ : S25)⟩ : S35) : List (S35))).bind fun y548 => ((some (y548.set (x5 : Int).toNat (⟨(rd_T35 y548 x5).f0, (⟨(rd_T35 y548 x5).f1.f0, (rd_T35 y548 x5).f1.f1, wrap64 ((wrap64 ((wrap64 (x1 + 1)) + 1)) + 1), (rd_T35 y548 x5).f1.f3⟩ : S25)⟩ : S35) : List (S35))).bind fun y549 => ((laws_markText.f k (wrap64 ((wrap64 ((wrap64 ((wrap64 (x1 + 1)) + 1)) + 1)) + 1))).bind fun t550 => (laws_markNeedS.l0 k (y549.set (x5 : Int).toNat (⟨(rd_T35 y549 x5).f0, (⟨(rd_T35 y549 x5).f1.f0, (rd_T35 y549 x5).f1.f1, (rd_T35 y549 x5).f1.f2, t550⟩ : S25)⟩ : S35)) (wrap64 ((wrap64 ((wrap64 ((wrap64 ((wrap64 (x1 + 1)) + 1)) + 1)) + 1)) + 1)) (wrap64 (x5 + 1)))))))) else (none))) else (some (x1, x0))
def laws_markNeedS.f (k : Nat) (l0 : List (S35)) (a1 : Int) : Option (Int × (List (S35))) := laws_markNeedS.l0 k l0 a1 0
set_option maxHeartbeats 8000000 in
set_option maxRecDepth 100000 in
theorem laws_markNeedS.calls (k : Nat) (P0_ : Nat → Prop) (u9000_ : Value) (l0 : List (S35)) (a1 : Int) (r1 : Int) (r2 : List (S35)) (w0 w : World) (hB : Below w0.heap.size w0 w) (ho0 : Kd.R k35 35 w w0.heap.size P0_ u9000_ l0) (h : laws_markNeedS.f k l0 a1 = some (r1, r2)) :
  Calls Tryz.prog 47 #[u9000_, .int .i64 a1] w fun e w' => e = .returned (.int .i64 r1) ∧ Kd.R k35 35 w' w0.heap.size (fun k_ => (P0_ k_ ∨ w.heap.size ≤ k_)) u9000_ r2 ∧ Below w0.heap.size w0 w' ∧ Kept w w' (fun k_ => P0_ k_) := by
 have HO0 := zi (show Kd.R k35 35 w w0.heap.size (fun k_ => (P0_ k_ ∨ w.heap.size ≤ k_)) u9000_ l0 from Kd.R_mono ho0 (fun k_ hk => (.inl hk)))
 have HK := zi (Kept.refl w (fun k_ => P0_ k_))
 have HW0 := zi hB.size
 have HB := zi hB
 clear hB
 have H := h
 unfold laws_markNeedS.f at H
 clear h
 have H' := zi H
 clear H
 go_enter Tryz.func47, Tryz.ntmps47
 go_wp2
 go_loopg [1, 5] k (fun kq v1 v5 w' => ∃ (x0_1 : List (S35)) (x1_1 : Int) (x5_1 : Int), v1 = .int .i64 x1_1 ∧ v5 = .int .i64 x5_1 ∧ Aside0 (laws_markNeedS.l0 kq x0_1 x1_1 x5_1 = some (r1, r2)) ∧ Aside0 (kq ≤ k) ∧ Aside0 (Kd.R k35 35 w' w0.heap.size (fun k_ => (P0_ k_ ∨ w.heap.size ≤ k_)) u9000_ x0_1) ∧ Aside0 (Kept w w' (fun k_ => P0_ k_)) ∧ Aside0 (Below w0.heap.size w0 w'))
 case atStart => exact ⟨(l0), (a1), (0), z1d, z1d, H', ⟨Nat.le_refl _⟩, ⟨by (with_reducible repeat (first | apply Kd.R_alloc | apply Kd.R_drewN | apply Kd.R_drew)); exact HO0.out⟩, ⟨z2i⟩, ⟨zt⟩⟩
 case round =>
  clear H'
  try clear p2
  obtain ⟨x0_1, x1_1, x5_1, rfl, rfl, HA, HK1, HO_0, HK, HB⟩ := hrel
  cases gk with
  | zero => exact absurd HA.out (by simp [laws_markNeedS.l0])
  | succ k1 =>
   have H := HA.out
   clear HA
   simp only [laws_markNeedS.l0] at H
   by_cases c3 : x5_1 < (x0_1.length : Int)
   ·rw [if_pos c3] at H
    have c3b0 := decide_eq_true c3
    clear c3
    replace H := Option.bind_eq_some_iff.mp H
    obtain ⟨t545, A40, H⟩ := H
    try dsimp only at H
    have A4 := zi A40
    clear A40
    by_cases c5 : 0 ≤ x5_1
    ·rw [if_pos c5] at H
     have c5b0 := decide_eq_true c5
     clear c5
     obtain ⟨y546, hy546⟩ : ∃ y_ : List (S35), y_ = (x0_1.set (x5_1 : Int).toNat (⟨t545, (⟨(rd_T35 x0_1 x5_1).f1.f0, (rd_T35 x0_1 x5_1).f1.f1, (rd_T35 x0_1 x5_1).f1.f2, (rd_T35 x0_1 x5_1).f1.f3⟩ : S25)⟩ : S35)) := ⟨_, rfl⟩
     replace H : ((some (y546.set (x5_1 : Int).toNat (⟨(rd_T35 y546 x5_1).f0, (⟨wrap64 (x1_1 + 1), (rd_T35 y546 x5_1).f1.f1, (rd_T35 y546 x5_1).f1.f2, (rd_T35 y546 x5_1).f1.f3⟩ : S25)⟩ : S35) : List (S35))).bind fun y547 => ((some (y547.set (x5_1 : Int).toNat (⟨(rd_T35 y547 x5_1).f0, (⟨(rd_T35 y547 x5_1).f1.f0, wrap64 ((wrap64 (x1_1 + 1)) + 1), (rd_T35 y547 x5_1).f1.f2, (rd_T35 y547 x5_1).f1.f3⟩ : S25)⟩ : S35) : List (S35))).bind fun y548 => ((some (y548.set (x5_1 : Int).toNat (⟨(rd_T35 y548 x5_1).f0, (⟨(rd_T35 y548 x5_1).f1.f0, (rd_T35 y548 x5_1).f1.f1, wrap64 ((wrap64 ((wrap64 (x1_1 + 1)) + 1)) + 1), (rd_T35 y548 x5_1).f1.f3⟩ : S25)⟩ : S35) : List (S35))).bind fun y549 => ((laws_markText.f k1 (wrap64 ((wrap64 ((wrap64 ((wrap64 (x1_1 + 1)) + 1)) + 1)) + 1))).bind fun t550 => (laws_markNeedS.l0 k1 (y549.set (x5_1 : Int).toNat (⟨(rd_T35 y549 x5_1).f0, (⟨(rd_T35 y549 x5_1).f1.f0, (rd_T35 y549 x5_1).f1.f1, (rd_T35 y549 x5_1).f1.f2, t550⟩ : S25)⟩ : S35)) (wrap64 ((wrap64 ((wrap64 ((wrap64 ((wrap64 (x1_1 + 1)) + 1)) + 1)) + 1)) + 1)) (wrap64 (x5_1 + 1))))))) = some (r1, r2) := by first | (rw [hy546]; with_reducible exact H) | (have H2_ := (Option.bind_some _ _).symm.trans H; rw [hy546]; with_reducible exact H2_) | (have H2_ := (Option.bind_some _ _).symm.trans H; with_reducible exact H2_) | with_reducible exact H | (rw [hy546]; exact H) | exact H
     have Ny546 := zi hy546
     clear hy546
     obtain ⟨y547, hy547⟩ : ∃ y_ : List (S35), y_ = (y546.set (x5_1 : Int).toNat (⟨(rd_T35 y546 x5_1).f0, (⟨wrap64 (x1_1 + 1), (rd_T35 y546 x5_1).f1.f1, (rd_T35 y546 x5_1).f1.f2, (rd_T35 y546 x5_1).f1.f3⟩ : S25)⟩ : S35)) := ⟨_, rfl⟩
     replace H : ((some (y547.set (x5_1 : Int).toNat (⟨(rd_T35 y547 x5_1).f0, (⟨(rd_T35 y547 x5_1).f1.f0, wrap64 ((wrap64 (x1_1 + 1)) + 1), (rd_T35 y547 x5_1).f1.f2, (rd_T35 y547 x5_1).f1.f3⟩ : S25)⟩ : S35) : List (S35))).bind fun y548 => ((some (y548.set (x5_1 : Int).toNat (⟨(rd_T35 y548 x5_1).f0, (⟨(rd_T35 y548 x5_1).f1.f0, (rd_T35 y548 x5_1).f1.f1, wrap64 ((wrap64 ((wrap64 (x1_1 + 1)) + 1)) + 1), (rd_T35 y548 x5_1).f1.f3⟩ : S25)⟩ : S35) : List (S35))).bind fun y549 => ((laws_markText.f k1 (wrap64 ((wrap64 ((wrap64 ((wrap64 (x1_1 + 1)) + 1)) + 1)) + 1))).bind fun t550 => (laws_markNeedS.l0 k1 (y549.set (x5_1 : Int).toNat (⟨(rd_T35 y549 x5_1).f0, (⟨(rd_T35 y549 x5_1).f1.f0, (rd_T35 y549 x5_1).f1.f1, (rd_T35 y549 x5_1).f1.f2, t550⟩ : S25)⟩ : S35)) (wrap64 ((wrap64 ((wrap64 ((wrap64 ((wrap64 (x1_1 + 1)) + 1)) + 1)) + 1)) + 1)) (wrap64 (x5_1 + 1)))))) = some (r1, r2) := by first | (rw [hy547]; with_reducible exact H) | (have H2_ := (Option.bind_some _ _).symm.trans H; rw [hy547]; with_reducible exact H2_) | (have H2_ := (Option.bind_some _ _).symm.trans H; with_reducible exact H2_) | with_reducible exact H | (rw [hy547]; exact H) | exact H
     have Ny547 := zi hy547
     clear hy547
     obtain ⟨y548, hy548⟩ : ∃ y_ : List (S35), y_ = (y547.set (x5_1 : Int).toNat (⟨(rd_T35 y547 x5_1).f0, (⟨(rd_T35 y547 x5_1).f1.f0, wrap64 ((wrap64 (x1_1 + 1)) + 1), (rd_T35 y547 x5_1).f1.f2, (rd_T35 y547 x5_1).f1.f3⟩ : S25)⟩ : S35)) := ⟨_, rfl⟩
     replace H : ((some (y548.set (x5_1 : Int).toNat (⟨(rd_T35 y548 x5_1).f0, (⟨(rd_T35 y548 x5_1).f1.f0, (rd_T35 y548 x5_1).f1.f1, wrap64 ((wrap64 ((wrap64 (x1_1 + 1)) + 1)) + 1), (rd_T35 y548 x5_1).f1.f3⟩ : S25)⟩ : S35) : List (S35))).bind fun y549 => ((laws_markText.f k1 (wrap64 ((wrap64 ((wrap64 ((wrap64 (x1_1 + 1)) + 1)) + 1)) + 1))).bind fun t550 => (laws_markNeedS.l0 k1 (y549.set (x5_1 : Int).toNat (⟨(rd_T35 y549 x5_1).f0, (⟨(rd_T35 y549 x5_1).f1.f0, (rd_T35 y549 x5_1).f1.f1, (rd_T35 y549 x5_1).f1.f2, t550⟩ : S25)⟩ : S35)) (wrap64 ((wrap64 ((wrap64 ((wrap64 ((wrap64 (x1_1 + 1)) + 1)) + 1)) + 1)) + 1)) (wrap64 (x5_1 + 1))))) = some (r1, r2) := by first | (rw [hy548]; with_reducible exact H) | (have H2_ := (Option.bind_some _ _).symm.trans H; rw [hy548]; with_reducible exact H2_) | (have H2_ := (Option.bind_some _ _).symm.trans H; with_reducible exact H2_) | with_reducible exact H | (rw [hy548]; exact H) | exact H
     have Ny548 := zi hy548
     clear hy548
     obtain ⟨y549, hy549⟩ : ∃ y_ : List (S35), y_ = (y548.set (x5_1 : Int).toNat (⟨(rd_T35 y548 x5_1).f0, (⟨(rd_T35 y548 x5_1).f1.f0, (rd_T35 y548 x5_1).f1.f1, wrap64 ((wrap64 ((wrap64 (x1_1 + 1)) + 1)) + 1), (rd_T35 y548 x5_1).f1.f3⟩ : S25)⟩ : S35)) := ⟨_, rfl⟩
     replace H : ((laws_markText.f k1 (wrap64 ((wrap64 ((wrap64 ((wrap64 (x1_1 + 1)) + 1)) + 1)) + 1))).bind fun t550 => (laws_markNeedS.l0 k1 (y549.set (x5_1 : Int).toNat (⟨(rd_T35 y549 x5_1).f0, (⟨(rd_T35 y549 x5_1).f1.f0, (rd_T35 y549 x5_1).f1.f1, (rd_T35 y549 x5_1).f1.f2, t550⟩ : S25)⟩ : S35)) (wrap64 ((wrap64 ((wrap64 ((wrap64 ((wrap64 (x1_1 + 1)) + 1)) + 1)) + 1)) + 1)) (wrap64 (x5_1 + 1)))) = some (r1, r2) := by first | (rw [hy549]; with_reducible exact H) | (have H2_ := (Option.bind_some _ _).symm.trans H; rw [hy549]; with_reducible exact H2_) | (have H2_ := (Option.bind_some _ _).symm.trans H; with_reducible exact H2_) | with_reducible exact H | (rw [hy549]; exact H) | exact H
     have Ny549 := zi hy549
     clear hy549
     replace H := Option.bind_eq_some_iff.mp H
     obtain ⟨t550, A100, H⟩ := H
     try dsimp only at H
     have A10 := zi A100
     clear A100
     obtain ⟨y551, hy551⟩ : ∃ y_ : List (S35), y_ = (y549.set (x5_1 : Int).toNat (⟨(rd_T35 y549 x5_1).f0, (⟨(rd_T35 y549 x5_1).f1.f0, (rd_T35 y549 x5_1).f1.f1, (rd_T35 y549 x5_1).f1.f2, t550⟩ : S25)⟩ : S35)) := ⟨_, rfl⟩
     replace H : (laws_markNeedS.l0 k1 y551 (wrap64 ((wrap64 ((wrap64 ((wrap64 ((wrap64 (x1_1 + 1)) + 1)) + 1)) + 1)) + 1)) (wrap64 (x5_1 + 1))) = some (r1, r2) := by first | (rw [hy551]; with_reducible exact H) | (have H2_ := (Option.bind_some _ _).symm.trans H; rw [hy551]; with_reducible exact H2_) | (have H2_ := (Option.bind_some _ _).symm.trans H; with_reducible exact H2_) | with_reducible exact H | (rw [hy551]; exact H) | exact H
     have Ny551 := zi hy551
     clear hy551
     have H' := zi H
     clear H
     obtain ⟨Ao12, co12, eo12⟩ := Kd.R_slice HO_0.out
     subst eo12
     go_wp2_with (first | ((with_reducible refine gate_callee (f := 81) rfl ?_); refine goesL_ (some 15) rfl rfl Tryz.func81 z1a rfl #[.int .i64 x1_1] rfl z1b ?_; (with_reducible refine (laws_markText.calls k1 x1_1 t545 _ A4.out).mono ?_); rintro e w13 ⟨rfl, hb⟩; refine ⟨_, rfl, ?_⟩; have n0_ := zi (Kd.R_below z2k hb); have n1_ := zi (Kept.below (S := (fun k_ => P0_ k_)) z2i hb); have n2_ := zi (below_step zt hb); clear HO_0; clear HK; clear HB; have HO_0 := n0_; have HK := n1_; have HB := n2_; clear n0_ n1_ n2_; (try clear hb); (try clear hb2); (try clear hk); (try clear hi); have p6 : 0 ≤ (x5_1 : Int) := of_decide_eq_true z1e; have q6 : (x5_1 : Int) < ((x0_1.length : Int) : Int) := of_decide_eq_true z1e; obtain ⟨go6, co6, eo6, gb6, gl6, cl6, HG6⟩ := Kd.R_form HO_0.out zq; (first | cases eo6 | (injection eo6 with ea_ en_ ec_; (first | subst ea_ | (injection ea_ with ea_; subst ea_)); subst ec_; clear en_)); have GB6 := zi gb6; have GG6 := zi HG6; clear gb6 gl6 HG6; have HMgo6 := zi (show (P0_ go6 ∨ w.heap.size ≤ go6) from (HO_0.out.1 _ rfl)); obtain ⟨ce6, hcl6, hM6, hcc6, hfr6⟩ := Kd.R_elem HO_0.out z35 (x5_1 : Int) p6 q6; obtain rfl := k35_openM hM6; have hx6_0 : w13.cell? ⟨go6, (x5_1 : Int).toNat * 5, none⟩ = some (.string ((rd_T35 x0_1 x5_1).f0)) := hcc6 0 _ rfl; have hx6_1 : w13.cell? ⟨go6, (x5_1 : Int).toNat * 5 + 1, none⟩ = some (.int .i64 ((rd_T35 x0_1 x5_1).f1.f0)) := hcc6 1 _ rfl; have hx6_2 : w13.cell? ⟨go6, (x5_1 : Int).toNat * 5 + 2, none⟩ = some (.int .i64 ((rd_T35 x0_1 x5_1).f1.f1)) := hcc6 2 _ rfl; have hx6_3 : w13.cell? ⟨go6, (x5_1 : Int).toNat * 5 + 3, none⟩ = some (.int .i64 ((rd_T35 x0_1 x5_1).f1.f2)) := hcc6 3 _ rfl; have hx6_4 : w13.cell? ⟨go6, (x5_1 : Int).toNat * 5 + 4, none⟩ = some (.string ((rd_T35 x0_1 x5_1).f1.f3)) := hcc6 4 _ rfl; have hf6_0 : w13.frozen? ⟨go6, (x5_1 : Int).toNat * 5, none⟩ = false := hfr6 0; have hf6_1 : w13.frozen? ⟨go6, (x5_1 : Int).toNat * 5 + 1, none⟩ = false := hfr6 1; have hf6_2 : w13.frozen? ⟨go6, (x5_1 : Int).toNat * 5 + 2, none⟩ = false := hfr6 2; have hf6_3 : w13.frozen? ⟨go6, (x5_1 : Int).toNat * 5 + 3, none⟩ = false := hfr6 3; have hf6_4 : w13.frozen? ⟨go6, (x5_1 : Int).toNat * 5 + 4, none⟩ = false := hfr6 4; clear hcl6 hcc6 hfr6 hM6; replace p6 := eq_true p6; replace q6 := eq_true q6; have HX14 := zi (show Kd.R k35 35 w13 w0.heap.size (fun k_ => (P0_ k_ ∨ w.heap.size ≤ k_)) (.slice (some ⟨go6, 0, none⟩) x0_1.length co12) x0_1 from z2k); obtain ⟨ce14, hcl14, hM14, hcc14, hfr14⟩ := Kd.R_elem HX14.out z35 (x5_1 : Int) (of_decide_eq_true z1e) z6z; obtain rfl := k35_openM hM14; have HP14 := Kd.R_seg HX14.out (x5_1 : Int) (of_decide_eq_true z1e) z6z (seg := [.string t545]) (j := 0) hcl14 hcc14 (show 1 ≤ 5 from by decide) (x' := (⟨t545, (⟨(rd_T35 x0_1 x5_1).f1.f0, (rd_T35 x0_1 x5_1).f1.f1, (rd_T35 x0_1 x5_1).f1.f2, (rd_T35 x0_1 x5_1).f1.f3⟩ : S25)⟩ : S35)) (k35_mkM _ _ _ (⟨t545, (⟨(rd_T35 x0_1 x5_1).f1.f0, (rd_T35 x0_1 x5_1).f1.f1, (rd_T35 x0_1 x5_1).f1.f2, (rd_T35 x0_1 x5_1).f1.f3⟩ : S25)⟩ : S35) ) (fun _ hk => hk); have hx14_0 := hcc14 0 _ rfl; (try simp only [show (k35).sz = 5 from rfl, Nat.mul_one, Nat.add_zero] at hx14_0); have hf14_0 := hfr14 0; (try simp only [show (k35).sz = 5 from rfl, Nat.mul_one, Nat.add_zero] at hf14_0); clear hcl14 hcc14 hfr14 hM14) | ((with_reducible refine gate_store (t := 9) (p := 17) rfl ?_); refine store_event (t := 9) (p := 17) (v := ?vo_w15) (w1 := (w13.setCell ⟨go6, (x5_1 : Int).toNat * 5, none⟩ (.string t545))) ?hg ?ho ?hn ?hr ?_; (case ho => exact zr); (case hg => exact zr); (case hn => exact zr); (case hr => exact zs); intro w15 hw; have hg : w13.grownBy w15 (some go6) := (by rw [hw]; exact HP14.2); have hp_ : Kd.R k35 35 w15 w0.heap.size (fun k_ => (P0_ k_ ∨ w.heap.size ≤ k_)) (.slice (some ⟨go6, 0, none⟩) x0_1.length co12) y546 := (by rw [hw, Ny546.out]; exact HP14.1); clear HP14; have n0_ := zi hp_; have n1_ := zi ((z5c : Below w0.heap.size w0 w15)); have n2_ := zi (Kept.of_grown (S := (fun k_ => P0_ k_)) hg z2i (fun k_ e_ => (HO_0.out.1 k_ e_))); clear HO_0; clear HB; clear HK; have HO_0 := n0_; have HB := n1_; have HK := n2_; clear n0_ n1_ n2_; clear hg hw hp_; have p7 : 0 ≤ (x5_1 : Int) := of_decide_eq_true z1e; have q7 : (x5_1 : Int) < ((x0_1.length : Int) : Int) := of_decide_eq_true z1e; obtain ⟨ce7, hcl7, hM7, hcc7, hfr7⟩ := Kd.R_elem HO_0.out z35 (x5_1 : Int) p7 q7; obtain rfl := k35_openM hM7; have hx7_0 : w15.cell? ⟨go6, (x5_1 : Int).toNat * 5, none⟩ = some (.string ((rd_T35 y546 x5_1).f0)) := hcc7 0 _ rfl; have hx7_1 : w15.cell? ⟨go6, (x5_1 : Int).toNat * 5 + 1, none⟩ = some (.int .i64 ((rd_T35 y546 x5_1).f1.f0)) := hcc7 1 _ rfl; have hx7_2 : w15.cell? ⟨go6, (x5_1 : Int).toNat * 5 + 2, none⟩ = some (.int .i64 ((rd_T35 y546 x5_1).f1.f1)) := hcc7 2 _ rfl; have hx7_3 : w15.cell? ⟨go6, (x5_1 : Int).toNat * 5 + 3, none⟩ = some (.int .i64 ((rd_T35 y546 x5_1).f1.f2)) := hcc7 3 _ rfl; have hx7_4 : w15.cell? ⟨go6, (x5_1 : Int).toNat * 5 + 4, none⟩ = some (.string ((rd_T35 y546 x5_1).f1.f3)) := hcc7 4 _ rfl; have hf7_0 : w15.frozen? ⟨go6, (x5_1 : Int).toNat * 5, none⟩ = false := hfr7 0; have hf7_1 : w15.frozen? ⟨go6, (x5_1 : Int).toNat * 5 + 1, none⟩ = false := hfr7 1; have hf7_2 : w15.frozen? ⟨go6, (x5_1 : Int).toNat * 5 + 2, none⟩ = false := hfr7 2; have hf7_3 : w15.frozen? ⟨go6, (x5_1 : Int).toNat * 5 + 3, none⟩ = false := hfr7 3; have hf7_4 : w15.frozen? ⟨go6, (x5_1 : Int).toNat * 5 + 4, none⟩ = false := hfr7 4; clear hcl7 hcc7 hfr7 hM7; replace p7 := eq_true p7; replace q7 := eq_true q7; have HX16 := zi (show Kd.R k35 35 w15 w0.heap.size (fun k_ => (P0_ k_ ∨ w.heap.size ≤ k_)) (.slice (some ⟨go6, 0, none⟩) x0_1.length co12) y546 from z2k); obtain ⟨ce16, hcl16, hM16, hcc16, hfr16⟩ := Kd.R_elem HX16.out z35 (x5_1 : Int) (of_decide_eq_true z1e) z6z; obtain rfl := k35_openM hM16; have HP16 := Kd.R_seg HX16.out (x5_1 : Int) (of_decide_eq_true z1e) z6z (seg := [.int .i64 (wrap64 (x1_1 + 1))]) (j := 1) hcl16 hcc16 (show 2 ≤ 5 from by decide) (x' := (⟨(rd_T35 y546 x5_1).f0, (⟨wrap64 (x1_1 + 1), (rd_T35 y546 x5_1).f1.f1, (rd_T35 y546 x5_1).f1.f2, (rd_T35 y546 x5_1).f1.f3⟩ : S25)⟩ : S35)) (k35_mkM _ _ _ (⟨(rd_T35 y546 x5_1).f0, (⟨wrap64 (x1_1 + 1), (rd_T35 y546 x5_1).f1.f1, (rd_T35 y546 x5_1).f1.f2, (rd_T35 y546 x5_1).f1.f3⟩ : S25)⟩ : S35) ) (fun _ hk => hk); have hx16_1 := hcc16 1 _ rfl; (try simp only [show (k35).sz = 5 from rfl, Nat.mul_one, Nat.add_zero] at hx16_1); have hf16_1 := hfr16 1; (try simp only [show (k35).sz = 5 from rfl, Nat.mul_one, Nat.add_zero] at hf16_1); clear hcl16 hcc16 hfr16 hM16) | ((with_reducible refine gate_store (t := 3) (p := 25) rfl ?_); refine store_event (t := 3) (p := 25) (v := ?vo_w17) (w1 := (w15.setCell ⟨go6, (x5_1 : Int).toNat * 5 + 1, none⟩ (.int .i64 (wrap64 (x1_1 + 1))))) ?hg ?ho ?hn ?hr ?_; (case ho => exact zr); (case hg => exact zr); (case hn => exact zr); (case hr => exact zs); intro w17 hw; have hg : w15.grownBy w17 (some go6) := (by rw [hw]; exact HP16.2); have hp_ : Kd.R k35 35 w17 w0.heap.size (fun k_ => (P0_ k_ ∨ w.heap.size ≤ k_)) (.slice (some ⟨go6, 0, none⟩) x0_1.length co12) y547 := (by rw [hw, Ny547.out]; exact HP16.1); clear HP16; have n0_ := zi hp_; have n1_ := zi ((z5c : Below w0.heap.size w0 w17)); have n2_ := zi (Kept.of_grown (S := (fun k_ => P0_ k_)) hg z2i (fun k_ e_ => (HO_0.out.1 k_ e_))); clear HO_0; clear HB; clear HK; have HO_0 := n0_; have HB := n1_; have HK := n2_; clear n0_ n1_ n2_; clear hg hw hp_; have p8 : 0 ≤ (x5_1 : Int) := of_decide_eq_true z1e; have q8 : (x5_1 : Int) < ((x0_1.length : Int) : Int) := of_decide_eq_true z1e; obtain ⟨ce8, hcl8, hM8, hcc8, hfr8⟩ := Kd.R_elem HO_0.out z35 (x5_1 : Int) p8 q8; obtain rfl := k35_openM hM8; have hx8_0 : w17.cell? ⟨go6, (x5_1 : Int).toNat * 5, none⟩ = some (.string ((rd_T35 y547 x5_1).f0)) := hcc8 0 _ rfl; have hx8_1 : w17.cell? ⟨go6, (x5_1 : Int).toNat * 5 + 1, none⟩ = some (.int .i64 ((rd_T35 y547 x5_1).f1.f0)) := hcc8 1 _ rfl; have hx8_2 : w17.cell? ⟨go6, (x5_1 : Int).toNat * 5 + 2, none⟩ = some (.int .i64 ((rd_T35 y547 x5_1).f1.f1)) := hcc8 2 _ rfl; have hx8_3 : w17.cell? ⟨go6, (x5_1 : Int).toNat * 5 + 3, none⟩ = some (.int .i64 ((rd_T35 y547 x5_1).f1.f2)) := hcc8 3 _ rfl; have hx8_4 : w17.cell? ⟨go6, (x5_1 : Int).toNat * 5 + 4, none⟩ = some (.string ((rd_T35 y547 x5_1).f1.f3)) := hcc8 4 _ rfl; have hf8_0 : w17.frozen? ⟨go6, (x5_1 : Int).toNat * 5, none⟩ = false := hfr8 0; have hf8_1 : w17.frozen? ⟨go6, (x5_1 : Int).toNat * 5 + 1, none⟩ = false := hfr8 1; have hf8_2 : w17.frozen? ⟨go6, (x5_1 : Int).toNat * 5 + 2, none⟩ = false := hfr8 2; have hf8_3 : w17.frozen? ⟨go6, (x5_1 : Int).toNat * 5 + 3, none⟩ = false := hfr8 3; have hf8_4 : w17.frozen? ⟨go6, (x5_1 : Int).toNat * 5 + 4, none⟩ = false := hfr8 4; clear hcl8 hcc8 hfr8 hM8; replace p8 := eq_true p8; replace q8 := eq_true q8; have HX18 := zi (show Kd.R k35 35 w17 w0.heap.size (fun k_ => (P0_ k_ ∨ w.heap.size ≤ k_)) (.slice (some ⟨go6, 0, none⟩) x0_1.length co12) y547 from z2k); obtain ⟨ce18, hcl18, hM18, hcc18, hfr18⟩ := Kd.R_elem HX18.out z35 (x5_1 : Int) (of_decide_eq_true z1e) z6z; obtain rfl := k35_openM hM18; have HP18 := Kd.R_seg HX18.out (x5_1 : Int) (of_decide_eq_true z1e) z6z (seg := [.int .i64 (wrap64 ((wrap64 (x1_1 + 1)) + 1))]) (j := 2) hcl18 hcc18 (show 3 ≤ 5 from by decide) (x' := (⟨(rd_T35 y547 x5_1).f0, (⟨(rd_T35 y547 x5_1).f1.f0, wrap64 ((wrap64 (x1_1 + 1)) + 1), (rd_T35 y547 x5_1).f1.f2, (rd_T35 y547 x5_1).f1.f3⟩ : S25)⟩ : S35)) (k35_mkM _ _ _ (⟨(rd_T35 y547 x5_1).f0, (⟨(rd_T35 y547 x5_1).f1.f0, wrap64 ((wrap64 (x1_1 + 1)) + 1), (rd_T35 y547 x5_1).f1.f2, (rd_T35 y547 x5_1).f1.f3⟩ : S25)⟩ : S35) ) (fun _ hk => hk); have hx18_2 := hcc18 2 _ rfl; (try simp only [show (k35).sz = 5 from rfl, Nat.mul_one, Nat.add_zero] at hx18_2); have hf18_2 := hfr18 2; (try simp only [show (k35).sz = 5 from rfl, Nat.mul_one, Nat.add_zero] at hf18_2); clear hcl18 hcc18 hfr18 hM18) | ((with_reducible refine gate_store (t := 3) (p := 33) rfl ?_); refine store_event (t := 3) (p := 33) (v := ?vo_w19) (w1 := (w17.setCell ⟨go6, (x5_1 : Int).toNat * 5 + 2, none⟩ (.int .i64 (wrap64 ((wrap64 (x1_1 + 1)) + 1))))) ?hg ?ho ?hn ?hr ?_; (case ho => exact zr); (case hg => exact zr); (case hn => exact zr); (case hr => exact zs); intro w19 hw; have hg : w17.grownBy w19 (some go6) := (by rw [hw]; exact HP18.2); have hp_ : Kd.R k35 35 w19 w0.heap.size (fun k_ => (P0_ k_ ∨ w.heap.size ≤ k_)) (.slice (some ⟨go6, 0, none⟩) x0_1.length co12) y548 := (by rw [hw, Ny548.out]; exact HP18.1); clear HP18; have n0_ := zi hp_; have n1_ := zi ((z5c : Below w0.heap.size w0 w19)); have n2_ := zi (Kept.of_grown (S := (fun k_ => P0_ k_)) hg z2i (fun k_ e_ => (HO_0.out.1 k_ e_))); clear HO_0; clear HB; clear HK; have HO_0 := n0_; have HB := n1_; have HK := n2_; clear n0_ n1_ n2_; clear hg hw hp_; have p9 : 0 ≤ (x5_1 : Int) := of_decide_eq_true z1e; have q9 : (x5_1 : Int) < ((x0_1.length : Int) : Int) := of_decide_eq_true z1e; obtain ⟨ce9, hcl9, hM9, hcc9, hfr9⟩ := Kd.R_elem HO_0.out z35 (x5_1 : Int) p9 q9; obtain rfl := k35_openM hM9; have hx9_0 : w19.cell? ⟨go6, (x5_1 : Int).toNat * 5, none⟩ = some (.string ((rd_T35 y548 x5_1).f0)) := hcc9 0 _ rfl; have hx9_1 : w19.cell? ⟨go6, (x5_1 : Int).toNat * 5 + 1, none⟩ = some (.int .i64 ((rd_T35 y548 x5_1).f1.f0)) := hcc9 1 _ rfl; have hx9_2 : w19.cell? ⟨go6, (x5_1 : Int).toNat * 5 + 2, none⟩ = some (.int .i64 ((rd_T35 y548 x5_1).f1.f1)) := hcc9 2 _ rfl; have hx9_3 : w19.cell? ⟨go6, (x5_1 : Int).toNat * 5 + 3, none⟩ = some (.int .i64 ((rd_T35 y548 x5_1).f1.f2)) := hcc9 3 _ rfl; have hx9_4 : w19.cell? ⟨go6, (x5_1 : Int).toNat * 5 + 4, none⟩ = some (.string ((rd_T35 y548 x5_1).f1.f3)) := hcc9 4 _ rfl; have hf9_0 : w19.frozen? ⟨go6, (x5_1 : Int).toNat * 5, none⟩ = false := hfr9 0; have hf9_1 : w19.frozen? ⟨go6, (x5_1 : Int).toNat * 5 + 1, none⟩ = false := hfr9 1; have hf9_2 : w19.frozen? ⟨go6, (x5_1 : Int).toNat * 5 + 2, none⟩ = false := hfr9 2; have hf9_3 : w19.frozen? ⟨go6, (x5_1 : Int).toNat * 5 + 3, none⟩ = false := hfr9 3; have hf9_4 : w19.frozen? ⟨go6, (x5_1 : Int).toNat * 5 + 4, none⟩ = false := hfr9 4; clear hcl9 hcc9 hfr9 hM9; replace p9 := eq_true p9; replace q9 := eq_true q9; have HX20 := zi (show Kd.R k35 35 w19 w0.heap.size (fun k_ => (P0_ k_ ∨ w.heap.size ≤ k_)) (.slice (some ⟨go6, 0, none⟩) x0_1.length co12) y548 from z2k); obtain ⟨ce20, hcl20, hM20, hcc20, hfr20⟩ := Kd.R_elem HX20.out z35 (x5_1 : Int) (of_decide_eq_true z1e) z6z; obtain rfl := k35_openM hM20; have HP20 := Kd.R_seg HX20.out (x5_1 : Int) (of_decide_eq_true z1e) z6z (seg := [.int .i64 (wrap64 ((wrap64 ((wrap64 (x1_1 + 1)) + 1)) + 1))]) (j := 3) hcl20 hcc20 (show 4 ≤ 5 from by decide) (x' := (⟨(rd_T35 y548 x5_1).f0, (⟨(rd_T35 y548 x5_1).f1.f0, (rd_T35 y548 x5_1).f1.f1, wrap64 ((wrap64 ((wrap64 (x1_1 + 1)) + 1)) + 1), (rd_T35 y548 x5_1).f1.f3⟩ : S25)⟩ : S35)) (k35_mkM _ _ _ (⟨(rd_T35 y548 x5_1).f0, (⟨(rd_T35 y548 x5_1).f1.f0, (rd_T35 y548 x5_1).f1.f1, wrap64 ((wrap64 ((wrap64 (x1_1 + 1)) + 1)) + 1), (rd_T35 y548 x5_1).f1.f3⟩ : S25)⟩ : S35) ) (fun _ hk => hk); have hx20_3 := hcc20 3 _ rfl; (try simp only [show (k35).sz = 5 from rfl, Nat.mul_one, Nat.add_zero] at hx20_3); have hf20_3 := hfr20 3; (try simp only [show (k35).sz = 5 from rfl, Nat.mul_one, Nat.add_zero] at hf20_3); clear hcl20 hcc20 hfr20 hM20) | ((with_reducible refine gate_store (t := 3) (p := 41) rfl ?_); refine store_event (t := 3) (p := 41) (v := ?vo_w21) (w1 := (w19.setCell ⟨go6, (x5_1 : Int).toNat * 5 + 3, none⟩ (.int .i64 (wrap64 ((wrap64 ((wrap64 (x1_1 + 1)) + 1)) + 1))))) ?hg ?ho ?hn ?hr ?_; (case ho => exact zr); (case hg => exact zr); (case hn => exact zr); (case hr => exact zs); intro w21 hw; have hg : w19.grownBy w21 (some go6) := (by rw [hw]; exact HP20.2); have hp_ : Kd.R k35 35 w21 w0.heap.size (fun k_ => (P0_ k_ ∨ w.heap.size ≤ k_)) (.slice (some ⟨go6, 0, none⟩) x0_1.length co12) y549 := (by rw [hw, Ny549.out]; exact HP20.1); clear HP20; have n0_ := zi hp_; have n1_ := zi ((z5c : Below w0.heap.size w0 w21)); have n2_ := zi (Kept.of_grown (S := (fun k_ => P0_ k_)) hg z2i (fun k_ e_ => (HO_0.out.1 k_ e_))); clear HO_0; clear HB; clear HK; have HO_0 := n0_; have HB := n1_; have HK := n2_; clear n0_ n1_ n2_; clear hg hw hp_) | ((with_reducible refine gate_callee (f := 81) rfl ?_); refine goesL_ (some 47) rfl rfl Tryz.func81 z1a rfl #[.int .i64 (wrap64 ((wrap64 ((wrap64 ((wrap64 (x1_1 + 1)) + 1)) + 1)) + 1))] rfl z1b ?_; (with_reducible refine (laws_markText.calls k1 (wrap64 ((wrap64 ((wrap64 ((wrap64 (x1_1 + 1)) + 1)) + 1)) + 1)) t550 _ A10.out).mono ?_); rintro e w22 ⟨rfl, hb⟩; refine ⟨_, rfl, ?_⟩; have n0_ := zi (Kd.R_below z2k hb); have n1_ := zi (Kept.below (S := (fun k_ => P0_ k_)) z2i hb); have n2_ := zi (below_step zt hb); clear HO_0; clear HK; clear HB; have HO_0 := n0_; have HK := n1_; have HB := n2_; clear n0_ n1_ n2_; (try clear hb); (try clear hb2); (try clear hk); (try clear hi); have p11 : 0 ≤ (x5_1 : Int) := of_decide_eq_true z1e; have q11 : (x5_1 : Int) < ((x0_1.length : Int) : Int) := of_decide_eq_true z1e; obtain ⟨ce11, hcl11, hM11, hcc11, hfr11⟩ := Kd.R_elem HO_0.out z35 (x5_1 : Int) p11 q11; obtain rfl := k35_openM hM11; have hx11_0 : w22.cell? ⟨go6, (x5_1 : Int).toNat * 5, none⟩ = some (.string ((rd_T35 y549 x5_1).f0)) := hcc11 0 _ rfl; have hx11_1 : w22.cell? ⟨go6, (x5_1 : Int).toNat * 5 + 1, none⟩ = some (.int .i64 ((rd_T35 y549 x5_1).f1.f0)) := hcc11 1 _ rfl; have hx11_2 : w22.cell? ⟨go6, (x5_1 : Int).toNat * 5 + 2, none⟩ = some (.int .i64 ((rd_T35 y549 x5_1).f1.f1)) := hcc11 2 _ rfl; have hx11_3 : w22.cell? ⟨go6, (x5_1 : Int).toNat * 5 + 3, none⟩ = some (.int .i64 ((rd_T35 y549 x5_1).f1.f2)) := hcc11 3 _ rfl; have hx11_4 : w22.cell? ⟨go6, (x5_1 : Int).toNat * 5 + 4, none⟩ = some (.string ((rd_T35 y549 x5_1).f1.f3)) := hcc11 4 _ rfl; have hf11_0 : w22.frozen? ⟨go6, (x5_1 : Int).toNat * 5, none⟩ = false := hfr11 0; have hf11_1 : w22.frozen? ⟨go6, (x5_1 : Int).toNat * 5 + 1, none⟩ = false := hfr11 1; have hf11_2 : w22.frozen? ⟨go6, (x5_1 : Int).toNat * 5 + 2, none⟩ = false := hfr11 2; have hf11_3 : w22.frozen? ⟨go6, (x5_1 : Int).toNat * 5 + 3, none⟩ = false := hfr11 3; have hf11_4 : w22.frozen? ⟨go6, (x5_1 : Int).toNat * 5 + 4, none⟩ = false := hfr11 4; clear hcl11 hcc11 hfr11 hM11; replace p11 := eq_true p11; replace q11 := eq_true q11; have HX23 := zi (show Kd.R k35 35 w22 w0.heap.size (fun k_ => (P0_ k_ ∨ w.heap.size ≤ k_)) (.slice (some ⟨go6, 0, none⟩) x0_1.length co12) y549 from z2k); obtain ⟨ce23, hcl23, hM23, hcc23, hfr23⟩ := Kd.R_elem HX23.out z35 (x5_1 : Int) (of_decide_eq_true z1e) z6z; obtain rfl := k35_openM hM23; have HP23 := Kd.R_seg HX23.out (x5_1 : Int) (of_decide_eq_true z1e) z6z (seg := [.string t550]) (j := 4) hcl23 hcc23 (show 5 ≤ 5 from by decide) (x' := (⟨(rd_T35 y549 x5_1).f0, (⟨(rd_T35 y549 x5_1).f1.f0, (rd_T35 y549 x5_1).f1.f1, (rd_T35 y549 x5_1).f1.f2, t550⟩ : S25)⟩ : S35)) (k35_mkM _ _ _ (⟨(rd_T35 y549 x5_1).f0, (⟨(rd_T35 y549 x5_1).f1.f0, (rd_T35 y549 x5_1).f1.f1, (rd_T35 y549 x5_1).f1.f2, t550⟩ : S25)⟩ : S35) ) (fun _ hk => hk); have hx23_4 := hcc23 4 _ rfl; (try simp only [show (k35).sz = 5 from rfl, Nat.mul_one, Nat.add_zero] at hx23_4); have hf23_4 := hfr23 4; (try simp only [show (k35).sz = 5 from rfl, Nat.mul_one, Nat.add_zero] at hf23_4); clear hcl23 hcc23 hfr23 hM23) | ((with_reducible refine gate_store (t := 9) (p := 50) rfl ?_); refine store_event (t := 9) (p := 50) (v := ?vo_w24) (w1 := (w22.setCell ⟨go6, (x5_1 : Int).toNat * 5 + 4, none⟩ (.string t550))) ?hg ?ho ?hn ?hr ?_; (case ho => exact zr); (case hg => exact zr); (case hn => exact zr); (case hr => exact zs); intro w24 hw; have hg : w22.grownBy w24 (some go6) := (by rw [hw]; exact HP23.2); have hp_ : Kd.R k35 35 w24 w0.heap.size (fun k_ => (P0_ k_ ∨ w.heap.size ≤ k_)) (.slice (some ⟨go6, 0, none⟩) x0_1.length co12) y551 := (by rw [hw, Ny551.out]; exact HP23.1); clear HP23; have n0_ := zi hp_; have n1_ := zi ((z5c : Below w0.heap.size w0 w24)); have n2_ := zi (Kept.of_grown (S := (fun k_ => P0_ k_)) hg z2i (fun k_ e_ => (HO_0.out.1 k_ e_))); clear HO_0; clear HB; clear HK; have HO_0 := n0_; have HB := n1_; have HK := n2_; clear n0_ n1_ n2_; clear hg hw hp_))
     go_roundg k1
     case measure => have := HK1.out; omega
     case rel => exact ⟨(y551), (wrap64 ((wrap64 ((wrap64 ((wrap64 ((wrap64 (x1_1 + 1)) + 1)) + 1)) + 1)) + 1)), (wrap64 (x5_1 + 1)), z1d, z1d, H', ⟨z1h⟩, ⟨z2k⟩, ⟨z2i⟩, ⟨zt⟩⟩
    ·rw [if_neg c5] at H
     exact absurd H (by simp)
   ·rw [if_neg c3] at H
    have c3b0 := decide_eq_false c3
    clear c3
    simp only [Option.some.injEq, Prod.mk.injEq] at H
    obtain ⟨rfl, rfl⟩ := H
    obtain ⟨Ao25, co25, eo25⟩ := Kd.R_slice HO_0.out
    subst eo25
    go_wp2
    go_ret
    exact ⟨zw, z2k, zt, z2i⟩
def laws_markEntry.f (k : Nat) (a0_0 : ByteArray) (a0_1 : Int) (a0_2 : Int) (a0_3 : Int) (a0_4 : ByteArray) (l0_5 : List (S35)) (a1 : Int) : Option (Int × (List (S35))) := (laws_markNeedS.f k l0_5 a1).bind fun bt553 => (some (bt553.1, bt553.2))
set_option maxHeartbeats 8000000 in
set_option maxRecDepth 100000 in
theorem laws_markEntry.calls (k : Nat) (a0_0 : ByteArray) (a0_1 : Int) (a0_2 : Int) (a0_3 : Int) (a0_4 : ByteArray) (P0_5_ : Nat → Prop) (u9000_ : Value) (l0_5 : List (S35)) (a1 : Int) (r1 : Int) (r2 : List (S35)) (w0 w : World) (hB : Below w0.heap.size w0 w) (ho0_5 : Kd.R k35 35 w w0.heap.size P0_5_ u9000_ l0_5) (h : laws_markEntry.f k a0_0 a0_1 a0_2 a0_3 a0_4 l0_5 a1 = some (r1, r2)) :
  Calls Tryz.prog 20 #[.agg #[.string a0_0, .int .i64 a0_1, .int .i64 a0_2, .int .i64 a0_3, .string a0_4, u9000_], .int .i64 a1] w fun e w' => e = .returned (.int .i64 r1) ∧ Kd.R k35 35 w' w0.heap.size (fun k_ => (P0_5_ k_ ∨ w.heap.size ≤ k_)) u9000_ r2 ∧ Below w0.heap.size w0 w' ∧ Kept w w' (fun k_ => P0_5_ k_) := by
 have hu28 := Tryz.underlying28
 have HO0_5 := zi (show Kd.R k35 35 w w0.heap.size (fun k_ => (P0_5_ k_ ∨ w.heap.size ≤ k_)) u9000_ l0_5 from Kd.R_mono ho0_5 (fun k_ hk => (.inl hk)))
 have HK := zi (Kept.refl w (fun k_ => P0_5_ k_))
 have HW0 := zi hB.size
 have HB := zi hB
 clear hB
 have H := h
 unfold laws_markEntry.f at H
 clear h
 replace H := Option.bind_eq_some_iff.mp H
 obtain ⟨⟨t553, t554⟩, A30, H⟩ := H
 try dsimp only at H
 have A3 := zi A30
 clear A30
 simp only [Option.some.injEq, Prod.mk.injEq] at H
 obtain ⟨rfl, rfl⟩ := H
 obtain ⟨Ao4, co4, eo4⟩ := Kd.R_slice HO0_5.out
 subst eo4
 go_enter Tryz.func20, Tryz.ntmps20
 go_wp2_with (first | ((with_reducible refine gate_dst (N := 2) rfl ?_); refine box_event zr (N := 2) zr (cs := #[.string a0_0, .int .i64 a0_1, .int .i64 a0_2, .int .i64 a0_3, .string a0_4, .slice Ao4 l0_5.length co4]) (t := 28) zs ?_; intro gb552 hg w5 hbox hb; have n0_ := zi (Kd.R_below (by (with_reducible repeat (first | apply Kd.R_alloc | apply Kd.R_drewN | apply Kd.R_drew)); exact HO0_5.out) hb); have n1_ := zi (Kept.below (S := (fun k_ => P0_5_ k_)) z2i hb); have n2_ := zi (below_step zt hb); have n3_ := zi hbox; have n4_ := zi ((by rw [hg]; exact (by first | exact HK.out.1 | exact (show Kept w _ (fun k_ => P0_5_ k_) from by repeat (first | (with_reducible first | exact HK.out | apply Kept.alloc | apply Kept.drewN | apply Kept.drew) | exact HK.out)).1) : w.heap.size ≤ gb552)); have n5_ := zi ((z5s : w0.heap.size ≤ gb552)); clear HO0_5; clear HK; clear HB; have HO0_5 := n0_; have HK := n1_; have HB := n2_; have BK552 := n3_; have GW552 := n4_; have GE552 := n5_; clear n0_ n1_ n2_ n3_ n4_ n5_; clear hb hbox hg; obtain ⟨hcz6_0, hcz6_1, hcz6_2, hcz6_3, hcz6_4, hcz6_5, hfz6_0, hfz6_1, hfz6_2, hfz6_3, hfz6_4, hfz6_5⟩ := zg BK552.out) | ((with_reducible refine gate_callee (f := 47) rfl ?_); refine goesL_ (some 8) rfl rfl Tryz.func47 z1a rfl #[.slice Ao4 l0_5.length co4, .int .i64 a1] rfl z1b ?_; (with_reducible refine (laws_markNeedS.calls k (fun k_ => some k_ = (.slice Ao4 l0_5.length co4 : Value).ownBlock) (.slice Ao4 l0_5.length co4) l0_5 a1 t553 t554 w0 _ ?side1 ?side2 A3.out).mono ?_); (case side1 => repeat (first | (with_reducible first | exact HB.out | apply below_alloc | apply pw_below_drewN | apply below_drew1 | refine below_set ?_ GE552.out) | exact HB.out)); (case side2 => exact Kd.R_tight rfl HO0_5.out); rintro e w7 ⟨rfl, hy0, hb, hkp⟩; refine ⟨_, rfl, ?_⟩; have n0_ := zi (Kd.R_reok rfl hy0 (fun k_ e_ => HO0_5.out.1 k_ e_)); have n1_ := zi (blk_kept (by (repeat refine zh ?_); exact BK552.out) hkp (fun hs_ => (fun e_ => (Kd.R_ne HO0_5.out BK552.out z1g) e_) hs_)); have n2_ := zi (Kept.then_ (S := (fun k_ => P0_5_ k_)) (by repeat (first | (with_reducible first | exact HK.out | apply Kept.alloc | apply Kept.drewN | apply Kept.drew | refine Kept.setCell ?_ (.inr GW552.out) _) | exact HK.out)) hkp (fun k_ hs_ => (fun e_ => (HO0_5.out.1 k_ e_.symm)) hs_)); have n3_ := zi hb; clear HO0_5; clear BK552; clear HK; clear HB; have HO0_5 := n0_; have BK552 := n1_; have HK := n2_; have HB := n3_; clear n0_ n1_ n2_ n3_; (try clear hb); (try clear hkp); (try clear hy0)))
 go_ret
 exact ⟨zw, by (with_reducible repeat (first | apply Kd.R_alloc | apply Kd.R_drewN | apply Kd.R_drew)); exact HO0_5.out, by repeat (first | (with_reducible first | exact HB.out | apply below_alloc | apply pw_below_drewN | apply below_drew1 | refine below_set ?_ GE552.out) | exact HB.out), by repeat (first | (with_reducible first | exact HK.out | apply Kept.alloc | apply Kept.drewN | apply Kept.drew | refine Kept.setCell ?_ (.inr GW552.out) _) | exact HK.out)⟩
end Go.Proofs.YtgdknepphkhnlaaGreatDoor.X
