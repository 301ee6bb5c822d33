/- The law FnExactPutEntry, as a plain statement: the program's PutEntry answers as the reference's, and leaves its argument alone. Conditions: those of the row's reading alone. -/
/- Part 8 of 10 of this claim's texts. -/
import Derived.Laws.BitsLemmas
import Derived.Lib.Atoi
import Derived.Lib.ItoaNum
import Derived.Test.YtgdknepphkhnlaaGreatDoorCFnExactPutEntry0
import Derived.Test.YtgdknepphkhnlaaGreatDoorCFnExactPutEntry1
import Derived.Test.YtgdknepphkhnlaaGreatDoorCFnExactPutEntry3
import Derived.Test.YtgdknepphkhnlaaGreatDoorCFnExactPutEntry4
import Derived.Test.YtgdknepphkhnlaaGreatDoorCFnExactPutEntry6
namespace Go.Proofs.YtgdknepphkhnlaaGreatDoor.X
open Go.RowKit Go.Proofs.YtgdknepphkhnlaaGreatDoorW.PrintWords Go.Proofs.YtgdknepphkhnlaaGreatDoorW.PrintLast Go.Proofs.YtgdknepphkhnlaaGreatDoorW.PrintMore
attribute [local go_sem] max2_int min2_int max_two min_two max_three min_three max_four min_four
set_option linter.unusedVariables false
set_option linter.unusedSimpArgs false
def laws_toNeed.f (a0_0 : ByteArray) (a0_1 : Int) (a0_2 : Int) (a0_3 : Int) (a0_4 : ByteArray) : Option (ByteArray × Int × Int × Int × ByteArray) := (laws_toVersion.f a0_1 a0_2 a0_3 a0_4).bind fun bt342 => (some (a0_0, bt342.1, bt342.2.1, bt342.2.2.1, bt342.2.2.2))
set_option maxHeartbeats 8000000 in
set_option maxRecDepth 100000 in
theorem laws_toNeed.calls (a0_0 : ByteArray) (a0_1 : Int) (a0_2 : Int) (a0_3 : Int) (a0_4 : ByteArray) (r1 : ByteArray) (r2 : Int) (r3 : Int) (r4 : Int) (r5 : ByteArray) (w : World) (h : laws_toNeed.f a0_0 a0_1 a0_2 a0_3 a0_4 = some (r1, r2, r3, r4, r5)) :
  Calls Tryz.prog 90 #[.agg #[.string a0_0, .int .i64 a0_1, .int .i64 a0_2, .int .i64 a0_3, .string a0_4]] w fun e w' => e = .returned (.agg #[.string r1, .int .i64 r2, .int .i64 r3, .int .i64 r4, .string r5]) ∧ Below w.heap.size w w' := by
 have hu110 := Tryz.underlying110
 have hu35 := Tryz.underlying35
 have hu45 := Tryz.underlying45
 have hu25 := Tryz.underlying25
 have HB := Aside0.mk (Below.refl w.heap.size w)
 have H : ((laws_toVersion.f a0_1 a0_2 a0_3 a0_4).bind fun bt342 => (some (a0_0, bt342.1, bt342.2.1, bt342.2.2.1, bt342.2.2.2))) = some (r1, r2, r3, r4, r5) := h
 clear h
 replace H := Option.bind_eq_some_iff.mp H
 obtain ⟨⟨t342, t343, t344, t345⟩, A20, H⟩ := H
 replace H : (some (a0_0, t342, t343, t344, t345)) = some (r1, r2, r3, r4, r5) := H
 have A2 := Aside0.mk A20
 clear A20
 simp only [Option.some.injEq, Prod.mk.injEq] at H
 obtain ⟨rfl, rfl, rfl, rfl, rfl⟩ := H
 go_enter Tryz.func90, Tryz.ntmps90
 go_wp2_with (first | ((with_reducible refine gate_dst (N := 1) rfl ?_); refine box_event zw (N := 1) zw (cs := #[.string a0_0, .int .i64 a0_1, .int .i64 a0_2, .int .i64 a0_3, .string a0_4]) (t := 110) zx ?_; intro gb339 hg w3 hbox hb; have n0_ := Aside0.mk (below_step zp hb); have n1_ := Aside0.mk hbox; have n2_ := Aside0.mk ((z3s : w.heap.size ≤ gb339)); have n3_ := Aside0.mk ((z3s : w.heap.size ≤ gb339)); clear HB; have HB := n0_; have BK339 := n1_; have GW339 := n2_; have GE339 := n3_; clear n0_ n1_ n2_ n3_; clear hb hbox hg) | ((with_reducible refine gate_dst (N := 2) rfl ?_); refine box_event zw (N := 2) zw (cs := #[.string (⟨#[]⟩ : ByteArray), .int .i64 0, .int .i64 0, .int .i64 0, .string (⟨#[]⟩ : ByteArray)]) (t := 35) zx ?_; intro gb340 hg w4 hbox hb; have n0_ := Aside0.mk (blk_below (g := gb339) (o := .cells #[.string a0_0, .int .i64 a0_1, .int .i64 a0_2, .int .i64 a0_3, .string a0_4] 110 (0, 0)) z2y hb); have n1_ := Aside0.mk (below_step z2z hb); have n2_ := Aside0.mk hbox; have n3_ := Aside0.mk ((by rw [hg]; exact (below_size z2z) : w.heap.size ≤ gb340)); have n4_ := Aside0.mk ((by rw [hg]; exact (below_size z2z) : w.heap.size ≤ gb340)); have n5_ := Aside0.mk ((by rw [hg]; exact Nat.ne_of_lt (blk_lt (g := gb339) (o := .cells #[.string a0_0, .int .i64 a0_1, .int .i64 a0_2, .int .i64 a0_3, .string a0_4] 110 (0, 0)) z2y) : gb339 ≠ gb340)); have n6_ := Aside0.mk ((by rw [hg]; exact Nat.ne_of_gt (blk_lt (g := gb339) (o := .cells #[.string a0_0, .int .i64 a0_1, .int .i64 a0_2, .int .i64 a0_3, .string a0_4] 110 (0, 0)) z2y) : gb340 ≠ gb339)); clear BK339; clear HB; have BK339 := n0_; have HB := n1_; have BK340 := n2_; have GW340 := n3_; have GE340 := n4_; have NB339_340 := n5_; have NB340_339 := n6_; clear n0_ n1_ n2_ n3_ n4_ n5_ n6_; clear hb hbox hg) | ((with_reducible refine gate_dst (N := 3) rfl ?_); refine box_event zw (N := 3) zw (cs := #[.string (⟨#[]⟩ : ByteArray), .int .i64 0, .int .i64 0, .int .i64 0, .string (⟨#[]⟩ : ByteArray)]) (t := 35) zx ?_; intro gb341 hg w5 hbox hb; have n0_ := Aside0.mk (blk_below (g := gb339) (o := .cells #[.string a0_0, .int .i64 a0_1, .int .i64 a0_2, .int .i64 a0_3, .string a0_4] 110 (0, 0)) z2y hb); have n1_ := Aside0.mk (blk_below (g := gb340) (o := .cells #[.string (⟨#[]⟩ : ByteArray), .int .i64 0, .int .i64 0, .int .i64 0, .string (⟨#[]⟩ : ByteArray)] 35 (0, 0)) z3a hb); have n2_ := Aside0.mk (below_step z3b hb); have n3_ := Aside0.mk hbox; have n4_ := Aside0.mk ((by rw [hg]; exact (below_size z3b) : w.heap.size ≤ gb341)); have n5_ := Aside0.mk ((by rw [hg]; exact (below_size z3b) : w.heap.size ≤ gb341)); have n6_ := Aside0.mk ((by rw [hg]; exact Nat.ne_of_lt (blk_lt (g := gb339) (o := .cells #[.string a0_0, .int .i64 a0_1, .int .i64 a0_2, .int .i64 a0_3, .string a0_4] 110 (0, 0)) z2y) : gb339 ≠ gb341)); have n7_ := Aside0.mk ((by rw [hg]; exact Nat.ne_of_gt (blk_lt (g := gb339) (o := .cells #[.string a0_0, .int .i64 a0_1, .int .i64 a0_2, .int .i64 a0_3, .string a0_4] 110 (0, 0)) z2y) : gb341 ≠ gb339)); have n8_ := Aside0.mk ((by rw [hg]; exact Nat.ne_of_lt (blk_lt (g := gb340) (o := .cells #[.string (⟨#[]⟩ : ByteArray), .int .i64 0, .int .i64 0, .int .i64 0, .string (⟨#[]⟩ : ByteArray)] 35 (0, 0)) z3a) : gb340 ≠ gb341)); have n9_ := Aside0.mk ((by rw [hg]; exact Nat.ne_of_gt (blk_lt (g := gb340) (o := .cells #[.string (⟨#[]⟩ : ByteArray), .int .i64 0, .int .i64 0, .int .i64 0, .string (⟨#[]⟩ : ByteArray)] 35 (0, 0)) z3a) : gb341 ≠ gb340)); clear BK339; clear BK340; clear HB; have BK339 := n0_; have BK340 := n1_; have HB := n2_; have BK341 := n3_; have GW341 := n4_; have GE341 := n5_; have NB339_341 := n6_; have NB341_339 := n7_; have NB340_341 := n8_; have NB341_340 := n9_; clear n0_ n1_ n2_ n3_ n4_ n5_ n6_ n7_ n8_ n9_; clear hb hbox hg; have hnb6 := NB339_340.out; have hnc6 := NB340_339.out; have hnb7 := NB339_341.out; have hnc7 := NB341_339.out; obtain ⟨hcz8_0, hcz8_1, hcz8_2, hcz8_3, hcz8_4, hfz8_0, hfz8_1, hfz8_2, hfz8_3, hfz8_4⟩ := ze BK339.out; have hnb9 := NB341_340.out; have hnc9 := NB340_341.out; obtain ⟨hcz10_0, hcz10_1, hcz10_2, hcz10_3, hcz10_4, hfz10_0, hfz10_1, hfz10_2, hfz10_3, hfz10_4⟩ := ze BK341.out) | ((with_reducible refine gate_callee (f := 62) rfl ?_); refine goesL_ (some 9) rfl rfl Tryz.func62 zi rfl #[.agg #[.int .i64 a0_1, .int .i64 a0_2, .int .i64 a0_3, .string a0_4]] rfl zo ?_; (with_reducible refine (laws_toVersion.calls a0_1 a0_2 a0_3 a0_4 t342 t343 t344 t345 _ A2.out).mono ?_); rintro e w11 ⟨rfl, hb⟩; refine ⟨_, rfl, ?_⟩; have n0_ := Aside0.mk (blk_below (g := gb339) (o := .cells #[.string a0_0, .int .i64 a0_1, .int .i64 a0_2, .int .i64 a0_3, .string a0_4] 110 (0, 0)) (by (with_reducible repeat (first | refine blk_drewN ?_ _ | refine blk_drew ?_ | refine blk_alloc ?_ _)); refine blk_far ?_ NB339_341.out _; (with_reducible repeat (first | refine blk_drewN ?_ _ | refine blk_drew ?_ | refine blk_alloc ?_ _)); exact BK339.out) hb); have n1_ := Aside0.mk (blk_below (g := gb340) (o := .cells #[.string (⟨#[]⟩ : ByteArray), .int .i64 0, .int .i64 0, .int .i64 0, .string (⟨#[]⟩ : ByteArray)] 35 (0, 0)) (by (with_reducible repeat (first | refine blk_drewN ?_ _ | refine blk_drew ?_ | refine blk_alloc ?_ _)); refine blk_far ?_ NB340_341.out _; (with_reducible repeat (first | refine blk_drewN ?_ _ | refine blk_drew ?_ | refine blk_alloc ?_ _)); exact BK340.out) hb); have n2_ := Aside0.mk (blk_below (g := gb341) (o := .cells #[.string a0_0, .int .i64 0, .int .i64 0, .int .i64 0, .string (⟨#[]⟩ : ByteArray)] 35 (0, 0)) (by (with_reducible repeat (first | refine blk_drewN ?_ _ | refine blk_drew ?_ | refine blk_alloc ?_ _)); refine blk_put (cs := #[.string (⟨#[]⟩ : ByteArray), .int .i64 0, .int .i64 0, .int .i64 0, .string (⟨#[]⟩ : ByteArray)]) ?_ 0 _ rfl; (with_reducible repeat (first | refine blk_drewN ?_ _ | refine blk_drew ?_ | refine blk_alloc ?_ _)); exact BK341.out) hb); have n3_ := Aside0.mk (below_step (by repeat (first | (with_reducible first | exact HB.out | apply below_alloc | apply pw_below_drewN | apply below_drew1 | refine below_set ?_ GE339.out | refine below_set ?_ GE340.out | refine below_set ?_ GE341.out) | exact HB.out)) hb); clear BK339; clear BK340; clear BK341; clear HB; have BK339 := n0_; have BK340 := n1_; have BK341 := n2_; have HB := n3_; clear n0_ n1_ n2_ n3_; (try clear hb); (try clear hb2); (try clear hk); (try clear hi); obtain ⟨hcz12_0, hcz12_1, hcz12_2, hcz12_3, hcz12_4, hfz12_0, hfz12_1, hfz12_2, hfz12_3, hfz12_4⟩ := ze BK341.out; obtain ⟨hcz13_0, hcz13_1, hcz13_2, hcz13_3, hcz13_4, hfz13_0, hfz13_1, hfz13_2, hfz13_3, hfz13_4⟩ := ze BK340.out))
 refine bodyPost_ret (results_cell_row rfl _ _ gb340 35 #[.string a0_0, .int .i64 t342, .int .i64 t343, .int .i64 t344, .string t345] (0, 0) _ rfl (by (with_reducible repeat (first | refine blk_drewN ?_ _ | refine blk_drew ?_ | refine blk_alloc ?_ _)); refine blk_put (cs := #[.string a0_0, .int .i64 t342, .int .i64 t343, .int .i64 t344, .string (⟨#[]⟩ : ByteArray)]) ?_ 4 _ rfl; (with_reducible repeat (first | refine blk_drewN ?_ _ | refine blk_drew ?_ | refine blk_alloc ?_ _)); refine blk_put (cs := #[.string a0_0, .int .i64 t342, .int .i64 t343, .int .i64 0, .string (⟨#[]⟩ : ByteArray)]) ?_ 3 _ rfl; (with_reducible repeat (first | refine blk_drewN ?_ _ | refine blk_drew ?_ | refine blk_alloc ?_ _)); refine blk_put (cs := #[.string a0_0, .int .i64 t342, .int .i64 0, .int .i64 0, .string (⟨#[]⟩ : ByteArray)]) ?_ 2 _ rfl; (with_reducible repeat (first | refine blk_drewN ?_ _ | refine blk_drew ?_ | refine blk_alloc ?_ _)); refine blk_put (cs := #[.string a0_0, .int .i64 0, .int .i64 0, .int .i64 0, .string (⟨#[]⟩ : ByteArray)]) ?_ 1 _ rfl; (with_reducible repeat (first | refine blk_drewN ?_ _ | refine blk_drew ?_ | refine blk_alloc ?_ _)); refine blk_put (cs := #[.string (⟨#[]⟩ : ByteArray), .int .i64 0, .int .i64 0, .int .i64 0, .string (⟨#[]⟩ : ByteArray)]) ?_ 0 _ rfl; (with_reducible repeat (first | refine blk_drewN ?_ _ | refine blk_drew ?_ | refine blk_alloc ?_ _)); refine blk_far ?_ NB340_341.out _; (with_reducible repeat (first | refine blk_drewN ?_ _ | refine blk_drew ?_ | refine blk_alloc ?_ _)); refine blk_far ?_ NB340_341.out _; (with_reducible repeat (first | refine blk_drewN ?_ _ | refine blk_drew ?_ | refine blk_alloc ?_ _)); refine blk_far ?_ NB340_341.out _; (with_reducible repeat (first | refine blk_drewN ?_ _ | refine blk_drew ?_ | refine blk_alloc ?_ _)); refine blk_far ?_ NB340_341.out _; (with_reducible repeat (first | refine blk_drewN ?_ _ | refine blk_drew ?_ | refine blk_alloc ?_ _)); exact BK340.out) Tryz.underlying35 rfl zi) rfl ?_
 exact ⟨zr, by repeat (first | (with_reducible first | exact HB.out | apply below_alloc | apply pw_below_drewN | apply below_drew1 | refine below_set ?_ GE339.out | refine below_set ?_ GE340.out | refine below_set ?_ GE341.out) | exact HB.out)⟩
end Go.Proofs.YtgdknepphkhnlaaGreatDoor.X

namespace Go.Proofs.YtgdknepphkhnlaaGreatDoor.X
open Go.RowKit Go.Proofs.YtgdknepphkhnlaaGreatDoorW.PrintWords Go.Proofs.YtgdknepphkhnlaaGreatDoorW.PrintLast Go.Proofs.YtgdknepphkhnlaaGreatDoorW.PrintMore
attribute [local go_sem] max2_int min2_int max_two min_two max_three min_three max_four min_four
set_option linter.unusedVariables false
set_option linter.unusedSimpArgs false
def laws_toNeedS.l0 : Nat → List (S110) → List (S35) → Int → Option ((List (S35)))
 | 0, _, _, _ => none
 | k + 1, x0, x3, x4 => if x4 < (x0.length : Int) then (if 0 ≤ x4 then ((laws_toNeed.f ((rd_T110 x0 x4).f0) ((rd_T110 x0 x4).f1.f0) ((rd_T110 x0 x4).f1.f1) ((rd_T110 x0 x4).f1.f2) ((rd_T110 x0 x4).f1.f3)).bind fun bt350 => (if x4 < (x3.length : Int) then (laws_toNeedS.l0 k x0 (x3.set (x4 : Int).toNat (⟨bt350.1, (⟨bt350.2.1, bt350.2.2.1, bt350.2.2.2.1, bt350.2.2.2.2⟩ : S25)⟩ : S35)) (wrap64 (x4 + 1))) else (none))) else (none)) else (some x3)
def laws_toNeedS.f (k : Nat) (l0 : List (S110)) : Option ((List (S35))) := if 0 ≤ (l0.length : Int) then (if ((l0.length : Int) : Int).toNat ≤ 5026338869833 then (laws_toNeedS.l0 k l0 (List.replicate ((l0.length : Int) : Int).toNat z35) 0) else (none)) else (none)
set_option maxHeartbeats 8000000 in
set_option maxRecDepth 100000 in
theorem laws_toNeedS.calls (k : Nat) (A0 : Option Addr) (c0 : Nat) (l0 : List (S110)) (r : List (S35)) (w : World) (hr0 : Kd.C k110 w A0 l0.length l0) (hc0 : l0.length ≤ c0) (h : laws_toNeedS.f k l0 = some r) :
  Calls Tryz.prog 63 #[.slice A0 l0.length c0] w fun e w' => ∃ v0_ : Value, e = .returned (v0_) ∧ Kd.R k35 35 w' w.heap.size (fun _ => True) v0_ r ∧ Below w.heap.size w w' := by
 have hu110 := Tryz.underlying110
 have hu35 := Tryz.underlying35
 have HR0 := Aside0.mk hr0
 have HC0 := Aside0.mk hc0
 clear hr0 hc0
 have HB := Aside0.mk (Below.refl w.heap.size w)
 have H : (if 0 ≤ (l0.length : Int) then (if ((l0.length : Int) : Int).toNat ≤ 5026338869833 then (laws_toNeedS.l0 k l0 (List.replicate ((l0.length : Int) : Int).toNat z35) 0) else (none)) else (none)) = some r := h
 clear h
 by_cases c2 : 0 ≤ (l0.length : Int)
 ·rw [if_pos c2] at H
  have c2b0 := eq_true c2
  have c2b1 : decide (0 ≤ (l0.length : Int)) = true := decide_eq_true c2
  clear c2
  by_cases c3 : ((l0.length : Int) : Int).toNat ≤ 5026338869833
  ·rw [if_pos c3] at H
   have c3b0 := eq_true c3
   have c3b1 : decide (((l0.length : Int) : Int).toNat ≤ 5026338869833) = true := decide_eq_true c3
   clear c3
   obtain ⟨y346, hy346⟩ : ∃ y_ : List (S35), y_ = (List.replicate ((l0.length : Int) : Int).toNat z35) := ⟨_, rfl⟩
   replace H : (laws_toNeedS.l0 k l0 y346 0) = some r := by first | (rw [hy346]; with_reducible exact H) | (have H2_ := (Option.bind_some _ _).symm.trans H; rw [hy346]; with_reducible exact H2_) | (have H2_ := (Option.bind_some _ _).symm.trans H; with_reducible exact H2_) | with_reducible exact H | (rw [hy346]; exact H) | exact H
   have Ny346 := Aside0.mk hy346
   clear hy346
   have H' := Aside0.mk H
   clear H
   go_enter Tryz.func63, Tryz.ntmps63
   go_wp2_with (first | ((with_reducible refine gate_dst (N := 7) rfl ?_); refine Kd.R_make k35 _ 35 rfl (N := 7) rfl 26 _ _ rfl (l0.length : Int) rfl rfl Tryz.underlying26 (.agg #[(.string ⟨#[]⟩), (.int .i64 0), (.int .i64 0), (.int .i64 0), (.string ⟨#[]⟩)]) 56 info35 rfl zh zg z35 (ok := fun _ => True) (okp := fun _ => True) (k35_mkM _ _ _ z35 ) (fun _ hk => hk) trivial (of_decide_eq_true zm) (Nat.le_trans (Nat.mul_le_mul_right _ (of_decide_eq_true zm : (l0.length : Int).toNat ≤ 5026338869833)) zg) (Below.refl _ _) (Nat.le_refl _) ?_; intro v347 w4 ho5 hb hg_ hnew_; clear hg_ hnew_; (first | rw [← Ny346.out] at ho5 | (simp only [Int.reduceToNat] at ho5; rw [← Ny346.out] at ho5)); have n0_ := Aside0.mk (Kd.R_lower ho5 (below_size zp)); have n1_ := Aside0.mk (below_step zp hb); clear HB; have HO348 := n0_; have HB := n1_; clear n0_ n1_; clear hb ho5))
   go_loopg [4] k (fun kq v4 w' => ∃ (x3_1 : List (S35)) (x4_1 : Int), v4 = .int .i64 x4_1 ∧ Aside0 (laws_toNeedS.l0 kq l0 x3_1 x4_1 = some r) ∧ Aside0 (kq ≤ k) ∧ Aside0 (Kd.R k35 35 w' w.heap.size (fun _ => True) v347 x3_1) ∧ Aside0 (Below w.heap.size w w'))
   case atStart => exact ⟨(y346), (0), zj, H', ⟨Nat.le_refl _⟩, ⟨by (with_reducible repeat (first | apply Kd.R_alloc | apply Kd.R_drewN | apply Kd.R_drew)); exact HO348.out⟩, ⟨zp⟩⟩
   case round =>
    clear H'
    try clear c2
    try clear c2b0
    try clear c2b1
    try clear p2
    try clear c3
    try clear c3b0
    try clear c3b1
    obtain ⟨x3_1, x4_1, rfl, HA, HK1, HO_3, HB⟩ := hrel
    cases gk with
    | zero => exact absurd HA.out (by simp [laws_toNeedS.l0])
    | succ k1 =>
     have H := HA.out
     clear HA
     simp only [laws_toNeedS.l0] at H
     by_cases c6 : x4_1 < (l0.length : Int)
     ·rw [if_pos c6] at H
      have c6b0 : decide (x4_1 < (l0.length : Int)) = true := decide_eq_true c6
      clear c6
      by_cases c7 : 0 ≤ x4_1
      ·rw [if_pos c7] at H
       have c7b0 : decide (0 ≤ x4_1) = true := decide_eq_true c7
       clear c7
       replace H := Option.bind_eq_some_iff.mp H
       obtain ⟨⟨t350, t351, t352, t353, t354⟩, A80, H⟩ := H
       replace H : (if x4_1 < (x3_1.length : Int) then (laws_toNeedS.l0 k1 l0 (x3_1.set (x4_1 : Int).toNat (⟨t350, (⟨t351, t352, t353, t354⟩ : S25)⟩ : S35)) (wrap64 (x4_1 + 1))) else (none)) = some r := H
       have A8 := Aside0.mk A80
       clear A80
       by_cases c9 : x4_1 < (x3_1.length : Int)
       ·rw [if_pos c9] at H
        have c9b0 : decide (x4_1 < (x3_1.length : Int)) = true := decide_eq_true c9
        clear c9
        obtain ⟨y355, hy355⟩ : ∃ y_ : List (S35), y_ = (x3_1.set (x4_1 : Int).toNat (⟨t350, (⟨t351, t352, t353, t354⟩ : S25)⟩ : S35)) := ⟨_, rfl⟩
        replace H : (laws_toNeedS.l0 k1 l0 y355 (wrap64 (x4_1 + 1))) = some r := by first | (rw [hy355]; with_reducible exact H) | (have H2_ := (Option.bind_some _ _).symm.trans H; rw [hy355]; with_reducible exact H2_) | (have H2_ := (Option.bind_some _ _).symm.trans H; with_reducible exact H2_) | with_reducible exact H | (rw [hy355]; exact H) | exact H
        have Ny355 := Aside0.mk hy355
        clear hy355
        have H' := Aside0.mk H
        clear H
        have p349 : 0 ≤ (x4_1 : Int) := of_decide_eq_true zm
        have q349 : x4_1 < (l0.length : Int) := of_decide_eq_true zm
        obtain ⟨ad349, e349, hx349_0, hx349_1, hx349_2, hx349_3, hx349_4⟩ := at_T110 HR0.out x4_1 p349 q349
        cases e349
        replace hx349_0 := (HB.out.cell (World.block_lt_of_cell? w _ hx349_0)).trans hx349_0
        replace hx349_1 := (HB.out.cell (World.block_lt_of_cell? w _ hx349_1)).trans hx349_1
        replace hx349_2 := (HB.out.cell (World.block_lt_of_cell? w _ hx349_2)).trans hx349_2
        replace hx349_3 := (HB.out.cell (World.block_lt_of_cell? w _ hx349_3)).trans hx349_3
        replace hx349_4 := (HB.out.cell (World.block_lt_of_cell? w _ hx349_4)).trans hx349_4
        replace p349 := eq_true p349
        replace q349 := eq_true q349
        go_wp2_with (first | ((with_reducible refine gate_callee (f := 90) rfl ?_); refine goesL_ (some 20) rfl rfl Tryz.func90 zi rfl #[.agg #[.string ((rd_T110 l0 x4_1).f0), .int .i64 ((rd_T110 l0 x4_1).f1.f0), .int .i64 ((rd_T110 l0 x4_1).f1.f1), .int .i64 ((rd_T110 l0 x4_1).f1.f2), .string ((rd_T110 l0 x4_1).f1.f3)]] rfl zo ?_; (with_reducible refine (laws_toNeed.calls ((rd_T110 l0 x4_1).f0) ((rd_T110 l0 x4_1).f1.f0) ((rd_T110 l0 x4_1).f1.f1) ((rd_T110 l0 x4_1).f1.f2) ((rd_T110 l0 x4_1).f1.f3) t350 t351 t352 t353 t354 _ A8.out).mono ?_); rintro e w11 ⟨rfl, hb⟩; refine ⟨_, rfl, ?_⟩; have n0_ := Aside0.mk (Kd.R_below zq hb); have n1_ := Aside0.mk (below_step zp hb); clear HO_3; clear HB; have HO_3 := n0_; have HB := n1_; clear n0_ n1_; (try clear hb); (try clear hb2); (try clear hk); (try clear hi); have p10 : 0 ≤ (x4_1 : Int) := of_decide_eq_true zm; have q10 : (x4_1 : Int) < ((x3_1.length : Int) : Int) := of_decide_eq_true zm; obtain ⟨go10, co10, eo10, gb10, gl10, cl10, HG10⟩ := Kd.R_form HO_3.out zg; (first | cases eo10 | (injection eo10 with ea_ en_ ec_; (first | subst ea_ | (injection ea_ with ea_; subst ea_)); subst ec_; clear en_)); have GB10 := Aside0.mk gb10; have GG10 := Aside0.mk HG10; clear gb10 gl10 HG10; obtain ⟨ce10, hcl10, hM10, hcc10, hfr10⟩ := Kd.R_elem HO_3.out z35 (x4_1 : Int) p10 q10; obtain rfl := k35_openM hM10; have hx10_0 : w11.cell? ⟨go10, (x4_1 : Int).toNat * 5, none⟩ = some (.string ((rd_T35 x3_1 x4_1).f0)) := hcc10 0 _ rfl; have hx10_1 : w11.cell? ⟨go10, (x4_1 : Int).toNat * 5 + 1, none⟩ = some (.int .i64 ((rd_T35 x3_1 x4_1).f1.f0)) := hcc10 1 _ rfl; have hx10_2 : w11.cell? ⟨go10, (x4_1 : Int).toNat * 5 + 2, none⟩ = some (.int .i64 ((rd_T35 x3_1 x4_1).f1.f1)) := hcc10 2 _ rfl; have hx10_3 : w11.cell? ⟨go10, (x4_1 : Int).toNat * 5 + 3, none⟩ = some (.int .i64 ((rd_T35 x3_1 x4_1).f1.f2)) := hcc10 3 _ rfl; have hx10_4 : w11.cell? ⟨go10, (x4_1 : Int).toNat * 5 + 4, none⟩ = some (.string ((rd_T35 x3_1 x4_1).f1.f3)) := hcc10 4 _ rfl; have hf10_0 : w11.frozen? ⟨go10, (x4_1 : Int).toNat * 5, none⟩ = false := hfr10 0; have hf10_1 : w11.frozen? ⟨go10, (x4_1 : Int).toNat * 5 + 1, none⟩ = false := hfr10 1; have hf10_2 : w11.frozen? ⟨go10, (x4_1 : Int).toNat * 5 + 2, none⟩ = false := hfr10 2; have hf10_3 : w11.frozen? ⟨go10, (x4_1 : Int).toNat * 5 + 3, none⟩ = false := hfr10 3; have hf10_4 : w11.frozen? ⟨go10, (x4_1 : Int).toNat * 5 + 4, none⟩ = false := hfr10 4; clear hcl10 hcc10 hfr10 hM10; replace p10 := eq_true p10; replace q10 := eq_true q10; have HX12 := Aside0.mk (show Kd.R k35 35 w11 w.heap.size (fun _ => True) (.slice (some ⟨go10, 0, none⟩) x3_1.length co10) x3_1 from zq); obtain ⟨ce12, hcl12, hM12, hcc12, hfr12⟩ := Kd.R_elem HX12.out z35 (x4_1 : Int) (of_decide_eq_true zm) (by have h_ : (x4_1 : Int) < ((x3_1.length : Int) : Int) := of_decide_eq_true zm; first | exact h_ | (have e_ := (Kd.R_reads' HO_3.out).1; omega) | simpa using h_); obtain rfl := k35_openM hM12; have HP12 := Kd.R_seg HX12.out (x4_1 : Int) (of_decide_eq_true zm) (by have h_ : (x4_1 : Int) < ((x3_1.length : Int) : Int) := of_decide_eq_true zm; first | exact h_ | (have e_ := (Kd.R_reads' HO_3.out).1; omega) | simpa using h_) (seg := [.string t350, .int .i64 t351, .int .i64 t352, .int .i64 t353, .string t354]) (j := 0) hcl12 hcc12 (show 5 ≤ 5 from by decide) (x' := (⟨t350, (⟨t351, t352, t353, t354⟩ : S25)⟩ : S35)) (k35_mkM _ _ _ (⟨t350, (⟨t351, t352, t353, t354⟩ : S25)⟩ : S35) ) (fun _ hk => hk); have hx12_0 := hcc12 0 _ rfl; (try simp only [show (k35).sz = 5 from rfl, Nat.mul_one, Nat.add_zero] at hx12_0); have hf12_0 := hfr12 0; (try simp only [show (k35).sz = 5 from rfl, Nat.mul_one, Nat.add_zero] at hf12_0); have hx12_1 := hcc12 1 _ rfl; (try simp only [show (k35).sz = 5 from rfl, Nat.mul_one, Nat.add_zero] at hx12_1); have hf12_1 := hfr12 1; (try simp only [show (k35).sz = 5 from rfl, Nat.mul_one, Nat.add_zero] at hf12_1); have hx12_2 := hcc12 2 _ rfl; (try simp only [show (k35).sz = 5 from rfl, Nat.mul_one, Nat.add_zero] at hx12_2); have hf12_2 := hfr12 2; (try simp only [show (k35).sz = 5 from rfl, Nat.mul_one, Nat.add_zero] at hf12_2); have hx12_3 := hcc12 3 _ rfl; (try simp only [show (k35).sz = 5 from rfl, Nat.mul_one, Nat.add_zero] at hx12_3); have hf12_3 := hfr12 3; (try simp only [show (k35).sz = 5 from rfl, Nat.mul_one, Nat.add_zero] at hf12_3); have hx12_4 := hcc12 4 _ rfl; (try simp only [show (k35).sz = 5 from rfl, Nat.mul_one, Nat.add_zero] at hx12_4); have hf12_4 := hfr12 4; (try simp only [show (k35).sz = 5 from rfl, Nat.mul_one, Nat.add_zero] at hf12_4); clear hcl12 hcc12 hfr12 hM12) | ((with_reducible refine gate_store (t := 35) (p := 21) rfl ?_); refine store_event (t := 35) (p := 21) (v := ?vo_w13) (w1 := (((((w11.setCell ⟨go10, (x4_1 : Int).toNat * 5, none⟩ (.string t350)).setCell ⟨go10, (x4_1 : Int).toNat * 5 + 1, none⟩ (.int .i64 t351)).setCell ⟨go10, (x4_1 : Int).toNat * 5 + 2, none⟩ (.int .i64 t352)).setCell ⟨go10, (x4_1 : Int).toNat * 5 + 3, none⟩ (.int .i64 t353)).setCell ⟨go10, (x4_1 : Int).toNat * 5 + 4, none⟩ (.string t354))) ?hg ?ho ?hn ?hr ?_; (case ho => exact zw); (case hg => exact zw); (case hn => exact zw); (case hr => exact zx); intro w13 hw; have hg : w11.grownBy w13 (some go10) := (by rw [hw]; exact HP12.2); have hp_ : Kd.R k35 35 w13 w.heap.size (fun _ => True) (.slice (some ⟨go10, 0, none⟩) x3_1.length co10) y355 := (by rw [hw, Ny355.out]; exact HP12.1); clear HP12; have n0_ := Aside0.mk hp_; have n1_ := Aside0.mk ((by rw [hw]; exact below_set (below_set (below_set (below_set (below_set (HB.out) GB10.out) GB10.out) GB10.out) GB10.out) GB10.out : Below w.heap.size w w13)); clear HO_3; clear HB; have HO_3 := n0_; have HB := n1_; clear n0_ n1_; clear hg hw hp_))
        go_roundg k1
        case measure => have := HK1.out; omega
        case rel => exact ⟨(y355), (wrap64 (x4_1 + 1)), zj, H', ⟨zn⟩, ⟨zq⟩, ⟨zp⟩⟩
       ·rw [if_neg c9] at H
        exact absurd H (by simp)
      ·rw [if_neg c7] at H
       exact absurd H (by simp)
     ·rw [if_neg c6] at H
      have c6b0 : decide (x4_1 < (l0.length : Int)) = false := decide_eq_false c6
      clear c6
      obtain rfl := Option.some.inj H
      go_wp2
      go_ret
      exact ⟨_, zr, zq, zp⟩
  ·rw [if_neg c3] at H
   exact absurd H (by simp)
 ·rw [if_neg c2] at H
  exact absurd H (by simp)
end Go.Proofs.YtgdknepphkhnlaaGreatDoor.X

namespace Go.Proofs.YtgdknepphkhnlaaGreatDoor.X
open Go.RowKit Go.Proofs.YtgdknepphkhnlaaGreatDoorW.PrintWords Go.Proofs.YtgdknepphkhnlaaGreatDoorW.PrintLast Go.Proofs.YtgdknepphkhnlaaGreatDoorW.PrintMore
attribute [local go_sem] max2_int min2_int max_two min_two max_three min_three max_four min_four
set_option linter.unusedVariables false
set_option linter.unusedSimpArgs false
def laws_toEntry.f (k : Nat) (a0_0 : ByteArray) (a0_1 : Int) (a0_2 : Int) (a0_3 : Int) (a0_4 : ByteArray) (l0_5 : List (S110)) : Option (ByteArray × Int × Int × Int × ByteArray × (List (S35))) := (laws_toVersion.f a0_1 a0_2 a0_3 a0_4).bind fun bt359 => ((laws_toNeedS.f k l0_5).bind fun t363 => (some (a0_0, bt359.1, bt359.2.1, bt359.2.2.1, bt359.2.2.2, t363)))
set_option maxHeartbeats 8000000 in
set_option maxRecDepth 100000 in
theorem laws_toEntry.calls (k : Nat) (a0_0 : ByteArray) (a0_1 : Int) (a0_2 : Int) (a0_3 : Int) (a0_4 : ByteArray) (A0_5 : Option Addr) (c0_5 : Nat) (l0_5 : List (S110)) (r1 : ByteArray) (r2 : Int) (r3 : Int) (r4 : Int) (r5 : ByteArray) (r6 : List (S35)) (w : World) (hr0_5 : Kd.C k110 w A0_5 l0_5.length l0_5) (hc0_5 : l0_5.length ≤ c0_5) (h : laws_toEntry.f k a0_0 a0_1 a0_2 a0_3 a0_4 l0_5 = some (r1, r2, r3, r4, r5, r6)) :
  Calls Tryz.prog 27 #[.agg #[.string a0_0, .int .i64 a0_1, .int .i64 a0_2, .int .i64 a0_3, .string a0_4, .slice A0_5 l0_5.length c0_5]] w fun e w' => ∃ v5_ : Value, e = .returned (.agg #[.string r1, .int .i64 r2, .int .i64 r3, .int .i64 r4, .string r5, v5_]) ∧ Kd.R k35 35 w' w.heap.size (fun _ => True) v5_ r6 ∧ Below w.heap.size w w' := by
 have hu48 := Tryz.underlying48
 have hu28 := Tryz.underlying28
 have hu45 := Tryz.underlying45
 have hu25 := Tryz.underlying25
 have HR0_5 := Aside0.mk hr0_5
 have HC0_5 := Aside0.mk hc0_5
 clear hr0_5 hc0_5
 have HB := Aside0.mk (Below.refl w.heap.size w)
 have H : ((laws_toVersion.f a0_1 a0_2 a0_3 a0_4).bind fun bt359 => ((laws_toNeedS.f k l0_5).bind fun t363 => (some (a0_0, bt359.1, bt359.2.1, bt359.2.2.1, bt359.2.2.2, t363)))) = some (r1, r2, r3, r4, r5, r6) := h
 clear h
 replace H := Option.bind_eq_some_iff.mp H
 obtain ⟨⟨t359, t360, t361, t362⟩, A20, H⟩ := H
 replace H : ((laws_toNeedS.f k l0_5).bind fun t363 => (some (a0_0, t359, t360, t361, t362, t363))) = some (r1, r2, r3, r4, r5, r6) := H
 have A2 := Aside0.mk A20
 clear A20
 replace H := Option.bind_eq_some_iff.mp H
 obtain ⟨t363, A30, H⟩ := H
 replace H : (some (a0_0, t359, t360, t361, t362, t363)) = some (r1, r2, r3, r4, r5, r6) := H
 have A3 := Aside0.mk A30
 clear A30
 simp only [Option.some.injEq, Prod.mk.injEq] at H
 obtain ⟨rfl, rfl, rfl, rfl, rfl, rfl⟩ := H
 go_enter Tryz.func27, Tryz.ntmps27
 go_wp2_with (first | ((with_reducible refine gate_dst (N := 1) rfl ?_); refine box_event zw (N := 1) zw (cs := #[.string a0_0, .int .i64 a0_1, .int .i64 a0_2, .int .i64 a0_3, .string a0_4, .slice A0_5 l0_5.length c0_5]) (t := 48) zx ?_; intro gb356 hg w4 hbox hb; have n0_ := Aside0.mk (below_step zp hb); have n1_ := Aside0.mk hbox; have n2_ := Aside0.mk ((z3s : w.heap.size ≤ gb356)); have n3_ := Aside0.mk ((z3s : w.heap.size ≤ gb356)); clear HB; have HB := n0_; have BK356 := n1_; have GW356 := n2_; have GE356 := n3_; clear n0_ n1_ n2_ n3_; clear hb hbox hg) | ((with_reducible refine gate_dst (N := 2) rfl ?_); refine box_event zw (N := 2) zw (cs := #[.string (⟨#[]⟩ : ByteArray), .int .i64 0, .int .i64 0, .int .i64 0, .string (⟨#[]⟩ : ByteArray), .slice none 0 0]) (t := 28) zx ?_; intro gb357 hg w5 hbox hb; have n0_ := Aside0.mk (blk_below (g := gb356) (o := .cells #[.string a0_0, .int .i64 a0_1, .int .i64 a0_2, .int .i64 a0_3, .string a0_4, .slice A0_5 l0_5.length c0_5] 48 (0, 0)) z3c hb); have n1_ := Aside0.mk (below_step z3d hb); have n2_ := Aside0.mk hbox; have n3_ := Aside0.mk ((by rw [hg]; exact (below_size z3d) : w.heap.size ≤ gb357)); have n4_ := Aside0.mk ((by rw [hg]; exact (below_size z3d) : w.heap.size ≤ gb357)); have n5_ := Aside0.mk ((by rw [hg]; exact Nat.ne_of_lt (blk_lt (g := gb356) (o := .cells #[.string a0_0, .int .i64 a0_1, .int .i64 a0_2, .int .i64 a0_3, .string a0_4, .slice A0_5 l0_5.length c0_5] 48 (0, 0)) z3c) : gb356 ≠ gb357)); have n6_ := Aside0.mk ((by rw [hg]; exact Nat.ne_of_gt (blk_lt (g := gb356) (o := .cells #[.string a0_0, .int .i64 a0_1, .int .i64 a0_2, .int .i64 a0_3, .string a0_4, .slice A0_5 l0_5.length c0_5] 48 (0, 0)) z3c) : gb357 ≠ gb356)); clear BK356; clear HB; have BK356 := n0_; have HB := n1_; have BK357 := n2_; have GW357 := n3_; have GE357 := n4_; have NB356_357 := n5_; have NB357_356 := n6_; clear n0_ n1_ n2_ n3_ n4_ n5_ n6_; clear hb hbox hg) | ((with_reducible refine gate_dst (N := 3) rfl ?_); refine box_event zw (N := 3) zw (cs := #[.string (⟨#[]⟩ : ByteArray), .int .i64 0, .int .i64 0, .int .i64 0, .string (⟨#[]⟩ : ByteArray), .slice none 0 0]) (t := 28) zx ?_; intro gb358 hg w6 hbox hb; have n0_ := Aside0.mk (blk_below (g := gb356) (o := .cells #[.string a0_0, .int .i64 a0_1, .int .i64 a0_2, .int .i64 a0_3, .string a0_4, .slice A0_5 l0_5.length c0_5] 48 (0, 0)) z3c hb); have n1_ := Aside0.mk (blk_below (g := gb357) (o := .cells #[.string (⟨#[]⟩ : ByteArray), .int .i64 0, .int .i64 0, .int .i64 0, .string (⟨#[]⟩ : ByteArray), .slice none 0 0] 28 (0, 0)) z3e hb); have n2_ := Aside0.mk (below_step z3f hb); have n3_ := Aside0.mk hbox; have n4_ := Aside0.mk ((by rw [hg]; exact (below_size z3f) : w.heap.size ≤ gb358)); have n5_ := Aside0.mk ((by rw [hg]; exact (below_size z3f) : w.heap.size ≤ gb358)); have n6_ := Aside0.mk ((by rw [hg]; exact Nat.ne_of_lt (blk_lt (g := gb356) (o := .cells #[.string a0_0, .int .i64 a0_1, .int .i64 a0_2, .int .i64 a0_3, .string a0_4, .slice A0_5 l0_5.length c0_5] 48 (0, 0)) z3c) : gb356 ≠ gb358)); have n7_ := Aside0.mk ((by rw [hg]; exact Nat.ne_of_gt (blk_lt (g := gb356) (o := .cells #[.string a0_0, .int .i64 a0_1, .int .i64 a0_2, .int .i64 a0_3, .string a0_4, .slice A0_5 l0_5.length c0_5] 48 (0, 0)) z3c) : gb358 ≠ gb356)); have n8_ := Aside0.mk ((by rw [hg]; exact Nat.ne_of_lt (blk_lt (g := gb357) (o := .cells #[.string (⟨#[]⟩ : ByteArray), .int .i64 0, .int .i64 0, .int .i64 0, .string (⟨#[]⟩ : ByteArray), .slice none 0 0] 28 (0, 0)) z3e) : gb357 ≠ gb358)); have n9_ := Aside0.mk ((by rw [hg]; exact Nat.ne_of_gt (blk_lt (g := gb357) (o := .cells #[.string (⟨#[]⟩ : ByteArray), .int .i64 0, .int .i64 0, .int .i64 0, .string (⟨#[]⟩ : ByteArray), .slice none 0 0] 28 (0, 0)) z3e) : gb358 ≠ gb357)); clear BK356; clear BK357; clear HB; have BK356 := n0_; have BK357 := n1_; have HB := n2_; have BK358 := n3_; have GW358 := n4_; have GE358 := n5_; have NB356_358 := n6_; have NB358_356 := n7_; have NB357_358 := n8_; have NB358_357 := n9_; clear n0_ n1_ n2_ n3_ n4_ n5_ n6_ n7_ n8_ n9_; clear hb hbox hg; have hnb7 := NB356_357.out; have hnc7 := NB357_356.out; have hnb8 := NB356_358.out; have hnc8 := NB358_356.out; obtain ⟨hcz9_0, hcz9_1, hcz9_2, hcz9_3, hcz9_4, hcz9_5, hfz9_0, hfz9_1, hfz9_2, hfz9_3, hfz9_4, hfz9_5⟩ := zf BK356.out; have hnb10 := NB358_357.out; have hnc10 := NB357_358.out; obtain ⟨hcz11_0, hcz11_1, hcz11_2, hcz11_3, hcz11_4, hcz11_5, hfz11_0, hfz11_1, hfz11_2, hfz11_3, hfz11_4, hfz11_5⟩ := zf BK358.out) | ((with_reducible refine gate_callee (f := 62) rfl ?_); refine goesL_ (some 9) rfl rfl Tryz.func62 zi rfl #[.agg #[.int .i64 a0_1, .int .i64 a0_2, .int .i64 a0_3, .string a0_4]] rfl zo ?_; (with_reducible refine (laws_toVersion.calls a0_1 a0_2 a0_3 a0_4 t359 t360 t361 t362 _ A2.out).mono ?_); rintro e w12 ⟨rfl, hb⟩; refine ⟨_, rfl, ?_⟩; have n0_ := Aside0.mk (blk_below (g := gb356) (o := .cells #[.string a0_0, .int .i64 a0_1, .int .i64 a0_2, .int .i64 a0_3, .string a0_4, .slice A0_5 l0_5.length c0_5] 48 (0, 0)) (by (with_reducible repeat (first | refine blk_drewN ?_ _ | refine blk_drew ?_ | refine blk_alloc ?_ _)); refine blk_far ?_ NB356_358.out _; (with_reducible repeat (first | refine blk_drewN ?_ _ | refine blk_drew ?_ | refine blk_alloc ?_ _)); exact BK356.out) hb); have n1_ := Aside0.mk (blk_below (g := gb357) (o := .cells #[.string (⟨#[]⟩ : ByteArray), .int .i64 0, .int .i64 0, .int .i64 0, .string (⟨#[]⟩ : ByteArray), .slice none 0 0] 28 (0, 0)) (by (with_reducible repeat (first | refine blk_drewN ?_ _ | refine blk_drew ?_ | refine blk_alloc ?_ _)); refine blk_far ?_ NB357_358.out _; (with_reducible repeat (first | refine blk_drewN ?_ _ | refine blk_drew ?_ | refine blk_alloc ?_ _)); exact BK357.out) hb); have n2_ := Aside0.mk (blk_below (g := gb358) (o := .cells #[.string a0_0, .int .i64 0, .int .i64 0, .int .i64 0, .string (⟨#[]⟩ : ByteArray), .slice none 0 0] 28 (0, 0)) (by (with_reducible repeat (first | refine blk_drewN ?_ _ | refine blk_drew ?_ | refine blk_alloc ?_ _)); refine blk_put (cs := #[.string (⟨#[]⟩ : ByteArray), .int .i64 0, .int .i64 0, .int .i64 0, .string (⟨#[]⟩ : ByteArray), .slice none 0 0]) ?_ 0 _ rfl; (with_reducible repeat (first | refine blk_drewN ?_ _ | refine blk_drew ?_ | refine blk_alloc ?_ _)); exact BK358.out) hb); have n3_ := Aside0.mk (below_step z3g hb); clear BK356; clear BK357; clear BK358; clear HB; have BK356 := n0_; have BK357 := n1_; have BK358 := n2_; have HB := n3_; clear n0_ n1_ n2_ n3_; (try clear hb); (try clear hb2); (try clear hk); (try clear hi); obtain ⟨hcz13_0, hcz13_1, hcz13_2, hcz13_3, hcz13_4, hcz13_5, hfz13_0, hfz13_1, hfz13_2, hfz13_3, hfz13_4, hfz13_5⟩ := zf BK358.out; obtain ⟨hcz14_0, hcz14_1, hcz14_2, hcz14_3, hcz14_4, hcz14_5, hfz14_0, hfz14_1, hfz14_2, hfz14_3, hfz14_4, hfz14_5⟩ := zf BK356.out) | ((with_reducible refine gate_callee (f := 63) rfl ?_); refine goesL_ (some 13) rfl rfl Tryz.func63 zi rfl #[.slice A0_5 l0_5.length c0_5] rfl zo ?_; (with_reducible refine (laws_toNeedS.calls k _ _ l0_5 t363 _ ?side1 ?side2 A3.out).mono ?_); (case side1 => exact Kd.C_below HR0_5.out z3g); (case side2 => exact HC0_5.out); rintro e w15 ⟨v364, rfl, ho0, hb⟩; refine ⟨_, rfl, ?_⟩; have n0_ := Aside0.mk (Kd.R_lower ho0 (below_size z3g)); have n1_ := Aside0.mk (blk_below (g := gb356) (o := .cells #[.string a0_0, .int .i64 a0_1, .int .i64 a0_2, .int .i64 a0_3, .string a0_4, .slice A0_5 l0_5.length c0_5] 48 (0, 0)) (by (with_reducible repeat (first | refine blk_drewN ?_ _ | refine blk_drew ?_ | refine blk_alloc ?_ _)); refine blk_far ?_ NB356_358.out _; (with_reducible repeat (first | refine blk_drewN ?_ _ | refine blk_drew ?_ | refine blk_alloc ?_ _)); refine blk_far ?_ NB356_358.out _; (with_reducible repeat (first | refine blk_drewN ?_ _ | refine blk_drew ?_ | refine blk_alloc ?_ _)); refine blk_far ?_ NB356_358.out _; (with_reducible repeat (first | refine blk_drewN ?_ _ | refine blk_drew ?_ | refine blk_alloc ?_ _)); refine blk_far ?_ NB356_358.out _; (with_reducible repeat (first | refine blk_drewN ?_ _ | refine blk_drew ?_ | refine blk_alloc ?_ _)); exact BK356.out) hb); have n2_ := Aside0.mk (blk_below (g := gb357) (o := .cells #[.string (⟨#[]⟩ : ByteArray), .int .i64 0, .int .i64 0, .int .i64 0, .string (⟨#[]⟩ : ByteArray), .slice none 0 0] 28 (0, 0)) (by (with_reducible repeat (first | refine blk_drewN ?_ _ | refine blk_drew ?_ | refine blk_alloc ?_ _)); refine blk_far ?_ NB357_358.out _; (with_reducible repeat (first | refine blk_drewN ?_ _ | refine blk_drew ?_ | refine blk_alloc ?_ _)); refine blk_far ?_ NB357_358.out _; (with_reducible repeat (first | refine blk_drewN ?_ _ | refine blk_drew ?_ | refine blk_alloc ?_ _)); refine blk_far ?_ NB357_358.out _; (with_reducible repeat (first | refine blk_drewN ?_ _ | refine blk_drew ?_ | refine blk_alloc ?_ _)); refine blk_far ?_ NB357_358.out _; (with_reducible repeat (first | refine blk_drewN ?_ _ | refine blk_drew ?_ | refine blk_alloc ?_ _)); exact BK357.out) hb); have n3_ := Aside0.mk (blk_below (g := gb358) (o := .cells #[.string a0_0, .int .i64 t359, .int .i64 t360, .int .i64 t361, .string t362, .slice none 0 0] 28 (0, 0)) (by (with_reducible repeat (first | refine blk_drewN ?_ _ | refine blk_drew ?_ | refine blk_alloc ?_ _)); refine blk_put (cs := #[.string a0_0, .int .i64 t359, .int .i64 t360, .int .i64 t361, .string (⟨#[]⟩ : ByteArray), .slice none 0 0]) ?_ 4 _ rfl; (with_reducible repeat (first | refine blk_drewN ?_ _ | refine blk_drew ?_ | refine blk_alloc ?_ _)); refine blk_put (cs := #[.string a0_0, .int .i64 t359, .int .i64 t360, .int .i64 0, .string (⟨#[]⟩ : ByteArray), .slice none 0 0]) ?_ 3 _ rfl; (with_reducible repeat (first | refine blk_drewN ?_ _ | refine blk_drew ?_ | refine blk_alloc ?_ _)); refine blk_put (cs := #[.string a0_0, .int .i64 t359, .int .i64 0, .int .i64 0, .string (⟨#[]⟩ : ByteArray), .slice none 0 0]) ?_ 2 _ rfl; (with_reducible repeat (first | refine blk_drewN ?_ _ | refine blk_drew ?_ | refine blk_alloc ?_ _)); refine blk_put (cs := #[.string a0_0, .int .i64 0, .int .i64 0, .int .i64 0, .string (⟨#[]⟩ : ByteArray), .slice none 0 0]) ?_ 1 _ rfl; (with_reducible repeat (first | refine blk_drewN ?_ _ | refine blk_drew ?_ | refine blk_alloc ?_ _)); exact BK358.out) hb); have n4_ := Aside0.mk (below_step z3g hb); clear BK356; clear BK357; clear BK358; clear HB; have HO365 := n0_; have BK356 := n1_; have BK357 := n2_; have BK358 := n3_; have HB := n4_; clear n0_ n1_ n2_ n3_ n4_; (try clear hb); (try clear hb2); (try clear hk); (try clear hi); (try clear ho0); obtain ⟨Ao16, co16, eo16⟩ := Kd.R_slice HO365.out; subst eo16; obtain ⟨hcz17_0, hcz17_1, hcz17_2, hcz17_3, hcz17_4, hcz17_5, hfz17_0, hfz17_1, hfz17_2, hfz17_3, hfz17_4, hfz17_5⟩ := zf BK358.out; obtain ⟨hcz18_0, hcz18_1, hcz18_2, hcz18_3, hcz18_4, hcz18_5, hfz18_0, hfz18_1, hfz18_2, hfz18_3, hfz18_4, hfz18_5⟩ := zf BK357.out))
 refine bodyPost_ret (results_cell_row rfl _ _ gb357 28 #[.string a0_0, .int .i64 t359, .int .i64 t360, .int .i64 t361, .string t362, .slice Ao16 t363.length co16] (0, 0) _ rfl (by (with_reducible repeat (first | refine blk_drewN ?_ _ | refine blk_drew ?_ | refine blk_alloc ?_ _)); refine blk_put (cs := #[.string a0_0, .int .i64 t359, .int .i64 t360, .int .i64 t361, .string t362, .slice none 0 0]) ?_ 5 _ rfl; (with_reducible repeat (first | refine blk_drewN ?_ _ | refine blk_drew ?_ | refine blk_alloc ?_ _)); refine blk_put (cs := #[.string a0_0, .int .i64 t359, .int .i64 t360, .int .i64 t361, .string (⟨#[]⟩ : ByteArray), .slice none 0 0]) ?_ 4 _ rfl; (with_reducible repeat (first | refine blk_drewN ?_ _ | refine blk_drew ?_ | refine blk_alloc ?_ _)); refine blk_put (cs := #[.string a0_0, .int .i64 t359, .int .i64 t360, .int .i64 0, .string (⟨#[]⟩ : ByteArray), .slice none 0 0]) ?_ 3 _ rfl; (with_reducible repeat (first | refine blk_drewN ?_ _ | refine blk_drew ?_ | refine blk_alloc ?_ _)); refine blk_put (cs := #[.string a0_0, .int .i64 t359, .int .i64 0, .int .i64 0, .string (⟨#[]⟩ : ByteArray), .slice none 0 0]) ?_ 2 _ rfl; (with_reducible repeat (first | refine blk_drewN ?_ _ | refine blk_drew ?_ | refine blk_alloc ?_ _)); refine blk_put (cs := #[.string a0_0, .int .i64 0, .int .i64 0, .int .i64 0, .string (⟨#[]⟩ : ByteArray), .slice none 0 0]) ?_ 1 _ rfl; (with_reducible repeat (first | refine blk_drewN ?_ _ | refine blk_drew ?_ | refine blk_alloc ?_ _)); refine blk_put (cs := #[.string (⟨#[]⟩ : ByteArray), .int .i64 0, .int .i64 0, .int .i64 0, .string (⟨#[]⟩ : ByteArray), .slice none 0 0]) ?_ 0 _ rfl; (with_reducible repeat (first | refine blk_drewN ?_ _ | refine blk_drew ?_ | refine blk_alloc ?_ _)); refine blk_far ?_ NB357_358.out _; (with_reducible repeat (first | refine blk_drewN ?_ _ | refine blk_drew ?_ | refine blk_alloc ?_ _)); exact BK357.out) Tryz.underlying28 rfl zi) rfl ?_
 exact ⟨_, zr, by (with_reducible repeat (first | apply Kd.R_alloc | apply Kd.R_drewN | apply Kd.R_drew)); exact Kd.R_mono (Kd.R_far (p := ⟨gb357, 5, none⟩) (Kd.R_far (p := ⟨gb357, 4, none⟩) (Kd.R_far (p := ⟨gb357, 3, none⟩) (Kd.R_far (p := ⟨gb357, 2, none⟩) (Kd.R_far (p := ⟨gb357, 1, none⟩) (Kd.R_far (p := ⟨gb357, 0, none⟩) (Kd.R_far (p := ⟨gb358, 5, none⟩) (Kd.R_types (Kd.R_types HO365.out BK358.out zh) BK357.out zh) (fun _ hk => hk.1.2) (.slice Ao16 t363.length co16)) (fun _ hk => hk.2) (.string a0_0)) (fun _ hk => hk.2) (.int .i64 t359)) (fun _ hk => hk.2) (.int .i64 t360)) (fun _ hk => hk.2) (.int .i64 t361)) (fun _ hk => hk.2) (.string t362)) (fun _ hk => hk.2) (.slice Ao16 t363.length co16)) (fun _ hk => trivial), z3g⟩
end Go.Proofs.YtgdknepphkhnlaaGreatDoor.X

namespace Go.Proofs.YtgdknepphkhnlaaGreatDoor.X
open Go.RowKit Go.Proofs.YtgdknepphkhnlaaGreatDoorW.PrintWords Go.Proofs.YtgdknepphkhnlaaGreatDoorW.PrintLast Go.Proofs.YtgdknepphkhnlaaGreatDoorW.PrintMore
attribute [local go_sem] max2_int min2_int max_two min_two max_three min_three max_four min_four
set_option linter.unusedVariables false
set_option linter.unusedSimpArgs false
def laws_FnExactPutEntry.f (k : Nat) (a0_0 : ByteArray) (a0_1 : Int) (a0_2 : Int) (a0_3 : Int) (a0_4 : ByteArray) (l0_5 : List (S110)) : Option (Bool) := (laws_szEntry.f k a0_0 a0_1 a0_2 a0_3 a0_4 l0_5 1048576).bind fun t367 => (if t367 < 0 then (some true) else ((laws_toEntry.f k a0_0 a0_1 a0_2 a0_3 a0_4 l0_5).bind fun bt368 => ((spec_PutEntry.f k bt368.1 bt368.2.1 bt368.2.2.1 bt368.2.2.2.1 bt368.2.2.2.2.1 bt368.2.2.2.2.2).bind fun t376 => ((laws_toEntry.f k a0_0 a0_1 a0_2 a0_3 a0_4 l0_5).bind fun bt377 => ((impl_PutEntry.f k bt377.1 bt377.2.1 bt377.2.2.1 bt377.2.2.2.1 bt377.2.2.2.2.1 bt377.2.2.2.2.2).bind fun t386 => (if t386.toList = t376.toList then ((laws_toEntry.f k a0_0 a0_1 a0_2 a0_3 a0_4 l0_5).bind fun bt387 => ((laws_eqEntry.f k bt377.1 bt377.2.1 bt377.2.2.1 bt377.2.2.2.1 bt377.2.2.2.2.1 bt377.2.2.2.2.2 bt387.1 bt387.2.1 bt387.2.2.1 bt387.2.2.2.1 bt387.2.2.2.2.1 bt387.2.2.2.2.2).bind fun t395 => (if t395 = true then (some true) else (some false)))) else (some false)))))))
set_option maxHeartbeats 8000000 in
set_option maxRecDepth 100000 in
theorem laws_FnExactPutEntry.calls (k : Nat) (a0_0 : ByteArray) (a0_1 : Int) (a0_2 : Int) (a0_3 : Int) (a0_4 : ByteArray) (A0_5 : Option Addr) (c0_5 : Nat) (l0_5 : List (S110)) (r : Bool) (w : World) (hG_ : GlobI w) (hr0_5 : Kd.C k110 w A0_5 l0_5.length l0_5) (hc0_5 : l0_5.length ≤ c0_5) (h : laws_FnExactPutEntry.f k a0_0 a0_1 a0_2 a0_3 a0_4 l0_5 = some r) :
  Calls Tryz.prog 6 #[.agg #[.string a0_0, .int .i64 a0_1, .int .i64 a0_2, .int .i64 a0_3, .string a0_4, .slice A0_5 l0_5.length c0_5]] w fun e w' => e = .returned (.bool r) ∧ Below w.heap.size w w' := by
 have HG_ := Aside0.mk hG_
 clear hG_
 have hu48 := Tryz.underlying48
 have hu28 := Tryz.underlying28
 have HR0_5 := Aside0.mk hr0_5
 have HC0_5 := Aside0.mk hc0_5
 clear hr0_5 hc0_5
 have HB := Aside0.mk (Below.refl w.heap.size w)
 have H : ((laws_szEntry.f k a0_0 a0_1 a0_2 a0_3 a0_4 l0_5 1048576).bind fun t367 => (if t367 < 0 then (some true) else ((laws_toEntry.f k a0_0 a0_1 a0_2 a0_3 a0_4 l0_5).bind fun bt368 => ((spec_PutEntry.f k bt368.1 bt368.2.1 bt368.2.2.1 bt368.2.2.2.1 bt368.2.2.2.2.1 bt368.2.2.2.2.2).bind fun t376 => ((laws_toEntry.f k a0_0 a0_1 a0_2 a0_3 a0_4 l0_5).bind fun bt377 => ((impl_PutEntry.f k bt377.1 bt377.2.1 bt377.2.2.1 bt377.2.2.2.1 bt377.2.2.2.2.1 bt377.2.2.2.2.2).bind fun t386 => (if t386.toList = t376.toList then ((laws_toEntry.f k a0_0 a0_1 a0_2 a0_3 a0_4 l0_5).bind fun bt387 => ((laws_eqEntry.f k bt377.1 bt377.2.1 bt377.2.2.1 bt377.2.2.2.1 bt377.2.2.2.2.1 bt377.2.2.2.2.2 bt387.1 bt387.2.1 bt387.2.2.1 bt387.2.2.2.1 bt387.2.2.2.2.1 bt387.2.2.2.2.2).bind fun t395 => (if t395 = true then (some true) else (some false)))) else (some false)))))))) = some r := h
 clear h
 replace H := Option.bind_eq_some_iff.mp H
 obtain ⟨t367, A20, H⟩ := H
 replace H : (if t367 < 0 then (some true) else ((laws_toEntry.f k a0_0 a0_1 a0_2 a0_3 a0_4 l0_5).bind fun bt368 => ((spec_PutEntry.f k bt368.1 bt368.2.1 bt368.2.2.1 bt368.2.2.2.1 bt368.2.2.2.2.1 bt368.2.2.2.2.2).bind fun t376 => ((laws_toEntry.f k a0_0 a0_1 a0_2 a0_3 a0_4 l0_5).bind fun bt377 => ((impl_PutEntry.f k bt377.1 bt377.2.1 bt377.2.2.1 bt377.2.2.2.1 bt377.2.2.2.2.1 bt377.2.2.2.2.2).bind fun t386 => (if t386.toList = t376.toList then ((laws_toEntry.f k a0_0 a0_1 a0_2 a0_3 a0_4 l0_5).bind fun bt387 => ((laws_eqEntry.f k bt377.1 bt377.2.1 bt377.2.2.1 bt377.2.2.2.1 bt377.2.2.2.2.1 bt377.2.2.2.2.2 bt387.1 bt387.2.1 bt387.2.2.1 bt387.2.2.2.1 bt387.2.2.2.2.1 bt387.2.2.2.2.2).bind fun t395 => (if t395 = true then (some true) else (some false)))) else (some false))))))) = some r := H
 have A2 := Aside0.mk A20
 clear A20
 by_cases c3 : t367 < 0
 ·rw [if_pos c3] at H
  have c3b0 : decide (t367 < 0) = true := decide_eq_true c3
  clear c3
  obtain rfl := Option.some.inj H
  go_enter Tryz.func6, Tryz.ntmps6
  go_wp2_with (first | ((with_reducible refine gate_dst (N := 1) rfl ?_); refine box_event zw (N := 1) zw (cs := #[.string a0_0, .int .i64 a0_1, .int .i64 a0_2, .int .i64 a0_3, .string a0_4, .slice A0_5 l0_5.length c0_5]) (t := 48) zx ?_; intro gb366 hg w4 hbox hb; have n0_ := Aside0.mk (below_step zp hb); have n1_ := Aside0.mk hbox; have n2_ := Aside0.mk ((z3s : w.heap.size ≤ gb366)); have n3_ := Aside0.mk ((z3s : w.heap.size ≤ gb366)); clear HB; have HB := n0_; have BK366 := n1_; have GW366 := n2_; have GE366 := n3_; clear n0_ n1_ n2_ n3_; clear hb hbox hg; obtain ⟨hcz5_0, hcz5_1, hcz5_2, hcz5_3, hcz5_4, hcz5_5, hfz5_0, hfz5_1, hfz5_2, hfz5_3, hfz5_4, hfz5_5⟩ := zf BK366.out) | ((with_reducible refine gate_callee (f := 25) rfl ?_); refine goesL_ (some 9) rfl rfl Tryz.func25 zi rfl #[.agg #[.string a0_0, .int .i64 a0_1, .int .i64 a0_2, .int .i64 a0_3, .string a0_4, .slice A0_5 l0_5.length c0_5], .int .i64 1048576] rfl zo ?_; (with_reducible refine (laws_szEntry.calls k a0_0 a0_1 a0_2 a0_3 a0_4 _ _ l0_5 1048576 t367 _ ?side1 ?side2 A2.out).mono ?_); (case side1 => exact z1f); (case side2 => exact HC0_5.out); rintro e w6 ⟨rfl, hb⟩; refine ⟨_, rfl, ?_⟩; have n0_ := Aside0.mk (blk_below (g := gb366) (o := .cells #[.string a0_0, .int .i64 a0_1, .int .i64 a0_2, .int .i64 a0_3, .string a0_4, .slice A0_5 l0_5.length c0_5] 48 (0, 0)) z3h hb); have n1_ := Aside0.mk (below_step z3i hb); clear BK366; clear HB; have BK366 := n0_; have HB := n1_; clear n0_ n1_; (try clear hb); (try clear hb2); (try clear hk); (try clear hi)))
  go_ret
  exact ⟨zr, z3i⟩
 ·rw [if_neg c3] at H
  have c3b0 : decide (t367 < 0) = false := decide_eq_false c3
  clear c3
  replace H := Option.bind_eq_some_iff.mp H
  obtain ⟨⟨t368, t369, t370, t371, t372, t373⟩, A70, H⟩ := H
  replace H : ((spec_PutEntry.f k t368 t369 t370 t371 t372 t373).bind fun t376 => ((laws_toEntry.f k a0_0 a0_1 a0_2 a0_3 a0_4 l0_5).bind fun bt377 => ((impl_PutEntry.f k bt377.1 bt377.2.1 bt377.2.2.1 bt377.2.2.2.1 bt377.2.2.2.2.1 bt377.2.2.2.2.2).bind fun t386 => (if t386.toList = t376.toList then ((laws_toEntry.f k a0_0 a0_1 a0_2 a0_3 a0_4 l0_5).bind fun bt387 => ((laws_eqEntry.f k bt377.1 bt377.2.1 bt377.2.2.1 bt377.2.2.2.1 bt377.2.2.2.2.1 bt377.2.2.2.2.2 bt387.1 bt387.2.1 bt387.2.2.1 bt387.2.2.2.1 bt387.2.2.2.2.1 bt387.2.2.2.2.2).bind fun t395 => (if t395 = true then (some true) else (some false)))) else (some false))))) = some r := H
  have A7 := Aside0.mk A70
  clear A70
  replace H := Option.bind_eq_some_iff.mp H
  obtain ⟨t376, A80, H⟩ := H
  replace H : ((laws_toEntry.f k a0_0 a0_1 a0_2 a0_3 a0_4 l0_5).bind fun bt377 => ((impl_PutEntry.f k bt377.1 bt377.2.1 bt377.2.2.1 bt377.2.2.2.1 bt377.2.2.2.2.1 bt377.2.2.2.2.2).bind fun t386 => (if t386.toList = t376.toList then ((laws_toEntry.f k a0_0 a0_1 a0_2 a0_3 a0_4 l0_5).bind fun bt387 => ((laws_eqEntry.f k bt377.1 bt377.2.1 bt377.2.2.1 bt377.2.2.2.1 bt377.2.2.2.2.1 bt377.2.2.2.2.2 bt387.1 bt387.2.1 bt387.2.2.1 bt387.2.2.2.1 bt387.2.2.2.2.1 bt387.2.2.2.2.2).bind fun t395 => (if t395 = true then (some true) else (some false)))) else (some false)))) = some r := H
  have A8 := Aside0.mk A80
  clear A80
  replace H := Option.bind_eq_some_iff.mp H
  obtain ⟨⟨t377, t378, t379, t380, t381, t382⟩, A90, H⟩ := H
  replace H : ((impl_PutEntry.f k t377 t378 t379 t380 t381 t382).bind fun t386 => (if t386.toList = t376.toList then ((laws_toEntry.f k a0_0 a0_1 a0_2 a0_3 a0_4 l0_5).bind fun bt387 => ((laws_eqEntry.f k t377 t378 t379 t380 t381 t382 bt387.1 bt387.2.1 bt387.2.2.1 bt387.2.2.2.1 bt387.2.2.2.2.1 bt387.2.2.2.2.2).bind fun t395 => (if t395 = true then (some true) else (some false)))) else (some false))) = some r := H
  have A9 := Aside0.mk A90
  clear A90
  replace H := Option.bind_eq_some_iff.mp H
  obtain ⟨t386, A100, H⟩ := H
  replace H : (if t386.toList = t376.toList then ((laws_toEntry.f k a0_0 a0_1 a0_2 a0_3 a0_4 l0_5).bind fun bt387 => ((laws_eqEntry.f k t377 t378 t379 t380 t381 t382 bt387.1 bt387.2.1 bt387.2.2.1 bt387.2.2.2.1 bt387.2.2.2.2.1 bt387.2.2.2.2.2).bind fun t395 => (if t395 = true then (some true) else (some false)))) else (some false)) = some r := H
  have A10 := Aside0.mk A100
  clear A100
  by_cases c11 : t386.toList = t376.toList
  ·rw [if_pos c11] at H
   have c11b0 : (t386.toList == t376.toList) = true := beq_iff_eq.mpr c11
   have c11b1 : (t386.toList != t376.toList) = false := bne_eq_false_iff_eq.mpr c11
   clear c11
   replace H := Option.bind_eq_some_iff.mp H
   obtain ⟨⟨t387, t388, t389, t390, t391, t392⟩, A120, H⟩ := H
   replace H : ((laws_eqEntry.f k t377 t378 t379 t380 t381 t382 t387 t388 t389 t390 t391 t392).bind fun t395 => (if t395 = true then (some true) else (some false))) = some r := H
   have A12 := Aside0.mk A120
   clear A120
   replace H := Option.bind_eq_some_iff.mp H
   obtain ⟨t395, A130, H⟩ := H
   replace H : (if t395 = true then (some true) else (some false)) = some r := H
   have A13 := Aside0.mk A130
   clear A130
   by_cases c14 : t395 = true
   ·subst c14
    have H1 : (some true) = some r := by rw [if_pos rfl] at H; exact H
    clear H
    have H := H1
    clear H1
    obtain rfl := Option.some.inj H
    go_enter Tryz.func6, Tryz.ntmps6
    try go_wp2_with (first | ((with_reducible refine gate_dst (N := 1) rfl ?_); refine box_event zw (N := 1) zw (cs := #[.string a0_0, .int .i64 a0_1, .int .i64 a0_2, .int .i64 a0_3, .string a0_4, .slice A0_5 l0_5.length c0_5]) (t := 48) zx ?_; intro gb366 hg w15 hbox hb; have n0_ := Aside0.mk (below_step zp hb); have n1_ := Aside0.mk hbox; have n2_ := Aside0.mk ((z3s : w.heap.size ≤ gb366)); have n3_ := Aside0.mk ((z3s : w.heap.size ≤ gb366)); clear HB; have HB := n0_; have BK366 := n1_; have GW366 := n2_; have GE366 := n3_; clear n0_ n1_ n2_ n3_; clear hb hbox hg; obtain ⟨hcz16_0, hcz16_1, hcz16_2, hcz16_3, hcz16_4, hcz16_5, hfz16_0, hfz16_1, hfz16_2, hfz16_3, hfz16_4, hfz16_5⟩ := zf BK366.out) | ((with_reducible refine gate_callee (f := 25) rfl ?_); refine goesL_ (some 9) rfl rfl Tryz.func25 zi rfl #[.agg #[.string a0_0, .int .i64 a0_1, .int .i64 a0_2, .int .i64 a0_3, .string a0_4, .slice A0_5 l0_5.length c0_5], .int .i64 1048576] rfl zo ?_; (with_reducible refine (laws_szEntry.calls k a0_0 a0_1 a0_2 a0_3 a0_4 _ _ l0_5 1048576 t367 _ ?side1 ?side2 A2.out).mono ?_); (case side1 => exact z1f); (case side2 => exact HC0_5.out); rintro e w17 ⟨rfl, hb⟩; refine ⟨_, rfl, ?_⟩; have n0_ := Aside0.mk (blk_below (g := gb366) (o := .cells #[.string a0_0, .int .i64 a0_1, .int .i64 a0_2, .int .i64 a0_3, .string a0_4, .slice A0_5 l0_5.length c0_5] 48 (0, 0)) z3h hb); have n1_ := Aside0.mk (below_step z3i hb); clear BK366; clear HB; have BK366 := n0_; have HB := n1_; clear n0_ n1_; (try clear hb); (try clear hb2); (try clear hk); (try clear hi); obtain ⟨hcz18_0, hcz18_1, hcz18_2, hcz18_3, hcz18_4, hcz18_5, hfz18_0, hfz18_1, hfz18_2, hfz18_3, hfz18_4, hfz18_5⟩ := zf BK366.out) | ((with_reducible refine gate_callee (f := 27) rfl ?_); refine goesL_ (some 13) rfl rfl Tryz.func27 zi rfl #[.agg #[.string a0_0, .int .i64 a0_1, .int .i64 a0_2, .int .i64 a0_3, .string a0_4, .slice A0_5 l0_5.length c0_5]] rfl zo ?_; (with_reducible refine (laws_toEntry.calls k a0_0 a0_1 a0_2 a0_3 a0_4 _ _ l0_5 t368 t369 t370 t371 t372 t373 _ ?side1 ?side2 A7.out).mono ?_); (case side1 => exact z1f); (case side2 => exact HC0_5.out); rintro e w19 ⟨v374, rfl, ho0, hb⟩; refine ⟨_, rfl, ?_⟩; have n0_ := Aside0.mk (Kd.R_lower ho0 (below_size z3i)); have n1_ := Aside0.mk (blk_below (g := gb366) (o := .cells #[.string a0_0, .int .i64 a0_1, .int .i64 a0_2, .int .i64 a0_3, .string a0_4, .slice A0_5 l0_5.length c0_5] 48 (0, 0)) z3h hb); have n2_ := Aside0.mk (below_step z3i hb); clear BK366; clear HB; have HO375 := n0_; have BK366 := n1_; have HB := n2_; clear n0_ n1_ n2_; (try clear hb); (try clear hb2); (try clear hk); (try clear hi); (try clear ho0); obtain ⟨Ao20, co20, eo20⟩ := Kd.R_slice HO375.out; subst eo20) | ((with_reducible refine gate_callee (f := 26) rfl ?_); refine goesL_ (some 14) rfl rfl Tryz.func26 zi rfl #[.agg #[.string t368, .int .i64 t369, .int .i64 t370, .int .i64 t371, .string t372, .slice Ao20 t373.length co20]] rfl zo ?_; (with_reducible refine (spec_PutEntry.calls k t368 t369 t370 t371 t372 _ _ t373 t376 _ ?side1 ?side2 A8.out).mono ?_); (case side1 => exact z3o); (case side2 => exact (Kd.R_reads' HO375.out).2.1); rintro e w21 ⟨rfl, hb⟩; refine ⟨_, rfl, ?_⟩; have n0_ := Aside0.mk (Kd.R_below z3j hb); have n1_ := Aside0.mk (blk_below (g := gb366) (o := .cells #[.string a0_0, .int .i64 a0_1, .int .i64 a0_2, .int .i64 a0_3, .string a0_4, .slice A0_5 l0_5.length c0_5] 48 (0, 0)) z3h hb); have n2_ := Aside0.mk (below_step z3i hb); clear HO375; clear BK366; clear HB; have HO375 := n0_; have BK366 := n1_; have HB := n2_; clear n0_ n1_ n2_; (try clear hb); (try clear hb2); (try clear hk); (try clear hi); obtain ⟨hcz22_0, hcz22_1, hcz22_2, hcz22_3, hcz22_4, hcz22_5, hfz22_0, hfz22_1, hfz22_2, hfz22_3, hfz22_4, hfz22_5⟩ := zf BK366.out) | ((with_reducible refine gate_callee (f := 27) rfl ?_); refine goesL_ (some 16) rfl rfl Tryz.func27 zi rfl #[.agg #[.string a0_0, .int .i64 a0_1, .int .i64 a0_2, .int .i64 a0_3, .string a0_4, .slice A0_5 l0_5.length c0_5]] rfl zo ?_; (with_reducible refine (laws_toEntry.calls k a0_0 a0_1 a0_2 a0_3 a0_4 _ _ l0_5 t377 t378 t379 t380 t381 t382 _ ?side1 ?side2 A9.out).mono ?_); (case side1 => exact z1f); (case side2 => exact HC0_5.out); rintro e w23 ⟨v383, rfl, ho0, hb⟩; refine ⟨_, rfl, ?_⟩; have n0_ := Aside0.mk (Kd.R_elder' z3j (Kd.R_base ho0) hb); have n1_ := Aside0.mk (Kd.R_lower (Kd.R_new' ho0 (Kd.R_lt z3j)) (below_size z3i)); have n2_ := Aside0.mk (blk_below (g := gb366) (o := .cells #[.string a0_0, .int .i64 a0_1, .int .i64 a0_2, .int .i64 a0_3, .string a0_4, .slice A0_5 l0_5.length c0_5] 48 (0, 0)) z3h hb); have n3_ := Aside0.mk (below_step z3i hb); clear HO375; clear BK366; clear HB; have HO375 := n0_; have HO384 := n1_; have BK366 := n2_; have HB := n3_; clear n0_ n1_ n2_ n3_; (try clear hb); (try clear hb2); (try clear hk); (try clear hi); (try clear ho0)) | ((with_reducible refine gate_dst (N := 5) rfl ?_); refine box_event zw (N := 5) zw (cs := #[.string (⟨#[]⟩ : ByteArray), .int .i64 0, .int .i64 0, .int .i64 0, .string (⟨#[]⟩ : ByteArray), .slice none 0 0]) (t := 28) zx ?_; intro gb385 hg w24 hbox hb; have n0_ := Aside0.mk (Kd.R_below z3j hb); have n1_ := Aside0.mk (Kd.R_below z3k hb); have n2_ := Aside0.mk (blk_below (g := gb366) (o := .cells #[.string a0_0, .int .i64 a0_1, .int .i64 a0_2, .int .i64 a0_3, .string a0_4, .slice A0_5 l0_5.length c0_5] 48 (0, 0)) z3h hb); have n3_ := Aside0.mk (below_step z3i hb); have n4_ := Aside0.mk hbox; have n5_ := Aside0.mk ((z4d : w.heap.size ≤ gb385)); have n6_ := Aside0.mk ((z4d : w.heap.size ≤ gb385)); have n7_ := Aside0.mk ((z4e : gb366 ≠ gb385)); have n8_ := Aside0.mk ((z4f : gb385 ≠ gb366)); clear HO375; clear HO384; clear BK366; clear HB; have HO375 := n0_; have HO384 := n1_; have BK366 := n2_; have HB := n3_; have BK385 := n4_; have GW385 := n5_; have GE385 := n6_; have NB366_385 := n7_; have NB385_366 := n8_; clear n0_ n1_ n2_ n3_ n4_ n5_ n6_ n7_ n8_; clear hb hbox hg; have hnb25 := NB385_366.out; have hnc25 := NB366_385.out; obtain ⟨hcz26_0, hcz26_1, hcz26_2, hcz26_3, hcz26_4, hcz26_5, hfz26_0, hfz26_1, hfz26_2, hfz26_3, hfz26_4, hfz26_5⟩ := zf BK385.out; obtain ⟨Ao27, co27, eo27⟩ := Kd.R_slice HO384.out; subst eo27) | ((with_reducible refine gate_callee (f := 9) rfl ?_); refine goesL_ (some 18) rfl rfl Tryz.func9 zi rfl #[.agg #[.string t377, .int .i64 t378, .int .i64 t379, .int .i64 t380, .string t381, .slice Ao27 t382.length co27]] rfl zo ?_; (with_reducible refine (impl_PutEntry.calls (hG_ := globI_on HG_.out z1i) k t377 t378 t379 t380 t381 _ _ t382 t386 _ ?side1 ?side2 A10.out).mono ?_); (case side1 => refine (Kd.R_reads' (e := 35) (base := w.heap.size) (ok := fun k_ => (True ∧ some k_ ≠ (.slice Ao20 t373.length co20 : Value).ownBlock)) (n := t382.length) (c := co27) ?_).2.2; exact (by (with_reducible repeat (first | apply Kd.R_alloc | apply Kd.R_drewN | apply Kd.R_drew)); exact (Kd.R_mono (Kd.R_far (p := ⟨gb385, 5, none⟩) (Kd.R_far (p := ⟨gb385, 4, none⟩) (Kd.R_far (p := ⟨gb385, 3, none⟩) (Kd.R_far (p := ⟨gb385, 2, none⟩) (Kd.R_far (p := ⟨gb385, 1, none⟩) (Kd.R_far (p := ⟨gb385, 0, none⟩) (Kd.R_types HO384.out BK385.out zh) (fun _ hk => hk.2) (.string t377)) (fun _ hk => hk.2) (.int .i64 t378)) (fun _ hk => hk.2) (.int .i64 t379)) (fun _ hk => hk.2) (.int .i64 t380)) (fun _ hk => hk.2) (.string t381)) (fun _ hk => hk.2) (.slice Ao27 t382.length co27)) (fun _ h_ => h_.1)))); (case side2 => exact (Kd.R_reads' HO384.out).2.1); rintro e w28 ⟨rfl, hb⟩; refine ⟨_, rfl, ?_⟩; have n0_ := Aside0.mk (Kd.R_below (by (with_reducible repeat (first | apply Kd.R_alloc | apply Kd.R_drewN | apply Kd.R_drew)); exact (Kd.R_mono (Kd.R_far (p := ⟨gb385, 5, none⟩) (Kd.R_far (p := ⟨gb385, 4, none⟩) (Kd.R_far (p := ⟨gb385, 3, none⟩) (Kd.R_far (p := ⟨gb385, 2, none⟩) (Kd.R_far (p := ⟨gb385, 1, none⟩) (Kd.R_far (p := ⟨gb385, 0, none⟩) (Kd.R_types HO375.out BK385.out zh) (fun _ hk => hk.2) (.string t377)) (fun _ hk => hk.2) (.int .i64 t378)) (fun _ hk => hk.2) (.int .i64 t379)) (fun _ hk => hk.2) (.int .i64 t380)) (fun _ hk => hk.2) (.string t381)) (fun _ hk => hk.2) (.slice Ao27 t382.length co27)) (fun _ h_ => h_.1))) hb); have n1_ := Aside0.mk (Kd.R_below (by (with_reducible repeat (first | apply Kd.R_alloc | apply Kd.R_drewN | apply Kd.R_drew)); exact (Kd.R_mono (Kd.R_far (p := ⟨gb385, 5, none⟩) (Kd.R_far (p := ⟨gb385, 4, none⟩) (Kd.R_far (p := ⟨gb385, 3, none⟩) (Kd.R_far (p := ⟨gb385, 2, none⟩) (Kd.R_far (p := ⟨gb385, 1, none⟩) (Kd.R_far (p := ⟨gb385, 0, none⟩) (Kd.R_types HO384.out BK385.out zh) (fun _ hk => hk.2) (.string t377)) (fun _ hk => hk.2) (.int .i64 t378)) (fun _ hk => hk.2) (.int .i64 t379)) (fun _ hk => hk.2) (.int .i64 t380)) (fun _ hk => hk.2) (.string t381)) (fun _ hk => hk.2) (.slice Ao27 t382.length co27)) (fun _ h_ => h_.1))) hb); have n2_ := Aside0.mk (blk_below (g := gb366) (o := .cells #[.string a0_0, .int .i64 a0_1, .int .i64 a0_2, .int .i64 a0_3, .string a0_4, .slice A0_5 l0_5.length c0_5] 48 (0, 0)) z3l hb); have n3_ := Aside0.mk (blk_below (g := gb385) (o := .cells #[.string t377, .int .i64 t378, .int .i64 t379, .int .i64 t380, .string t381, .slice Ao27 t382.length co27] 28 (0, 0)) z3m hb); have n4_ := Aside0.mk (below_step z3n hb); clear HO375; clear HO384; clear BK366; clear BK385; clear HB; have HO375 := n0_; have HO384 := n1_; have BK366 := n2_; have BK385 := n3_; have HB := n4_; clear n0_ n1_ n2_ n3_ n4_; (try clear hb); (try clear hb2); (try clear hk); (try clear hi)))
    have n0_ := Aside0.mk (Kd.R_drew HO375.out)
    have n1_ := Aside0.mk (Kd.R_drew HO384.out)
    have n2_ := Aside0.mk (blk_drew BK366.out)
    have n3_ := Aside0.mk (blk_drew BK385.out)
    have n4_ := Aside0.mk (below_drew1 HB.out)
    clear HO375
    clear HO384
    clear BK366
    clear BK385
    clear HB
    have HO375 := n0_
    have HO384 := n1_
    have BK366 := n2_
    have BK385 := n3_
    have HB := n4_
    clear n0_ n1_ n2_ n3_ n4_
    refine start_ (n := 5) (S := fun w' => w'.cell? ⟨gb385, 0, none⟩ = some (.string t377) ∧ w'.cell? ⟨gb385, 1, none⟩ = some (.int .i64 t378) ∧ w'.cell? ⟨gb385, 2, none⟩ = some (.int .i64 t379) ∧ w'.cell? ⟨gb385, 3, none⟩ = some (.int .i64 t380) ∧ w'.cell? ⟨gb385, 4, none⟩ = some (.string t381) ∧ w'.cell? ⟨gb385, 5, none⟩ = some (.slice Ao27 t382.length co27) ∧ w'.cell? ⟨gb366, 0, none⟩ = some (.string a0_0) ∧ w'.cell? ⟨gb366, 1, none⟩ = some (.int .i64 a0_1) ∧ w'.cell? ⟨gb366, 2, none⟩ = some (.int .i64 a0_2) ∧ w'.cell? ⟨gb366, 3, none⟩ = some (.int .i64 a0_3) ∧ w'.cell? ⟨gb366, 4, none⟩ = some (.string a0_4) ∧ w'.cell? ⟨gb366, 5, none⟩ = some (.slice A0_5 l0_5.length c0_5)) (ds := []) #[z4h, z4h, z4h, z4h, z4h] zi rfl rfl ⟨(blk_cell BK385.out 0).trans rfl, (blk_cell BK385.out 1).trans rfl, (blk_cell BK385.out 2).trans rfl, (blk_cell BK385.out 3).trans rfl, (blk_cell BK385.out 4).trans rfl, (blk_cell BK385.out 5).trans rfl, (blk_cell BK366.out 0).trans rfl, (blk_cell BK366.out 1).trans rfl, (blk_cell BK366.out 2).trans rfl, (blk_cell BK366.out 3).trans rfl, (blk_cell BK366.out 4).trans rfl, (blk_cell BK366.out 5).trans rfl⟩ (fun hHeld => ?_)
    generalize w28.drew = w29 at HO375 HO384 BK366 BK385 HB hHeld ⊢
    refine take_ (i := 0) (N := some 22) (v := ?_) (a' := ?_) #[z4g, z4h, z4h, z4h, z4h] rfl rfl zi (fun _ _ _ h => h) (Or.inl ⟨zw, ?_⟩) hHeld ?_ ?_
    rotate_left
    ·rintro w' ⟨s0, s1, s2, s3, s4, s5, s6, s7, s8, s9, s10, s11⟩
     go_simp
     with_reducible rfl
    rotate_left
    ·simp only [Act.put, z4i, z4j, z4k, i64_w, i32_w]
     rfl
    refine take_ (i := 1) (N := some 23) (v := ?_) (a' := ?_) #[z4g, z4g, z4h, z4h, z4h] rfl rfl zi (fun _ _ _ h => h) (Or.inl ⟨zw, ?_⟩) hHeld ?_ ?_
    rotate_left
    ·rintro w' ⟨s0, s1, s2, s3, s4, s5, s6, s7, s8, s9, s10, s11⟩
     go_simp
     with_reducible rfl
    rotate_left
    ·simp only [Act.put, z4i, z4j, z4k, i64_w, i32_w]
     rfl
    refine one_ (i := 2) (N := some 24) #[z4g, z4g, z4g, z4h, z4h] rfl rfl zi zh (fun K hK => ?_)
    refine goes_ Tryz.func27 zi rfl #[.agg #[.string a0_0, .int .i64 a0_1, .int .i64 a0_2, .int .i64 a0_3, .string a0_4, .slice A0_5 l0_5.length c0_5]] zw rfl rfl zo ?_
    with_reducible refine (laws_toEntry.calls k a0_0 a0_1 a0_2 a0_3 a0_4 _ _ l0_5 t387 t388 t389 t390 t391 t392 _ ?side1 ?side2 A12.out).mono ?_
    (case side1 => exact z1f)
    (case side2 => exact HC0_5.out)
    rintro e w30 ⟨v393, rfl, ho0, hb⟩
    refine ⟨_, rfl, ?_⟩
    have n0_ := Aside0.mk (Kd.R_elder' z3j (Kd.R_base ho0) hb)
    have n1_ := Aside0.mk (Kd.R_elder' z3k (Kd.R_base ho0) hb)
    have n2_ := Aside0.mk (Kd.R_lower (Kd.R_new' (Kd.R_new' ho0 (Kd.R_lt z3j)) (Kd.R_lt z3k)) (below_size z3n))
    have n3_ := Aside0.mk (blk_below (g := gb366) (o := .cells #[.string a0_0, .int .i64 a0_1, .int .i64 a0_2, .int .i64 a0_3, .string a0_4, .slice A0_5 l0_5.length c0_5] 48 (0, 0)) z3h hb)
    have n4_ := Aside0.mk (blk_below (g := gb385) (o := .cells #[.string t377, .int .i64 t378, .int .i64 t379, .int .i64 t380, .string t381, .slice Ao27 t382.length co27] 28 (0, 0)) z3p hb)
    have n5_ := Aside0.mk (below_step z3n hb)
    clear HO375
    clear HO384
    clear BK366
    clear BK385
    clear HB
    have HO375 := n0_
    have HO384 := n1_
    have HO394 := n2_
    have BK366 := n3_
    have BK385 := n4_
    have HB := n5_
    clear n0_ n1_ n2_ n3_ n4_ n5_
    (try clear hb)
    (try clear hb2)
    (try clear hk)
    (try clear hi)
    (try clear ho0)
    obtain ⟨Ao31, co31, eo31⟩ := Kd.R_slice HO394.out
    (first | subst eo31 | (injection eo31 with f1_ f2_ f3_; have f4_ := f1_.symm; have f5_ := f3_.symm; clear f1_ f2_ f3_; subst f4_; subst f5_))
    refine hK.out _ _ ⟨(blk_cell BK385.out 0).trans rfl, (blk_cell BK385.out 1).trans rfl, (blk_cell BK385.out 2).trans rfl, (blk_cell BK385.out 3).trans rfl, (blk_cell BK385.out 4).trans rfl, (blk_cell BK385.out 5).trans rfl, (blk_cell BK366.out 0).trans rfl, (blk_cell BK366.out 1).trans rfl, (blk_cell BK366.out 2).trans rfl, (blk_cell BK366.out 3).trans rfl, (blk_cell BK366.out 4).trans rfl, (blk_cell BK366.out 5).trans rfl⟩ (fun hHeld => ?_)
    clear hK K
    refine norm_ (a' := ?_) ?_ ?_
    rotate_left
    ·show Act.put _ (some 24) _ = _
     simp only [Act.put, z4i, z4j, z4k, i64_w, i32_w]
     rfl
    refine one_ (i := 3) (N := some 25) #[z4g, z4g, z4g, z4g, z4h] rfl rfl zi zh (fun K hK => ?_)
    refine goes_ Tryz.func19 zi rfl #[.agg #[.string t377, .int .i64 t378, .int .i64 t379, .int .i64 t380, .string t381, .slice Ao27 t382.length co27], .agg #[.string t387, .int .i64 t388, .int .i64 t389, .int .i64 t390, .string t391, .slice Ao31 t392.length co31]] zw rfl rfl zo ?_
    with_reducible refine (laws_eqEntry.calls k t377 t378 t379 t380 t381 _ _ t382 t387 t388 t389 t390 t391 _ _ t392 true _ ?side1 ?side2 ?side3 ?side4 A13.out).mono ?_
    (case side1 => repeat (first | exact (Kd.R_reads' HO384.out).2.2 | (with_reducible refine Kd.C_alloc ?_ _) | (with_reducible refine Kd.C_drewN ?_ _) | (with_reducible refine Kd.C_drew ?_)))
    (case side2 => exact (Kd.R_reads' HO384.out).2.1)
    (case side3 => repeat (first | exact (Kd.R_reads' HO394.out).2.2 | (with_reducible refine Kd.C_alloc ?_ _) | (with_reducible refine Kd.C_drewN ?_ _) | (with_reducible refine Kd.C_drew ?_)))
    (case side4 => exact (Kd.R_reads' HO394.out).2.1)
    rintro e w32 ⟨rfl, hb⟩
    refine ⟨_, rfl, ?_⟩
    have n0_ := Aside0.mk (Kd.R_below z3j hb)
    have n1_ := Aside0.mk (Kd.R_below z3k hb)
    have n2_ := Aside0.mk (Kd.R_below (by (with_reducible repeat (first | apply Kd.R_alloc | apply Kd.R_drewN | apply Kd.R_drew)); exact HO394.out) hb)
    have n3_ := Aside0.mk (blk_below (g := gb366) (o := .cells #[.string a0_0, .int .i64 a0_1, .int .i64 a0_2, .int .i64 a0_3, .string a0_4, .slice A0_5 l0_5.length c0_5] 48 (0, 0)) z3h hb)
    have n4_ := Aside0.mk (blk_below (g := gb385) (o := .cells #[.string t377, .int .i64 t378, .int .i64 t379, .int .i64 t380, .string t381, .slice Ao27 t382.length co27] 28 (0, 0)) z3p hb)
    have n5_ := Aside0.mk (below_step z3n hb)
    clear HO375
    clear HO384
    clear HO394
    clear BK366
    clear BK385
    clear HB
    have HO375 := n0_
    have HO384 := n1_
    have HO394 := n2_
    have BK366 := n3_
    have BK385 := n4_
    have HB := n5_
    clear n0_ n1_ n2_ n3_ n4_ n5_
    (try clear hb)
    (try clear hb2)
    (try clear hk)
    (try clear hi)
    refine hK.out _ _ ⟨(blk_cell BK385.out 0).trans rfl, (blk_cell BK385.out 1).trans rfl, (blk_cell BK385.out 2).trans rfl, (blk_cell BK385.out 3).trans rfl, (blk_cell BK385.out 4).trans rfl, (blk_cell BK385.out 5).trans rfl, (blk_cell BK366.out 0).trans rfl, (blk_cell BK366.out 1).trans rfl, (blk_cell BK366.out 2).trans rfl, (blk_cell BK366.out 3).trans rfl, (blk_cell BK366.out 4).trans rfl, (blk_cell BK366.out 5).trans rfl⟩ (fun hHeld => ?_)
    clear hK K
    refine norm_ (a' := ?_) ?_ ?_
    rotate_left
    ·show Act.put _ (some 25) _ = _
     simp only [Act.put, z4i, z4j, z4k, i64_w, i32_w]
     rfl
    refine pure_ (i := 4) (N := some 26) (v := ?_) (a' := ?_) #[z4g, z4g, z4g, z4g, z4g] rfl rfl zi (fun _ _ _ h => h) (Or.inl ⟨zw, ?_⟩) ?_ ?_
    rotate_left
    ·intro w'
     go_simp
     with_reducible rfl
    rotate_left
    ·simp only [Act.put, z4i, z4j, z4k, i64_w, i32_w]
     rfl
    refine done_ zi ?_
    try go_wp2
    go_ret
    exact ⟨zr, z3n⟩
   ·replace c14 := Bool.eq_false_iff.mpr c14
    subst c14
    have H1 : (some false) = some r := by rw [if_neg (show ¬ (false = true) by decide)] at H; exact H
    clear H
    have H := H1
    clear H1
    obtain rfl := Option.some.inj H
    go_enter Tryz.func6, Tryz.ntmps6
    try go_wp2_with (first | ((with_reducible refine gate_dst (N := 1) rfl ?_); refine box_event zw (N := 1) zw (cs := #[.string a0_0, .int .i64 a0_1, .int .i64 a0_2, .int .i64 a0_3, .string a0_4, .slice A0_5 l0_5.length c0_5]) (t := 48) zx ?_; intro gb366 hg w33 hbox hb; have n0_ := Aside0.mk (below_step zp hb); have n1_ := Aside0.mk hbox; have n2_ := Aside0.mk ((z3s : w.heap.size ≤ gb366)); have n3_ := Aside0.mk ((z3s : w.heap.size ≤ gb366)); clear HB; have HB := n0_; have BK366 := n1_; have GW366 := n2_; have GE366 := n3_; clear n0_ n1_ n2_ n3_; clear hb hbox hg; obtain ⟨hcz34_0, hcz34_1, hcz34_2, hcz34_3, hcz34_4, hcz34_5, hfz34_0, hfz34_1, hfz34_2, hfz34_3, hfz34_4, hfz34_5⟩ := zf BK366.out) | ((with_reducible refine gate_callee (f := 25) rfl ?_); refine goesL_ (some 9) rfl rfl Tryz.func25 zi rfl #[.agg #[.string a0_0, .int .i64 a0_1, .int .i64 a0_2, .int .i64 a0_3, .string a0_4, .slice A0_5 l0_5.length c0_5], .int .i64 1048576] rfl zo ?_; (with_reducible refine (laws_szEntry.calls k a0_0 a0_1 a0_2 a0_3 a0_4 _ _ l0_5 1048576 t367 _ ?side1 ?side2 A2.out).mono ?_); (case side1 => exact z1f); (case side2 => exact HC0_5.out); rintro e w35 ⟨rfl, hb⟩; refine ⟨_, rfl, ?_⟩; have n0_ := Aside0.mk (blk_below (g := gb366) (o := .cells #[.string a0_0, .int .i64 a0_1, .int .i64 a0_2, .int .i64 a0_3, .string a0_4, .slice A0_5 l0_5.length c0_5] 48 (0, 0)) z3h hb); have n1_ := Aside0.mk (below_step z3i hb); clear BK366; clear HB; have BK366 := n0_; have HB := n1_; clear n0_ n1_; (try clear hb); (try clear hb2); (try clear hk); (try clear hi); obtain ⟨hcz36_0, hcz36_1, hcz36_2, hcz36_3, hcz36_4, hcz36_5, hfz36_0, hfz36_1, hfz36_2, hfz36_3, hfz36_4, hfz36_5⟩ := zf BK366.out) | ((with_reducible refine gate_callee (f := 27) rfl ?_); refine goesL_ (some 13) rfl rfl Tryz.func27 zi rfl #[.agg #[.string a0_0, .int .i64 a0_1, .int .i64 a0_2, .int .i64 a0_3, .string a0_4, .slice A0_5 l0_5.length c0_5]] rfl zo ?_; (with_reducible refine (laws_toEntry.calls k a0_0 a0_1 a0_2 a0_3 a0_4 _ _ l0_5 t368 t369 t370 t371 t372 t373 _ ?side1 ?side2 A7.out).mono ?_); (case side1 => exact z1f); (case side2 => exact HC0_5.out); rintro e w37 ⟨v374, rfl, ho0, hb⟩; refine ⟨_, rfl, ?_⟩; have n0_ := Aside0.mk (Kd.R_lower ho0 (below_size z3i)); have n1_ := Aside0.mk (blk_below (g := gb366) (o := .cells #[.string a0_0, .int .i64 a0_1, .int .i64 a0_2, .int .i64 a0_3, .string a0_4, .slice A0_5 l0_5.length c0_5] 48 (0, 0)) z3h hb); have n2_ := Aside0.mk (below_step z3i hb); clear BK366; clear HB; have HO375 := n0_; have BK366 := n1_; have HB := n2_; clear n0_ n1_ n2_; (try clear hb); (try clear hb2); (try clear hk); (try clear hi); (try clear ho0); obtain ⟨Ao38, co38, eo38⟩ := Kd.R_slice HO375.out; subst eo38) | ((with_reducible refine gate_callee (f := 26) rfl ?_); refine goesL_ (some 14) rfl rfl Tryz.func26 zi rfl #[.agg #[.string t368, .int .i64 t369, .int .i64 t370, .int .i64 t371, .string t372, .slice Ao38 t373.length co38]] rfl zo ?_; (with_reducible refine (spec_PutEntry.calls k t368 t369 t370 t371 t372 _ _ t373 t376 _ ?side1 ?side2 A8.out).mono ?_); (case side1 => exact z3o); (case side2 => exact (Kd.R_reads' HO375.out).2.1); rintro e w39 ⟨rfl, hb⟩; refine ⟨_, rfl, ?_⟩; have n0_ := Aside0.mk (Kd.R_below z3j hb); have n1_ := Aside0.mk (blk_below (g := gb366) (o := .cells #[.string a0_0, .int .i64 a0_1, .int .i64 a0_2, .int .i64 a0_3, .string a0_4, .slice A0_5 l0_5.length c0_5] 48 (0, 0)) z3h hb); have n2_ := Aside0.mk (below_step z3i hb); clear HO375; clear BK366; clear HB; have HO375 := n0_; have BK366 := n1_; have HB := n2_; clear n0_ n1_ n2_; (try clear hb); (try clear hb2); (try clear hk); (try clear hi); obtain ⟨hcz40_0, hcz40_1, hcz40_2, hcz40_3, hcz40_4, hcz40_5, hfz40_0, hfz40_1, hfz40_2, hfz40_3, hfz40_4, hfz40_5⟩ := zf BK366.out) | ((with_reducible refine gate_callee (f := 27) rfl ?_); refine goesL_ (some 16) rfl rfl Tryz.func27 zi rfl #[.agg #[.string a0_0, .int .i64 a0_1, .int .i64 a0_2, .int .i64 a0_3, .string a0_4, .slice A0_5 l0_5.length c0_5]] rfl zo ?_; (with_reducible refine (laws_toEntry.calls k a0_0 a0_1 a0_2 a0_3 a0_4 _ _ l0_5 t377 t378 t379 t380 t381 t382 _ ?side1 ?side2 A9.out).mono ?_); (case side1 => exact z1f); (case side2 => exact HC0_5.out); rintro e w41 ⟨v383, rfl, ho0, hb⟩; refine ⟨_, rfl, ?_⟩; have n0_ := Aside0.mk (Kd.R_elder' z3j (Kd.R_base ho0) hb); have n1_ := Aside0.mk (Kd.R_lower (Kd.R_new' ho0 (Kd.R_lt z3j)) (below_size z3i)); have n2_ := Aside0.mk (blk_below (g := gb366) (o := .cells #[.string a0_0, .int .i64 a0_1, .int .i64 a0_2, .int .i64 a0_3, .string a0_4, .slice A0_5 l0_5.length c0_5] 48 (0, 0)) z3h hb); have n3_ := Aside0.mk (below_step z3i hb); clear HO375; clear BK366; clear HB; have HO375 := n0_; have HO384 := n1_; have BK366 := n2_; have HB := n3_; clear n0_ n1_ n2_ n3_; (try clear hb); (try clear hb2); (try clear hk); (try clear hi); (try clear ho0)) | ((with_reducible refine gate_dst (N := 5) rfl ?_); refine box_event zw (N := 5) zw (cs := #[.string (⟨#[]⟩ : ByteArray), .int .i64 0, .int .i64 0, .int .i64 0, .string (⟨#[]⟩ : ByteArray), .slice none 0 0]) (t := 28) zx ?_; intro gb385 hg w42 hbox hb; have n0_ := Aside0.mk (Kd.R_below z3j hb); have n1_ := Aside0.mk (Kd.R_below z3k hb); have n2_ := Aside0.mk (blk_below (g := gb366) (o := .cells #[.string a0_0, .int .i64 a0_1, .int .i64 a0_2, .int .i64 a0_3, .string a0_4, .slice A0_5 l0_5.length c0_5] 48 (0, 0)) z3h hb); have n3_ := Aside0.mk (below_step z3i hb); have n4_ := Aside0.mk hbox; have n5_ := Aside0.mk ((z4d : w.heap.size ≤ gb385)); have n6_ := Aside0.mk ((z4d : w.heap.size ≤ gb385)); have n7_ := Aside0.mk ((z4e : gb366 ≠ gb385)); have n8_ := Aside0.mk ((z4f : gb385 ≠ gb366)); clear HO375; clear HO384; clear BK366; clear HB; have HO375 := n0_; have HO384 := n1_; have BK366 := n2_; have HB := n3_; have BK385 := n4_; have GW385 := n5_; have GE385 := n6_; have NB366_385 := n7_; have NB385_366 := n8_; clear n0_ n1_ n2_ n3_ n4_ n5_ n6_ n7_ n8_; clear hb hbox hg; have hnb43 := NB385_366.out; have hnc43 := NB366_385.out; obtain ⟨hcz44_0, hcz44_1, hcz44_2, hcz44_3, hcz44_4, hcz44_5, hfz44_0, hfz44_1, hfz44_2, hfz44_3, hfz44_4, hfz44_5⟩ := zf BK385.out; obtain ⟨Ao45, co45, eo45⟩ := Kd.R_slice HO384.out; subst eo45) | ((with_reducible refine gate_callee (f := 9) rfl ?_); refine goesL_ (some 18) rfl rfl Tryz.func9 zi rfl #[.agg #[.string t377, .int .i64 t378, .int .i64 t379, .int .i64 t380, .string t381, .slice Ao45 t382.length co45]] rfl zo ?_; (with_reducible refine (impl_PutEntry.calls (hG_ := globI_on HG_.out z1i) k t377 t378 t379 t380 t381 _ _ t382 t386 _ ?side1 ?side2 A10.out).mono ?_); (case side1 => refine (Kd.R_reads' (e := 35) (base := w.heap.size) (ok := fun k_ => (True ∧ some k_ ≠ (.slice Ao38 t373.length co38 : Value).ownBlock)) (n := t382.length) (c := co45) ?_).2.2; exact (by (with_reducible repeat (first | apply Kd.R_alloc | apply Kd.R_drewN | apply Kd.R_drew)); exact (Kd.R_mono (Kd.R_far (p := ⟨gb385, 5, none⟩) (Kd.R_far (p := ⟨gb385, 4, none⟩) (Kd.R_far (p := ⟨gb385, 3, none⟩) (Kd.R_far (p := ⟨gb385, 2, none⟩) (Kd.R_far (p := ⟨gb385, 1, none⟩) (Kd.R_far (p := ⟨gb385, 0, none⟩) (Kd.R_types HO384.out BK385.out zh) (fun _ hk => hk.2) (.string t377)) (fun _ hk => hk.2) (.int .i64 t378)) (fun _ hk => hk.2) (.int .i64 t379)) (fun _ hk => hk.2) (.int .i64 t380)) (fun _ hk => hk.2) (.string t381)) (fun _ hk => hk.2) (.slice Ao45 t382.length co45)) (fun _ h_ => h_.1)))); (case side2 => exact (Kd.R_reads' HO384.out).2.1); rintro e w46 ⟨rfl, hb⟩; refine ⟨_, rfl, ?_⟩; have n0_ := Aside0.mk (Kd.R_below (by (with_reducible repeat (first | apply Kd.R_alloc | apply Kd.R_drewN | apply Kd.R_drew)); exact (Kd.R_mono (Kd.R_far (p := ⟨gb385, 5, none⟩) (Kd.R_far (p := ⟨gb385, 4, none⟩) (Kd.R_far (p := ⟨gb385, 3, none⟩) (Kd.R_far (p := ⟨gb385, 2, none⟩) (Kd.R_far (p := ⟨gb385, 1, none⟩) (Kd.R_far (p := ⟨gb385, 0, none⟩) (Kd.R_types HO375.out BK385.out zh) (fun _ hk => hk.2) (.string t377)) (fun _ hk => hk.2) (.int .i64 t378)) (fun _ hk => hk.2) (.int .i64 t379)) (fun _ hk => hk.2) (.int .i64 t380)) (fun _ hk => hk.2) (.string t381)) (fun _ hk => hk.2) (.slice Ao45 t382.length co45)) (fun _ h_ => h_.1))) hb); have n1_ := Aside0.mk (Kd.R_below (by (with_reducible repeat (first | apply Kd.R_alloc | apply Kd.R_drewN | apply Kd.R_drew)); exact (Kd.R_mono (Kd.R_far (p := ⟨gb385, 5, none⟩) (Kd.R_far (p := ⟨gb385, 4, none⟩) (Kd.R_far (p := ⟨gb385, 3, none⟩) (Kd.R_far (p := ⟨gb385, 2, none⟩) (Kd.R_far (p := ⟨gb385, 1, none⟩) (Kd.R_far (p := ⟨gb385, 0, none⟩) (Kd.R_types HO384.out BK385.out zh) (fun _ hk => hk.2) (.string t377)) (fun _ hk => hk.2) (.int .i64 t378)) (fun _ hk => hk.2) (.int .i64 t379)) (fun _ hk => hk.2) (.int .i64 t380)) (fun _ hk => hk.2) (.string t381)) (fun _ hk => hk.2) (.slice Ao45 t382.length co45)) (fun _ h_ => h_.1))) hb); have n2_ := Aside0.mk (blk_below (g := gb366) (o := .cells #[.string a0_0, .int .i64 a0_1, .int .i64 a0_2, .int .i64 a0_3, .string a0_4, .slice A0_5 l0_5.length c0_5] 48 (0, 0)) z3l hb); have n3_ := Aside0.mk (blk_below (g := gb385) (o := .cells #[.string t377, .int .i64 t378, .int .i64 t379, .int .i64 t380, .string t381, .slice Ao45 t382.length co45] 28 (0, 0)) z3m hb); have n4_ := Aside0.mk (below_step z3n hb); clear HO375; clear HO384; clear BK366; clear BK385; clear HB; have HO375 := n0_; have HO384 := n1_; have BK366 := n2_; have BK385 := n3_; have HB := n4_; clear n0_ n1_ n2_ n3_ n4_; (try clear hb); (try clear hb2); (try clear hk); (try clear hi)))
    have n0_ := Aside0.mk (Kd.R_drew HO375.out)
    have n1_ := Aside0.mk (Kd.R_drew HO384.out)
    have n2_ := Aside0.mk (blk_drew BK366.out)
    have n3_ := Aside0.mk (blk_drew BK385.out)
    have n4_ := Aside0.mk (below_drew1 HB.out)
    clear HO375
    clear HO384
    clear BK366
    clear BK385
    clear HB
    have HO375 := n0_
    have HO384 := n1_
    have BK366 := n2_
    have BK385 := n3_
    have HB := n4_
    clear n0_ n1_ n2_ n3_ n4_
    refine start_ (n := 5) (S := fun w' => w'.cell? ⟨gb385, 0, none⟩ = some (.string t377) ∧ w'.cell? ⟨gb385, 1, none⟩ = some (.int .i64 t378) ∧ w'.cell? ⟨gb385, 2, none⟩ = some (.int .i64 t379) ∧ w'.cell? ⟨gb385, 3, none⟩ = some (.int .i64 t380) ∧ w'.cell? ⟨gb385, 4, none⟩ = some (.string t381) ∧ w'.cell? ⟨gb385, 5, none⟩ = some (.slice Ao45 t382.length co45) ∧ w'.cell? ⟨gb366, 0, none⟩ = some (.string a0_0) ∧ w'.cell? ⟨gb366, 1, none⟩ = some (.int .i64 a0_1) ∧ w'.cell? ⟨gb366, 2, none⟩ = some (.int .i64 a0_2) ∧ w'.cell? ⟨gb366, 3, none⟩ = some (.int .i64 a0_3) ∧ w'.cell? ⟨gb366, 4, none⟩ = some (.string a0_4) ∧ w'.cell? ⟨gb366, 5, none⟩ = some (.slice A0_5 l0_5.length c0_5)) (ds := []) #[z4h, z4h, z4h, z4h, z4h] zi rfl rfl ⟨(blk_cell BK385.out 0).trans rfl, (blk_cell BK385.out 1).trans rfl, (blk_cell BK385.out 2).trans rfl, (blk_cell BK385.out 3).trans rfl, (blk_cell BK385.out 4).trans rfl, (blk_cell BK385.out 5).trans rfl, (blk_cell BK366.out 0).trans rfl, (blk_cell BK366.out 1).trans rfl, (blk_cell BK366.out 2).trans rfl, (blk_cell BK366.out 3).trans rfl, (blk_cell BK366.out 4).trans rfl, (blk_cell BK366.out 5).trans rfl⟩ (fun hHeld => ?_)
    generalize w46.drew = w47 at HO375 HO384 BK366 BK385 HB hHeld ⊢
    refine take_ (i := 0) (N := some 22) (v := ?_) (a' := ?_) #[z4g, z4h, z4h, z4h, z4h] rfl rfl zi (fun _ _ _ h => h) (Or.inl ⟨zw, ?_⟩) hHeld ?_ ?_
    rotate_left
    ·rintro w' ⟨s0, s1, s2, s3, s4, s5, s6, s7, s8, s9, s10, s11⟩
     go_simp
     with_reducible rfl
    rotate_left
    ·simp only [Act.put, z4i, z4j, z4k, i64_w, i32_w]
     rfl
    refine take_ (i := 1) (N := some 23) (v := ?_) (a' := ?_) #[z4g, z4g, z4h, z4h, z4h] rfl rfl zi (fun _ _ _ h => h) (Or.inl ⟨zw, ?_⟩) hHeld ?_ ?_
    rotate_left
    ·rintro w' ⟨s0, s1, s2, s3, s4, s5, s6, s7, s8, s9, s10, s11⟩
     go_simp
     with_reducible rfl
    rotate_left
    ·simp only [Act.put, z4i, z4j, z4k, i64_w, i32_w]
     rfl
    refine one_ (i := 2) (N := some 24) #[z4g, z4g, z4g, z4h, z4h] rfl rfl zi zh (fun K hK => ?_)
    refine goes_ Tryz.func27 zi rfl #[.agg #[.string a0_0, .int .i64 a0_1, .int .i64 a0_2, .int .i64 a0_3, .string a0_4, .slice A0_5 l0_5.length c0_5]] zw rfl rfl zo ?_
    with_reducible refine (laws_toEntry.calls k a0_0 a0_1 a0_2 a0_3 a0_4 _ _ l0_5 t387 t388 t389 t390 t391 t392 _ ?side1 ?side2 A12.out).mono ?_
    (case side1 => exact z1f)
    (case side2 => exact HC0_5.out)
    rintro e w48 ⟨v393, rfl, ho0, hb⟩
    refine ⟨_, rfl, ?_⟩
    have n0_ := Aside0.mk (Kd.R_elder' z3j (Kd.R_base ho0) hb)
    have n1_ := Aside0.mk (Kd.R_elder' z3k (Kd.R_base ho0) hb)
    have n2_ := Aside0.mk (Kd.R_lower (Kd.R_new' (Kd.R_new' ho0 (Kd.R_lt z3j)) (Kd.R_lt z3k)) (below_size z3n))
    have n3_ := Aside0.mk (blk_below (g := gb366) (o := .cells #[.string a0_0, .int .i64 a0_1, .int .i64 a0_2, .int .i64 a0_3, .string a0_4, .slice A0_5 l0_5.length c0_5] 48 (0, 0)) z3h hb)
    have n4_ := Aside0.mk (blk_below (g := gb385) (o := .cells #[.string t377, .int .i64 t378, .int .i64 t379, .int .i64 t380, .string t381, .slice Ao45 t382.length co45] 28 (0, 0)) z3p hb)
    have n5_ := Aside0.mk (below_step z3n hb)
    clear HO375
    clear HO384
    clear BK366
    clear BK385
    clear HB
    have HO375 := n0_
    have HO384 := n1_
    have HO394 := n2_
    have BK366 := n3_
    have BK385 := n4_
    have HB := n5_
    clear n0_ n1_ n2_ n3_ n4_ n5_
    (try clear hb)
    (try clear hb2)
    (try clear hk)
    (try clear hi)
    (try clear ho0)
    obtain ⟨Ao49, co49, eo49⟩ := Kd.R_slice HO394.out
    (first | subst eo49 | (injection eo49 with f1_ f2_ f3_; have f4_ := f1_.symm; have f5_ := f3_.symm; clear f1_ f2_ f3_; subst f4_; subst f5_))
    refine hK.out _ _ ⟨(blk_cell BK385.out 0).trans rfl, (blk_cell BK385.out 1).trans rfl, (blk_cell BK385.out 2).trans rfl, (blk_cell BK385.out 3).trans rfl, (blk_cell BK385.out 4).trans rfl, (blk_cell BK385.out 5).trans rfl, (blk_cell BK366.out 0).trans rfl, (blk_cell BK366.out 1).trans rfl, (blk_cell BK366.out 2).trans rfl, (blk_cell BK366.out 3).trans rfl, (blk_cell BK366.out 4).trans rfl, (blk_cell BK366.out 5).trans rfl⟩ (fun hHeld => ?_)
    clear hK K
    refine norm_ (a' := ?_) ?_ ?_
    rotate_left
    ·show Act.put _ (some 24) _ = _
     simp only [Act.put, z4i, z4j, z4k, i64_w, i32_w]
     rfl
    refine one_ (i := 3) (N := some 25) #[z4g, z4g, z4g, z4g, z4h] rfl rfl zi zh (fun K hK => ?_)
    refine goes_ Tryz.func19 zi rfl #[.agg #[.string t377, .int .i64 t378, .int .i64 t379, .int .i64 t380, .string t381, .slice Ao45 t382.length co45], .agg #[.string t387, .int .i64 t388, .int .i64 t389, .int .i64 t390, .string t391, .slice Ao49 t392.length co49]] zw rfl rfl zo ?_
    with_reducible refine (laws_eqEntry.calls k t377 t378 t379 t380 t381 _ _ t382 t387 t388 t389 t390 t391 _ _ t392 false _ ?side1 ?side2 ?side3 ?side4 A13.out).mono ?_
    (case side1 => repeat (first | exact (Kd.R_reads' HO384.out).2.2 | (with_reducible refine Kd.C_alloc ?_ _) | (with_reducible refine Kd.C_drewN ?_ _) | (with_reducible refine Kd.C_drew ?_)))
    (case side2 => exact (Kd.R_reads' HO384.out).2.1)
    (case side3 => repeat (first | exact (Kd.R_reads' HO394.out).2.2 | (with_reducible refine Kd.C_alloc ?_ _) | (with_reducible refine Kd.C_drewN ?_ _) | (with_reducible refine Kd.C_drew ?_)))
    (case side4 => exact (Kd.R_reads' HO394.out).2.1)
    rintro e w50 ⟨rfl, hb⟩
    refine ⟨_, rfl, ?_⟩
    have n0_ := Aside0.mk (Kd.R_below z3j hb)
    have n1_ := Aside0.mk (Kd.R_below z3k hb)
    have n2_ := Aside0.mk (Kd.R_below (by (with_reducible repeat (first | apply Kd.R_alloc | apply Kd.R_drewN | apply Kd.R_drew)); exact HO394.out) hb)
    have n3_ := Aside0.mk (blk_below (g := gb366) (o := .cells #[.string a0_0, .int .i64 a0_1, .int .i64 a0_2, .int .i64 a0_3, .string a0_4, .slice A0_5 l0_5.length c0_5] 48 (0, 0)) z3h hb)
    have n4_ := Aside0.mk (blk_below (g := gb385) (o := .cells #[.string t377, .int .i64 t378, .int .i64 t379, .int .i64 t380, .string t381, .slice Ao45 t382.length co45] 28 (0, 0)) z3p hb)
    have n5_ := Aside0.mk (below_step z3n hb)
    clear HO375
    clear HO384
    clear HO394
    clear BK366
    clear BK385
    clear HB
    have HO375 := n0_
    have HO384 := n1_
    have HO394 := n2_
    have BK366 := n3_
    have BK385 := n4_
    have HB := n5_
    clear n0_ n1_ n2_ n3_ n4_ n5_
    (try clear hb)
    (try clear hb2)
    (try clear hk)
    (try clear hi)
    refine hK.out _ _ ⟨(blk_cell BK385.out 0).trans rfl, (blk_cell BK385.out 1).trans rfl, (blk_cell BK385.out 2).trans rfl, (blk_cell BK385.out 3).trans rfl, (blk_cell BK385.out 4).trans rfl, (blk_cell BK385.out 5).trans rfl, (blk_cell BK366.out 0).trans rfl, (blk_cell BK366.out 1).trans rfl, (blk_cell BK366.out 2).trans rfl, (blk_cell BK366.out 3).trans rfl, (blk_cell BK366.out 4).trans rfl, (blk_cell BK366.out 5).trans rfl⟩ (fun hHeld => ?_)
    clear hK K
    refine norm_ (a' := ?_) ?_ ?_
    rotate_left
    ·show Act.put _ (some 25) _ = _
     simp only [Act.put, z4i, z4j, z4k, i64_w, i32_w]
     rfl
    refine pure_ (i := 4) (N := some 26) (v := ?_) (a' := ?_) #[z4g, z4g, z4g, z4g, z4g] rfl rfl zi (fun _ _ _ h => h) (Or.inl ⟨zw, ?_⟩) ?_ ?_
    rotate_left
    ·intro w'
     go_simp
     with_reducible rfl
    rotate_left
    ·simp only [Act.put, z4i, z4j, z4k, i64_w, i32_w]
     rfl
    refine done_ zi ?_
    try go_wp2
    go_ret
    exact ⟨zr, z3n⟩
  ·rw [if_neg c11] at H
   have c11b0 : (t386.toList == t376.toList) = false := beq_eq_false_iff_ne.mpr c11
   have c11b1 : (t386.toList != t376.toList) = true := bne_iff_ne.mpr c11
   obtain rfl := Option.some.inj H
   go_enter Tryz.func6, Tryz.ntmps6
   go_wp2_with (first | ((with_reducible refine gate_dst (N := 1) rfl ?_); refine box_event zw (N := 1) zw (cs := #[.string a0_0, .int .i64 a0_1, .int .i64 a0_2, .int .i64 a0_3, .string a0_4, .slice A0_5 l0_5.length c0_5]) (t := 48) zx ?_; intro gb366 hg w51 hbox hb; have n0_ := Aside0.mk (below_step zp hb); have n1_ := Aside0.mk hbox; have n2_ := Aside0.mk ((z3s : w.heap.size ≤ gb366)); have n3_ := Aside0.mk ((z3s : w.heap.size ≤ gb366)); clear HB; have HB := n0_; have BK366 := n1_; have GW366 := n2_; have GE366 := n3_; clear n0_ n1_ n2_ n3_; clear hb hbox hg; obtain ⟨hcz52_0, hcz52_1, hcz52_2, hcz52_3, hcz52_4, hcz52_5, hfz52_0, hfz52_1, hfz52_2, hfz52_3, hfz52_4, hfz52_5⟩ := zf BK366.out) | ((with_reducible refine gate_callee (f := 25) rfl ?_); refine goesL_ (some 9) rfl rfl Tryz.func25 zi rfl #[.agg #[.string a0_0, .int .i64 a0_1, .int .i64 a0_2, .int .i64 a0_3, .string a0_4, .slice A0_5 l0_5.length c0_5], .int .i64 1048576] rfl zo ?_; (with_reducible refine (laws_szEntry.calls k a0_0 a0_1 a0_2 a0_3 a0_4 _ _ l0_5 1048576 t367 _ ?side1 ?side2 A2.out).mono ?_); (case side1 => exact z1f); (case side2 => exact HC0_5.out); rintro e w53 ⟨rfl, hb⟩; refine ⟨_, rfl, ?_⟩; have n0_ := Aside0.mk (blk_below (g := gb366) (o := .cells #[.string a0_0, .int .i64 a0_1, .int .i64 a0_2, .int .i64 a0_3, .string a0_4, .slice A0_5 l0_5.length c0_5] 48 (0, 0)) z3h hb); have n1_ := Aside0.mk (below_step z3i hb); clear BK366; clear HB; have BK366 := n0_; have HB := n1_; clear n0_ n1_; (try clear hb); (try clear hb2); (try clear hk); (try clear hi); obtain ⟨hcz54_0, hcz54_1, hcz54_2, hcz54_3, hcz54_4, hcz54_5, hfz54_0, hfz54_1, hfz54_2, hfz54_3, hfz54_4, hfz54_5⟩ := zf BK366.out) | ((with_reducible refine gate_callee (f := 27) rfl ?_); refine goesL_ (some 13) rfl rfl Tryz.func27 zi rfl #[.agg #[.string a0_0, .int .i64 a0_1, .int .i64 a0_2, .int .i64 a0_3, .string a0_4, .slice A0_5 l0_5.length c0_5]] rfl zo ?_; (with_reducible refine (laws_toEntry.calls k a0_0 a0_1 a0_2 a0_3 a0_4 _ _ l0_5 t368 t369 t370 t371 t372 t373 _ ?side1 ?side2 A7.out).mono ?_); (case side1 => exact z1f); (case side2 => exact HC0_5.out); rintro e w55 ⟨v374, rfl, ho0, hb⟩; refine ⟨_, rfl, ?_⟩; have n0_ := Aside0.mk (Kd.R_lower ho0 (below_size z3i)); have n1_ := Aside0.mk (blk_below (g := gb366) (o := .cells #[.string a0_0, .int .i64 a0_1, .int .i64 a0_2, .int .i64 a0_3, .string a0_4, .slice A0_5 l0_5.length c0_5] 48 (0, 0)) z3h hb); have n2_ := Aside0.mk (below_step z3i hb); clear BK366; clear HB; have HO375 := n0_; have BK366 := n1_; have HB := n2_; clear n0_ n1_ n2_; (try clear hb); (try clear hb2); (try clear hk); (try clear hi); (try clear ho0); obtain ⟨Ao56, co56, eo56⟩ := Kd.R_slice HO375.out; subst eo56) | ((with_reducible refine gate_callee (f := 26) rfl ?_); refine goesL_ (some 14) rfl rfl Tryz.func26 zi rfl #[.agg #[.string t368, .int .i64 t369, .int .i64 t370, .int .i64 t371, .string t372, .slice Ao56 t373.length co56]] rfl zo ?_; (with_reducible refine (spec_PutEntry.calls k t368 t369 t370 t371 t372 _ _ t373 t376 _ ?side1 ?side2 A8.out).mono ?_); (case side1 => exact z3o); (case side2 => exact (Kd.R_reads' HO375.out).2.1); rintro e w57 ⟨rfl, hb⟩; refine ⟨_, rfl, ?_⟩; have n0_ := Aside0.mk (Kd.R_below z3j hb); have n1_ := Aside0.mk (blk_below (g := gb366) (o := .cells #[.string a0_0, .int .i64 a0_1, .int .i64 a0_2, .int .i64 a0_3, .string a0_4, .slice A0_5 l0_5.length c0_5] 48 (0, 0)) z3h hb); have n2_ := Aside0.mk (below_step z3i hb); clear HO375; clear BK366; clear HB; have HO375 := n0_; have BK366 := n1_; have HB := n2_; clear n0_ n1_ n2_; (try clear hb); (try clear hb2); (try clear hk); (try clear hi); obtain ⟨hcz58_0, hcz58_1, hcz58_2, hcz58_3, hcz58_4, hcz58_5, hfz58_0, hfz58_1, hfz58_2, hfz58_3, hfz58_4, hfz58_5⟩ := zf BK366.out) | ((with_reducible refine gate_callee (f := 27) rfl ?_); refine goesL_ (some 16) rfl rfl Tryz.func27 zi rfl #[.agg #[.string a0_0, .int .i64 a0_1, .int .i64 a0_2, .int .i64 a0_3, .string a0_4, .slice A0_5 l0_5.length c0_5]] rfl zo ?_; (with_reducible refine (laws_toEntry.calls k a0_0 a0_1 a0_2 a0_3 a0_4 _ _ l0_5 t377 t378 t379 t380 t381 t382 _ ?side1 ?side2 A9.out).mono ?_); (case side1 => exact z1f); (case side2 => exact HC0_5.out); rintro e w59 ⟨v383, rfl, ho0, hb⟩; refine ⟨_, rfl, ?_⟩; have n0_ := Aside0.mk (Kd.R_elder' z3j (Kd.R_base ho0) hb); have n1_ := Aside0.mk (Kd.R_lower (Kd.R_new' ho0 (Kd.R_lt z3j)) (below_size z3i)); have n2_ := Aside0.mk (blk_below (g := gb366) (o := .cells #[.string a0_0, .int .i64 a0_1, .int .i64 a0_2, .int .i64 a0_3, .string a0_4, .slice A0_5 l0_5.length c0_5] 48 (0, 0)) z3h hb); have n3_ := Aside0.mk (below_step z3i hb); clear HO375; clear BK366; clear HB; have HO375 := n0_; have HO384 := n1_; have BK366 := n2_; have HB := n3_; clear n0_ n1_ n2_ n3_; (try clear hb); (try clear hb2); (try clear hk); (try clear hi); (try clear ho0)) | ((with_reducible refine gate_dst (N := 5) rfl ?_); refine box_event zw (N := 5) zw (cs := #[.string (⟨#[]⟩ : ByteArray), .int .i64 0, .int .i64 0, .int .i64 0, .string (⟨#[]⟩ : ByteArray), .slice none 0 0]) (t := 28) zx ?_; intro gb385 hg w60 hbox hb; have n0_ := Aside0.mk (Kd.R_below z3j hb); have n1_ := Aside0.mk (Kd.R_below z3k hb); have n2_ := Aside0.mk (blk_below (g := gb366) (o := .cells #[.string a0_0, .int .i64 a0_1, .int .i64 a0_2, .int .i64 a0_3, .string a0_4, .slice A0_5 l0_5.length c0_5] 48 (0, 0)) z3h hb); have n3_ := Aside0.mk (below_step z3i hb); have n4_ := Aside0.mk hbox; have n5_ := Aside0.mk ((z4d : w.heap.size ≤ gb385)); have n6_ := Aside0.mk ((z4d : w.heap.size ≤ gb385)); have n7_ := Aside0.mk ((z4e : gb366 ≠ gb385)); have n8_ := Aside0.mk ((z4f : gb385 ≠ gb366)); clear HO375; clear HO384; clear BK366; clear HB; have HO375 := n0_; have HO384 := n1_; have BK366 := n2_; have HB := n3_; have BK385 := n4_; have GW385 := n5_; have GE385 := n6_; have NB366_385 := n7_; have NB385_366 := n8_; clear n0_ n1_ n2_ n3_ n4_ n5_ n6_ n7_ n8_; clear hb hbox hg; have hnb61 := NB385_366.out; have hnc61 := NB366_385.out; obtain ⟨hcz62_0, hcz62_1, hcz62_2, hcz62_3, hcz62_4, hcz62_5, hfz62_0, hfz62_1, hfz62_2, hfz62_3, hfz62_4, hfz62_5⟩ := zf BK385.out; obtain ⟨Ao63, co63, eo63⟩ := Kd.R_slice HO384.out; subst eo63) | ((with_reducible refine gate_callee (f := 9) rfl ?_); refine goesL_ (some 18) rfl rfl Tryz.func9 zi rfl #[.agg #[.string t377, .int .i64 t378, .int .i64 t379, .int .i64 t380, .string t381, .slice Ao63 t382.length co63]] rfl zo ?_; (with_reducible refine (impl_PutEntry.calls (hG_ := globI_on HG_.out z1i) k t377 t378 t379 t380 t381 _ _ t382 t386 _ ?side1 ?side2 A10.out).mono ?_); (case side1 => refine (Kd.R_reads' (e := 35) (base := w.heap.size) (ok := fun k_ => (True ∧ some k_ ≠ (.slice Ao56 t373.length co56 : Value).ownBlock)) (n := t382.length) (c := co63) ?_).2.2; exact (by (with_reducible repeat (first | apply Kd.R_alloc | apply Kd.R_drewN | apply Kd.R_drew)); exact (Kd.R_mono (Kd.R_far (p := ⟨gb385, 5, none⟩) (Kd.R_far (p := ⟨gb385, 4, none⟩) (Kd.R_far (p := ⟨gb385, 3, none⟩) (Kd.R_far (p := ⟨gb385, 2, none⟩) (Kd.R_far (p := ⟨gb385, 1, none⟩) (Kd.R_far (p := ⟨gb385, 0, none⟩) (Kd.R_types HO384.out BK385.out zh) (fun _ hk => hk.2) (.string t377)) (fun _ hk => hk.2) (.int .i64 t378)) (fun _ hk => hk.2) (.int .i64 t379)) (fun _ hk => hk.2) (.int .i64 t380)) (fun _ hk => hk.2) (.string t381)) (fun _ hk => hk.2) (.slice Ao63 t382.length co63)) (fun _ h_ => h_.1)))); (case side2 => exact (Kd.R_reads' HO384.out).2.1); rintro e w64 ⟨rfl, hb⟩; refine ⟨_, rfl, ?_⟩; have n0_ := Aside0.mk (Kd.R_below (by (with_reducible repeat (first | apply Kd.R_alloc | apply Kd.R_drewN | apply Kd.R_drew)); exact (Kd.R_mono (Kd.R_far (p := ⟨gb385, 5, none⟩) (Kd.R_far (p := ⟨gb385, 4, none⟩) (Kd.R_far (p := ⟨gb385, 3, none⟩) (Kd.R_far (p := ⟨gb385, 2, none⟩) (Kd.R_far (p := ⟨gb385, 1, none⟩) (Kd.R_far (p := ⟨gb385, 0, none⟩) (Kd.R_types HO375.out BK385.out zh) (fun _ hk => hk.2) (.string t377)) (fun _ hk => hk.2) (.int .i64 t378)) (fun _ hk => hk.2) (.int .i64 t379)) (fun _ hk => hk.2) (.int .i64 t380)) (fun _ hk => hk.2) (.string t381)) (fun _ hk => hk.2) (.slice Ao63 t382.length co63)) (fun _ h_ => h_.1))) hb); have n1_ := Aside0.mk (Kd.R_below (by (with_reducible repeat (first | apply Kd.R_alloc | apply Kd.R_drewN | apply Kd.R_drew)); exact (Kd.R_mono (Kd.R_far (p := ⟨gb385, 5, none⟩) (Kd.R_far (p := ⟨gb385, 4, none⟩) (Kd.R_far (p := ⟨gb385, 3, none⟩) (Kd.R_far (p := ⟨gb385, 2, none⟩) (Kd.R_far (p := ⟨gb385, 1, none⟩) (Kd.R_far (p := ⟨gb385, 0, none⟩) (Kd.R_types HO384.out BK385.out zh) (fun _ hk => hk.2) (.string t377)) (fun _ hk => hk.2) (.int .i64 t378)) (fun _ hk => hk.2) (.int .i64 t379)) (fun _ hk => hk.2) (.int .i64 t380)) (fun _ hk => hk.2) (.string t381)) (fun _ hk => hk.2) (.slice Ao63 t382.length co63)) (fun _ h_ => h_.1))) hb); have n2_ := Aside0.mk (blk_below (g := gb366) (o := .cells #[.string a0_0, .int .i64 a0_1, .int .i64 a0_2, .int .i64 a0_3, .string a0_4, .slice A0_5 l0_5.length c0_5] 48 (0, 0)) z3l hb); have n3_ := Aside0.mk (blk_below (g := gb385) (o := .cells #[.string t377, .int .i64 t378, .int .i64 t379, .int .i64 t380, .string t381, .slice Ao63 t382.length co63] 28 (0, 0)) z3m hb); have n4_ := Aside0.mk (below_step z3n hb); clear HO375; clear HO384; clear BK366; clear BK385; clear HB; have HO375 := n0_; have HO384 := n1_; have BK366 := n2_; have BK385 := n3_; have HB := n4_; clear n0_ n1_ n2_ n3_ n4_; (try clear hb); (try clear hb2); (try clear hk); (try clear hi)))
   go_ret
   exact ⟨zr, z3n⟩
def laws_FnExactPutEntry.Pure : Prop := ∀ (a0_0 : ByteArray) (a0_1 : Int) (a0_2 : Int) (a0_3 : Int) (a0_4 : ByteArray) (l0_5 : List (S110)), ((a0_0.size ≤ maxLen) ∧ (((Lit.int .i64 a0_1).wf = true) ∧ ((Lit.int .i64 a0_2).wf = true) ∧ ((Lit.int .i64 a0_3).wf = true) ∧ a0_4.size ≤ maxLen) ∧ l0_5.length ≤ maxLen ∧ ∀ y, y ∈ l0_5 → (y.f0.size ≤ maxLen) ∧ ((Lit.int .i64 y.f1.f0).wf = true) ∧ ((Lit.int .i64 y.f1.f1).wf = true) ∧ ((Lit.int .i64 y.f1.f2).wf = true) ∧ y.f1.f3.size ≤ maxLen) → ∃ k, laws_FnExactPutEntry.f k a0_0 a0_1 a0_2 a0_3 a0_4 l0_5 = some true
theorem laws_FnExactPutEntry.walk (P : laws_FnExactPutEntry.Pure) (a0_0 : ByteArray) (a0_1 : Int) (a0_2 : Int) (a0_3 : Int) (a0_4 : ByteArray) (A0_5 : Option Addr) (c0_5 : Nat) (l0_5 : List (S110)) (w : World) (hG_ : GlobI w) (hr0_5 : Kd.C k110 w A0_5 l0_5.length l0_5) (hc0_5 : l0_5.length ≤ c0_5) (hg0 : (a0_0.size ≤ maxLen) ∧ (((Lit.int .i64 a0_1).wf = true) ∧ ((Lit.int .i64 a0_2).wf = true) ∧ ((Lit.int .i64 a0_3).wf = true) ∧ a0_4.size ≤ maxLen) ∧ l0_5.length ≤ maxLen ∧ ∀ y, y ∈ l0_5 → (y.f0.size ≤ maxLen) ∧ ((Lit.int .i64 y.f1.f0).wf = true) ∧ ((Lit.int .i64 y.f1.f1).wf = true) ∧ ((Lit.int .i64 y.f1.f2).wf = true) ∧ y.f1.f3.size ≤ maxLen) :
  Calls Tryz.prog 6 #[.agg #[.string a0_0, .int .i64 a0_1, .int .i64 a0_2, .int .i64 a0_3, .string a0_4, .slice A0_5 l0_5.length c0_5]] w fun e w' => e = .returned (.bool true) ∧ Below w.heap.size w w' := by
 obtain ⟨k, h⟩ := P a0_0 a0_1 a0_2 a0_3 a0_4 l0_5 hg0
 refine (laws_FnExactPutEntry.calls (hG_ := hG_) k a0_0 a0_1 a0_2 a0_3 a0_4 _ _ l0_5 true w hr0_5 hc0_5 h).mono ?_
 rintro e w' ⟨rfl, hd⟩
 exact ⟨rfl, hd⟩
end Go.Proofs.YtgdknepphkhnlaaGreatDoor.X

/- Plain lemmas for what the printed functions compute: enough rounds ('Ev'), tests, bounds of whole numbers, lists. No Go, no memory. -/
set_option linter.unusedVariables false
namespace Go.Proofs.YtgdknepphkhnlaaGreatDoor.Z
open Go.RowKit Go.Proofs.YtgdknepphkhnlaaGreatDoorW.PrintWords Go.Proofs.YtgdknepphkhnlaaGreatDoorW.PrintMore
theorem evT {α : Type} {c : Prop} [Decidable c] {f g : Nat → Option α} {r : α} (h : c) (H : Ev f r) : Ev (fun k => if c then f k else g k) r := by
 obtain ⟨K, hK⟩ := H
 exact ⟨K, fun k hk => (if_pos h).trans (hK k hk)⟩
theorem evF {α : Type} {c : Prop} [Decidable c] {f g : Nat → Option α} {r : α} (h : ¬ c) (H : Ev g r) : Ev (fun k => if c then f k else g k) r := by
 obtain ⟨K, hK⟩ := H
 exact ⟨K, fun k hk => (if_neg h).trans (hK k hk)⟩
theorem evI {α : Type} {c : Prop} [Decidable c] {f g : Nat → Option α} {r : α} (H : c → Ev f r) (H' : ¬ c → Ev g r) : Ev (fun k => if c then f k else g k) r := by
 by_cases h : c
 ·exact evT h (H h)
 ·exact evF h (H' h)
theorem evB {α β : Type} {g : Nat → Option α} {f : Nat → α → Option β} {a : α} {r : β} (h : Ev g a) (k : Ev (fun n => f n a) r) : Ev (fun n => (g n).bind (f n)) r := Ev.bind h k
theorem evR {α : Type} {r r' : α} (h : r = r') : Ev (fun _ => some r) r' := h ▸ Ev.now r
theorem evC {α β : Type} {x : Option α} {f : Nat → α → Option β} {a : α} {r : β} (h : x = some a) (k : Ev (fun n => f n a) r) : Ev (fun n => x.bind (f n)) r := by
 subst h
 exact k
theorem evS {α : Type} {g f : Nat → Option α} {r : α} (h : ∀ k, g (k + 1) = f k) (k : Ev f r) : Ev g r := Ev.step h k
theorem evE {α : Type} {g : Nat → Option α} {r r' : α} (h : r = r') (k : Ev g r) : Ev g r' := h ▸ k
theorem ev_one {α : Type} {g : Nat → Option α} {r r' : α} (h : Ev g r) (h' : Ev g r') : r = r' := by
 obtain ⟨K, hK⟩ := h
 obtain ⟨L, hL⟩ := h'
 have a := hK (max K L) (Nat.le_max_left _ _)
 have b := hL (max K L) (Nat.le_max_right _ _)
 rw [a] at b
 exact Option.some.inj b
theorem w64 {x : Int} (h : -9223372036854775808 ≤ x ∧ x ≤ 9223372036854775807) : wrap64 x = x := by unfold wrap64; omega
theorem w64s {i n : Nat} (h : i < n) (hn : n ≤ 9223372036854775807) : wrap64 ((i : Int) + 1) = ((i + 1 : Nat) : Int) := by unfold wrap64; omega
theorem wi64 (x : Int) : IntKind.i64.wrap x = wrap64 x := by rw [Go.IntKind.wrap_i64]; unfold wrap64; rfl
theorem wraps_i64 (n : Int) (h₀ : 0 ≤ n) (h₁ : n < 2 ^ 63) : IntKind.i64.wrap n = n := by
 rw [wi64, w64]
 have : (2 : Int) ^ 63 = 9223372036854775808 := by decide
 omega
theorem ext_get {α : Type} {l m : List α} (hn : l.length = m.length) (h : ∀ j, j < m.length → l[j]? = m[j]?) : l = m := by
 apply List.ext_getElem?
 intro j
 rcases Nat.lt_or_ge j m.length with hj | hj
 ·exact h j hj
 ·rw [List.getElem?_eq_none zg, List.getElem?_eq_none zg]
theorem rdOf_get {α : Type} {d : α} {l : List α} {i : Nat} (h : i < l.length) : l[i]? = some (rdOf d l (i : Int)) := by
 simp [rdOf, List.getElem?_eq_getElem h]
theorem set_next {α : Type} {l m : List α} {i : Nat} {x : α} (hn : l.length = m.length) (hi : i < m.length) (hx : m[i]? = some x) (h : ∀ j, j < i → l[j]? = m[j]?) : ∀ j, j < i + 1 → (l.set i x)[j]? = m[j]? := by
 intro j hj
 rcases Nat.lt_or_ge j i with h1 | h1
 ·rw [List.getElem?_set_ne zg]
  exact h j h1
 ·obtain rfl : i = j := by omega
  rw [List.getElem?_set_self zg, hx]
end Go.Proofs.YtgdknepphkhnlaaGreatDoor.Z

/- Strings as lists of bytes. No Go, no memory. -/
set_option linter.unusedVariables false
namespace Go.Proofs.YtgdknepphkhnlaaGreatDoor.Z
open Go.RowKit Go.Proofs.YtgdknepphkhnlaaGreatDoorW.PrintWords Go.Proofs.YtgdknepphkhnlaaGreatDoorW.PrintMore
theorem tl_loop (a : ByteArray) (d : Nat) : ∀ i r, a.size = i + d → ByteArray.toList.loop a i r = r.reverse ++ a.data.toList.drop i := by
 have h2 := data_length a
 induction d with
 | zero =>
  intro i r h
  unfold ByteArray.toList.loop
  rw [if_neg zg, List.drop_eq_nil_of_le zg, List.append_nil]
 | succ d ih =>
  intro i r h
  unfold ByteArray.toList.loop
  rw [if_pos zg, ih (i + 1) _ zg]
  have hi : i < a.data.size := by
   have : a.data.size = a.size := rfl
   omega
  rw [List.drop_eq_getElem_cons (i := i) (by simpa using hi)]
  simp [ByteArray.get!]
  exact getElem!_pos a.data i hi
theorem tl (a : ByteArray) : a.toList = a.data.toList := by
 unfold ByteArray.toList
 rw [tl_loop a a.size 0 [] zg]
 simp
end Go.Proofs.YtgdknepphkhnlaaGreatDoor.Z

/- Ranges, the program's and the reference's: the same. Plain lemmas. -/
set_option linter.unusedVariables false
namespace Go.Proofs.YtgdknepphkhnlaaGreatDoor.Z
open Go.RowKit Go.Proofs.YtgdknepphkhnlaaGreatDoorW.PrintWords Go.Proofs.YtgdknepphkhnlaaGreatDoorW.PrintMore Go.Proofs.YtgdknepphkhnlaaGreatDoor.X
theorem rng_impl (a b c : Int) : impl_inRange.f a b c = some (decide (b ≤ a ∧ a ≤ c)) := by
 unfold impl_inRange.f
 by_cases h : a ≥ b
 ·rw [if_pos h]
  simp [show b ≤ a from h]
 ·rw [if_neg h]
  simp [show ¬ b ≤ a from h]
theorem rng_spec (a b c : Int) : spec_l1In.f a b c = some (decide (b ≤ a ∧ a ≤ c)) := by
 unfold spec_l1In.f
 by_cases h : a ≥ b
 ·rw [if_pos h]
  simp [show b ≤ a from h]
 ·rw [if_neg h]
  simp [show ¬ b ≤ a from h]
end Go.Proofs.YtgdknepphkhnlaaGreatDoor.Z

/- A text's pieces, the reference's: those between the bytes. Plain lemmas. -/
set_option linter.unusedVariables false
namespace Go.Proofs.YtgdknepphkhnlaaGreatDoor.Z
open Go.RowKit Go.Proofs.YtgdknepphkhnlaaGreatDoorW.PrintWords Go.Proofs.YtgdknepphkhnlaaGreatDoorW.PrintMore Go.Proofs.YtgdknepphkhnlaaGreatDoor.X Go.Proofs.YtgdknepphkhnlaaGreatDoor.Sp
theorem byte_at (s : ByteArray) (i : Nat) (h : i < s.size) : bt s (i : Int) = ((s.data.toList[i]'(by rw [data_length]; exact h)).toNat : Int) := by
 have := rd_bytesOf s (i : Int)
 rw [← this]
 unfold rd bytesOf
 simp [List.getD_eq_getElem?_getD, h]
theorem ext_list (s : ByteArray) (f i : Nat) : s.extract f i = ⟨((s.data.toList.drop f).take (i - f)).toArray⟩ := by
 have h : (s.extract f i).data.toList = (s.data.toList.drop f).take (i - f) := by
  simp [ByteArray.data_extract, List.extract_eq_take_drop]
 cases hx : s.extract f i with
 | mk d =>
  rw [hx] at h
  congr 1
  rw [← h]
def pcsF (pre : List UInt8) (c : UInt8) (l : List UInt8) : List (List UInt8) :=
 match pcs c l with
 | [] => [pre]
 | h :: t => (pre ++ h) :: t
theorem pcs_ne (c : UInt8) (l : List UInt8) : pcs c l ≠ [] := fun h => by
 have := pcs_length c l
 rw [h] at this
 simp at this
theorem pcsF_nil (c : UInt8) (l : List UInt8) : pcsF [] c l = pcs c l := by
 unfold pcsF
 cases h : pcs c l with
 | nil => exact absurd h (pcs_ne c l)
 | cons a t => rfl
theorem pcsF_eq (pre : List UInt8) (c : UInt8) (l : List UInt8) : pcsF pre c (c :: l) = pre :: pcsF [] c l := by
 rw [pcsF_nil]
 unfold pcsF
 rw [pcs, if_pos rfl]
 simp
theorem pcsF_ne (pre : List UInt8) (b c : UInt8) (l : List UInt8) (h : b ≠ c) : pcsF pre c (b :: l) = pcsF (pre ++ [b]) c l := by
 unfold pcsF
 rw [pcs, if_neg h]
 cases hp : pcs c l with
 | nil => exact absurd hp (pcs_ne c l)
 | cons a t => simp [onto]
theorem pcsF_end (pre : List UInt8) (c : UInt8) : pcsF pre c [] = [pre] := by simp [pcsF, pcs]
def toB (l : List UInt8) : ByteArray := ⟨l.toArray⟩
theorem split_l0 (s : ByteArray) (hs : s.size ≤ 1048576) (c : UInt8) (d : Nat) : ∀ (i f : Nat) (out : List ByteArray), i + d = s.size → f ≤ i → out.length + d ≤ 1048577 →
  Ev (fun k => spec_l3Split.l0 k s (c.toNat : Int) out (f : Int) (i : Int)) (out ++ (pcsF ((s.data.toList.drop f).take (i - f)) c (s.data.toList.drop i)).map toB) := by
 induction d with
 | zero =>
  intro i f out hi hf ho
  rw [List.drop_eq_nil_of_le (show s.data.toList.length ≤ i by rw [data_length]; omega), pcsF_end]
  refine evS (fun k => by rw [spec_l3Split.l0]) ?_
  rw [w64s (show i < 1048577 by omega) zg, show ((f : Nat) : Int).toNat = f by omega, show ((i : Nat) : Int).toNat = i by omega, ext_list]
  refine evT zg (evT zg (evT zg (evT zg (evT zg ?_))))
  refine evS (fun k => by rw [spec_l3Split.l0]) ?_
  exact evF zg (evR rfl)
 | succ d ih =>
  intro i f out hi hf ho
  have hl : i < s.data.toList.length := by rw [data_length]; omega
  have hb := byte_at s i zg
  rw [List.drop_eq_getElem_cons hl]
  refine evS (fun k => by rw [spec_l3Split.l0]) ?_
  rw [w64s (show i < 1048577 by omega) zg, show ((f : Nat) : Int).toNat = f by omega, show ((i : Nat) : Int).toNat = i by omega, hb, ext_list]
  refine evT zg (evF zg (evT zg (evT zg ?_)))
  by_cases hc : s.data.toList[i] = c
  ·refine evT (by rw [hc]) (evT zg (evT zg (evT zg ?_)))
   refine evE ?_ (ih (i + 1) (i + 1) _ zg (Nat.le_refl _) (by simp; omega))
   rw [hc, pcsF_eq, Nat.sub_self, List.take_zero]
   simp [toB]
  ·refine evF (fun e => hc (UInt8.toNat_inj.1 zg)) ?_
   refine evE ?_ (ih (i + 1) f out zg zg zg)
   rw [pcsF_ne _ _ _ _ hc]
   congr 3
   have hl2 : i - f < (s.data.toList.drop f).length := by rw [List.length_drop]; omega
   rw [show i + 1 - f = (i - f) + 1 by omega, List.take_succ_eq_append_getElem hl2]
   congr 2
   rw [List.getElem_drop]
   congr 1
   omega
theorem split_spec (s : ByteArray) (hs : s.size ≤ 1048576) (c : UInt8) : Ev (fun k => spec_l3Split.f k s (c.toNat : Int)) (pieces c s) := by
 have h := split_l0 s hs c s.size 0 0 [] zg (Nat.le_refl _) (by simp; omega)
 rw [Nat.sub_self, List.take_zero, List.drop_zero, pcsF_nil, List.nil_append] at h
 exact h
theorem pcs_mem (c : UInt8) : ∀ (l : List UInt8) (x : List UInt8), x ∈ pcs c l → x.length ≤ l.length
 | [], x, h => by simp [pcs] at h; simp [h]
 | b :: l, x, h => by
  have ih := pcs_mem c l
  rw [pcs] at h
  split at h
  ·rcases List.mem_cons.1 h with rfl | h
   ·simp
   ·have := ih x h; simp; omega
  ·cases hp : pcs c l with
   | nil => exact absurd hp (pcs_ne c l)
   | cons a t =>
    rw [hp] at h
    rcases List.mem_cons.1 h with rfl | h
    ·have := ih a (by rw [hp]; exact List.mem_cons_self); simp; omega
    ·have := ih x (by rw [hp]; exact List.mem_cons_of_mem _ h); simp; omega
theorem pieces_mem (c : UInt8) (s : ByteArray) : ∀ x ∈ pieces c s, x.size ≤ s.size := by
 intro x hx
 obtain ⟨l, hl, rfl⟩ := List.mem_map.1 hx
 have := pcs_mem c _ l hl
 rw [data_length] at this
 show l.toArray.size ≤ _
 simpa using this
theorem pieces_count (c : UInt8) (s : ByteArray) : (pieces c s).length ≤ s.size + 1 := by
 rw [pieces, List.length_map, pcs_length]
 have := List.count_le_length (a := c) (l := s.data.toList)
 rw [data_length] at this
 omega
theorem rdOf_mem {l : List ByteArray} {i : Nat} (h : i < l.length) : rdOf ByteArray.empty l (i : Int) ∈ l := List.mem_of_getElem? (rdOf_get (d := ByteArray.empty) h)
end Go.Proofs.YtgdknepphkhnlaaGreatDoor.Z

/- Numbers in versions, the program's and the reference's. Plain lemmas. -/
set_option linter.unusedVariables false
namespace Go.Proofs.YtgdknepphkhnlaaGreatDoor.Z
open Go.RowKit Go.Proofs.YtgdknepphkhnlaaGreatDoorW.PrintWords Go.Proofs.YtgdknepphkhnlaaGreatDoorW.PrintMore Go.Proofs.YtgdknepphkhnlaaGreatDoor.X Go.Proofs.YtgdknepphkhnlaaGreatDoor.Sp
def isD (u : UInt8) : Bool := decide (48 ≤ u.toNat ∧ u.toNat ≤ 57)
def figs (s : ByteArray) : Bool := s.data.toList.all isD && decide (s.size ≠ 0)
theorem figure_ev (b : Int) : impl_isFigure.f b = some (decide (48 ≤ b ∧ b ≤ 57)) := by
 unfold impl_isFigure.f
 by_cases h : b ≥ 48
 ·rw [if_pos h]
  simp [show 48 ≤ b from h]
 ·rw [if_neg h]
  simp [show ¬ 48 ≤ b from h]
theorem ne_nil (s : ByteArray) : (s.toList != ([] : List UInt8)) = decide (s.size ≠ 0) := by
 rw [tl]
 have := data_length s
 by_cases h : s.size = 0
 ·rw [List.eq_nil_of_length_eq_zero (show s.data.toList.length = 0 by omega)]
  simp [h]
 ·have h1 : s.data.toList ≠ [] := fun e => by rw [e] at this; simp at this; omega
  simp [h1, h]
theorem figs_l0 (s : ByteArray) (hs : s.size ≤ 1048576) (d : Nat) : ∀ i : Nat, i + d = s.size → Ev (fun k => impl_isFigures.l0 k s (i : Int)) ((s.data.toList.drop i).all isD && decide (s.size ≠ 0)) ∧ Ev (fun k => spec_l3Digits.l0 k s (i : Int)) ((s.data.toList.drop i).all isD && decide (s.size ≠ 0)) := by
 induction d with
 | zero =>
  intro i hi
  rw [List.drop_eq_nil_of_le (show s.data.toList.length ≤ i by rw [data_length]; omega)]
  constructor
  ·refine evS (fun k => by rw [impl_isFigures.l0]) ?_
   exact evF zg (evR (by rw [ne_nil]; rfl))
  ·refine evS (fun k => by rw [spec_l3Digits.l0]) ?_
   exact evF zg (evR (by rw [ne_nil]; rfl))
 | succ d ih =>
  intro i hi
  have hl : i < s.data.toList.length := by rw [data_length]; omega
  have hb := byte_at s i zg
  have hlt : (s.data.toList[i]).toNat < 256 := UInt8.toNat_lt _
  have hw : wrap64 (((s.data.toList[i]).toNat : Nat) : Int) = (((s.data.toList[i]).toNat : Nat) : Int) := w64 zg
  obtain ⟨h1, h2⟩ := ih (i + 1) zg
  have he : (s.data.toList.drop i).all isD = (isD s.data.toList[i] && (s.data.toList.drop (i + 1)).all isD) := by
   rw [List.drop_eq_getElem_cons hl]
   rfl
  have hd : decide (48 ≤ (((s.data.toList[i]).toNat : Nat) : Int) ∧ (((s.data.toList[i]).toNat : Nat) : Int) ≤ 57) = isD s.data.toList[i] := by
   unfold isD
   exact decide_eq_decide.2 zg
  rw [he]
  constructor
  ·refine evS (fun k => by rw [impl_isFigures.l0]) ?_
   rw [hb, w64s (show i < s.size by omega) zg]
   refine evT zg (evT zg (evC (figure_ev _) ?_))
   rw [hd]
   cases hx : isD s.data.toList[i] with
   | true => exact evT rfl (by simpa using h1)
   | false => exact evF Bool.false_ne_true (evR rfl)
  ·refine evS (fun k => by rw [spec_l3Digits.l0]) ?_
   rw [hb, hw, w64s (show i < s.size by omega) zg]
   refine evT zg (evT zg (evC (rng_spec _ _ _) ?_))
   rw [hd]
   cases hx : isD s.data.toList[i] with
   | true => exact evT rfl (by simpa using h2)
   | false => exact evF Bool.false_ne_true (evR rfl)
theorem figs_impl (s : ByteArray) (hs : s.size ≤ 1048576) : Ev (fun k => impl_isFigures.f k s) (figs s) := (figs_l0 s hs s.size 0 zg).1
theorem figs_spec (s : ByteArray) (hs : s.size ≤ 1048576) : Ev (fun k => spec_l3Digits.f k s) (figs s) := (figs_l0 s hs s.size 0 zg).2
def num (s : ByteArray) : Bool := figs s && (decide (s.data.toList = [48]) || decide (bt s 0 ≠ 48))
theorem figs_size {s : ByteArray} (h : figs s = true) : 0 < s.size := by
 simp only [figs, Bool.and_eq_true, decide_eq_true_eq] at h
 have := h.2
 omega
theorem num_impl (s : ByteArray) (hs : s.size ≤ 1048576) : Ev (fun k => impl_isNumber.f k s) (num s) := by
 unfold impl_isNumber.f num
 refine evB (figs_impl s hs) ?_
 cases hf : figs s with
 | false => exact evF Bool.false_ne_true (evR rfl)
 | true =>
  have := figs_size hf
  refine evT rfl ?_
  by_cases h : s.data.toList = [48]
  ·exact evT (by rw [tl]; exact h) (evR (by simp [h]))
  ·refine evF (by rw [tl]; exact h) (evT zg (evR ?_))
   simp [h, bne, decide_not]
   by_cases hb : bt s 0 = 48
   ·simp [hb]
   ·simp [hb]
def digit (b : UInt8) : Nat := b.toNat - 48
def valA (a : Nat) (l : List UInt8) : Nat := l.foldl (fun n b => n * 10 + digit b) a
theorem valA_nil (a : Nat) : valA a [] = a := rfl
theorem valA_cons (a : Nat) (b : UInt8) (l : List UInt8) : valA a (b :: l) = valA (a * 10 + digit b) l := by unfold valA; rw [List.foldl_cons]
def val (l : List UInt8) : Nat := valA 0 l
theorem valA_eq (l : List UInt8) : ∀ a : Nat, valA a l = a * 10 ^ l.length + valA 0 l := by
 induction l with
 | nil => intro a; simp [valA_nil]
 | cons b l ih =>
  intro a
  rw [valA_cons, ih, valA_cons, ih (0 * 10 + digit b), List.length_cons, Nat.pow_succ, Nat.add_mul, Nat.zero_mul, Nat.zero_add, Nat.mul_assoc, Nat.mul_comm 10, Nat.add_assoc]
theorem val_cons (b : UInt8) (l : List UInt8) : val (b :: l) = digit b * 10 ^ l.length + val l := by
 unfold val
 rw [valA_cons, valA_eq, Nat.zero_mul, Nat.zero_add]
theorem isD_iff (u : UInt8) : isD u = true ↔ 48 ≤ u.toNat ∧ u.toNat ≤ 57 := by unfold isD; exact decide_eq_true_iff
theorem val_l0 (s : ByteArray) (hs : s.size ≤ 8) (ha : s.data.toList.all isD = true) (d : Nat) : ∀ (i : Nat) (a : Nat), i + d = s.size → a < 10 ^ i → Ev (fun k => spec_l3Number.l0 k s (a : Int) (i : Int)) ((valA a (s.data.toList.drop i) : Nat) : Int) := by
 induction d with
 | zero =>
  intro i a hi hlt
  rw [List.drop_eq_nil_of_le (show s.data.toList.length ≤ i by rw [data_length]; omega)]
  refine evS (fun k => by rw [spec_l3Number.l0]) ?_
  exact evF zg (evR rfl)
 | succ d ih =>
  intro i a hi hlt
  have hl : i < s.data.toList.length := by rw [data_length]; omega
  have hb := byte_at s i zg
  have hD := (isD_iff _).1 (List.all_eq_true.1 ha _ (List.getElem_mem hl))
  have hp : 10 ^ i ≤ 10 ^ 7 := Nat.pow_le_pow_right zh zg
  rw [List.drop_eq_getElem_cons hl, valA_cons]
  unfold digit
  generalize (s.data.toList[i]).toNat = n at *
  have e1 : wrap64 (wrap64 ((a : Int) * 10) + ((n : Int) - 48) % 256) = ((a * 10 + (n - 48) : Nat) : Int) := by
   rw [w64 (x := (a : Int) * 10) zg, w64 zg]
   omega
  refine evS (fun k => by rw [spec_l3Number.l0]) ?_
  rw [hb, e1, w64s (show i < s.size by omega) zg]
  refine evT zg (evT zg (ih (i + 1) _ zg ?_))
  rw [Nat.pow_succ]
  omega
def short (s : ByteArray) : Bool := num s && decide (s.size ≤ 8)
def numS (s : ByteArray) : Int := if short s = true then ((val s.data.toList : Nat) : Int) else -1
theorem head_one (s : ByteArray) (h : s.size = 1) : s.data.toList = [48] ↔ bt s 0 = 48 := by
 have hl : s.data.toList.length = 1 := by rw [data_length]; exact h
 have hb : bt s 0 = _ := byte_at s 0 zg
 obtain ⟨x, hx⟩ := List.length_eq_one_iff.1 hl
 rw [hb]
 simp only [hx, List.getElem_cons_zero, List.cons.injEq, and_true]
 constructor
 ·rintro rfl; rfl
 ·intro e
  exact UInt8.toNat_inj.1 (by show x.toNat = 48; omega)
theorem numS_spec (s : ByteArray) (hs : s.size ≤ 1048576) : Ev (fun k => spec_l3Number.f k s) (numS s) := by
 unfold spec_l3Number.f
 refine evB (figs_spec s hs) ?_
 cases hf : figs s with
 | false =>
  have e : numS s = -1 := by unfold numS short num; rw [hf]; rfl
  rw [e]
  refine evF Bool.false_ne_true ?_
  refine evS (fun k => by rw [spec_l3Number.j0]) ?_
  exact evT rfl (evR rfl)
 | true =>
  have hz := figs_size hf
  have ha : s.data.toList.all isD = true := by unfold figs at hf; simp at hf; simpa using hf.1
  refine evT rfl ?_
  by_cases h8 : (s.size : Int) > 8
  ·have e : numS s = -1 := by
    unfold numS short
    rw [decide_eq_false zg, Bool.and_false, if_neg Bool.false_ne_true]
   rw [e]
   refine evT h8 ?_
   refine evS (fun k => by rw [spec_l3Number.j0]) ?_
   exact evT rfl (evR rfl)
  ·refine evF h8 ?_
   have hv := val_l0 s zg ha s.size 0 0 zg zh
   have hv' : Ev (fun k => spec_l3Number.l0 k s 0 0) ((val s.data.toList : Nat) : Int) := hv
   by_cases h1 : (s.size : Int) > 1
   ·refine evT h1 (evT zg ?_)
    have hne : ¬ s.data.toList = [48] := fun e => by
     have := data_length s
     rw [e] at this
     simp at this
     omega
    by_cases hb : bt s 0 = 48
    ·have e : numS s = -1 := by
      unfold numS short num
      rw [decide_eq_false hne, decide_eq_false (fun h => h hb)]
      simp
     rw [e, hb]
     refine evS (fun k => by rw [spec_l3Number.j0]) ?_
     exact evT rfl (evR rfl)
    ·have e : numS s = ((val s.data.toList : Nat) : Int) := by
      unfold numS short num
      rw [hf, decide_eq_true hb, decide_eq_true (show s.size ≤ 8 by omega)]
      simp
     rw [e, beq_eq_false_iff_ne.2 hb]
     refine evS (fun k => by rw [spec_l3Number.j0]) ?_
     exact evF Bool.false_ne_true hv'
   ·refine evF h1 ?_
    have h11 : s.size = 1 := by omega
    have e : numS s = ((val s.data.toList : Nat) : Int) := by
     unfold numS short num
     rw [hf, decide_eq_true (show s.size ≤ 8 by omega)]
     have := head_one s h11
     by_cases hb : bt s 0 = 48
     ·rw [decide_eq_true (this.2 hb)]; simp
     ·rw [decide_eq_true hb]; simp
    rw [e]
    refine evS (fun k => by rw [spec_l3Number.j0]) ?_
    exact evF Bool.false_ne_true hv'
end Go.Proofs.YtgdknepphkhnlaaGreatDoor.Z

/- Short numbers: their values. Plain lemmas. -/
set_option linter.unusedVariables false
namespace Go.Proofs.YtgdknepphkhnlaaGreatDoor.Z
open Go.RowKit Go.Proofs.YtgdknepphkhnlaaGreatDoorW.PrintWords Go.Proofs.YtgdknepphkhnlaaGreatDoorW.PrintMore Go.Proofs.YtgdknepphkhnlaaGreatDoor.X Go.Proofs.YtgdknepphkhnlaaGreatDoor.Sp
theorem short_all {s : ByteArray} (h : short s = true) : s.data.toList.all isD = true ∧ 0 < s.size ∧ s.size ≤ 8 ∧ (s.data.toList = [48] ∨ bt s 0 ≠ 48) := by
 simp only [short, num, figs, Bool.and_eq_true, Bool.or_eq_true, decide_eq_true_eq] at h
 exact ⟨h.1.1.1, by have := h.1.1.2; omega, h.2, h.1.2⟩
theorem short_lead {s : ByteArray} (h : short s = true) (h1 : 1 < s.size) : 10 ^ (s.size - 1) ≤ val s.data.toList := by
 obtain ⟨ha, hz, h8, hb⟩ := short_all h
 have hl := data_length s
 have hne : ¬ s.data.toList = [48] := fun e => by rw [e] at hl; simp at hl; omega
 have hb0 := hb.resolve_left hne
 have hat : bt s 0 = _ := byte_at s 0 zg
 cases hs : s.data.toList with
 | nil => rw [hs] at hl; simp at hl; omega
 | cons b l =>
  rw [hat] at hb0
  simp only [hs, List.getElem_cons_zero] at hb0
  rw [hs] at ha hl
  simp only [List.all_cons, Bool.and_eq_true] at ha
  have hd := (isD_iff b).1 ha.1
  rw [val_cons, show s.size - 1 = l.length by simp at hl; omega]
  have : 1 * 10 ^ l.length ≤ digit b * 10 ^ l.length := Nat.mul_le_mul_right _ (by unfold digit; omega)
  omega
theorem numS_pos (s : ByteArray) : 0 ≤ numS s ↔ short s = true := by
 unfold numS
 split
 ·rename_i h; simp [h]
 ·rename_i h; simp [h]
theorem numS_val {s : ByteArray} (h : short s = true) : numS s = ((val s.data.toList : Nat) : Int) := by unfold numS; rw [if_pos h]
end Go.Proofs.YtgdknepphkhnlaaGreatDoor.Z

/- Decimal texts and their numbers. Plain lemmas. -/
set_option linter.unusedVariables false
namespace Go.Proofs.YtgdknepphkhnlaaGreatDoor.Z
open Go.RowKit Go.Proofs.YtgdknepphkhnlaaGreatDoorW.PrintWords Go.Proofs.YtgdknepphkhnlaaGreatDoorW.PrintMore Go.Proofs.YtgdknepphkhnlaaGreatDoor.X Go.Proofs.YtgdknepphkhnlaaGreatDoor.Sp
theorem decFrom_ev (l : List UInt8) (hd : l.all isD = true) : ∀ a : Nat, Lib.decFrom a l = some (valA a l) := by
 induction l with
 | nil => intro a; rfl
 | cons b l ih =>
  intro a
  simp only [List.all_cons, Bool.and_eq_true] at hd
  have hb := (isD_iff b).1 hd.1
  rw [valA_cons]
  unfold Lib.decFrom Lib.digitVal
  rw [if_pos hb]
  exact ih hd.2 _
theorem atoi_val {s : ByteArray} (h : num s = true) : Lib.atoi s.data.toList = some ((val s.data.toList : Nat) : Int) := by
 simp only [num, figs, Bool.and_eq_true, Bool.or_eq_true, decide_eq_true_eq] at h
 obtain ⟨⟨ha, hz⟩, hb⟩ := h
 have hl := data_length s
 cases hs : s.data.toList with
 | nil => rw [hs] at hl; simp at hl; omega
 | cons b l =>
  rw [hs] at ha
  have ha' := ha
  simp only [List.all_cons, Bool.and_eq_true] at ha
  have hb := (isD_iff b).1 ha.1
  have h1 : (b == 45) = false := beq_eq_false_iff_ne.2 (fun e => by subst e; revert hb; decide)
  have h2 : (b == 43) = false := beq_eq_false_iff_ne.2 (fun e => by subst e; revert hb; decide)
  simp only [Lib.atoi, h1, h2, Bool.false_eq_true, if_false]
  unfold Lib.decNat
  rw [decFrom_ev _ ha']
  rfl
theorem text_ev (n : Nat) : n ≤ 100000000 → Ev (fun k => spec_l3Text.f k (n : Int)) ⟨(Lib.decDigits n).toArray⟩ := by
 induction n using Nat.strongRecOn with
 | ind n ih =>
  intro hn
  rw [Lib.decDigits]
  by_cases h : n < 10
  ·rw [dif_pos h]
   refine evS (fun k => by rw [spec_l3Text.f]) (evT zg (evR ?_))
   rw [w64 zg, show (48 + (n : Int)) % 256 = ((48 + n : Nat) : Int) by omega]
   rfl
  ·rw [dif_neg h]
   have e1 : wrap64 (Int.tdiv (n : Int) 10) = ((n / 10 : Nat) : Int) := by
    rw [Int.tdiv_eq_ediv_of_nonneg zg, w64 zg]
    omega
   have e2 : wrap64 (48 + Int.tmod (n : Int) 10) % 256 = ((48 + n % 10 : Nat) : Int) := by
    rw [Int.tmod_eq_emod_of_nonneg zg, w64 zg]
    omega
   have hsz : (Lib.decDigits (n / 10)).length ≤ n := by
    rw [Lib.decDigits_length]
    have : ∀ m : Nat, Lib.nDigits m ≤ m + 1 := by
     intro m
     induction m using Nat.strongRecOn with
     | ind m ihm =>
      rw [Lib.nDigits]
      split
      ·omega
      ·have := ihm (m / 10) zg
       omega
    have := this (n / 10)
    omega
   refine evS (fun k => by rw [spec_l3Text.f]) ?_
   rw [e1, e2]
   refine evF zg (evB (ih (n / 10) zg zg) (evC rfl (evT ?_ (evR ?_))))
   ·show (Lib.decDigits (n / 10)).toArray.size + 1 ≤ _
    rw [List.size_toArray]
    omega
   ·show (⟨(Lib.decDigits (n / 10)).toArray⟩ : ByteArray) ++ (⟨([UInt8.ofNat (48 + n % 10)] : List UInt8).toArray⟩ : ByteArray) = _
    apply ByteArray.ext
    rw [ByteArray.data_append]
    simp
end Go.Proofs.YtgdknepphkhnlaaGreatDoor.Z

/- Parts of a path, the program's and the reference's: the same. Plain lemmas. -/
set_option linter.unusedVariables false
namespace Go.Proofs.YtgdknepphkhnlaaGreatDoor.Z
open Go.RowKit Go.Proofs.YtgdknepphkhnlaaGreatDoorW.PrintWords Go.Proofs.YtgdknepphkhnlaaGreatDoorW.PrintMore Go.Proofs.YtgdknepphkhnlaaGreatDoor.X Go.Proofs.YtgdknepphkhnlaaGreatDoor.Sp
theorem fig_impl (b : Int) : impl_isFigure.f b = some (decide (48 ≤ b ∧ b ≤ 57)) := by
 unfold impl_isFigure.f
 by_cases h : b ≥ 48
 ·rw [if_pos h]
  simp [show 48 ≤ b from h]
 ·rw [if_neg h]
  simp [show ¬ 48 ≤ b from h]
theorem ev_rest {c0 : Bool} {z e1 e2 e3 : Prop} [Decidable z] [Decidable e1] [Decidable e2] [Decidable e3] {A : Nat → Option Bool} {r : Bool} (H : (c0 = true ∨ ¬ z ∧ (e1 ∨ e2 ∨ e3)) → Ev A r) (H' : ¬ (c0 = true ∨ ¬ z ∧ (e1 ∨ e2 ∨ e3)) → r = false) :
  Ev (fun k => if c0 = true then A k else if z then some false else if e1 then A k else if e2 then A k else if e3 then A k else some false) r := by
 refine evI (fun h => H (.inl h)) (fun h0 => evI (fun hz => evR (H' (by simp [h0, hz])).symm) (fun hz => evI (fun h => H (.inr ⟨hz, .inl h⟩)) (fun h1 => evI (fun h => H (.inr ⟨hz, .inr (.inl h)⟩)) (fun h2 => evI (fun h => H (.inr ⟨hz, .inr (.inr h)⟩)) (fun h3 => evR (H' ?_).symm)))))
 rintro (h | ⟨_, h | h | h⟩)
 ·exact h0 h
 ·exact h1 h
 ·exact h2 h
 ·exact h3 h
theorem part_both (s : ByteArray) (hs : s.size ≤ 1048576) (d : Nat) : ∀ i : Nat, i + d = s.size → ∃ r, Ev (fun k => impl_pathPartOk.l0 k s (i : Int)) r ∧ Ev (fun k => spec_l4Part.l0 k s (i : Int)) r := by
 induction d with
 | zero =>
  intro i hi
  refine ⟨decide ((1 : Int) ≤ s.size ∧ (s.size : Int) ≤ 20), ?_, ?_⟩
  ·refine evS (fun k => by rw [impl_pathPartOk.l0]) (evF zg ?_)
   exact evC (rng_impl _ _ _) (evR rfl)
  ·refine evS (fun k => by rw [spec_l4Part.l0]) (evF zg ?_)
   exact evC (rng_spec _ _ _) (evR rfl)
 | succ d ih =>
  intro i hi
  have hb := bt_range s (i : Int)
  obtain ⟨r, h1, h2⟩ := ih (i + 1) zg
  have hw : wrap64 (bt s (i : Int)) = bt s (i : Int) := w64 zg
  generalize hx : bt s (i : Int) = b at hb hw
  obtain ⟨r', hr⟩ : ∃ r', r' = if (97 ≤ b ∧ b ≤ 122) ∨ (48 ≤ b ∧ b ≤ 57) ∨ ¬ (i : Int) = 0 ∧ (b = 45 ∨ b = 46 ∨ b = 95) then r else false := ⟨_, rfl⟩
  have Hr : ∀ {A : Nat → Option Bool}, Ev A r → (¬ (97 ≤ b ∧ b ≤ 122)) → (decide (48 ≤ b ∧ b ≤ 57) = true ∨ ¬ (i : Int) = 0 ∧ (b = 45 ∨ b = 46 ∨ b = 95)) → Ev A r' := fun hA _ h => by
   rw [hr, if_pos (.inr (by simpa using h))]
   exact hA
  have Hn : (¬ (97 ≤ b ∧ b ≤ 122)) → ¬ (decide (48 ≤ b ∧ b ≤ 57) = true ∨ ¬ (i : Int) = 0 ∧ (b = 45 ∨ b = 46 ∨ b = 95)) → r' = false := fun ha h => by
   rw [hr, if_neg]
   rintro (h' | h')
   ·exact ha h'
   ·exact h (by simpa using h')
  have Hl : ∀ {A : Nat → Option Bool}, Ev A r → (97 ≤ b ∧ b ≤ 122) → Ev A r' := fun hA h => by
   rw [hr, if_pos (.inl h)]
   exact hA
  refine ⟨r', ?_, ?_⟩
  ·refine evS (fun k => by rw [impl_pathPartOk.l0]) ?_
   rw [hx, w64s (show i < s.size by omega) zg]
   refine evT zg (evT zg ?_)
   by_cases ha : b ≥ 97
   ·refine evT ha ?_
    by_cases hc : b ≤ 122
    ·exact evT hc (Hl h1 ⟨ha, hc⟩)
    ·refine evF hc (evC (fig_impl b) ?_)
     exact ev_rest (Hr h1 (fun h => hc h.2)) (Hn (fun h => hc h.2))
   ·refine evF ha (evC (fig_impl b) ?_)
    exact ev_rest (Hr h1 (fun h => ha h.1)) (Hn (fun h => ha h.1))
  ·refine evS (fun k => by rw [spec_l4Part.l0]) ?_
   rw [hx, hw, w64s (show i < s.size by omega) zg]
   refine evT zg (evT zg (evC (rng_spec _ _ _) ?_))
   by_cases ha : 97 ≤ b ∧ b ≤ 122
   ·exact evT (decide_eq_true ha) (Hl h2 ha)
   ·refine evF (by simpa using ha) (evC (rng_spec _ _ _) ?_)
    exact ev_rest (Hr h2 ha) (Hn ha)
theorem part_nil (s : ByteArray) (h : s.size = 0) : Ev (fun k => impl_pathPartOk.f k s) false := by
 show Ev (fun k => impl_pathPartOk.l0 k s 0) false
 refine evS (fun k => by rw [impl_pathPartOk.l0]) (evF zg ?_)
 exact evC (rng_impl _ _ _) (evR (decide_eq_false zg))
theorem path_l0 (s : ByteArray) (l : List ByteArray) (hl : l.length ≤ 1048577) (hm : ∀ x ∈ l, x.size ≤ 1048576) (d : Nat) : ∀ i : Nat, i + d = l.length → ∃ r, Ev (fun k => impl_PathOk.l0 k s l l (l.length : Int) (i : Int)) r ∧ Ev (fun k => spec_PathOk.l0 k s l (i : Int)) r ∧ (r = true → ∀ x ∈ l.drop i, 1 ≤ x.size) := by
 induction d with
 | zero =>
  intro i hi
  have hnil : ∀ b : Bool, b = true → ∀ x ∈ l.drop i, 1 ≤ x.size := fun b _ x hx => by rw [List.drop_eq_nil_of_le zg] at hx; cases hx
  by_cases h6 : (l.length : Int) ≤ 6
  ·refine ⟨decide ((s.size : Int) ≤ 60), ?_, ?_, hnil _⟩
   ·refine evS (fun k => by rw [impl_PathOk.l0]) (evF zg (evT h6 (evR rfl)))
   ·refine evS (fun k => by rw [spec_PathOk.l0]) (evF zg (evT h6 (evR rfl)))
  ·refine ⟨false, ?_, ?_, hnil _⟩
   ·refine evS (fun k => by rw [impl_PathOk.l0]) (evF zg (evF h6 (evR rfl)))
   ·refine evS (fun k => by rw [spec_PathOk.l0]) (evF zg (evF h6 (evR rfl)))
 | succ d ih =>
  intro i hi
  have hz := hm _ (rdOf_mem (l := l) (i := i) zg)
  obtain ⟨b, p1, p2⟩ := part_both (rdOf ByteArray.empty l (i : Int)) hz _ 0 (Nat.zero_add _)
  obtain ⟨r, h1, h2, h3⟩ := ih (i + 1) zg
  have il : i < l.length := by omega
  have gl : rdOf ByteArray.empty l (i : Int) = l[i] := by
   have := rdOf_get (d := ByteArray.empty) il
   rw [List.getElem?_eq_getElem il] at this
   exact (Option.some.inj this).symm
  have q1 : Ev (fun k => impl_pathPartOk.f k (rdOf ByteArray.empty l (i : Int))) b := p1
  have q2 : Ev (fun k => spec_l4Part.f k (rdOf ByteArray.empty l (i : Int))) b := p2
  cases b with
  | true =>
   refine ⟨r, ?_, ?_, fun hr x hx => ?_⟩
   rotate_left 2
   ·rw [List.drop_eq_getElem_cons il] at hx
    rcases List.mem_cons.1 hx with rfl | hx
    ·rw [gl] at q1
     rcases Nat.eq_zero_or_pos l[i].size with h0 | h0
     ·have := ev_one q1 (part_nil _ h0)
      cases this
     ·exact h0
    ·exact h3 hr x hx
   ·refine evS (fun k => by rw [impl_PathOk.l0]) ?_
    rw [w64s (show i < l.length by omega) zg]
    exact evT zg (evT zg (evT zg (evB q1 (evT rfl h1))))
   ·refine evS (fun k => by rw [spec_PathOk.l0]) ?_
    rw [w64s (show i < l.length by omega) zg]
    exact evT zg (evT zg (evB q2 (evT rfl h2)))
  | false =>
   refine ⟨false, ?_, ?_, fun h => by cases h⟩
   ·refine evS (fun k => by rw [impl_PathOk.l0]) ?_
    exact evT zg (evT zg (evT zg (evB q1 (evF Bool.false_ne_true (evR rfl)))))
   ·refine evS (fun k => by rw [spec_PathOk.l0]) ?_
    exact evT zg (evT zg (evB q2 (evF Bool.false_ne_true (evR rfl))))
theorem split_impl (s : ByteArray) (hs : s.size ≤ 1048576) (c : UInt8) : strings_Split.f s (⟨#[c]⟩ : ByteArray) = some (pieces c s) := by
 unfold strings_Split.f
 rw [if_pos ⟨zg, rfl⟩]
 rfl
theorem pathOk_both (s : ByteArray) (hs : s.size ≤ 1048576) : ∃ r, Ev (fun k => impl_PathOk.f k s) r ∧ Ev (fun k => spec_PathOk.f k s) r ∧ (r = true → ∀ x ∈ pieces 47 s, 1 ≤ x.size) := by
 have hc := pieces_count 47 s
 obtain ⟨r, h1, h2, h3⟩ := path_l0 s (pieces 47 s) zg (fun x hx => by have := pieces_mem 47 s x hx; omega) _ 0 (Nat.zero_add _)
 have hS : Ev (fun k => spec_l3Split.f k s 47) (pieces 47 s) := split_spec s hs 47
 refine ⟨r, ?_, ?_, h3⟩
 ·unfold impl_PathOk.f
  exact evC (split_impl s hs 47) h1
 ·unfold spec_PathOk.f
  exact evB hS h2
end Go.Proofs.YtgdknepphkhnlaaGreatDoor.Z

/- A path's last part that tells a number, the program's way and the reference's. Plain lemmas. -/
set_option linter.unusedVariables false
namespace Go.Proofs.YtgdknepphkhnlaaGreatDoor.Z
open Go.RowKit Go.Proofs.YtgdknepphkhnlaaGreatDoorW.PrintWords Go.Proofs.YtgdknepphkhnlaaGreatDoorW.PrintMore Go.Proofs.YtgdknepphkhnlaaGreatDoor.X Go.Proofs.YtgdknepphkhnlaaGreatDoor.Sp
def lastIx (c : UInt8) (l : List UInt8) : Int := match l.reverse.findIdx? (· = c) with | some j => (l.length : Int) - 1 - j | none => -1
theorem lastIx_snoc_eq (c : UInt8) (l : List UInt8) : lastIx c (l ++ [c]) = l.length := by
 unfold lastIx
 rw [List.reverse_append, List.reverse_singleton, List.singleton_append, List.findIdx?_cons]
 simp
theorem lastIx_snoc_ne (b c : UInt8) (l : List UInt8) (h : b ≠ c) : lastIx c (l ++ [b]) = lastIx c l := by
 unfold lastIx
 rw [List.reverse_append, List.reverse_singleton, List.singleton_append, List.findIdx?_cons]
 simp only [h, decide_false, Bool.false_eq_true, if_false]
 cases l.reverse.findIdx? (fun x => decide (x = c)) with
 | none => rfl
 | some j => simp; omega
theorem last_l0 (s : ByteArray) (hs : s.size ≤ 1048576) (c : UInt8) : ∀ i : Nat, i ≤ s.size → Ev (fun k => bytealg_LastIndexByteString.l0 k s (c.toNat : Int) ((i : Int) - 1)) (lastIx c (s.data.toList.take i)) := by
 intro i
 induction i with
 | zero =>
  intro hi
  refine evS (fun k => by rw [bytealg_LastIndexByteString.l0]) ?_
  exact evF zg (evR rfl)
 | succ i ih =>
  intro hi
  have hl : i < s.data.toList.length := by rw [data_length]; omega
  have hb := byte_at s i zg
  have e0 : (((i + 1 : Nat) : Int) - 1) = (i : Int) := by omega
  rw [e0, List.take_succ_eq_append_getElem hl]
  refine evS (fun k => by rw [bytealg_LastIndexByteString.l0]) ?_
  rw [hb, w64 (x := (i : Int) - 1) zg]
  refine evT zg (evT zg (evT zg ?_))
  by_cases hc : s.data.toList[i] = c
  ·refine evT (by rw [hc]) (evR ?_)
   rw [hc, lastIx_snoc_eq, List.length_take, Nat.min_eq_left zg]
  ·refine evF (fun e => hc (UInt8.toNat_inj.1 zg)) ?_
   rw [lastIx_snoc_ne _ _ _ hc]
   exact ih zg
theorem last_ev (s : ByteArray) (hs : s.size ≤ 1048576) (c : UInt8) : Ev (fun k => strings_LastIndexByte.f k s (c.toNat : Int)) (lastIx c s.data.toList) := by
 unfold strings_LastIndexByte.f
 refine evB (a := lastIx c s.data.toList) ?_ (evR rfl)
 unfold bytealg_LastIndexByteString.f
 rw [w64 (x := (s.size : Int) - 1) zg]
 have := last_l0 s hs c s.size (Nat.le_refl _)
 rwa [List.take_of_length_le (by rw [data_length]; exact Nat.le_refl _)] at this
theorem pcs_last (c : UInt8) : ∀ l : List UInt8, (lastIx c l = -1 ∧ pcs c l = [l]) ∨ ∃ a b : List UInt8, l = a ++ c :: b ∧ lastIx c l = a.length ∧ (pcs c l).getLast? = some b ∧ 2 ≤ (pcs c l).length := by
 intro l
 induction l with
 | nil => exact .inl ⟨rfl, rfl⟩
 | cons x l ih =>
  have hap : ∀ (y : UInt8) (m : List UInt8), lastIx c (y :: m) = if lastIx c m = -1 then (if y = c then 0 else -1) else lastIx c m + 1 := by
   intro y m
   unfold lastIx
   rw [List.reverse_cons, List.findIdx?_append]
   cases hf : m.reverse.findIdx? (fun x => decide (x = c)) with
   | some j =>
    have hj := List.findIdx?_eq_some_iff_getElem.1 hf
    obtain ⟨hj1, _⟩ := hj
    rw [List.length_reverse] at hj1
    simp only [Option.some_or, List.length_cons]
    rw [if_neg zg]
    omega
   | none =>
    by_cases hy : y = c
    ·simp [hy]
    ·simp [hy]
  rw [hap]
  rcases ih with ⟨h1, h2⟩ | ⟨a, b, h1, h2, h3, h4⟩
  ·rw [if_pos h1]
   by_cases hx : x = c
   ·right
    refine ⟨[], l, by rw [hx]; rfl, by rw [if_pos hx]; rfl, ?_, ?_⟩
    ·rw [pcs, if_pos hx, h2]
     rfl
    ·rw [pcs, if_pos hx, h2]
     simp
   ·left
    rw [if_neg hx]
    exact ⟨rfl, by rw [pcs, if_neg hx, h2]; rfl⟩
  ·rw [if_neg zg]
   right
   refine ⟨x :: a, b, by rw [h1]; rfl, by rw [h2]; simp, ?_, ?_⟩
   ·by_cases hx : x = c
    ·rw [pcs, if_pos hx]
     cases hp : pcs c l with
     | nil => exact absurd hp (pcs_ne c l)
     | cons u v => rw [hp] at h3; rw [List.getLast?_cons_cons]; exact h3
    ·rw [pcs, if_neg hx]
     cases hp : pcs c l with
     | nil => exact absurd hp (pcs_ne c l)
     | cons u v =>
      cases v with
      | nil => rw [hp] at h4; simp at h4
      | cons p q =>
       rw [hp] at h3
       rw [List.getLast?_cons_cons] at h3
       show ((x :: u) :: p :: q).getLast? = some b
       rw [List.getLast?_cons_cons]
       exact h3
   ·by_cases hx : x = c
    ·rw [pcs, if_pos hx]; simp; omega
    ·rw [pcs, if_neg hx]
     cases hp : pcs c l with
     | nil => exact absurd hp (pcs_ne c l)
     | cons u v => rw [hp] at h4; simpa [onto] using h4
end Go.Proofs.YtgdknepphkhnlaaGreatDoor.Z

/- The number that a text is, the program's way; ends of texts. Plain lemmas. -/
set_option linter.unusedVariables false
namespace Go.Proofs.YtgdknepphkhnlaaGreatDoor.Z
open Go.RowKit Go.Proofs.YtgdknepphkhnlaaGreatDoorW.PrintWords Go.Proofs.YtgdknepphkhnlaaGreatDoorW.PrintMore Go.Proofs.YtgdknepphkhnlaaGreatDoor.X Go.Proofs.YtgdknepphkhnlaaGreatDoor.Sp
theorem ext_end (s : ByteArray) (f : Nat) : s.extract f s.size = toB (s.data.toList.drop f) := by
 rw [ext_list]
 unfold toB
 rw [List.take_of_length_le (by rw [List.length_drop, data_length]; exact Nat.le_refl _)]
theorem toB_size (l : List UInt8) : (toB l).size = l.length := by
 show l.toArray.size = _
 rw [List.size_toArray]
theorem toB_data (l : List UInt8) : (toB l).data.toList = l := by unfold toB; simp
theorem pieces_toB (c : UInt8) (s : ByteArray) : pieces c s = (pcs c s.data.toList).map toB := rfl
theorem numberOf_ev (t : ByteArray) (ht : t.size ≤ 1048576) (m : Int) (hm : m ≤ 18) : Ev (fun k => impl_numberOf.f k t m) (if num t = true ∧ (t.size : Int) ≤ m then (((val t.data.toList : Nat) : Int), true) else (0, false)) := by
 unfold impl_numberOf.f
 refine evB (num_impl t ht) ?_
 cases hn : num t with
 | false => exact evF Bool.false_ne_true (evR (by simp))
 | true =>
  refine evT rfl ?_
  by_cases h : (t.size : Int) > m
  ·exact evT h (evR (by rw [if_neg (fun e => by omega)]))
  ·refine evF h (evT zg (evC (atoi_val hn) (evR ?_)))
   rw [if_pos ⟨rfl, zg⟩]
theorem pow4 {n : Nat} (h : 4 ≤ n) : 10000 ≤ 10 ^ n := Nat.le_trans zh (Nat.pow_le_pow_right (show 0 < 10 by decide) h)
theorem small4 {t : ByteArray} (hsh : short t = true) (h : ((val t.data.toList : Nat) : Int) ≤ 1000) : t.size ≤ 4 := by
 rcases Nat.lt_or_ge 4 t.size with h5 | h5
 ·have hle := short_lead hsh zg
  have h10 := pow4 (n := t.size - 1) zg
  generalize val t.data.toList = v at *
  generalize 10 ^ (t.size - 1) = p at *
  omega
 ·exact h5
end Go.Proofs.YtgdknepphkhnlaaGreatDoor.Z
