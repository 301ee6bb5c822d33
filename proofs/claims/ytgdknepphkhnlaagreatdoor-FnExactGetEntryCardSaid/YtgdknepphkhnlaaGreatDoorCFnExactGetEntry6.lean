/- The law FnExactGetEntry, as a plain statement: the program's GetEntry answers as the reference's, and shares no memory with another call's answer. Conditions: those of the row's reading alone. -/
/- Part 7 of 13 of this claim's texts. -/
import Derived.Test.YtgdknepphkhnlaaGreatDoorCFnExactGetEntry1
import Derived.Test.YtgdknepphkhnlaaGreatDoorCFnExactGetEntry4
import Derived.Test.YtgdknepphkhnlaaGreatDoorCFnExactGetEntry5
namespace Go.Proofs.YtgdknepphkhnlaaGreatDoor.X
open Go.RowKit Go.Proofs.YtgdknepphkhnlaaGreatDoorW.PrintWords Go.Proofs.YtgdknepphkhnlaaGreatDoorW.PrintLast Go.Proofs.YtgdknepphkhnlaaGreatDoorW.PrintMore
attribute [local go_sem] max2_int min2_int max_two min_two max_three min_three max_four min_four
set_option linter.unusedVariables false
set_option linter.unusedSimpArgs false
def spec_EntryOk.l0 : Nat → Int → ByteArray → Int → Int → Int → ByteArray → List (S35) → Option (Bool)
 | 0, _, _, _, _, _, _, _ => none
 | k + 1, x3, x287000, x287001, x287002, x287003, x287004, x287005 => if x3 < (x287005.length : Int) then (if 0 ≤ x3 then (if ((rd_T35 x287005 x3).f0).toList = x287000.toList then (some false) else (spec_EntryOk.l0 k (wrap64 (x3 + 1)) x287000 x287001 x287002 x287003 x287004 x287005)) else (none)) else ((spec_Fits.f k x287000 x287001 x287002 x287003 x287004).bind fun t288 => (if t288 = true then (if (x287005.length : Int) ≤ 8 then ((spec_l5Rising.f k x287005).bind fun t289 => (some t289)) else (some false)) else (some false)))
def spec_EntryOk.f (k : Nat) (a0_0 : ByteArray) (a0_1 : Int) (a0_2 : Int) (a0_3 : Int) (a0_4 : ByteArray) (l0_5 : List (S35)) : Option (Bool) := spec_EntryOk.l0 k 0 a0_0 a0_1 a0_2 a0_3 a0_4 l0_5
set_option maxHeartbeats 8000000 in
set_option maxRecDepth 100000 in
theorem spec_EntryOk.calls (k : Nat) (a0_0 : ByteArray) (a0_1 : Int) (a0_2 : Int) (a0_3 : Int) (a0_4 : ByteArray) (A0_5 : Option Addr) (c0_5 : Nat) (l0_5 : List (S35)) (r : Bool) (w : World) (hr0_5 : Kd.C k35 w A0_5 l0_5.length l0_5) (hc0_5 : l0_5.length ≤ c0_5) (h : spec_EntryOk.f k a0_0 a0_1 a0_2 a0_3 a0_4 l0_5 = some r) :
  Calls Tryz.prog 10 #[.agg #[.string a0_0, .int .i64 a0_1, .int .i64 a0_2, .int .i64 a0_3, .string a0_4, .slice A0_5 l0_5.length c0_5]] w fun e w' => e = .returned (.bool r) ∧ Below w.heap.size w w' := by
 have hu28 := Tryz.underlying28
 have hu25 := Tryz.underlying25
 have HR0_5 := zi hr0_5
 have HC0_5 := zi hc0_5
 clear hr0_5 hc0_5
 have HB := zi (Below.refl w.heap.size w)
 have H := h
 unfold spec_EntryOk.f at H
 clear h
 have H' := zi H
 clear H
 go_enter Tryz.func10, Tryz.ntmps10
 go_wp2_with (first | ((with_reducible refine gate_dst (N := 1) rfl ?_); (try (refine gate_guard zr ?_; dsimp only)); refine box_event zr (N := 1) zr (cs := #[.string a0_0, .int .i64 a0_1, .int .i64 a0_2, .int .i64 a0_3, .string a0_4, .slice A0_5 l0_5.length c0_5]) (t := 28) zs ?_; intro gb286 hg w2 hbox hb; have n0_ := zi (below_step zt hb); have n1_ := zi hbox; have n2_ := zi ((z5s : w.heap.size ≤ gb286)); have n3_ := zi ((z5s : w.heap.size ≤ gb286)); clear HB; have HB := n0_; have BK286 := n1_; have GW286 := n2_; have GE286 := n3_; clear n0_ n1_ n2_ n3_; clear hb hbox hg))
 repeat (go_quiet (first | ((with_reducible refine gate_dst (N := 1) rfl ?_); (try (refine gate_guard zr ?_; dsimp only)); refine box_event zr (N := 1) zr (cs := #[.string a0_0, .int .i64 a0_1, .int .i64 a0_2, .int .i64 a0_3, .string a0_4, .slice A0_5 l0_5.length c0_5]) (t := 28) zs ?_; intro gb286 hg w2 hbox hb; have n0_ := zi (below_step zt hb); have n1_ := zi hbox; have n2_ := zi ((z5s : w.heap.size ≤ gb286)); have n3_ := zi ((z5s : w.heap.size ≤ gb286)); clear HB; have HB := n0_; have BK286 := n1_; have GW286 := n2_; have GE286 := n3_; clear n0_ n1_ n2_ n3_; clear hb hbox hg)); try go_wp2_with (first | ((with_reducible refine gate_dst (N := 1) rfl ?_); (try (refine gate_guard zr ?_; dsimp only)); refine box_event zr (N := 1) zr (cs := #[.string a0_0, .int .i64 a0_1, .int .i64 a0_2, .int .i64 a0_3, .string a0_4, .slice A0_5 l0_5.length c0_5]) (t := 28) zs ?_; intro gb286 hg w2 hbox hb; have n0_ := zi (below_step zt hb); have n1_ := zi hbox; have n2_ := zi ((z5s : w.heap.size ≤ gb286)); have n3_ := zi ((z5s : w.heap.size ≤ gb286)); clear HB; have HB := n0_; have BK286 := n1_; have GW286 := n2_; have GE286 := n3_; clear n0_ n1_ n2_ n3_; clear hb hbox hg)))
 go_loopg [3] k (fun kq v3 w' => ∃ (x3_1 : Int), v3 = .int .i64 x3_1 ∧ Aside0 (spec_EntryOk.l0 kq x3_1 a0_0 a0_1 a0_2 a0_3 a0_4 l0_5 = some r) ∧ Aside0 (kq ≤ k) ∧ Aside0 (w'.heap[gb286]? = some (.cells #[.string a0_0, .int .i64 a0_1, .int .i64 a0_2, .int .i64 a0_3, .string a0_4, (.slice A0_5 l0_5.length c0_5)] 28 (0, 0))) ∧ Aside0 (Below w.heap.size w w'))
 case atStart => exact ⟨(0), z1d, H', ⟨Nat.le_refl _⟩, ⟨z3x⟩, ⟨z3y⟩⟩
 case round =>
  clear H'
  try clear c1
  try clear p2
  obtain ⟨x3_1, rfl, HA, HK1, BK286, HB⟩ := hrel
  cases gk with
  | zero => exact absurd HA.out (by simp [spec_EntryOk.l0])
  | succ k1 =>
   have H := HA.out
   clear HA
   simp only [spec_EntryOk.l0] at H
   by_cases c3 : x3_1 < (l0_5.length : Int)
   ·rw [if_pos c3] at H
    have c3b0 := decide_eq_true c3
    clear c3
    by_cases c4 : 0 ≤ x3_1
    ·rw [if_pos c4] at H
     have c4b0 := decide_eq_true c4
     clear c4
     by_cases c5 : ((rd_T35 l0_5 x3_1).f0).toList = a0_0.toList
     ·rw [if_pos c5] at H
      have c5b0 : (((rd_T35 l0_5 x3_1).f0).toList == a0_0.toList) = true := beq_iff_eq.mpr c5
      have c5b1 : (((rd_T35 l0_5 x3_1).f0).toList != a0_0.toList) = false := bne_eq_false_iff_eq.mpr c5
      clear c5
      obtain rfl := Option.some.inj H
      obtain ⟨hcz6_0, hcz6_1, hcz6_2, hcz6_3, hcz6_4, hcz6_5, hfz6_0, hfz6_1, hfz6_2, hfz6_3, hfz6_4, hfz6_5⟩ := zg BK286.out
      have p287 : 0 ≤ (x3_1 : Int) := of_decide_eq_true z1e
      have q287 : x3_1 < (l0_5.length : Int) := of_decide_eq_true z1e
      obtain ⟨ad287, e287, hx287_0, hx287_1, hx287_2, hx287_3, hx287_4⟩ := at_T35 HR0_5.out x3_1 p287 q287
      cases e287
      replace hx287_0 := zo HB.out hx287_0
      replace hx287_1 := zo HB.out hx287_1
      replace hx287_2 := zo HB.out hx287_2
      replace hx287_3 := zo HB.out hx287_3
      replace hx287_4 := zo HB.out hx287_4
      replace p287 := eq_true p287
      replace q287 := eq_true q287
      go_wp2
      repeat (go_quiet (fail); try go_wp2)
      go_ret
      exact ⟨zw, z3y⟩
     ·rw [if_neg c5] at H
      have c5b0 : (((rd_T35 l0_5 x3_1).f0).toList == a0_0.toList) = false := beq_eq_false_iff_ne.mpr c5
      have c5b1 : (((rd_T35 l0_5 x3_1).f0).toList != a0_0.toList) = true := bne_iff_ne.mpr c5
      have H' := zi H
      clear H
      obtain ⟨hcz7_0, hcz7_1, hcz7_2, hcz7_3, hcz7_4, hcz7_5, hfz7_0, hfz7_1, hfz7_2, hfz7_3, hfz7_4, hfz7_5⟩ := zg BK286.out
      have p287 : 0 ≤ (x3_1 : Int) := of_decide_eq_true z1e
      have q287 : x3_1 < (l0_5.length : Int) := of_decide_eq_true z1e
      obtain ⟨ad287, e287, hx287_0, hx287_1, hx287_2, hx287_3, hx287_4⟩ := at_T35 HR0_5.out x3_1 p287 q287
      cases e287
      replace hx287_0 := zo HB.out hx287_0
      replace hx287_1 := zo HB.out hx287_1
      replace hx287_2 := zo HB.out hx287_2
      replace hx287_3 := zo HB.out hx287_3
      replace hx287_4 := zo HB.out hx287_4
      replace p287 := eq_true p287
      replace q287 := eq_true q287
      go_wp2
      repeat (go_quiet (fail); try go_wp2)
      go_roundg k1
      case measure => have := HK1.out; omega
      case rel => exact ⟨(wrap64 (x3_1 + 1)), z1d, H', ⟨z1h⟩, ⟨z3x⟩, ⟨z3y⟩⟩
    ·rw [if_neg c4] at H
     exact absurd H (by simp)
   ·rw [if_neg c3] at H
    have c3b0 := decide_eq_false c3
    clear c3
    replace H := Option.bind_eq_some_iff.mp H
    obtain ⟨t288, A80, H⟩ := H
    try dsimp only at H
    have A8 := zi A80
    clear A80
    by_cases c9 : t288 = true
    ·subst c9
     rw [if_pos rfl] at H
     by_cases c10 : (l0_5.length : Int) ≤ 8
     ·rw [if_pos c10] at H
      have c10b0 := decide_eq_true c10
      have c10b1 : decide (l0_5.length ≤ 8) = true := decide_eq_true zq
      clear c10
      replace H := Option.bind_eq_some_iff.mp H
      obtain ⟨t289, A110, H⟩ := H
      try dsimp only at H
      have A11 := zi A110
      clear A110
      obtain rfl := Option.some.inj H
      obtain ⟨hcz12_0, hcz12_1, hcz12_2, hcz12_3, hcz12_4, hcz12_5, hfz12_0, hfz12_1, hfz12_2, hfz12_3, hfz12_4, hfz12_5⟩ := zg BK286.out
      go_wp2_with (first | (go_at_call 33; (with_reducible refine (spec_Fits.calls k1 a0_0 a0_1 a0_2 a0_3 a0_4 true _ A8.out).mono ?_); rintro e w13 ⟨rfl, hb⟩; have n0_ := zi (blk_below (g := gb286) (o := .cells #[.string a0_0, .int .i64 a0_1, .int .i64 a0_2, .int .i64 a0_3, .string a0_4, .slice A0_5 l0_5.length c0_5] 28 (0, 0)) z3x hb); have n1_ := zi (below_step z3y hb); clear BK286; clear HB; have BK286 := n0_; have HB := n1_; clear n0_ n1_; (try clear hb); (try clear hb2); (try clear hk); (try clear hi); obtain ⟨hcz14_0, hcz14_1, hcz14_2, hcz14_3, hcz14_4, hcz14_5, hfz14_0, hfz14_1, hfz14_2, hfz14_3, hfz14_4, hfz14_5⟩ := zg BK286.out) | (go_at_call 34; (with_reducible refine (spec_l5Rising.calls k1 _ _ l0_5 t289 _ ?side1 ?side2 A11.out).mono ?_); (case side1 => exact z1m); (case side2 => exact HC0_5.out); rintro e w15 ⟨rfl, hb⟩; have n0_ := zi (blk_below (g := gb286) (o := .cells #[.string a0_0, .int .i64 a0_1, .int .i64 a0_2, .int .i64 a0_3, .string a0_4, .slice A0_5 l0_5.length c0_5] 28 (0, 0)) z3x hb); have n1_ := zi (below_step z3y hb); clear BK286; clear HB; have BK286 := n0_; have HB := n1_; clear n0_ n1_; (try clear hb); (try clear hb2); (try clear hk); (try clear hi)))
      repeat (go_quiet (first | (go_at_call 33; (with_reducible refine (spec_Fits.calls k1 a0_0 a0_1 a0_2 a0_3 a0_4 true _ A8.out).mono ?_); rintro e w13 ⟨rfl, hb⟩; have n0_ := zi (blk_below (g := gb286) (o := .cells #[.string a0_0, .int .i64 a0_1, .int .i64 a0_2, .int .i64 a0_3, .string a0_4, .slice A0_5 l0_5.length c0_5] 28 (0, 0)) z3x hb); have n1_ := zi (below_step z3y hb); clear BK286; clear HB; have BK286 := n0_; have HB := n1_; clear n0_ n1_; (try clear hb); (try clear hb2); (try clear hk); (try clear hi); obtain ⟨hcz14_0, hcz14_1, hcz14_2, hcz14_3, hcz14_4, hcz14_5, hfz14_0, hfz14_1, hfz14_2, hfz14_3, hfz14_4, hfz14_5⟩ := zg BK286.out) | (go_at_call 34; (with_reducible refine (spec_l5Rising.calls k1 _ _ l0_5 t289 _ ?side1 ?side2 A11.out).mono ?_); (case side1 => exact z1m); (case side2 => exact HC0_5.out); rintro e w15 ⟨rfl, hb⟩; have n0_ := zi (blk_below (g := gb286) (o := .cells #[.string a0_0, .int .i64 a0_1, .int .i64 a0_2, .int .i64 a0_3, .string a0_4, .slice A0_5 l0_5.length c0_5] 28 (0, 0)) z3x hb); have n1_ := zi (below_step z3y hb); clear BK286; clear HB; have BK286 := n0_; have HB := n1_; clear n0_ n1_; (try clear hb); (try clear hb2); (try clear hk); (try clear hi))); try go_wp2_with (first | (go_at_call 33; (with_reducible refine (spec_Fits.calls k1 a0_0 a0_1 a0_2 a0_3 a0_4 true _ A8.out).mono ?_); rintro e w13 ⟨rfl, hb⟩; have n0_ := zi (blk_below (g := gb286) (o := .cells #[.string a0_0, .int .i64 a0_1, .int .i64 a0_2, .int .i64 a0_3, .string a0_4, .slice A0_5 l0_5.length c0_5] 28 (0, 0)) z3x hb); have n1_ := zi (below_step z3y hb); clear BK286; clear HB; have BK286 := n0_; have HB := n1_; clear n0_ n1_; (try clear hb); (try clear hb2); (try clear hk); (try clear hi); obtain ⟨hcz14_0, hcz14_1, hcz14_2, hcz14_3, hcz14_4, hcz14_5, hfz14_0, hfz14_1, hfz14_2, hfz14_3, hfz14_4, hfz14_5⟩ := zg BK286.out) | (go_at_call 34; (with_reducible refine (spec_l5Rising.calls k1 _ _ l0_5 t289 _ ?side1 ?side2 A11.out).mono ?_); (case side1 => exact z1m); (case side2 => exact HC0_5.out); rintro e w15 ⟨rfl, hb⟩; have n0_ := zi (blk_below (g := gb286) (o := .cells #[.string a0_0, .int .i64 a0_1, .int .i64 a0_2, .int .i64 a0_3, .string a0_4, .slice A0_5 l0_5.length c0_5] 28 (0, 0)) z3x hb); have n1_ := zi (below_step z3y hb); clear BK286; clear HB; have BK286 := n0_; have HB := n1_; clear n0_ n1_; (try clear hb); (try clear hb2); (try clear hk); (try clear hi))))
      go_ret
      exact ⟨zw, z3y⟩
     ·rw [if_neg c10] at H
      have c10b0 := decide_eq_false c10
      have c10b1 : decide (l0_5.length ≤ 8) = false := decide_eq_false zq
      clear c10
      obtain rfl := Option.some.inj H
      obtain ⟨hcz16_0, hcz16_1, hcz16_2, hcz16_3, hcz16_4, hcz16_5, hfz16_0, hfz16_1, hfz16_2, hfz16_3, hfz16_4, hfz16_5⟩ := zg BK286.out
      go_wp2_with (first | (go_at_call 33; (with_reducible refine (spec_Fits.calls k1 a0_0 a0_1 a0_2 a0_3 a0_4 true _ A8.out).mono ?_); rintro e w17 ⟨rfl, hb⟩; have n0_ := zi (blk_below (g := gb286) (o := .cells #[.string a0_0, .int .i64 a0_1, .int .i64 a0_2, .int .i64 a0_3, .string a0_4, .slice A0_5 l0_5.length c0_5] 28 (0, 0)) z3x hb); have n1_ := zi (below_step z3y hb); clear BK286; clear HB; have BK286 := n0_; have HB := n1_; clear n0_ n1_; (try clear hb); (try clear hb2); (try clear hk); (try clear hi); obtain ⟨hcz18_0, hcz18_1, hcz18_2, hcz18_3, hcz18_4, hcz18_5, hfz18_0, hfz18_1, hfz18_2, hfz18_3, hfz18_4, hfz18_5⟩ := zg BK286.out))
      repeat (go_quiet (first | (go_at_call 33; (with_reducible refine (spec_Fits.calls k1 a0_0 a0_1 a0_2 a0_3 a0_4 true _ A8.out).mono ?_); rintro e w17 ⟨rfl, hb⟩; have n0_ := zi (blk_below (g := gb286) (o := .cells #[.string a0_0, .int .i64 a0_1, .int .i64 a0_2, .int .i64 a0_3, .string a0_4, .slice A0_5 l0_5.length c0_5] 28 (0, 0)) z3x hb); have n1_ := zi (below_step z3y hb); clear BK286; clear HB; have BK286 := n0_; have HB := n1_; clear n0_ n1_; (try clear hb); (try clear hb2); (try clear hk); (try clear hi); obtain ⟨hcz18_0, hcz18_1, hcz18_2, hcz18_3, hcz18_4, hcz18_5, hfz18_0, hfz18_1, hfz18_2, hfz18_3, hfz18_4, hfz18_5⟩ := zg BK286.out)); try go_wp2_with (first | (go_at_call 33; (with_reducible refine (spec_Fits.calls k1 a0_0 a0_1 a0_2 a0_3 a0_4 true _ A8.out).mono ?_); rintro e w17 ⟨rfl, hb⟩; have n0_ := zi (blk_below (g := gb286) (o := .cells #[.string a0_0, .int .i64 a0_1, .int .i64 a0_2, .int .i64 a0_3, .string a0_4, .slice A0_5 l0_5.length c0_5] 28 (0, 0)) z3x hb); have n1_ := zi (below_step z3y hb); clear BK286; clear HB; have BK286 := n0_; have HB := n1_; clear n0_ n1_; (try clear hb); (try clear hb2); (try clear hk); (try clear hi); obtain ⟨hcz18_0, hcz18_1, hcz18_2, hcz18_3, hcz18_4, hcz18_5, hfz18_0, hfz18_1, hfz18_2, hfz18_3, hfz18_4, hfz18_5⟩ := zg BK286.out)))
      go_ret
      exact ⟨zw, z3y⟩
    ·replace c9 := Bool.eq_false_iff.mpr c9
     subst c9
     rw [if_neg zj] at H
     obtain rfl := Option.some.inj H
     obtain ⟨hcz19_0, hcz19_1, hcz19_2, hcz19_3, hcz19_4, hcz19_5, hfz19_0, hfz19_1, hfz19_2, hfz19_3, hfz19_4, hfz19_5⟩ := zg BK286.out
     go_wp2_with (first | (go_at_call 33; (with_reducible refine (spec_Fits.calls k1 a0_0 a0_1 a0_2 a0_3 a0_4 false _ A8.out).mono ?_); rintro e w20 ⟨rfl, hb⟩; have n0_ := zi (blk_below (g := gb286) (o := .cells #[.string a0_0, .int .i64 a0_1, .int .i64 a0_2, .int .i64 a0_3, .string a0_4, .slice A0_5 l0_5.length c0_5] 28 (0, 0)) z3x hb); have n1_ := zi (below_step z3y hb); clear BK286; clear HB; have BK286 := n0_; have HB := n1_; clear n0_ n1_; (try clear hb); (try clear hb2); (try clear hk); (try clear hi)))
     repeat (go_quiet (first | (go_at_call 33; (with_reducible refine (spec_Fits.calls k1 a0_0 a0_1 a0_2 a0_3 a0_4 false _ A8.out).mono ?_); rintro e w20 ⟨rfl, hb⟩; have n0_ := zi (blk_below (g := gb286) (o := .cells #[.string a0_0, .int .i64 a0_1, .int .i64 a0_2, .int .i64 a0_3, .string a0_4, .slice A0_5 l0_5.length c0_5] 28 (0, 0)) z3x hb); have n1_ := zi (below_step z3y hb); clear BK286; clear HB; have BK286 := n0_; have HB := n1_; clear n0_ n1_; (try clear hb); (try clear hb2); (try clear hk); (try clear hi))); try go_wp2_with (first | (go_at_call 33; (with_reducible refine (spec_Fits.calls k1 a0_0 a0_1 a0_2 a0_3 a0_4 false _ A8.out).mono ?_); rintro e w20 ⟨rfl, hb⟩; have n0_ := zi (blk_below (g := gb286) (o := .cells #[.string a0_0, .int .i64 a0_1, .int .i64 a0_2, .int .i64 a0_3, .string a0_4, .slice A0_5 l0_5.length c0_5] 28 (0, 0)) z3x hb); have n1_ := zi (below_step z3y hb); clear BK286; clear HB; have BK286 := n0_; have HB := n1_; clear n0_ n1_; (try clear hb); (try clear hb2); (try clear hk); (try clear hi))))
     go_ret
     exact ⟨zw, z3y⟩
def spec_l3Text.f : Nat → Int → Option (ByteArray)
 | 0, _ => none
 | k + 1, a0 => if a0 < 10 then (some (strOfNums (([(wrap64 (48 + a0)) % 256] : List Int)))) else ((spec_l3Text.f k (wrap64 (Int.tdiv a0 10))).bind fun t293 => ((some (([(wrap64 (48 + (Int.tmod a0 10))) % 256] : List Int) : List Int)).bind fun y294 => (if t293.size + (strOfNums y294).size ≤ 9223372036854775807 then (some (t293 ++ (strOfNums y294))) else (none))))
def spec_l3Text.T3 : Bool × List (List Nat × List Nat) := (true, [([], []), ([0], [0]), ([1], [1]), ([], []), ([3], [3]), ([4], [4]), ([5], [5]), ([6], [6]), ([7], [7]), ([2, 8], [2, 8]), ([9, 2, 0, 1, 2, 3, 4, 5, 6, 7, 8, 9], [9])])
def spec_l3Text.B3 : List Nat := [0, 1, 3, 0, 8, 24, 56, 120, 248, 511, 1023]
theorem spec_l3Text.tab3 : rtab .any (opsOf Tryz.f106 3) = spec_l3Text.T3 := by kernel_rfl
theorem spec_l3Text.bits3 : waitsOk spec_l3Text.T3.2 spec_l3Text.B3 = true := by kernel_rfl
set_option maxHeartbeats 8000000 in
set_option maxRecDepth 100000 in
theorem spec_l3Text.calls (k : Nat) : ∀ (a0 : Int) (r : ByteArray) (w : World) (h : spec_l3Text.f k a0 = some r),
  Calls Tryz.prog 106 #[.int .i64 a0] w fun e w' => e = .returned (.string r) ∧ Below w.heap.size w w' := by
 induction k using Nat.strongRecOn with
 | _ k ih =>
 intro a0 r w h
 cases k with
 | zero => exact absurd h (by simp [spec_l3Text.f])
 | succ k =>
 simp only [spec_l3Text.f] at h
 have HB := zi (Below.refl w.heap.size w)
 have H : (if a0 < 10 then (some (strOfNums (([(wrap64 (48 + a0)) % 256] : List Int)))) else ((spec_l3Text.f k (wrap64 (Int.tdiv a0 10))).bind fun t293 => ((some (([(wrap64 (48 + (Int.tmod a0 10))) % 256] : List Int) : List Int)).bind fun y294 => (if t293.size + (strOfNums y294).size ≤ 9223372036854775807 then (some (t293 ++ (strOfNums y294))) else (none))))) = some r := h
 clear h
 by_cases c2 : a0 < 10
 ·rw [if_pos c2] at H
  have c2b0 := decide_eq_true c2
  clear c2
  obtain ⟨y290, hy290⟩ : ∃ y_ : List Int, y_ = (([(wrap64 (48 + a0)) % 256] : List Int)) := ⟨_, rfl⟩
  replace H : (some (strOfNums y290)) = some r := by first | (rw [hy290]; with_reducible exact H) | (have H2_ := (Option.bind_some _ _).symm.trans H; rw [hy290]; with_reducible exact H2_) | (have H2_ := (Option.bind_some _ _).symm.trans H; with_reducible exact H2_) | with_reducible exact H | (rw [hy290]; exact H) | exact H
  have Ny290 := zi hy290
  clear hy290
  obtain rfl := Option.some.inj H
  go_enter Tryz.func106, Tryz.ntmps106
  go_wp2_with (first | ((with_reducible refine gate_dst (N := 8) rfl ?_); refine Kd.R_lit (Kd.int .u8) _ 5 ?hg (N := 8) ?hd (xs := ([(wrap64 (48 + a0)) % 256] : List Int)) (inner := [.int .u8 ((wrap64 (48 + a0)) % 256)]) (ok := fun _ => True) (okp := fun _ => True) ?hr ?hp (fun _ hk => hk) trivial (Below.refl _ _) (Nat.le_refl _) (by simp) ?_; (case hd => exact zr); (case hg => exact zr); (case hr => exact zs); (case hp => exact (Reps.one (show Kd.M (Kd.int .u8) _ _ _ ((wrap64 (48 + a0)) % 256) [.int .u8 ((wrap64 (48 + a0)) % 256)] from rfl) (Reps.none _ _))); intro v291 w3 ho4 hb hg_ hnew_; clear hg_ hnew_; (first | rw [← Ny290.out] at ho4 | (simp only [Int.reduceToNat] at ho4; rw [← Ny290.out] at ho4)); have n0_ := zi (Kd.R_lower ho4 (below_size zt)); have n1_ := zi (below_step zt hb); clear HB; have HO292 := n0_; have HB := n1_; clear n0_ n1_; clear hb ho4; have hcv5 := own_string (P := Tryz.prog) Tryz.underlying22 Tryz.underlying5 Tryz.underlying9 (Kd.own_of_R HO292.out)))
  go_ret
  exact ⟨zw, zt⟩
 ·rw [if_neg c2] at H
  have c2b0 := decide_eq_false c2
  clear c2
  replace H := Option.bind_eq_some_iff.mp H
  obtain ⟨t293, A60, H⟩ := H
  try dsimp only at H
  have A6 := zi A60
  clear A60
  obtain ⟨y294, hy294⟩ : ∃ y_ : List Int, y_ = (([(wrap64 (48 + (Int.tmod a0 10))) % 256] : List Int)) := ⟨_, rfl⟩
  replace H : (if t293.size + (strOfNums y294).size ≤ 9223372036854775807 then (some (t293 ++ (strOfNums y294))) else (none)) = some r := by first | (rw [hy294]; with_reducible exact H) | (have H2_ := (Option.bind_some _ _).symm.trans H; rw [hy294]; with_reducible exact H2_) | (have H2_ := (Option.bind_some _ _).symm.trans H; with_reducible exact H2_) | with_reducible exact H | (rw [hy294]; exact H) | exact H
  have Ny294 := zi hy294
  clear hy294
  by_cases c7 : t293.size + (strOfNums y294).size ≤ 9223372036854775807
  ·rw [if_pos c7] at H
   have c7b0 := eq_true c7
   have c7b1 := decide_eq_true c7
   try have c7b2 : (9223372036854775807 < t293.size + (strOfNums y294).size) = False := eq_false (Nat.not_lt.2 c7)
   obtain rfl := Option.some.inj H
   go_enter Tryz.func106, Tryz.ntmps106
   try go_wp2
   have n0_ := zi (below_drew1 HB.out)
   clear HB
   have HB := n0_
   clear n0_
   refine start_ (n := 11) (S := fun w' => True) (ds := []) #[z7f, z7f, z7f, z7f, z7f, z7f, z7f, z7f, z7f, z7f, z7f] z1a rfl rfl trivial (fun hHeld => ?_); refine with_tabW spec_l3Text.tab3 spec_l3Text.bits3 (fun HT_ HW_ => ?_)
   generalize w.drew = w8 at HB hHeld ⊢
   refine zk 0 (some 10) #[z7e, z7f, z7f, z7f, z7f, z7f, z7f, z7f, z7f, z7f, z7f] rfl rfl ?_
   refine zk 1 (some 11) #[z7e, z7e, z7f, z7f, z7f, z7f, z7f, z7f, z7f, z7f, z7f] rfl rfl ?_
   refine zk 3 (some 13) #[z7e, z7e, z7f, z7e, z7f, z7f, z7f, z7f, z7f, z7f, z7f] rfl rfl ?_
   refine zk 4 (some 14) #[z7e, z7e, z7f, z7e, z7e, z7f, z7f, z7f, z7f, z7f, z7f] rfl rfl ?_
   refine zk 5 (some 15) #[z7e, z7e, z7f, z7e, z7e, z7e, z7f, z7f, z7f, z7f, z7f] rfl rfl ?_
   refine zk 6 (some 16) #[z7e, z7e, z7f, z7e, z7e, z7e, z7e, z7f, z7f, z7f, z7f] rfl rfl ?_
   refine join_ (σ := Value) 2 #[z7e, z7e, z7e, z7e, z7e, z7e, z7e, z7e, z7e, z7f, z7f] (fun s_ => [(12, .string t293), (17, s_), (18, .string (strOfNums y294))]) (fun s_ w' => (Kd.R (Kd.int .u8) 5 w' w.heap.size (fun _ => True) s_ y294) ∧ (Below w.heap.size w w')) ?_ ?_
   rotate_left
   ·intro hCont
    refine two_ (i := 2) (j := 7) (Ni := some 12) (Nj := some 17) #[z7e, z7e, z7e, z7e, z7e, z7e, z7e, z7f, z7f, z7f, z7f] #[z7e, z7e, z7f, z7e, z7e, z7e, z7e, z7e, z7f, z7f, z7f] rfl rfl rfl rfl (two_of HT_.out z1a) z1g z1g (fun K hK => ?_) (fun K hK => ?_)
    ·skip
     refine goes_ Tryz.func106 z1a rfl #[.int .i64 (wrap64 (Int.tdiv a0 10))] zr rfl rfl z1b ?_
     with_reducible refine (ih k zq (wrap64 (Int.tdiv a0 10)) t293 _ A6.out).mono ?_
     rintro e w9 ⟨rfl, hb⟩
     refine ⟨_, rfl, ?_⟩
     have n0_ := zi (below_step zt hb)
     clear HB
     have HB := n0_
     clear n0_
     (try clear hb)
     (try clear hb2)
     (try clear hk)
     (try clear hi)
     refine hK.out _ _ trivial (fun hHeld => ?_)
     clear hK K
     refine zn (some 12) rfl ?_
     refine one_ (i := 7) (N := some 17) #[z7e, z7e, z7e, z7e, z7e, z7e, z7e, z7e, z7f, z7f, z7f] rfl rfl (one_of HT_.out z1a) z1g (fun K hK => ?_)
     refine Kd.R_lit_step (Kd.int .u8) _ 5 ?hg (N := 17) ?hd (xs := ([(wrap64 (48 + (Int.tmod a0 10))) % 256] : List Int)) (inner := [.int .u8 ((wrap64 (48 + (Int.tmod a0 10))) % 256)]) (ok := fun _ => True) (okp := fun _ => True) ?hr ?hp (fun _ hk => hk) trivial (Below.refl _ _) (Nat.le_refl _) (by simp) ?_; (case hd => exact zr); (case hg => exact zr); (case hr => exact zs); (case hp => exact (Reps.one (show Kd.M (Kd.int .u8) _ _ _ ((wrap64 (48 + (Int.tmod a0 10))) % 256) [.int .u8 ((wrap64 (48 + (Int.tmod a0 10))) % 256)] from rfl) (Reps.none _ _)))
     intro v295 w10 ho11 hb hg_ hnew_
     clear hg_ hnew_
     (first | rw [← Ny294.out] at ho11 | (simp only [Int.reduceToNat] at ho11; rw [← Ny294.out] at ho11))
     have n0_ := zi (Kd.R_lower ho11 (below_size zt))
     have n1_ := zi (below_step zt hb)
     clear HB
     have HO296 := n0_
     have HB := n1_
     clear n0_ n1_
     clear hb ho11
     refine hK.out _ _ trivial (fun hHeld => ?_)
     clear hK K
     refine zn (some 17) rfl ?_
     refine one_ (i := 8) (N := some 18) #[z7e, z7e, z7e, z7e, z7e, z7e, z7e, z7e, z7e, z7f, z7f] rfl rfl (one_of HT_.out z1a) z1g (fun K hK => ?_)
     have hcv12 := own_string (P := Tryz.prog) Tryz.underlying22 Tryz.underlying5 Tryz.underlying9 (Kd.own_of_R HO296.out)
     refine value_ (w1 := ?_) (v := ?_) zr rfl ?_ ?_
     rotate_left 2
     ·go_simp
      constructor
      ·rfl
      ·rfl
     clear hcv12
     refine hK.out _ _ trivial (fun hHeld => ?_)
     clear hK K
     refine zn (some 18) rfl ?_
     exact norm_ z3z (hCont (v295) _ ⟨z4a, zt⟩)
    ·skip
     refine Kd.R_lit_step (Kd.int .u8) _ 5 ?hg (N := 17) ?hd (xs := ([(wrap64 (48 + (Int.tmod a0 10))) % 256] : List Int)) (inner := [.int .u8 ((wrap64 (48 + (Int.tmod a0 10))) % 256)]) (ok := fun _ => True) (okp := fun _ => True) ?hr ?hp (fun _ hk => hk) trivial (Below.refl _ _) (Nat.le_refl _) (by simp) ?_; (case hd => exact zr); (case hg => exact zr); (case hr => exact zs); (case hp => exact (Reps.one (show Kd.M (Kd.int .u8) _ _ _ ((wrap64 (48 + (Int.tmod a0 10))) % 256) [.int .u8 ((wrap64 (48 + (Int.tmod a0 10))) % 256)] from rfl) (Reps.none _ _)))
     intro v295 w9 ho10 hb hg_ hnew_
     clear hg_ hnew_
     (first | rw [← Ny294.out] at ho10 | (simp only [Int.reduceToNat] at ho10; rw [← Ny294.out] at ho10))
     have n0_ := zi (Kd.R_lower ho10 (below_size zt))
     have n1_ := zi (below_step zt hb)
     clear HB
     have HO296 := n0_
     have HB := n1_
     clear n0_ n1_
     clear hb ho10
     refine hK.out _ _ trivial (fun hHeld => ?_)
     clear hK K
     refine zn (some 17) rfl ?_
     refine two_ (i := 2) (j := 8) (Ni := some 12) (Nj := some 18) #[z7e, z7e, z7e, z7e, z7e, z7e, z7e, z7e, z7f, z7f, z7f] #[z7e, z7e, z7f, z7e, z7e, z7e, z7e, z7e, z7e, z7f, z7f] rfl rfl rfl rfl (two_of HT_.out z1a) z1g z1g (fun K hK => ?_) (fun K hK => ?_)
     ·skip
      refine goes_ Tryz.func106 z1a rfl #[.int .i64 (wrap64 (Int.tdiv a0 10))] zr rfl rfl z1b ?_
      with_reducible refine (ih k zq (wrap64 (Int.tdiv a0 10)) t293 _ A6.out).mono ?_
      rintro e w11 ⟨rfl, hb⟩
      refine ⟨_, rfl, ?_⟩
      have n0_ := zi (Kd.R_below z4a hb)
      have n1_ := zi (below_step zt hb)
      clear HO296
      clear HB
      have HO296 := n0_
      have HB := n1_
      clear n0_ n1_
      (try clear hb)
      (try clear hb2)
      (try clear hk)
      (try clear hi)
      refine hK.out _ _ trivial (fun hHeld => ?_)
      clear hK K
      refine zn (some 12) rfl ?_
      refine one_ (i := 8) (N := some 18) #[z7e, z7e, z7e, z7e, z7e, z7e, z7e, z7e, z7e, z7f, z7f] rfl rfl (one_of HT_.out z1a) z1g (fun K hK => ?_)
      have hcv12 := own_string (P := Tryz.prog) Tryz.underlying22 Tryz.underlying5 Tryz.underlying9 (Kd.own_of_R HO296.out)
      refine value_ (w1 := ?_) (v := ?_) zr rfl ?_ ?_
      rotate_left 2
      ·go_simp
       constructor
       ·rfl
       ·rfl
      clear hcv12
      refine hK.out _ _ trivial (fun hHeld => ?_)
      clear hK K
      refine zn (some 18) rfl ?_
      exact norm_ z3z (hCont (v295) _ ⟨z4a, zt⟩)
     ·skip
      have hcv11 := own_string (P := Tryz.prog) Tryz.underlying22 Tryz.underlying5 Tryz.underlying9 (Kd.own_of_R HO296.out)
      refine value_ (w1 := ?_) (v := ?_) zr rfl ?_ ?_
      rotate_left 2
      ·go_simp
       constructor
       ·rfl
       ·rfl
      clear hcv11
      refine hK.out _ _ trivial (fun hHeld => ?_)
      clear hK K
      refine zn (some 18) rfl ?_
      refine one_ (i := 2) (N := some 12) #[z7e, z7e, z7e, z7e, z7e, z7e, z7e, z7e, z7e, z7f, z7f] rfl rfl (one_of HT_.out z1a) z1g (fun K hK => ?_)
      refine goes_ Tryz.func106 z1a rfl #[.int .i64 (wrap64 (Int.tdiv a0 10))] zr rfl rfl z1b ?_
      with_reducible refine (ih k zq (wrap64 (Int.tdiv a0 10)) t293 _ A6.out).mono ?_
      rintro e w12 ⟨rfl, hb⟩
      refine ⟨_, rfl, ?_⟩
      have n0_ := zi (Kd.R_below z4a hb)
      have n1_ := zi (below_step zt hb)
      clear HO296
      clear HB
      have HO296 := n0_
      have HB := n1_
      clear n0_ n1_
      (try clear hb)
      (try clear hb2)
      (try clear hk)
      (try clear hi)
      refine hK.out _ _ trivial (fun hHeld => ?_)
      clear hK K
      refine zn (some 12) rfl ?_
      exact norm_ z3z (hCont (v295) _ ⟨z4a, zt⟩)
   rintro v295 w13 ⟨h0_, h1_⟩
   have n0_ : Aside0 (Kd.R (Kd.int .u8) 5 w13 w.heap.size (fun _ => True) v295 y294) := ⟨h0_⟩
   have n1_ : Aside0 (Below w.heap.size w w13) := ⟨h1_⟩
   clear HB
   clear h0_ h1_
   have HO296 := n0_
   have HB := n1_
   clear n0_ n1_
   have hHeld := trivial
   refine norm_ (a' := ?_) ?_ ?_
   rotate_left
   ·simp only [putAll, Act.put, z7g, z7h, z7i]
    rfl
   refine zk 9 (some 19) #[z7e, z7e, z7e, z7e, z7e, z7e, z7e, z7e, z7e, z7e, z7f] rfl rfl ?_
   refine zk 10 (some 2) #[z7e, z7e, z7e, z7e, z7e, z7e, z7e, z7e, z7e, z7e, z7e] rfl rfl ?_
   refine done_ (done_of HT_.out z1a) ?_
   try go_wp2
   go_ret
   exact ⟨zw, zt⟩
  ·rw [if_neg c7] at H
   exact absurd H (by simp)
def spec_VersionText.f (k : Nat) (a0_0 : Int) (a0_1 : Int) (a0_2 : Int) (a0_3 : ByteArray) : Option (ByteArray) := (spec_VersionOk.f k a0_0 a0_1 a0_2 a0_3).bind fun t298 => (if t298 = true then ((spec_l3Text.f k a0_0).bind fun t299 => (if 1 + t299.size ≤ 9223372036854775807 then (if ((⟨#[118]⟩ : ByteArray) ++ t299).size + 1 ≤ 9223372036854775807 then ((spec_l3Text.f k a0_1).bind fun t300 => (if (((⟨#[118]⟩ : ByteArray) ++ t299) ++ (⟨#[46]⟩ : ByteArray)).size + t300.size ≤ 9223372036854775807 then (if ((((⟨#[118]⟩ : ByteArray) ++ t299) ++ (⟨#[46]⟩ : ByteArray)) ++ t300).size + 1 ≤ 9223372036854775807 then ((spec_l3Text.f k a0_2).bind fun t301 => (if (((((⟨#[118]⟩ : ByteArray) ++ t299) ++ (⟨#[46]⟩ : ByteArray)) ++ t300) ++ (⟨#[46]⟩ : ByteArray)).size + t301.size ≤ 9223372036854775807 then (if a0_3.toList = ([] : List UInt8) then (some ((((((⟨#[118]⟩ : ByteArray) ++ t299) ++ (⟨#[46]⟩ : ByteArray)) ++ t300) ++ (⟨#[46]⟩ : ByteArray)) ++ t301)) else (if ((((((⟨#[118]⟩ : ByteArray) ++ t299) ++ (⟨#[46]⟩ : ByteArray)) ++ t300) ++ (⟨#[46]⟩ : ByteArray)) ++ t301).size + 1 ≤ 9223372036854775807 then (if (((((((⟨#[118]⟩ : ByteArray) ++ t299) ++ (⟨#[46]⟩ : ByteArray)) ++ t300) ++ (⟨#[46]⟩ : ByteArray)) ++ t301) ++ (⟨#[45]⟩ : ByteArray)).size + a0_3.size ≤ 9223372036854775807 then (some ((((((((⟨#[118]⟩ : ByteArray) ++ t299) ++ (⟨#[46]⟩ : ByteArray)) ++ t300) ++ (⟨#[46]⟩ : ByteArray)) ++ t301) ++ (⟨#[45]⟩ : ByteArray)) ++ a0_3)) else (none)) else (none))) else (none))) else (none)) else (none))) else (none)) else (none))) else (some (⟨#[]⟩ : ByteArray)))
def spec_VersionText.T3 : Bool × List (List Nat × List Nat) := (true, [([], []), ([0], [0]), ([1], [1]), ([2], [2]), ([3], [3]), ([], []), ([5], [5]), ([6, 2], [6]), ([4, 7], [4, 7]), ([8], [8]), ([], []), ([10], [10]), ([11, 7], [11]), ([9, 12], [9, 12]), ([13, 12, 0, 1, 2, 3, 4, 5, 6, 7, 8, 9, 10, 11, 12, 13], [13])])
def spec_VersionText.B3 : List Nat := [0, 1, 3, 7, 15, 0, 32, 103, 255, 511, 0, 1024, 3303, 8191, 16383]
theorem spec_VersionText.tab3 : rtab .any (opsOf Tryz.f86 3) = spec_VersionText.T3 := by kernel_rfl
theorem spec_VersionText.bits3 : waitsOk spec_VersionText.T3.2 spec_VersionText.B3 = true := by kernel_rfl
set_option maxHeartbeats 8000000 in
set_option maxRecDepth 100000 in
theorem spec_VersionText.calls (k : Nat) (a0_0 : Int) (a0_1 : Int) (a0_2 : Int) (a0_3 : ByteArray) (r : ByteArray) (w : World) (h : spec_VersionText.f k a0_0 a0_1 a0_2 a0_3 = some r) :
  Calls Tryz.prog 86 #[.agg #[.int .i64 a0_0, .int .i64 a0_1, .int .i64 a0_2, .string a0_3]] w fun e w' => e = .returned (.string r) ∧ Below w.heap.size w w' := by
 have hu25 := Tryz.underlying25
 have HB := zi (Below.refl w.heap.size w)
 have H := h
 unfold spec_VersionText.f at H
 clear h
 replace H := Option.bind_eq_some_iff.mp H
 obtain ⟨t298, A20, H⟩ := H
 try dsimp only at H
 have A2 := zi A20
 clear A20
 by_cases c3 : t298 = true
 ·subst c3
  rw [if_pos rfl] at H
  replace H := Option.bind_eq_some_iff.mp H
  obtain ⟨t299, A40, H⟩ := H
  try dsimp only at H
  have A4 := zi A40
  clear A40
  by_cases c5 : 1 + t299.size ≤ 9223372036854775807
  ·rw [if_pos c5] at H
   have c5b0 := eq_true c5
   have c5b1 := decide_eq_true c5
   try have c5b2 : (9223372036854775807 < 1 + t299.size) = False := eq_false (Nat.not_lt.2 c5)
   by_cases c6 : ((⟨#[118]⟩ : ByteArray) ++ t299).size + 1 ≤ 9223372036854775807
   ·rw [if_pos c6] at H
    have c6s0 : (9223372036854775807 < 1 + t299.size + 1) = False := eq_false (Nat.not_lt.2 (by have h_ := c6; simp only [ByteArray.size_append] at h_; exact h_))
    have c6b0 := eq_true c6
    have c6b1 := decide_eq_true c6
    try have c6b2 : (9223372036854775807 < ((⟨#[118]⟩ : ByteArray) ++ t299).size + 1) = False := eq_false (Nat.not_lt.2 c6)
    replace H := Option.bind_eq_some_iff.mp H
    obtain ⟨t300, A70, H⟩ := H
    try dsimp only at H
    have A7 := zi A70
    clear A70
    by_cases c8 : (((⟨#[118]⟩ : ByteArray) ++ t299) ++ (⟨#[46]⟩ : ByteArray)).size + t300.size ≤ 9223372036854775807
    ·rw [if_pos c8] at H
     have c8s0 : (9223372036854775807 < 1 + t299.size + 1 + t300.size) = False := eq_false (Nat.not_lt.2 (by have h_ := c8; simp only [ByteArray.size_append] at h_; exact h_))
     have c8b0 := eq_true c8
     have c8b1 := decide_eq_true c8
     try have c8b2 : (9223372036854775807 < (((⟨#[118]⟩ : ByteArray) ++ t299) ++ (⟨#[46]⟩ : ByteArray)).size + t300.size) = False := eq_false (Nat.not_lt.2 c8)
     by_cases c9 : ((((⟨#[118]⟩ : ByteArray) ++ t299) ++ (⟨#[46]⟩ : ByteArray)) ++ t300).size + 1 ≤ 9223372036854775807
     ·rw [if_pos c9] at H
      have c9s0 : (9223372036854775807 < 1 + t299.size + 1 + t300.size + 1) = False := eq_false (Nat.not_lt.2 (by have h_ := c9; simp only [ByteArray.size_append] at h_; exact h_))
      have c9b0 := eq_true c9
      have c9b1 := decide_eq_true c9
      try have c9b2 : (9223372036854775807 < ((((⟨#[118]⟩ : ByteArray) ++ t299) ++ (⟨#[46]⟩ : ByteArray)) ++ t300).size + 1) = False := eq_false (Nat.not_lt.2 c9)
      replace H := Option.bind_eq_some_iff.mp H
      obtain ⟨t301, A100, H⟩ := H
      try dsimp only at H
      have A10 := zi A100
      clear A100
      by_cases c11 : (((((⟨#[118]⟩ : ByteArray) ++ t299) ++ (⟨#[46]⟩ : ByteArray)) ++ t300) ++ (⟨#[46]⟩ : ByteArray)).size + t301.size ≤ 9223372036854775807
      ·rw [if_pos c11] at H
       have c11s0 : (9223372036854775807 < 1 + t299.size + 1 + t300.size + 1 + t301.size) = False := eq_false (Nat.not_lt.2 (by have h_ := c11; simp only [ByteArray.size_append] at h_; exact h_))
       have c11b0 := eq_true c11
       have c11b1 := decide_eq_true c11
       try have c11b2 : (9223372036854775807 < (((((⟨#[118]⟩ : ByteArray) ++ t299) ++ (⟨#[46]⟩ : ByteArray)) ++ t300) ++ (⟨#[46]⟩ : ByteArray)).size + t301.size) = False := eq_false (Nat.not_lt.2 c11)
       by_cases c12 : a0_3.toList = ([] : List UInt8)
       ·rw [if_pos c12] at H
        have c12b0 : (a0_3.toList == ([] : List UInt8)) = true := beq_iff_eq.mpr c12
        have c12b1 : (a0_3.toList != ([] : List UInt8)) = false := bne_eq_false_iff_eq.mpr c12
        clear c12
        obtain rfl := Option.some.inj H
        go_enter Tryz.func86, Tryz.ntmps86
        try go_wp2_with (first | ((with_reducible refine gate_dst (N := 1) rfl ?_); refine box_event zr (N := 1) zr (cs := #[.int .i64 a0_0, .int .i64 a0_1, .int .i64 a0_2, .string a0_3]) (t := 25) zs ?_; intro gb297 hg w13 hbox hb; have n0_ := zi (below_step zt hb); have n1_ := zi hbox; have n2_ := zi ((z5s : w.heap.size ≤ gb297)); have n3_ := zi ((z5s : w.heap.size ≤ gb297)); clear HB; have HB := n0_; have BK297 := n1_; have GW297 := n2_; have GE297 := n3_; clear n0_ n1_ n2_ n3_; clear hb hbox hg; obtain ⟨hcz14_0, hcz14_1, hcz14_2, hcz14_3, hfz14_0, hfz14_1, hfz14_2, hfz14_3⟩ := ze BK297.out) | ((with_reducible refine gate_callee (f := 68) rfl ?_); refine goesL_ (some 5) rfl rfl Tryz.func68 z1a rfl #[.agg #[.int .i64 a0_0, .int .i64 a0_1, .int .i64 a0_2, .string a0_3]] rfl z1b ?_; (with_reducible refine (spec_VersionOk.calls k a0_0 a0_1 a0_2 a0_3 true _ A2.out).mono ?_); rintro e w15 ⟨rfl, hb⟩; refine ⟨_, rfl, ?_⟩; have n0_ := zi (blk_below (g := gb297) (o := .cells #[.int .i64 a0_0, .int .i64 a0_1, .int .i64 a0_2, .string a0_3] 25 (0, 0)) z4b hb); have n1_ := zi (below_step z4c hb); clear BK297; clear HB; have BK297 := n0_; have HB := n1_; clear n0_ n1_; (try clear hb); (try clear hb2); (try clear hk); (try clear hi)))
        have n0_ := zi (blk_drew BK297.out)
        have n1_ := zi (below_drew1 HB.out)
        clear BK297
        clear HB
        have BK297 := n0_
        have HB := n1_
        clear n0_ n1_
        refine start_ (n := 15) (S := fun w' => w'.cell? ⟨gb297, 0, none⟩ = some (.int .i64 a0_0) ∧ w'.cell? ⟨gb297, 1, none⟩ = some (.int .i64 a0_1) ∧ w'.cell? ⟨gb297, 2, none⟩ = some (.int .i64 a0_2) ∧ w'.cell? ⟨gb297, 3, none⟩ = some (.string a0_3)) (ds := []) #[z7f, z7f, z7f, z7f, z7f, z7f, z7f, z7f, z7f, z7f, z7f, z7f, z7f, z7f, z7f] z1a rfl rfl ⟨(blk_cell BK297.out 0).trans rfl, (blk_cell BK297.out 1).trans rfl, (blk_cell BK297.out 2).trans rfl, (blk_cell BK297.out 3).trans rfl⟩ (fun hHeld => ?_); refine with_tabW spec_VersionText.tab3 spec_VersionText.bits3 (fun HT_ HW_ => ?_)
        generalize w15.drew = w16 at BK297 HB hHeld ⊢
        refine zk 0 (some 7) #[z7e, z7f, z7f, z7f, z7f, z7f, z7f, z7f, z7f, z7f, z7f, z7f, z7f, z7f, z7f] rfl rfl ?_
        refine zk 5 (some 12) #[z7e, z7f, z7f, z7f, z7f, z7e, z7f, z7f, z7f, z7f, z7f, z7f, z7f, z7f, z7f] rfl rfl ?_
        refine zk 10 (some 17) #[z7e, z7f, z7f, z7f, z7f, z7e, z7f, z7f, z7f, z7f, z7e, z7f, z7f, z7f, z7f] rfl rfl ?_
        refine zm 1 (some 8) #[z7e, z7e, z7f, z7f, z7f, z7e, z7f, z7f, z7f, z7f, z7e, z7f, z7f, z7f, z7f] rfl rfl (Or.inl ⟨zr, z2e⟩) hHeld ?_
        refine zm 6 (some 13) #[z7e, z7e, z7f, z7f, z7f, z7e, z7e, z7f, z7f, z7f, z7e, z7f, z7f, z7f, z7f] rfl rfl (Or.inl ⟨zr, z2e⟩) hHeld ?_
        refine zm 11 (some 18) #[z7e, z7e, z7f, z7f, z7f, z7e, z7e, z7f, z7f, z7f, z7e, z7e, z7f, z7f, z7f] rfl rfl (Or.inl ⟨zr, z2e⟩) hHeld ?_
        refine one_ (i := 2) (N := some 9) #[z7e, z7e, z7e, z7f, z7f, z7e, z7e, z7f, z7f, z7f, z7e, z7e, z7f, z7f, z7f] rfl rfl (one_of HT_.out z1a) z1g (fun K hK => ?_)
        refine goes_ Tryz.func106 z1a rfl #[.int .i64 a0_0] zr rfl rfl z1b ?_
        with_reducible refine (spec_l3Text.calls k a0_0 t299 _ A4.out).mono ?_
        rintro e w17 ⟨rfl, hb⟩
        refine ⟨_, rfl, ?_⟩
        have n0_ := zi (blk_below (g := gb297) (o := .cells #[.int .i64 a0_0, .int .i64 a0_1, .int .i64 a0_2, .string a0_3] 25 (0, 0)) z4b hb)
        have n1_ := zi (below_step z4c hb)
        clear BK297
        clear HB
        have BK297 := n0_
        have HB := n1_
        clear n0_ n1_
        (try clear hb)
        (try clear hb2)
        (try clear hk)
        (try clear hi)
        refine hK.out _ _ ⟨(blk_cell BK297.out 0).trans rfl, (blk_cell BK297.out 1).trans rfl, (blk_cell BK297.out 2).trans rfl, (blk_cell BK297.out 3).trans rfl⟩ (fun hHeld => ?_)
        clear hK K
        refine zn (some 9) rfl ?_
        refine zk 3 (some 10) #[z7e, z7e, z7e, z7e, z7f, z7e, z7e, z7f, z7f, z7f, z7e, z7e, z7f, z7f, z7f] rfl rfl ?_
        refine zk 4 (some 11) #[z7e, z7e, z7e, z7e, z7e, z7e, z7e, z7f, z7f, z7f, z7e, z7e, z7f, z7f, z7f] rfl rfl ?_
        refine one_ (i := 7) (N := some 14) #[z7e, z7e, z7e, z7e, z7e, z7e, z7e, z7e, z7f, z7f, z7e, z7e, z7f, z7f, z7f] rfl rfl (one_of HT_.out z1a) z1g (fun K hK => ?_)
        refine goes_ Tryz.func106 z1a rfl #[.int .i64 a0_1] zr rfl rfl z1b ?_
        with_reducible refine (spec_l3Text.calls k a0_1 t300 _ A7.out).mono ?_
        rintro e w18 ⟨rfl, hb⟩
        refine ⟨_, rfl, ?_⟩
        have n0_ := zi (blk_below (g := gb297) (o := .cells #[.int .i64 a0_0, .int .i64 a0_1, .int .i64 a0_2, .string a0_3] 25 (0, 0)) z4b hb)
        have n1_ := zi (below_step z4c hb)
        clear BK297
        clear HB
        have BK297 := n0_
        have HB := n1_
        clear n0_ n1_
        (try clear hb)
        (try clear hb2)
        (try clear hk)
        (try clear hi)
        refine hK.out _ _ ⟨(blk_cell BK297.out 0).trans rfl, (blk_cell BK297.out 1).trans rfl, (blk_cell BK297.out 2).trans rfl, (blk_cell BK297.out 3).trans rfl⟩ (fun hHeld => ?_)
        clear hK K
        refine zn (some 14) rfl ?_
        refine zk 8 (some 15) #[z7e, z7e, z7e, z7e, z7e, z7e, z7e, z7e, z7e, z7f, z7e, z7e, z7f, z7f, z7f] rfl rfl ?_
        refine zk 9 (some 16) #[z7e, z7e, z7e, z7e, z7e, z7e, z7e, z7e, z7e, z7e, z7e, z7e, z7f, z7f, z7f] rfl rfl ?_
        refine one_ (i := 12) (N := some 19) #[z7e, z7e, z7e, z7e, z7e, z7e, z7e, z7e, z7e, z7e, z7e, z7e, z7e, z7f, z7f] rfl rfl (one_of HT_.out z1a) z1g (fun K hK => ?_)
        refine goes_ Tryz.func106 z1a rfl #[.int .i64 a0_2] zr rfl rfl z1b ?_
        with_reducible refine (spec_l3Text.calls k a0_2 t301 _ A10.out).mono ?_
        rintro e w19 ⟨rfl, hb⟩
        refine ⟨_, rfl, ?_⟩
        have n0_ := zi (blk_below (g := gb297) (o := .cells #[.int .i64 a0_0, .int .i64 a0_1, .int .i64 a0_2, .string a0_3] 25 (0, 0)) z4b hb)
        have n1_ := zi (below_step z4c hb)
        clear BK297
        clear HB
        have BK297 := n0_
        have HB := n1_
        clear n0_ n1_
        (try clear hb)
        (try clear hb2)
        (try clear hk)
        (try clear hi)
        refine hK.out _ _ ⟨(blk_cell BK297.out 0).trans rfl, (blk_cell BK297.out 1).trans rfl, (blk_cell BK297.out 2).trans rfl, (blk_cell BK297.out 3).trans rfl⟩ (fun hHeld => ?_)
        clear hK K
        refine zn (some 19) rfl ?_
        refine zk 13 (some 20) #[z7e, z7e, z7e, z7e, z7e, z7e, z7e, z7e, z7e, z7e, z7e, z7e, z7e, z7e, z7f] rfl rfl ?_
        refine zk 14 (some 3) #[z7e, z7e, z7e, z7e, z7e, z7e, z7e, z7e, z7e, z7e, z7e, z7e, z7e, z7e, z7e] rfl rfl ?_
        refine done_ (done_of HT_.out z1a) ?_
        obtain ⟨hcz20_0, hcz20_1, hcz20_2, hcz20_3, hfz20_0, hfz20_1, hfz20_2, hfz20_3⟩ := ze BK297.out
        try go_wp2
        go_ret
        exact ⟨zw, z4c⟩
       ·rw [if_neg c12] at H
        have c12b0 : (a0_3.toList == ([] : List UInt8)) = false := beq_eq_false_iff_ne.mpr c12
        have c12b1 : (a0_3.toList != ([] : List UInt8)) = true := bne_iff_ne.mpr c12
        by_cases c21 : ((((((⟨#[118]⟩ : ByteArray) ++ t299) ++ (⟨#[46]⟩ : ByteArray)) ++ t300) ++ (⟨#[46]⟩ : ByteArray)) ++ t301).size + 1 ≤ 9223372036854775807
        ·rw [if_pos c21] at H
         have c21s0 : (9223372036854775807 < 1 + t299.size + 1 + t300.size + 1 + t301.size + 1) = False := eq_false (Nat.not_lt.2 (by have h_ := c21; simp only [ByteArray.size_append] at h_; exact h_))
         have c21b0 := eq_true c21
         have c21b1 := decide_eq_true c21
         try have c21b2 : (9223372036854775807 < ((((((⟨#[118]⟩ : ByteArray) ++ t299) ++ (⟨#[46]⟩ : ByteArray)) ++ t300) ++ (⟨#[46]⟩ : ByteArray)) ++ t301).size + 1) = False := eq_false (Nat.not_lt.2 c21)
         by_cases c22 : (((((((⟨#[118]⟩ : ByteArray) ++ t299) ++ (⟨#[46]⟩ : ByteArray)) ++ t300) ++ (⟨#[46]⟩ : ByteArray)) ++ t301) ++ (⟨#[45]⟩ : ByteArray)).size + a0_3.size ≤ 9223372036854775807
         ·rw [if_pos c22] at H
          have c22s0 : (9223372036854775807 < 1 + t299.size + 1 + t300.size + 1 + t301.size + 1 + a0_3.size) = False := eq_false (Nat.not_lt.2 (by have h_ := c22; simp only [ByteArray.size_append] at h_; exact h_))
          have c22b0 := eq_true c22
          have c22b1 := decide_eq_true c22
          try have c22b2 : (9223372036854775807 < (((((((⟨#[118]⟩ : ByteArray) ++ t299) ++ (⟨#[46]⟩ : ByteArray)) ++ t300) ++ (⟨#[46]⟩ : ByteArray)) ++ t301) ++ (⟨#[45]⟩ : ByteArray)).size + a0_3.size) = False := eq_false (Nat.not_lt.2 c22)
          obtain rfl := Option.some.inj H
          go_enter Tryz.func86, Tryz.ntmps86
          try go_wp2_with (first | ((with_reducible refine gate_dst (N := 1) rfl ?_); refine box_event zr (N := 1) zr (cs := #[.int .i64 a0_0, .int .i64 a0_1, .int .i64 a0_2, .string a0_3]) (t := 25) zs ?_; intro gb297 hg w23 hbox hb; have n0_ := zi (below_step zt hb); have n1_ := zi hbox; have n2_ := zi ((z5s : w.heap.size ≤ gb297)); have n3_ := zi ((z5s : w.heap.size ≤ gb297)); clear HB; have HB := n0_; have BK297 := n1_; have GW297 := n2_; have GE297 := n3_; clear n0_ n1_ n2_ n3_; clear hb hbox hg; obtain ⟨hcz24_0, hcz24_1, hcz24_2, hcz24_3, hfz24_0, hfz24_1, hfz24_2, hfz24_3⟩ := ze BK297.out) | ((with_reducible refine gate_callee (f := 68) rfl ?_); refine goesL_ (some 5) rfl rfl Tryz.func68 z1a rfl #[.agg #[.int .i64 a0_0, .int .i64 a0_1, .int .i64 a0_2, .string a0_3]] rfl z1b ?_; (with_reducible refine (spec_VersionOk.calls k a0_0 a0_1 a0_2 a0_3 true _ A2.out).mono ?_); rintro e w25 ⟨rfl, hb⟩; refine ⟨_, rfl, ?_⟩; have n0_ := zi (blk_below (g := gb297) (o := .cells #[.int .i64 a0_0, .int .i64 a0_1, .int .i64 a0_2, .string a0_3] 25 (0, 0)) z4b hb); have n1_ := zi (below_step z4c hb); clear BK297; clear HB; have BK297 := n0_; have HB := n1_; clear n0_ n1_; (try clear hb); (try clear hb2); (try clear hk); (try clear hi)))
          have n0_ := zi (blk_drew BK297.out)
          have n1_ := zi (below_drew1 HB.out)
          clear BK297
          clear HB
          have BK297 := n0_
          have HB := n1_
          clear n0_ n1_
          refine start_ (n := 15) (S := fun w' => w'.cell? ⟨gb297, 0, none⟩ = some (.int .i64 a0_0) ∧ w'.cell? ⟨gb297, 1, none⟩ = some (.int .i64 a0_1) ∧ w'.cell? ⟨gb297, 2, none⟩ = some (.int .i64 a0_2) ∧ w'.cell? ⟨gb297, 3, none⟩ = some (.string a0_3)) (ds := []) #[z7f, z7f, z7f, z7f, z7f, z7f, z7f, z7f, z7f, z7f, z7f, z7f, z7f, z7f, z7f] z1a rfl rfl ⟨(blk_cell BK297.out 0).trans rfl, (blk_cell BK297.out 1).trans rfl, (blk_cell BK297.out 2).trans rfl, (blk_cell BK297.out 3).trans rfl⟩ (fun hHeld => ?_); refine with_tabW spec_VersionText.tab3 spec_VersionText.bits3 (fun HT_ HW_ => ?_)
          generalize w25.drew = w26 at BK297 HB hHeld ⊢
          refine zk 0 (some 7) #[z7e, z7f, z7f, z7f, z7f, z7f, z7f, z7f, z7f, z7f, z7f, z7f, z7f, z7f, z7f] rfl rfl ?_
          refine zk 5 (some 12) #[z7e, z7f, z7f, z7f, z7f, z7e, z7f, z7f, z7f, z7f, z7f, z7f, z7f, z7f, z7f] rfl rfl ?_
          refine zk 10 (some 17) #[z7e, z7f, z7f, z7f, z7f, z7e, z7f, z7f, z7f, z7f, z7e, z7f, z7f, z7f, z7f] rfl rfl ?_
          refine zm 1 (some 8) #[z7e, z7e, z7f, z7f, z7f, z7e, z7f, z7f, z7f, z7f, z7e, z7f, z7f, z7f, z7f] rfl rfl (Or.inl ⟨zr, z2e⟩) hHeld ?_
          refine zm 6 (some 13) #[z7e, z7e, z7f, z7f, z7f, z7e, z7e, z7f, z7f, z7f, z7e, z7f, z7f, z7f, z7f] rfl rfl (Or.inl ⟨zr, z2e⟩) hHeld ?_
          refine zm 11 (some 18) #[z7e, z7e, z7f, z7f, z7f, z7e, z7e, z7f, z7f, z7f, z7e, z7e, z7f, z7f, z7f] rfl rfl (Or.inl ⟨zr, z2e⟩) hHeld ?_
          refine one_ (i := 2) (N := some 9) #[z7e, z7e, z7e, z7f, z7f, z7e, z7e, z7f, z7f, z7f, z7e, z7e, z7f, z7f, z7f] rfl rfl (one_of HT_.out z1a) z1g (fun K hK => ?_)
          refine goes_ Tryz.func106 z1a rfl #[.int .i64 a0_0] zr rfl rfl z1b ?_
          with_reducible refine (spec_l3Text.calls k a0_0 t299 _ A4.out).mono ?_
          rintro e w27 ⟨rfl, hb⟩
          refine ⟨_, rfl, ?_⟩
          have n0_ := zi (blk_below (g := gb297) (o := .cells #[.int .i64 a0_0, .int .i64 a0_1, .int .i64 a0_2, .string a0_3] 25 (0, 0)) z4b hb)
          have n1_ := zi (below_step z4c hb)
          clear BK297
          clear HB
          have BK297 := n0_
          have HB := n1_
          clear n0_ n1_
          (try clear hb)
          (try clear hb2)
          (try clear hk)
          (try clear hi)
          refine hK.out _ _ ⟨(blk_cell BK297.out 0).trans rfl, (blk_cell BK297.out 1).trans rfl, (blk_cell BK297.out 2).trans rfl, (blk_cell BK297.out 3).trans rfl⟩ (fun hHeld => ?_)
          clear hK K
          refine zn (some 9) rfl ?_
          refine zk 3 (some 10) #[z7e, z7e, z7e, z7e, z7f, z7e, z7e, z7f, z7f, z7f, z7e, z7e, z7f, z7f, z7f] rfl rfl ?_
          refine zk 4 (some 11) #[z7e, z7e, z7e, z7e, z7e, z7e, z7e, z7f, z7f, z7f, z7e, z7e, z7f, z7f, z7f] rfl rfl ?_
          refine one_ (i := 7) (N := some 14) #[z7e, z7e, z7e, z7e, z7e, z7e, z7e, z7e, z7f, z7f, z7e, z7e, z7f, z7f, z7f] rfl rfl (one_of HT_.out z1a) z1g (fun K hK => ?_)
          refine goes_ Tryz.func106 z1a rfl #[.int .i64 a0_1] zr rfl rfl z1b ?_
          with_reducible refine (spec_l3Text.calls k a0_1 t300 _ A7.out).mono ?_
          rintro e w28 ⟨rfl, hb⟩
          refine ⟨_, rfl, ?_⟩
          have n0_ := zi (blk_below (g := gb297) (o := .cells #[.int .i64 a0_0, .int .i64 a0_1, .int .i64 a0_2, .string a0_3] 25 (0, 0)) z4b hb)
          have n1_ := zi (below_step z4c hb)
          clear BK297
          clear HB
          have BK297 := n0_
          have HB := n1_
          clear n0_ n1_
          (try clear hb)
          (try clear hb2)
          (try clear hk)
          (try clear hi)
          refine hK.out _ _ ⟨(blk_cell BK297.out 0).trans rfl, (blk_cell BK297.out 1).trans rfl, (blk_cell BK297.out 2).trans rfl, (blk_cell BK297.out 3).trans rfl⟩ (fun hHeld => ?_)
          clear hK K
          refine zn (some 14) rfl ?_
          refine zk 8 (some 15) #[z7e, z7e, z7e, z7e, z7e, z7e, z7e, z7e, z7e, z7f, z7e, z7e, z7f, z7f, z7f] rfl rfl ?_
          refine zk 9 (some 16) #[z7e, z7e, z7e, z7e, z7e, z7e, z7e, z7e, z7e, z7e, z7e, z7e, z7f, z7f, z7f] rfl rfl ?_
          refine one_ (i := 12) (N := some 19) #[z7e, z7e, z7e, z7e, z7e, z7e, z7e, z7e, z7e, z7e, z7e, z7e, z7e, z7f, z7f] rfl rfl (one_of HT_.out z1a) z1g (fun K hK => ?_)
          refine goes_ Tryz.func106 z1a rfl #[.int .i64 a0_2] zr rfl rfl z1b ?_
          with_reducible refine (spec_l3Text.calls k a0_2 t301 _ A10.out).mono ?_
          rintro e w29 ⟨rfl, hb⟩
          refine ⟨_, rfl, ?_⟩
          have n0_ := zi (blk_below (g := gb297) (o := .cells #[.int .i64 a0_0, .int .i64 a0_1, .int .i64 a0_2, .string a0_3] 25 (0, 0)) z4b hb)
          have n1_ := zi (below_step z4c hb)
          clear BK297
          clear HB
          have BK297 := n0_
          have HB := n1_
          clear n0_ n1_
          (try clear hb)
          (try clear hb2)
          (try clear hk)
          (try clear hi)
          refine hK.out _ _ ⟨(blk_cell BK297.out 0).trans rfl, (blk_cell BK297.out 1).trans rfl, (blk_cell BK297.out 2).trans rfl, (blk_cell BK297.out 3).trans rfl⟩ (fun hHeld => ?_)
          clear hK K
          refine zn (some 19) rfl ?_
          refine zk 13 (some 20) #[z7e, z7e, z7e, z7e, z7e, z7e, z7e, z7e, z7e, z7e, z7e, z7e, z7e, z7e, z7f] rfl rfl ?_
          refine zk 14 (some 3) #[z7e, z7e, z7e, z7e, z7e, z7e, z7e, z7e, z7e, z7e, z7e, z7e, z7e, z7e, z7e] rfl rfl ?_
          refine done_ (done_of HT_.out z1a) ?_
          obtain ⟨hcz30_0, hcz30_1, hcz30_2, hcz30_3, hfz30_0, hfz30_1, hfz30_2, hfz30_3⟩ := ze BK297.out
          try go_wp2
          go_ret
          exact ⟨zw, z4c⟩
         ·rw [if_neg c22] at H
          exact absurd H (by simp)
        ·rw [if_neg c21] at H
         exact absurd H (by simp)
      ·rw [if_neg c11] at H
       exact absurd H (by simp)
     ·rw [if_neg c9] at H
      exact absurd H (by simp)
    ·rw [if_neg c8] at H
     exact absurd H (by simp)
   ·rw [if_neg c6] at H
    exact absurd H (by simp)
  ·rw [if_neg c5] at H
   exact absurd H (by simp)
 ·replace c3 := Bool.eq_false_iff.mpr c3
  subst c3
  rw [if_neg zj] at H
  obtain rfl := Option.some.inj H
  go_enter Tryz.func86, Tryz.ntmps86
  go_wp2_with (first | ((with_reducible refine gate_dst (N := 1) rfl ?_); refine box_event zr (N := 1) zr (cs := #[.int .i64 a0_0, .int .i64 a0_1, .int .i64 a0_2, .string a0_3]) (t := 25) zs ?_; intro gb297 hg w31 hbox hb; have n0_ := zi (below_step zt hb); have n1_ := zi hbox; have n2_ := zi ((z5s : w.heap.size ≤ gb297)); have n3_ := zi ((z5s : w.heap.size ≤ gb297)); clear HB; have HB := n0_; have BK297 := n1_; have GW297 := n2_; have GE297 := n3_; clear n0_ n1_ n2_ n3_; clear hb hbox hg; obtain ⟨hcz32_0, hcz32_1, hcz32_2, hcz32_3, hfz32_0, hfz32_1, hfz32_2, hfz32_3⟩ := ze BK297.out) | ((with_reducible refine gate_callee (f := 68) rfl ?_); refine goesL_ (some 5) rfl rfl Tryz.func68 z1a rfl #[.agg #[.int .i64 a0_0, .int .i64 a0_1, .int .i64 a0_2, .string a0_3]] rfl z1b ?_; (with_reducible refine (spec_VersionOk.calls k a0_0 a0_1 a0_2 a0_3 false _ A2.out).mono ?_); rintro e w33 ⟨rfl, hb⟩; refine ⟨_, rfl, ?_⟩; have n0_ := zi (blk_below (g := gb297) (o := .cells #[.int .i64 a0_0, .int .i64 a0_1, .int .i64 a0_2, .string a0_3] 25 (0, 0)) z4b hb); have n1_ := zi (below_step z4c hb); clear BK297; clear HB; have BK297 := n0_; have HB := n1_; clear n0_ n1_; (try clear hb); (try clear hb2); (try clear hk); (try clear hi)))
  go_ret
  exact ⟨zw, z4c⟩
def spec_ParseVersion.n3 (k : Nat) (s p : ByteArray) (x y z : Int) : Option (Int × Int × Int × ByteArray × Bool) := (spec_VersionOk.f k x y z p).bind fun b => (if b = true then ((spec_VersionText.f k x y z p).bind fun t => (if t.toList = s.toList then (some (x, y, z, p, true)) else (some (0, 0, 0, (⟨#[]⟩ : ByteArray), false)))) else (some (0, 0, 0, (⟨#[]⟩ : ByteArray), false)))
def spec_ParseVersion.n2 (k : Nat) (s t p : ByteArray) : Option (Int × Int × Int × ByteArray × Bool) := (spec_l3Split.f k t 46).bind fun l => (if l.length = 3 then ((spec_l3Number.f k (rdOf ByteArray.empty l 0)).bind fun x => ((spec_l3Number.f k (rdOf ByteArray.empty l 1)).bind fun y => ((spec_l3Number.f k (rdOf ByteArray.empty l 2)).bind fun z => (spec_ParseVersion.n3 k s p x y z)))) else (some (0, 0, 0, (⟨#[]⟩ : ByteArray), false)))
def spec_ParseVersion.l0 : Nat → ByteArray → ByteArray → Int → Option (Int × Int × Int × ByteArray × Bool)
 | 0, _, _, _ => none
 | k + 1, s, t, i => if i < (t.size : Int) then (if 0 ≤ i then (if (bt t i) = 45 then (if 0 ≤ (wrap64 (i + 1)) then (if (wrap64 (i + 1)) ≤ (t.size : Int) then (spec_ParseVersion.n2 k s (t.extract 0 i.toNat) (t.extract (wrap64 (i + 1)).toNat t.size)) else (none)) else (none)) else (spec_ParseVersion.l0 k s t (wrap64 (i + 1)))) else (none)) else (spec_ParseVersion.n2 k s t (⟨#[]⟩ : ByteArray))
def spec_ParseVersion.f (k : Nat) (s : ByteArray) : Option (Int × Int × Int × ByteArray × Bool) := if s.toList = ([] : List UInt8) then (some (0, 0, 0, (⟨#[]⟩ : ByteArray), false)) else (if 0 < (s.size : Int) then (if (bt s 0) = 118 then (if 1 ≤ (s.size : Int) then (spec_ParseVersion.l0 k s (s.extract 1 s.size) 0) else (none)) else (some (0, 0, 0, (⟨#[]⟩ : ByteArray), false))) else (none))
theorem spec_ParseVersion.four {w : World} {g : Nat} {T : TypeId} {x0 x1 x2 x3 : Value} (h : w.heap[g]? = some (.cells #[x0, x1, x2, x3] T (0, 0))) (y0 y1 y2 y3 : Value) :
  ((((w.setCell ⟨g, 0, none⟩ y0).setCell ⟨g, 1, none⟩ y1).setCell ⟨g, 2, none⟩ y2).setCell ⟨g, 3, none⟩ y3).heap[g]? = some (.cells #[y0, y1, y2, y3] T (0, 0)) := blk_put (blk_put (blk_put (blk_put h 0 _ rfl) 1 _ rfl) 2 _ rfl) 3 _ rfl
theorem spec_ParseVersion.fourB {B : Nat} {a w : World} {g : Nat} (h : Below B a w) (hg : B ≤ g) (y0 y1 y2 y3 : Value) :
  Below B a ((((w.setCell ⟨g, 0, none⟩ y0).setCell ⟨g, 1, none⟩ y1).setCell ⟨g, 2, none⟩ y2).setCell ⟨g, 3, none⟩ y3) := (((h.setCell (p := ⟨g, 0, none⟩) hg _).setCell (p := ⟨g, 1, none⟩) hg _).setCell (p := ⟨g, 2, none⟩) hg _).setCell (p := ⟨g, 3, none⟩) hg _
theorem spec_ParseVersion.fourF {w : World} {g g2 : Nat} {T : TypeId} {cs : Array Value} (h : w.heap[g]? = some (.cells cs T (0, 0))) (hne : g ≠ g2) (y0 y1 y2 y3 : Value) :
  ((((w.setCell ⟨g2, 0, none⟩ y0).setCell ⟨g2, 1, none⟩ y1).setCell ⟨g2, 2, none⟩ y2).setCell ⟨g2, 3, none⟩ y3).heap[g]? = some (.cells cs T (0, 0)) := blk_far (p := ⟨g2, 3, none⟩) (blk_far (p := ⟨g2, 2, none⟩) (blk_far (p := ⟨g2, 1, none⟩) (blk_far (p := ⟨g2, 0, none⟩) h hne _) hne _) hne _) hne _
set_option maxHeartbeats 8000000 in
set_option maxRecDepth 100000 in
theorem spec_ParseVersion.calls (k : Nat) (a0 : ByteArray) (r1 : Int) (r2 : Int) (r3 : Int) (r4 : ByteArray) (r5 : Bool) (w : World) (h : spec_ParseVersion.f k a0 = some (r1, r2, r3, r4, r5)) :
  Calls Tryz.prog 57 #[.string a0] w fun e w' => e = .returned (.tuple #[.agg #[.int .i64 r1, .int .i64 r2, .int .i64 r3, .string r4], .bool r5]) ∧ Below w.heap.size w w' := by
 have hu27 := Tryz.underlying25
 have HB := zi (Below.refl w.heap.size w)
 unfold spec_ParseVersion.f at h
 by_cases c1 : a0.toList = ([] : List UInt8)
 ·rw [if_pos c1] at h
  have c1b0 : (a0.toList == ([] : List UInt8)) = true := beq_iff_eq.mpr c1
  have c1b1 : (a0.toList != ([] : List UInt8)) = false := bne_eq_false_iff_eq.mpr c1
  clear c1
  simp only [Option.some.injEq, Prod.mk.injEq] at h
  obtain ⟨rfl, rfl, rfl, rfl, rfl⟩ := h
  go_enter Tryz.func57, Tryz.ntmps57
  go_wp2_with (first | ((with_reducible refine gate_dst (N := 2) rfl ?_); refine box_event zr (N := 2) zr (cs := #[.int .i64 0, .int .i64 0, .int .i64 0, .string (⟨#[]⟩ : ByteArray)]) (t := 25) zs ?_; intro g2 hg w2 hbox hb; have n0_ := zi (below_step zt hb); have n1_ := zi hbox; have n2_ := zi ((z5s : w.heap.size ≤ g2)); clear HB; have HB := n0_; have BK2 := n1_; have GE2 := n2_; clear n0_ n1_ n2_; clear hb hbox hg) | ((with_reducible refine gate_dst (N := 4) rfl ?_); refine box_event zr (N := 4) zr (cs := #[.int .i64 0, .int .i64 0, .int .i64 0, .string (⟨#[]⟩ : ByteArray)]) (t := 25) zs ?_; intro g4 hg w4 hbox hb; have n0_ := zi (blk_below (g := g2) (o := .cells #[.int .i64 0, .int .i64 0, .int .i64 0, .string (⟨#[]⟩ : ByteArray)] 25 (0, 0)) z2r hb); have n1_ := zi ((z6l : g2 ≠ g4)); have n2_ := zi (below_step zt hb); have n3_ := zi hbox; have n4_ := zi ((z5s : w.heap.size ≤ g4)); clear BK2 HB; have BK2 := n0_; have NE24 := n1_; have HB := n2_; have BK4 := n3_; have GE4 := n4_; clear n0_ n1_ n2_ n3_ n4_; clear hb hbox hg; have i4_0 : w4.cell? ⟨g4, 0, none⟩ = some (.int .i64 0) := (blk_cell BK4.out 0).trans rfl; have i4_1 : w4.cell? ⟨g4, 1, none⟩ = some (.int .i64 0) := (blk_cell BK4.out 1).trans rfl; have i4_2 : w4.cell? ⟨g4, 2, none⟩ = some (.int .i64 0) := (blk_cell BK4.out 2).trans rfl; have i4_3 : w4.cell? ⟨g4, 3, none⟩ = some (.string (⟨#[]⟩ : ByteArray)) := (blk_cell BK4.out 3).trans rfl; have j4_0 : w4.frozen? ⟨g4, 0, none⟩ = false := blk_frozen BK4.out 0; have j4_1 : w4.frozen? ⟨g4, 1, none⟩ = false := blk_frozen BK4.out 1; have j4_2 : w4.frozen? ⟨g4, 2, none⟩ = false := blk_frozen BK4.out 2; have j4_3 : w4.frozen? ⟨g4, 3, none⟩ = false := blk_frozen BK4.out 3; have n0_ := zi (spec_ParseVersion.fourF BK2.out NE24.out (.int .i64 0) (.int .i64 0) (.int .i64 0) (.string (⟨#[]⟩ : ByteArray))); have n1_ := zi (spec_ParseVersion.four BK4.out (.int .i64 0) (.int .i64 0) (.int .i64 0) (.string (⟨#[]⟩ : ByteArray))); have n2_ := zi (spec_ParseVersion.fourB HB.out GE4.out (.int .i64 0) (.int .i64 0) (.int .i64 0) (.string (⟨#[]⟩ : ByteArray))); clear BK2 BK4 HB; have BK2 := n0_; have BK4 := n1_; have HB := n2_; clear n0_ n1_ n2_; have d0 : ((((w4.setCell ⟨g4, 0, none⟩ (.int .i64 0)).setCell ⟨g4, 1, none⟩ (.int .i64 0)).setCell ⟨g4, 2, none⟩ (.int .i64 0)).setCell ⟨g4, 3, none⟩ (.string (⟨#[]⟩ : ByteArray))).cell? ⟨g2, 0, none⟩ = some (.int .i64 0) := (blk_cell BK2.out 0).trans rfl; have d1 : ((((w4.setCell ⟨g4, 0, none⟩ (.int .i64 0)).setCell ⟨g4, 1, none⟩ (.int .i64 0)).setCell ⟨g4, 2, none⟩ (.int .i64 0)).setCell ⟨g4, 3, none⟩ (.string (⟨#[]⟩ : ByteArray))).cell? ⟨g2, 1, none⟩ = some (.int .i64 0) := (blk_cell BK2.out 1).trans rfl; have d2 : ((((w4.setCell ⟨g4, 0, none⟩ (.int .i64 0)).setCell ⟨g4, 1, none⟩ (.int .i64 0)).setCell ⟨g4, 2, none⟩ (.int .i64 0)).setCell ⟨g4, 3, none⟩ (.string (⟨#[]⟩ : ByteArray))).cell? ⟨g2, 2, none⟩ = some (.int .i64 0) := (blk_cell BK2.out 2).trans rfl; have d3 : ((((w4.setCell ⟨g4, 0, none⟩ (.int .i64 0)).setCell ⟨g4, 1, none⟩ (.int .i64 0)).setCell ⟨g4, 2, none⟩ (.int .i64 0)).setCell ⟨g4, 3, none⟩ (.string (⟨#[]⟩ : ByteArray))).cell? ⟨g2, 3, none⟩ = some (.string (⟨#[]⟩ : ByteArray)) := (blk_cell BK2.out 3).trans rfl; have f0 : ((((w4.setCell ⟨g4, 0, none⟩ (.int .i64 0)).setCell ⟨g4, 1, none⟩ (.int .i64 0)).setCell ⟨g4, 2, none⟩ (.int .i64 0)).setCell ⟨g4, 3, none⟩ (.string (⟨#[]⟩ : ByteArray))).frozen? ⟨g2, 0, none⟩ = false := blk_frozen BK2.out 0; have f1 : ((((w4.setCell ⟨g4, 0, none⟩ (.int .i64 0)).setCell ⟨g4, 1, none⟩ (.int .i64 0)).setCell ⟨g4, 2, none⟩ (.int .i64 0)).setCell ⟨g4, 3, none⟩ (.string (⟨#[]⟩ : ByteArray))).frozen? ⟨g2, 1, none⟩ = false := blk_frozen BK2.out 1; have f2 : ((((w4.setCell ⟨g4, 0, none⟩ (.int .i64 0)).setCell ⟨g4, 1, none⟩ (.int .i64 0)).setCell ⟨g4, 2, none⟩ (.int .i64 0)).setCell ⟨g4, 3, none⟩ (.string (⟨#[]⟩ : ByteArray))).frozen? ⟨g2, 2, none⟩ = false := blk_frozen BK2.out 2; have f3 : ((((w4.setCell ⟨g4, 0, none⟩ (.int .i64 0)).setCell ⟨g4, 1, none⟩ (.int .i64 0)).setCell ⟨g4, 2, none⟩ (.int .i64 0)).setCell ⟨g4, 3, none⟩ (.string (⟨#[]⟩ : ByteArray))).frozen? ⟨g2, 3, none⟩ = false := blk_frozen BK2.out 3; have m0 : ((((w4.setCell ⟨g4, 0, none⟩ (.int .i64 0)).setCell ⟨g4, 1, none⟩ (.int .i64 0)).setCell ⟨g4, 2, none⟩ (.int .i64 0)).setCell ⟨g4, 3, none⟩ (.string (⟨#[]⟩ : ByteArray))).cell? ⟨g4, 0, none⟩ = some (.int .i64 0) := (blk_cell BK4.out 0).trans rfl; have m1 : ((((w4.setCell ⟨g4, 0, none⟩ (.int .i64 0)).setCell ⟨g4, 1, none⟩ (.int .i64 0)).setCell ⟨g4, 2, none⟩ (.int .i64 0)).setCell ⟨g4, 3, none⟩ (.string (⟨#[]⟩ : ByteArray))).cell? ⟨g4, 1, none⟩ = some (.int .i64 0) := (blk_cell BK4.out 1).trans rfl; have m2 : ((((w4.setCell ⟨g4, 0, none⟩ (.int .i64 0)).setCell ⟨g4, 1, none⟩ (.int .i64 0)).setCell ⟨g4, 2, none⟩ (.int .i64 0)).setCell ⟨g4, 3, none⟩ (.string (⟨#[]⟩ : ByteArray))).cell? ⟨g4, 2, none⟩ = some (.int .i64 0) := (blk_cell BK4.out 2).trans rfl; have m3 : ((((w4.setCell ⟨g4, 0, none⟩ (.int .i64 0)).setCell ⟨g4, 1, none⟩ (.int .i64 0)).setCell ⟨g4, 2, none⟩ (.int .i64 0)).setCell ⟨g4, 3, none⟩ (.string (⟨#[]⟩ : ByteArray))).cell? ⟨g4, 3, none⟩ = some (.string (⟨#[]⟩ : ByteArray)) := (blk_cell BK4.out 3).trans rfl))
  refine bodyPost_ret (results_ct rfl _ _ g2 25 #[.int .i64 0, .int .i64 0, .int .i64 0, .string (⟨#[]⟩ : ByteArray)] (0, 0) _ rfl (spec_ParseVersion.four BK2.out _ _ _ _) hu27 rfl z1a) rfl ?_
  exact ⟨rfl, spec_ParseVersion.fourB zt GE2.out _ _ _ _⟩
 ·rw [if_neg c1] at h
  have c1b0 : (a0.toList == ([] : List UInt8)) = false := beq_eq_false_iff_ne.mpr c1
  have c1b1 : (a0.toList != ([] : List UInt8)) = true := bne_iff_ne.mpr c1
  by_cases c2 : 0 < (a0.size : Int)
  ·rw [if_pos c2] at h
   have c2b0 := eq_true c2
   have q6 : 0 < a0.size := by omega
   have hx6 : ∀ h : 0 < a0.size, ((a0[0]'h).toNat : Int) = bt a0 0 := bt_at a0 0
   replace q6 := eq_true q6
   by_cases c3 : bt a0 0 = 118
   ·rw [if_pos c3] at h
    have c3b0 : (bt a0 0 == 118) = true := beq_iff_eq.mpr c3
    have c3b1 : (bt a0 0 != 118) = false := bne_eq_false_iff_eq.mpr c3
    by_cases c4 : 1 ≤ (a0.size : Int)
    ·rw [if_pos c4] at h
     have H' := zi h
     have c4b0 := eq_true c4
     clear h c1 c2 c3 c4
     go_enter Tryz.func57, Tryz.ntmps57
     go_upto_block 0 with (first | ((with_reducible refine gate_dst (N := 2) rfl ?_); refine box_event zr (N := 2) zr (cs := #[.int .i64 0, .int .i64 0, .int .i64 0, .string (⟨#[]⟩ : ByteArray)]) (t := 25) zs ?_; intro g2 hg w2 hbox hb; have n0_ := zi (below_step zt hb); have n1_ := zi hbox; have n2_ := zi ((z5s : w.heap.size ≤ g2)); clear HB; have HB := n0_; have BK2 := n1_; have GE2 := n2_; clear n0_ n1_ n2_; clear hb hbox hg) | ((with_reducible refine gate_dst (N := 4) rfl ?_); refine box_event zr (N := 4) zr (cs := #[.int .i64 0, .int .i64 0, .int .i64 0, .string (⟨#[]⟩ : ByteArray)]) (t := 25) zs ?_; intro g4 hg w4 hbox hb; have n0_ := zi (blk_below (g := g2) (o := .cells #[.int .i64 0, .int .i64 0, .int .i64 0, .string (⟨#[]⟩ : ByteArray)] 25 (0, 0)) z2r hb); have n1_ := zi ((z6l : g2 ≠ g4)); have n2_ := zi (below_step zt hb); have n3_ := zi hbox; have n4_ := zi ((z5s : w.heap.size ≤ g4)); clear BK2 HB; have BK2 := n0_; have NE24 := n1_; have HB := n2_; have BK4 := n3_; have GE4 := n4_; clear n0_ n1_ n2_ n3_ n4_; clear hb hbox hg; have i4_0 : w4.cell? ⟨g4, 0, none⟩ = some (.int .i64 0) := (blk_cell BK4.out 0).trans rfl; have i4_1 : w4.cell? ⟨g4, 1, none⟩ = some (.int .i64 0) := (blk_cell BK4.out 1).trans rfl; have i4_2 : w4.cell? ⟨g4, 2, none⟩ = some (.int .i64 0) := (blk_cell BK4.out 2).trans rfl; have i4_3 : w4.cell? ⟨g4, 3, none⟩ = some (.string (⟨#[]⟩ : ByteArray)) := (blk_cell BK4.out 3).trans rfl; have j4_0 : w4.frozen? ⟨g4, 0, none⟩ = false := blk_frozen BK4.out 0; have j4_1 : w4.frozen? ⟨g4, 1, none⟩ = false := blk_frozen BK4.out 1; have j4_2 : w4.frozen? ⟨g4, 2, none⟩ = false := blk_frozen BK4.out 2; have j4_3 : w4.frozen? ⟨g4, 3, none⟩ = false := blk_frozen BK4.out 3; have n0_ := zi (spec_ParseVersion.fourF BK2.out NE24.out (.int .i64 0) (.int .i64 0) (.int .i64 0) (.string (⟨#[]⟩ : ByteArray))); have n1_ := zi (spec_ParseVersion.four BK4.out (.int .i64 0) (.int .i64 0) (.int .i64 0) (.string (⟨#[]⟩ : ByteArray))); have n2_ := zi (spec_ParseVersion.fourB HB.out GE4.out (.int .i64 0) (.int .i64 0) (.int .i64 0) (.string (⟨#[]⟩ : ByteArray))); clear BK2 BK4 HB; have BK2 := n0_; have BK4 := n1_; have HB := n2_; clear n0_ n1_ n2_; have d0 : ((((w4.setCell ⟨g4, 0, none⟩ (.int .i64 0)).setCell ⟨g4, 1, none⟩ (.int .i64 0)).setCell ⟨g4, 2, none⟩ (.int .i64 0)).setCell ⟨g4, 3, none⟩ (.string (⟨#[]⟩ : ByteArray))).cell? ⟨g2, 0, none⟩ = some (.int .i64 0) := (blk_cell BK2.out 0).trans rfl; have d1 : ((((w4.setCell ⟨g4, 0, none⟩ (.int .i64 0)).setCell ⟨g4, 1, none⟩ (.int .i64 0)).setCell ⟨g4, 2, none⟩ (.int .i64 0)).setCell ⟨g4, 3, none⟩ (.string (⟨#[]⟩ : ByteArray))).cell? ⟨g2, 1, none⟩ = some (.int .i64 0) := (blk_cell BK2.out 1).trans rfl; have d2 : ((((w4.setCell ⟨g4, 0, none⟩ (.int .i64 0)).setCell ⟨g4, 1, none⟩ (.int .i64 0)).setCell ⟨g4, 2, none⟩ (.int .i64 0)).setCell ⟨g4, 3, none⟩ (.string (⟨#[]⟩ : ByteArray))).cell? ⟨g2, 2, none⟩ = some (.int .i64 0) := (blk_cell BK2.out 2).trans rfl; have d3 : ((((w4.setCell ⟨g4, 0, none⟩ (.int .i64 0)).setCell ⟨g4, 1, none⟩ (.int .i64 0)).setCell ⟨g4, 2, none⟩ (.int .i64 0)).setCell ⟨g4, 3, none⟩ (.string (⟨#[]⟩ : ByteArray))).cell? ⟨g2, 3, none⟩ = some (.string (⟨#[]⟩ : ByteArray)) := (blk_cell BK2.out 3).trans rfl; have f0 : ((((w4.setCell ⟨g4, 0, none⟩ (.int .i64 0)).setCell ⟨g4, 1, none⟩ (.int .i64 0)).setCell ⟨g4, 2, none⟩ (.int .i64 0)).setCell ⟨g4, 3, none⟩ (.string (⟨#[]⟩ : ByteArray))).frozen? ⟨g2, 0, none⟩ = false := blk_frozen BK2.out 0; have f1 : ((((w4.setCell ⟨g4, 0, none⟩ (.int .i64 0)).setCell ⟨g4, 1, none⟩ (.int .i64 0)).setCell ⟨g4, 2, none⟩ (.int .i64 0)).setCell ⟨g4, 3, none⟩ (.string (⟨#[]⟩ : ByteArray))).frozen? ⟨g2, 1, none⟩ = false := blk_frozen BK2.out 1; have f2 : ((((w4.setCell ⟨g4, 0, none⟩ (.int .i64 0)).setCell ⟨g4, 1, none⟩ (.int .i64 0)).setCell ⟨g4, 2, none⟩ (.int .i64 0)).setCell ⟨g4, 3, none⟩ (.string (⟨#[]⟩ : ByteArray))).frozen? ⟨g2, 2, none⟩ = false := blk_frozen BK2.out 2; have f3 : ((((w4.setCell ⟨g4, 0, none⟩ (.int .i64 0)).setCell ⟨g4, 1, none⟩ (.int .i64 0)).setCell ⟨g4, 2, none⟩ (.int .i64 0)).setCell ⟨g4, 3, none⟩ (.string (⟨#[]⟩ : ByteArray))).frozen? ⟨g2, 3, none⟩ = false := blk_frozen BK2.out 3; have m0 : ((((w4.setCell ⟨g4, 0, none⟩ (.int .i64 0)).setCell ⟨g4, 1, none⟩ (.int .i64 0)).setCell ⟨g4, 2, none⟩ (.int .i64 0)).setCell ⟨g4, 3, none⟩ (.string (⟨#[]⟩ : ByteArray))).cell? ⟨g4, 0, none⟩ = some (.int .i64 0) := (blk_cell BK4.out 0).trans rfl; have m1 : ((((w4.setCell ⟨g4, 0, none⟩ (.int .i64 0)).setCell ⟨g4, 1, none⟩ (.int .i64 0)).setCell ⟨g4, 2, none⟩ (.int .i64 0)).setCell ⟨g4, 3, none⟩ (.string (⟨#[]⟩ : ByteArray))).cell? ⟨g4, 1, none⟩ = some (.int .i64 0) := (blk_cell BK4.out 1).trans rfl; have m2 : ((((w4.setCell ⟨g4, 0, none⟩ (.int .i64 0)).setCell ⟨g4, 1, none⟩ (.int .i64 0)).setCell ⟨g4, 2, none⟩ (.int .i64 0)).setCell ⟨g4, 3, none⟩ (.string (⟨#[]⟩ : ByteArray))).cell? ⟨g4, 2, none⟩ = some (.int .i64 0) := (blk_cell BK4.out 2).trans rfl; have m3 : ((((w4.setCell ⟨g4, 0, none⟩ (.int .i64 0)).setCell ⟨g4, 1, none⟩ (.int .i64 0)).setCell ⟨g4, 2, none⟩ (.int .i64 0)).setCell ⟨g4, 3, none⟩ (.string (⟨#[]⟩ : ByteArray))).cell? ⟨g4, 3, none⟩ = some (.string (⟨#[]⟩ : ByteArray)) := (blk_cell BK4.out 3).trans rfl) | ((with_reducible refine gate_dst (N := 6) rfl ?_); refine box_event zr (N := 6) zr (cs := #[.int .i64 0, .int .i64 0, .int .i64 0, .string (⟨#[]⟩ : ByteArray)]) (t := 25) zs ?_; intro g6 hg w6 hbox hb; have n0_ := zi (blk_below (g := g2) (o := .cells #[.int .i64 0, .int .i64 0, .int .i64 0, .string (⟨#[]⟩ : ByteArray)] 25 (0, 0)) z2r hb); have n1_ := zi (blk_below (g := g4) (o := .cells #[.int .i64 0, .int .i64 0, .int .i64 0, .string (⟨#[]⟩ : ByteArray)] 25 (0, 0)) z4d hb); have n2_ := zi ((z6l : g2 ≠ g6)); have n3_ := zi ((by rw [hg]; exact (Nat.ne_of_lt (blk_lt (g := g4) (o := .cells #[.int .i64 0, .int .i64 0, .int .i64 0, .string (⟨#[]⟩ : ByteArray)] 25 (0, 0)) z4d)) : g4 ≠ g6)); have n4_ := zi (below_step zt hb); have n5_ := zi hbox; have n6_ := zi ((z5s : w.heap.size ≤ g6)); clear BK2 BK4 HB; have BK2 := n0_; have BK4 := n1_; have NE26 := n2_; have NE46 := n3_; have HB := n4_; have BK6 := n5_; have GE6 := n6_; clear n0_ n1_ n2_ n3_ n4_ n5_ n6_; clear hb hbox hg; have i6_0 : w6.cell? ⟨g6, 0, none⟩ = some (.int .i64 0) := (blk_cell BK6.out 0).trans rfl; have i6_1 : w6.cell? ⟨g6, 1, none⟩ = some (.int .i64 0) := (blk_cell BK6.out 1).trans rfl; have i6_2 : w6.cell? ⟨g6, 2, none⟩ = some (.int .i64 0) := (blk_cell BK6.out 2).trans rfl; have i6_3 : w6.cell? ⟨g6, 3, none⟩ = some (.string (⟨#[]⟩ : ByteArray)) := (blk_cell BK6.out 3).trans rfl; have j6_0 : w6.frozen? ⟨g6, 0, none⟩ = false := blk_frozen BK6.out 0; have j6_1 : w6.frozen? ⟨g6, 1, none⟩ = false := blk_frozen BK6.out 1; have j6_2 : w6.frozen? ⟨g6, 2, none⟩ = false := blk_frozen BK6.out 2; have j6_3 : w6.frozen? ⟨g6, 3, none⟩ = false := blk_frozen BK6.out 3; have n0_ := zi (spec_ParseVersion.fourF BK2.out NE26.out (.int .i64 0) (.int .i64 0) (.int .i64 0) (.string (⟨#[]⟩ : ByteArray))); have n1_ := zi (spec_ParseVersion.fourF BK4.out NE46.out (.int .i64 0) (.int .i64 0) (.int .i64 0) (.string (⟨#[]⟩ : ByteArray))); have n2_ := zi (spec_ParseVersion.four BK6.out (.int .i64 0) (.int .i64 0) (.int .i64 0) (.string (⟨#[]⟩ : ByteArray))); have n3_ := zi (spec_ParseVersion.fourB HB.out GE6.out (.int .i64 0) (.int .i64 0) (.int .i64 0) (.string (⟨#[]⟩ : ByteArray))); clear BK2 BK4 BK6 HB; have BK2 := n0_; have BK4 := n1_; have BK6 := n2_; have HB := n3_; clear n0_ n1_ n2_ n3_))
     (try simp only [Act.put, z7g, z7h, z7i])
     go_cut [5] (fun v5 wc => ∃ (kj : Nat) (t p : ByteArray), v5 = .string t ∧ Aside0 (spec_ParseVersion.n2 kj a0 t p = some (r1, r2, r3, r4, r5)) ∧ Aside0 (wc.heap[g2]? = some (.cells #[.int .i64 0, .int .i64 0, .int .i64 0, .string (⟨#[]⟩ : ByteArray)] 25 (0, 0))) ∧ Aside0 (wc.heap[g4]? = some (.cells #[.int .i64 0, .int .i64 0, .int .i64 0, .string (⟨#[]⟩ : ByteArray)] 25 (0, 0))) ∧ Aside0 (wc.heap[g6]? = some (.cells #[.int .i64 0, .int .i64 0, .int .i64 0, .string p] 25 (0, 0))) ∧ Aside0 (Below w.heap.size w wc))
     case first =>
      go_wp2
      go_loopg [5, 7] k (fun kq v5 v7 wr => ∃ (t : ByteArray) (i : Int), v5 = .string t ∧ v7 = .int .i64 i ∧ Aside0 (spec_ParseVersion.l0 kq a0 t i = some (r1, r2, r3, r4, r5)) ∧ Aside0 (kq ≤ k) ∧ Aside0 (wr.heap[g2]? = some (.cells #[.int .i64 0, .int .i64 0, .int .i64 0, .string (⟨#[]⟩ : ByteArray)] 25 (0, 0))) ∧ Aside0 (wr.heap[g4]? = some (.cells #[.int .i64 0, .int .i64 0, .int .i64 0, .string (⟨#[]⟩ : ByteArray)] 25 (0, 0))) ∧ Aside0 (wr.heap[g6]? = some (.cells #[.int .i64 0, .int .i64 0, .int .i64 0, .string (⟨#[]⟩ : ByteArray)] 25 (0, 0))) ∧ Aside0 (Below w.heap.size w wr))
      case atStart => exact ⟨_, 0, z1d, (by first | rfl | (simp; done)), H', ⟨Nat.le_refl _⟩, ⟨BK2.out⟩, ⟨BK4.out⟩, ⟨BK6.out⟩, ⟨HB.out⟩⟩
      case round =>
      clear H' BK2 BK4 BK6 HB
      obtain ⟨t, i, rfl, rfl, HA, HK, BK2, BK4, BK6, HB⟩ := hrel
      cases gk with
      | zero => exact absurd HA.out (by simp [spec_ParseVersion.l0])
      | succ k2 =>
       have H := HA.out
       clear HA
       simp only [spec_ParseVersion.l0] at H
       by_cases c5 : i < (t.size : Int)
       ·rw [if_pos c5] at H
        have c5b0 := decide_eq_true c5
        (first | rw [c5b0] | (simp only [i64_w, i32_w]; rw [c5b0]) | skip)
        by_cases c6 : 0 ≤ i
        ·rw [if_pos c6] at H
         have c6b0 := decide_eq_true c6
         have p22 := eq_true (c6 : 0 ≤ (i : Int))
         have q22 := eq_true c5
         have q23 := eq_true (show i ≤ (t.size : Int) by omega)
         have hx22 := bt_at t i
         by_cases c7 : bt t i = 45
         ·rw [if_pos c7] at H
          have c7b0 : (bt t i == 45) = true := beq_iff_eq.mpr c7
          have c7b1 : (bt t i != 45) = false := bne_eq_false_iff_eq.mpr c7
          obtain ⟨ji, hji⟩ : ∃ j_ : Int, (wrap64 (i + 1)) = j_ := ⟨_, rfl⟩
          rw [hji] at H
          have hjiw : (IntKind.i64.wrap (i + 1)) = ji := (i64_w _).trans hji
          by_cases c8 : 0 ≤ ji
          ·rw [if_pos c8] at H
           have c8b0 := eq_true c8
           have c8b1 := decide_eq_true c8
           by_cases c9 : ji ≤ (t.size : Int)
           ·rw [if_pos c9] at H
            have c9b0 := eq_true c9
            have c9b1 := decide_eq_true c9
            clear c5 c6 c7 c8 c9
            have H' := zi H
            clear H
            have e0 : wr.cell? ⟨g6, 0, none⟩ = some (.int .i64 0) := (blk_cell BK6.out 0).trans rfl; have e1 : wr.cell? ⟨g6, 1, none⟩ = some (.int .i64 0) := (blk_cell BK6.out 1).trans rfl; have e2 : wr.cell? ⟨g6, 2, none⟩ = some (.int .i64 0) := (blk_cell BK6.out 2).trans rfl; have e3 : wr.cell? ⟨g6, 3, none⟩ = some (.string (⟨#[]⟩ : ByteArray)) := (blk_cell BK6.out 3).trans rfl; have q0 : wr.frozen? ⟨g6, 0, none⟩ = false := blk_frozen BK6.out 0; have q1 : wr.frozen? ⟨g6, 1, none⟩ = false := blk_frozen BK6.out 1; have q2 : wr.frozen? ⟨g6, 2, none⟩ = false := blk_frozen BK6.out 2; have q3 : wr.frozen? ⟨g6, 3, none⟩ = false := blk_frozen BK6.out 3
            go_wp2
            go_meet
            case rel => exact ⟨k2, t.extract 0 i.toNat, t.extract ji.toNat t.size, z1d, H', ⟨blk_far BK2.out NE26.out _⟩, ⟨blk_far BK4.out NE46.out _⟩, ⟨blk_put BK6.out 3 _ rfl⟩, ⟨below_set HB.out GE6.out⟩⟩
           ·rw [if_neg c9] at H
            cases H
          ·rw [if_neg c8] at H
           cases H
         ·rw [if_neg c7] at H
          have c7b0 : (bt t i == 45) = false := beq_eq_false_iff_ne.mpr c7
          have c7b1 : (bt t i != 45) = true := bne_iff_ne.mpr c7
          clear c5 c6 c7
          have H' := zi H
          clear H
          go_wp2
          go_roundg k2
          case measure => have := HK.out; omega
          case rel => exact ⟨t, wrap64 (i + 1), z1d, z1d, H', ⟨by have := HK.out; omega⟩, ⟨BK2.out⟩, ⟨BK4.out⟩, ⟨BK6.out⟩, ⟨HB.out⟩⟩
        ·rw [if_neg c6] at H
         cases H
       ·rw [if_neg c5] at H
        have c5b0 := decide_eq_false c5
        clear c5
        (first | rw [c5b0] | (simp only [i64_w, i32_w]; rw [c5b0]) | skip)
        have H' := zi H
        clear H
        go_wp2
        go_meet
        case rel => exact ⟨k2, t, (⟨#[]⟩ : ByteArray), z1d, H', ⟨BK2.out⟩, ⟨BK4.out⟩, ⟨BK6.out⟩, ⟨HB.out⟩⟩
     case rest =>
      try clear H' BK2 BK4 BK6 HB
      obtain ⟨kj, t, p, rfl, HA, BK2, BK4, BK6, HB⟩ := hcut
      have H := HA.out
      clear HA
      unfold spec_ParseVersion.n2 at H
      obtain ⟨l, AL0, H⟩ := Option.bind_eq_some_iff.mp H
      have AL := zi AL0
      clear AL0
      by_cases c5 : l.length = 3
      ·replace H : ((spec_l3Number.f kj (rdOf ByteArray.empty l 0)).bind fun x => ((spec_l3Number.f kj (rdOf ByteArray.empty l 1)).bind fun y => ((spec_l3Number.f kj (rdOf ByteArray.empty l 2)).bind fun z => (spec_ParseVersion.n3 kj a0 p x y z)))) = some (r1, r2, r3, r4, r5) := by rw [if_pos c5] at H; exact H
       have c5b0 : ((l.length : Int) != 3) = false := bne_eq_false_iff_eq.mpr zq
       have c5b1 : ((l.length : Int) == 3) = true := beq_iff_eq.mpr zq
       have pl0 := zi (show (0 : Int) < (l.length : Int) by omega)
       have pl1 := zi (show (1 : Int) < (l.length : Int) by omega)
       have pl2 := zi (show (2 : Int) < (l.length : Int) by omega)
       have pm0 : (0 < l.length) = True := eq_true zq
       have pm1 : (1 < l.length) = True := eq_true zq
       have pm2 : (2 < l.length) = True := eq_true zq
       have pe0 := eq_true pl0.out
       have pe1 := eq_true pl1.out
       have pe2 := eq_true pl2.out
       clear c5
       obtain ⟨x, A0, H⟩ := Option.bind_eq_some_iff.mp H
       obtain ⟨y, A1, H⟩ := Option.bind_eq_some_iff.mp H
       obtain ⟨z, A2, H⟩ := Option.bind_eq_some_iff.mp H
       have AN0 := zi A0
       have AN1 := zi A1
       have AN2 := zi A2
       clear A0 A1 A2
       unfold spec_ParseVersion.n3 at H
       obtain ⟨b, A3, H⟩ := Option.bind_eq_some_iff.mp H
       have AB := zi A3
       clear A3
       cases b with
       | true =>
        try dsimp only at H
        obtain ⟨tx, A4, H⟩ := Option.bind_eq_some_iff.mp H
        have AT := zi A4
        clear A4
        by_cases c9 : tx.toList = a0.toList
        ·have c9b0 : (tx.toList == a0.toList) = true := beq_iff_eq.mpr c9
         have c9b1 : (tx.toList != a0.toList) = false := bne_eq_false_iff_eq.mpr c9
         rw [if_pos c9] at H
         simp only [Option.some.injEq, Prod.mk.injEq] at H
         obtain ⟨rfl, rfl, rfl, rfl, rfl⟩ := H
         clear c9
         go_wp2_with (first | ((with_reducible refine gate_callee (f := 56) rfl ?_); refine goesL_ (some 40) rfl rfl Tryz.func56 z1a rfl #[.string t, .int .u8 46] rfl z2p ?_; (with_reducible refine (spec_l3Split.calls kj t 46 l _ AL.out).mono ?_); rintro e w3 ⟨v122, rfl, ho0, hb⟩; refine ⟨_, rfl, ?_⟩; have nh_ := zi (Kd.R_lower ho0 (below_size zt)); have n0_ := zi (below_step zt hb); have n1_ := zi (blk_below (g := g2) (o := .cells #[.int .i64 0, .int .i64 0, .int .i64 0, .string (⟨#[]⟩ : ByteArray)] 25 (0, 0)) z2r hb); have n2_ := zi (blk_below (g := g4) (o := .cells #[.int .i64 0, .int .i64 0, .int .i64 0, .string (⟨#[]⟩ : ByteArray)] 25 (0, 0)) z4d hb); have n3_ := zi (blk_below (g := g6) (o := .cells #[.int .i64 0, .int .i64 0, .int .i64 0, .string p] 25 (0, 0)) z4e hb); clear HB BK2 BK4 BK6; have HB := n0_; have BK2 := n1_; have BK4 := n2_; have BK6 := n3_; clear n0_ n1_ n2_ n3_; have HO := nh_; clear nh_; clear hb ho0; obtain ⟨Ao4, co4, eo4⟩ := Kd.R_slice HO.out; subst eo4; obtain ⟨ad, e, hx⟩ := Kd.at_string (Kd.R_reads' HO.out).2.2 (0 : Int) z1g pl0.out; cases e; replace hx : w3.cell? ad = some (.string (rdOf ByteArray.empty l 0)) := hx) | ((with_reducible refine gate_callee (f := 87) rfl ?_); refine goesL_ (some 48) rfl rfl Tryz.func87 z1a rfl #[.string (rdOf ByteArray.empty l 0)] rfl z2p ?_; (with_reducible refine (spec_l3Number.calls kj (rdOf ByteArray.empty l 0) x _ AN0.out).mono ?_); rintro e w' ⟨rfl, ⟨nd0, rfl⟩⟩; refine ⟨_, rfl, ?_⟩; have s0 : (w3.drewN nd0).cell? ⟨g6, 0, none⟩ = some (.int .i64 0) := (blk_cell (show ((w3.drewN nd0)).heap[g6]? = some (.cells #[.int .i64 0, .int .i64 0, .int .i64 0, .string p] 25 (0, 0)) from BK6.out) 0).trans rfl; have u0 : (w3.drewN nd0).frozen? ⟨g6, 0, none⟩ = false := blk_frozen (show ((w3.drewN nd0)).heap[g6]? = some (.cells #[.int .i64 0, .int .i64 0, .int .i64 0, .string p] 25 (0, 0)) from BK6.out) 0; have n0_ := zi ((Kd.R_set (Kd.R_drewN HO.out nd0) (show ((w3.drewN nd0)).heap[g6]? = some (.cells #[.int .i64 0, .int .i64 0, .int .i64 0, .string p] 25 (0, 0)) from BK6.out) z1g 0 (.int .i64 x) : Kd.R Kd.string 9 ((w3.drewN nd0).setCell ⟨g6, 0, none⟩ (.int .i64 x)) w.heap.size (fun _ => True) (.slice (some ad) l.length co4) l)); have n1_ := zi ((blk_far (w := (w3.drewN nd0)) (g := g2) (p := ⟨g6, 0, none⟩) (show ((w3.drewN nd0)).heap[g2]? = some (.cells #[.int .i64 0, .int .i64 0, .int .i64 0, .string (⟨#[]⟩ : ByteArray)] 25 (0, 0)) from BK2.out) NE26.out (.int .i64 x) : ((w3.drewN nd0).setCell ⟨g6, 0, none⟩ (.int .i64 x)).heap[g2]? = some (.cells #[.int .i64 0, .int .i64 0, .int .i64 0, .string (⟨#[]⟩ : ByteArray)] 25 (0, 0)))); have n2_ := zi ((blk_far (w := (w3.drewN nd0)) (g := g4) (p := ⟨g6, 0, none⟩) (show ((w3.drewN nd0)).heap[g4]? = some (.cells #[.int .i64 0, .int .i64 0, .int .i64 0, .string (⟨#[]⟩ : ByteArray)] 25 (0, 0)) from BK4.out) NE46.out (.int .i64 x) : ((w3.drewN nd0).setCell ⟨g6, 0, none⟩ (.int .i64 x)).heap[g4]? = some (.cells #[.int .i64 0, .int .i64 0, .int .i64 0, .string (⟨#[]⟩ : ByteArray)] 25 (0, 0)))); have n3_ := zi ((blk_put (w := (w3.drewN nd0)) (g := g6) (show ((w3.drewN nd0)).heap[g6]? = some (.cells #[.int .i64 0, .int .i64 0, .int .i64 0, .string p] 25 (0, 0)) from BK6.out) 0 (.int .i64 x) rfl : ((w3.drewN nd0).setCell ⟨g6, 0, none⟩ (.int .i64 x)).heap[g6]? = some (.cells #[.int .i64 x, .int .i64 0, .int .i64 0, .string p] 25 (0, 0)))); have n4_ := zi ((below_set (pw_below_drewN HB.out nd0) GE6.out : Below w.heap.size w ((w3.drewN nd0).setCell ⟨g6, 0, none⟩ (.int .i64 x)))); clear HO BK2 BK4 BK6 HB; have HO := n0_; have BK2 := n1_; have BK4 := n2_; have BK6 := n3_; have HB := n4_; clear n0_ n1_ n2_ n3_ n4_; obtain ⟨ad, e, hx⟩ := Kd.at_string (Kd.R_reads' HO.out).2.2 (1 : Int) z1g pl1.out; cases e; replace hx : ((w3.drewN nd0).setCell ⟨g6, 0, none⟩ (.int .i64 x)).cell? (⟨ad.block, ad.off + 1, none⟩ : Addr) = some (.string (rdOf ByteArray.empty l 1)) := hx) | ((with_reducible refine gate_callee (f := 87) rfl ?_); refine goesL_ (some 53) rfl rfl Tryz.func87 z1a rfl #[.string (rdOf ByteArray.empty l 1)] rfl z2p ?_; (with_reducible refine (spec_l3Number.calls kj (rdOf ByteArray.empty l 1) y _ AN1.out).mono ?_); rintro e w' ⟨rfl, ⟨nd1, rfl⟩⟩; refine ⟨_, rfl, ?_⟩; have s1 : (((w3.drewN nd0).setCell ⟨g6, 0, none⟩ (.int .i64 x)).drewN nd1).cell? ⟨g6, 1, none⟩ = some (.int .i64 0) := (blk_cell (show ((((w3.drewN nd0).setCell ⟨g6, 0, none⟩ (.int .i64 x)).drewN nd1)).heap[g6]? = some (.cells #[.int .i64 x, .int .i64 0, .int .i64 0, .string p] 25 (0, 0)) from BK6.out) 1).trans rfl; have u1 : (((w3.drewN nd0).setCell ⟨g6, 0, none⟩ (.int .i64 x)).drewN nd1).frozen? ⟨g6, 1, none⟩ = false := blk_frozen (show ((((w3.drewN nd0).setCell ⟨g6, 0, none⟩ (.int .i64 x)).drewN nd1)).heap[g6]? = some (.cells #[.int .i64 x, .int .i64 0, .int .i64 0, .string p] 25 (0, 0)) from BK6.out) 1; have n0_ := zi ((Kd.R_set (Kd.R_drewN HO.out nd1) (show ((((w3.drewN nd0).setCell ⟨g6, 0, none⟩ (.int .i64 x)).drewN nd1)).heap[g6]? = some (.cells #[.int .i64 x, .int .i64 0, .int .i64 0, .string p] 25 (0, 0)) from BK6.out) z1g 1 (.int .i64 y) : Kd.R Kd.string 9 ((((w3.drewN nd0).setCell ⟨g6, 0, none⟩ (.int .i64 x)).drewN nd1).setCell ⟨g6, 1, none⟩ (.int .i64 y)) w.heap.size (fun _ => True) (.slice (some ad) l.length co4) l)); have n1_ := zi ((blk_far (w := (((w3.drewN nd0).setCell ⟨g6, 0, none⟩ (.int .i64 x)).drewN nd1)) (g := g2) (p := ⟨g6, 1, none⟩) (show ((((w3.drewN nd0).setCell ⟨g6, 0, none⟩ (.int .i64 x)).drewN nd1)).heap[g2]? = some (.cells #[.int .i64 0, .int .i64 0, .int .i64 0, .string (⟨#[]⟩ : ByteArray)] 25 (0, 0)) from BK2.out) NE26.out (.int .i64 y) : ((((w3.drewN nd0).setCell ⟨g6, 0, none⟩ (.int .i64 x)).drewN nd1).setCell ⟨g6, 1, none⟩ (.int .i64 y)).heap[g2]? = some (.cells #[.int .i64 0, .int .i64 0, .int .i64 0, .string (⟨#[]⟩ : ByteArray)] 25 (0, 0)))); have n2_ := zi ((blk_far (w := (((w3.drewN nd0).setCell ⟨g6, 0, none⟩ (.int .i64 x)).drewN nd1)) (g := g4) (p := ⟨g6, 1, none⟩) (show ((((w3.drewN nd0).setCell ⟨g6, 0, none⟩ (.int .i64 x)).drewN nd1)).heap[g4]? = some (.cells #[.int .i64 0, .int .i64 0, .int .i64 0, .string (⟨#[]⟩ : ByteArray)] 25 (0, 0)) from BK4.out) NE46.out (.int .i64 y) : ((((w3.drewN nd0).setCell ⟨g6, 0, none⟩ (.int .i64 x)).drewN nd1).setCell ⟨g6, 1, none⟩ (.int .i64 y)).heap[g4]? = some (.cells #[.int .i64 0, .int .i64 0, .int .i64 0, .string (⟨#[]⟩ : ByteArray)] 25 (0, 0)))); have n3_ := zi ((blk_put (w := (((w3.drewN nd0).setCell ⟨g6, 0, none⟩ (.int .i64 x)).drewN nd1)) (g := g6) (show ((((w3.drewN nd0).setCell ⟨g6, 0, none⟩ (.int .i64 x)).drewN nd1)).heap[g6]? = some (.cells #[.int .i64 x, .int .i64 0, .int .i64 0, .string p] 25 (0, 0)) from BK6.out) 1 (.int .i64 y) rfl : ((((w3.drewN nd0).setCell ⟨g6, 0, none⟩ (.int .i64 x)).drewN nd1).setCell ⟨g6, 1, none⟩ (.int .i64 y)).heap[g6]? = some (.cells #[.int .i64 x, .int .i64 y, .int .i64 0, .string p] 25 (0, 0)))); have n4_ := zi ((below_set (pw_below_drewN HB.out nd1) GE6.out : Below w.heap.size w ((((w3.drewN nd0).setCell ⟨g6, 0, none⟩ (.int .i64 x)).drewN nd1).setCell ⟨g6, 1, none⟩ (.int .i64 y)))); clear HO BK2 BK4 BK6 HB; have HO := n0_; have BK2 := n1_; have BK4 := n2_; have BK6 := n3_; have HB := n4_; clear n0_ n1_ n2_ n3_ n4_; obtain ⟨ad, e, hx⟩ := Kd.at_string (Kd.R_reads' HO.out).2.2 (2 : Int) z1g pl2.out; cases e; replace hx : ((((w3.drewN nd0).setCell ⟨g6, 0, none⟩ (.int .i64 x)).drewN nd1).setCell ⟨g6, 1, none⟩ (.int .i64 y)).cell? (⟨ad.block, ad.off + 2, none⟩ : Addr) = some (.string (rdOf ByteArray.empty l 2)) := hx) | ((with_reducible refine gate_callee (f := 87) rfl ?_); refine goesL_ (some 58) rfl rfl Tryz.func87 z1a rfl #[.string (rdOf ByteArray.empty l 2)] rfl z2p ?_; (with_reducible refine (spec_l3Number.calls kj (rdOf ByteArray.empty l 2) z _ AN2.out).mono ?_); rintro e w' ⟨rfl, ⟨nd2, rfl⟩⟩; refine ⟨_, rfl, ?_⟩; have s2 : (((((w3.drewN nd0).setCell ⟨g6, 0, none⟩ (.int .i64 x)).drewN nd1).setCell ⟨g6, 1, none⟩ (.int .i64 y)).drewN nd2).cell? ⟨g6, 2, none⟩ = some (.int .i64 0) := (blk_cell (show ((((((w3.drewN nd0).setCell ⟨g6, 0, none⟩ (.int .i64 x)).drewN nd1).setCell ⟨g6, 1, none⟩ (.int .i64 y)).drewN nd2)).heap[g6]? = some (.cells #[.int .i64 x, .int .i64 y, .int .i64 0, .string p] 25 (0, 0)) from BK6.out) 2).trans rfl; have u2 : (((((w3.drewN nd0).setCell ⟨g6, 0, none⟩ (.int .i64 x)).drewN nd1).setCell ⟨g6, 1, none⟩ (.int .i64 y)).drewN nd2).frozen? ⟨g6, 2, none⟩ = false := blk_frozen (show ((((((w3.drewN nd0).setCell ⟨g6, 0, none⟩ (.int .i64 x)).drewN nd1).setCell ⟨g6, 1, none⟩ (.int .i64 y)).drewN nd2)).heap[g6]? = some (.cells #[.int .i64 x, .int .i64 y, .int .i64 0, .string p] 25 (0, 0)) from BK6.out) 2; have n0_ := zi ((Kd.R_set (Kd.R_drewN HO.out nd2) (show ((((((w3.drewN nd0).setCell ⟨g6, 0, none⟩ (.int .i64 x)).drewN nd1).setCell ⟨g6, 1, none⟩ (.int .i64 y)).drewN nd2)).heap[g6]? = some (.cells #[.int .i64 x, .int .i64 y, .int .i64 0, .string p] 25 (0, 0)) from BK6.out) z1g 2 (.int .i64 z) : Kd.R Kd.string 9 ((((((w3.drewN nd0).setCell ⟨g6, 0, none⟩ (.int .i64 x)).drewN nd1).setCell ⟨g6, 1, none⟩ (.int .i64 y)).drewN nd2).setCell ⟨g6, 2, none⟩ (.int .i64 z)) w.heap.size (fun _ => True) (.slice (some ad) l.length co4) l)); have n1_ := zi ((blk_far (w := (((((w3.drewN nd0).setCell ⟨g6, 0, none⟩ (.int .i64 x)).drewN nd1).setCell ⟨g6, 1, none⟩ (.int .i64 y)).drewN nd2)) (g := g2) (p := ⟨g6, 2, none⟩) (show ((((((w3.drewN nd0).setCell ⟨g6, 0, none⟩ (.int .i64 x)).drewN nd1).setCell ⟨g6, 1, none⟩ (.int .i64 y)).drewN nd2)).heap[g2]? = some (.cells #[.int .i64 0, .int .i64 0, .int .i64 0, .string (⟨#[]⟩ : ByteArray)] 25 (0, 0)) from BK2.out) NE26.out (.int .i64 z) : ((((((w3.drewN nd0).setCell ⟨g6, 0, none⟩ (.int .i64 x)).drewN nd1).setCell ⟨g6, 1, none⟩ (.int .i64 y)).drewN nd2).setCell ⟨g6, 2, none⟩ (.int .i64 z)).heap[g2]? = some (.cells #[.int .i64 0, .int .i64 0, .int .i64 0, .string (⟨#[]⟩ : ByteArray)] 25 (0, 0)))); have n2_ := zi ((blk_far (w := (((((w3.drewN nd0).setCell ⟨g6, 0, none⟩ (.int .i64 x)).drewN nd1).setCell ⟨g6, 1, none⟩ (.int .i64 y)).drewN nd2)) (g := g4) (p := ⟨g6, 2, none⟩) (show ((((((w3.drewN nd0).setCell ⟨g6, 0, none⟩ (.int .i64 x)).drewN nd1).setCell ⟨g6, 1, none⟩ (.int .i64 y)).drewN nd2)).heap[g4]? = some (.cells #[.int .i64 0, .int .i64 0, .int .i64 0, .string (⟨#[]⟩ : ByteArray)] 25 (0, 0)) from BK4.out) NE46.out (.int .i64 z) : ((((((w3.drewN nd0).setCell ⟨g6, 0, none⟩ (.int .i64 x)).drewN nd1).setCell ⟨g6, 1, none⟩ (.int .i64 y)).drewN nd2).setCell ⟨g6, 2, none⟩ (.int .i64 z)).heap[g4]? = some (.cells #[.int .i64 0, .int .i64 0, .int .i64 0, .string (⟨#[]⟩ : ByteArray)] 25 (0, 0)))); have n3_ := zi ((blk_put (w := (((((w3.drewN nd0).setCell ⟨g6, 0, none⟩ (.int .i64 x)).drewN nd1).setCell ⟨g6, 1, none⟩ (.int .i64 y)).drewN nd2)) (g := g6) (show ((((((w3.drewN nd0).setCell ⟨g6, 0, none⟩ (.int .i64 x)).drewN nd1).setCell ⟨g6, 1, none⟩ (.int .i64 y)).drewN nd2)).heap[g6]? = some (.cells #[.int .i64 x, .int .i64 y, .int .i64 0, .string p] 25 (0, 0)) from BK6.out) 2 (.int .i64 z) rfl : ((((((w3.drewN nd0).setCell ⟨g6, 0, none⟩ (.int .i64 x)).drewN nd1).setCell ⟨g6, 1, none⟩ (.int .i64 y)).drewN nd2).setCell ⟨g6, 2, none⟩ (.int .i64 z)).heap[g6]? = some (.cells #[.int .i64 x, .int .i64 y, .int .i64 z, .string p] 25 (0, 0)))); have n4_ := zi ((below_set (pw_below_drewN HB.out nd2) GE6.out : Below w.heap.size w ((((((w3.drewN nd0).setCell ⟨g6, 0, none⟩ (.int .i64 x)).drewN nd1).setCell ⟨g6, 1, none⟩ (.int .i64 y)).drewN nd2).setCell ⟨g6, 2, none⟩ (.int .i64 z)))); clear HO BK2 BK4 BK6 HB; have HO := n0_; have BK2 := n1_; have BK4 := n2_; have BK6 := n3_; have HB := n4_; clear n0_ n1_ n2_ n3_ n4_; have e0 : ((((((w3.drewN nd0).setCell ⟨g6, 0, none⟩ (.int .i64 x)).drewN nd1).setCell ⟨g6, 1, none⟩ (.int .i64 y)).drewN nd2).setCell ⟨g6, 2, none⟩ (.int .i64 z)).cell? ⟨g6, 0, none⟩ = some (.int .i64 x) := (blk_cell BK6.out 0).trans rfl; have e1 : ((((((w3.drewN nd0).setCell ⟨g6, 0, none⟩ (.int .i64 x)).drewN nd1).setCell ⟨g6, 1, none⟩ (.int .i64 y)).drewN nd2).setCell ⟨g6, 2, none⟩ (.int .i64 z)).cell? ⟨g6, 1, none⟩ = some (.int .i64 y) := (blk_cell BK6.out 1).trans rfl; have e2 : ((((((w3.drewN nd0).setCell ⟨g6, 0, none⟩ (.int .i64 x)).drewN nd1).setCell ⟨g6, 1, none⟩ (.int .i64 y)).drewN nd2).setCell ⟨g6, 2, none⟩ (.int .i64 z)).cell? ⟨g6, 2, none⟩ = some (.int .i64 z) := (blk_cell BK6.out 2).trans rfl; have e3 : ((((((w3.drewN nd0).setCell ⟨g6, 0, none⟩ (.int .i64 x)).drewN nd1).setCell ⟨g6, 1, none⟩ (.int .i64 y)).drewN nd2).setCell ⟨g6, 2, none⟩ (.int .i64 z)).cell? ⟨g6, 3, none⟩ = some (.string p) := (blk_cell BK6.out 3).trans rfl) | ((with_reducible refine gate_callee (f := 68) rfl ?_); refine goesL_ (some 61) rfl rfl Tryz.func68 z1a rfl #[.agg #[.int .i64 x, .int .i64 y, .int .i64 z, .string p]] rfl z2p ?_; (with_reducible refine (spec_VersionOk.calls kj x y z p true _ AB.out).mono ?_); rintro e w8 ⟨rfl, hb⟩; refine ⟨_, rfl, ?_⟩; clear e0 e1 e2 e3; have n0_ := zi (below_step zt hb); have n1_ := zi (blk_below (g := g2) (o := .cells #[.int .i64 0, .int .i64 0, .int .i64 0, .string (⟨#[]⟩ : ByteArray)] 25 (0, 0)) z2r hb); have n2_ := zi (blk_below (g := g4) (o := .cells #[.int .i64 0, .int .i64 0, .int .i64 0, .string (⟨#[]⟩ : ByteArray)] 25 (0, 0)) z4d hb); have n3_ := zi (blk_below (g := g6) (o := .cells #[.int .i64 x, .int .i64 y, .int .i64 z, .string p] 25 (0, 0)) z4e hb); clear HB BK2 BK4 BK6; have HB := n0_; have BK2 := n1_; have BK4 := n2_; have BK6 := n3_; clear n0_ n1_ n2_ n3_; clear hb; have e0 : w8.cell? ⟨g6, 0, none⟩ = some (.int .i64 x) := (blk_cell BK6.out 0).trans rfl; have e1 : w8.cell? ⟨g6, 1, none⟩ = some (.int .i64 y) := (blk_cell BK6.out 1).trans rfl; have e2 : w8.cell? ⟨g6, 2, none⟩ = some (.int .i64 z) := (blk_cell BK6.out 2).trans rfl; have e3 : w8.cell? ⟨g6, 3, none⟩ = some (.string p) := (blk_cell BK6.out 3).trans rfl) | (go_at_call 86; (with_reducible refine (spec_VersionText.calls kj x y z p tx _ AT.out).mono ?_); rintro e w9 ⟨rfl, hb⟩; clear e0 e1 e2 e3; have n0_ := zi (below_step zt hb); have n1_ := zi (blk_below (g := g2) (o := .cells #[.int .i64 0, .int .i64 0, .int .i64 0, .string (⟨#[]⟩ : ByteArray)] 25 (0, 0)) z2r hb); have n2_ := zi (blk_below (g := g4) (o := .cells #[.int .i64 0, .int .i64 0, .int .i64 0, .string (⟨#[]⟩ : ByteArray)] 25 (0, 0)) z4d hb); have n3_ := zi (blk_below (g := g6) (o := .cells #[.int .i64 x, .int .i64 y, .int .i64 z, .string p] 25 (0, 0)) z4e hb); clear HB BK2 BK4 BK6; have HB := n0_; have BK2 := n1_; have BK4 := n2_; have BK6 := n3_; clear n0_ n1_ n2_ n3_; clear hb; have d0 : w9.cell? ⟨g2, 0, none⟩ = some (.int .i64 0) := (blk_cell BK2.out 0).trans rfl; have d1 : w9.cell? ⟨g2, 1, none⟩ = some (.int .i64 0) := (blk_cell BK2.out 1).trans rfl; have d2 : w9.cell? ⟨g2, 2, none⟩ = some (.int .i64 0) := (blk_cell BK2.out 2).trans rfl; have d3 : w9.cell? ⟨g2, 3, none⟩ = some (.string (⟨#[]⟩ : ByteArray)) := (blk_cell BK2.out 3).trans rfl; have f0 : w9.frozen? ⟨g2, 0, none⟩ = false := blk_frozen BK2.out 0; have f1 : w9.frozen? ⟨g2, 1, none⟩ = false := blk_frozen BK2.out 1; have f2 : w9.frozen? ⟨g2, 2, none⟩ = false := blk_frozen BK2.out 2; have f3 : w9.frozen? ⟨g2, 3, none⟩ = false := blk_frozen BK2.out 3; have e0 : w9.cell? ⟨g6, 0, none⟩ = some (.int .i64 x) := (blk_cell BK6.out 0).trans rfl; have e1 : w9.cell? ⟨g6, 1, none⟩ = some (.int .i64 y) := (blk_cell BK6.out 1).trans rfl; have e2 : w9.cell? ⟨g6, 2, none⟩ = some (.int .i64 z) := (blk_cell BK6.out 2).trans rfl; have e3 : w9.cell? ⟨g6, 3, none⟩ = some (.string p) := (blk_cell BK6.out 3).trans rfl))
         refine bodyPost_ret (results_ct rfl _ _ g2 25 #[.int .i64 x, .int .i64 y, .int .i64 z, .string p] (0, 0) _ rfl (spec_ParseVersion.four BK2.out _ _ _ _) hu27 rfl z1a) rfl ?_
         exact ⟨rfl, spec_ParseVersion.fourB zt GE2.out _ _ _ _⟩
        ·have c9b0 : (tx.toList == a0.toList) = false := beq_eq_false_iff_ne.mpr c9
         have c9b1 : (tx.toList != a0.toList) = true := bne_iff_ne.mpr c9
         rw [if_neg c9] at H
         simp only [Option.some.injEq, Prod.mk.injEq] at H
         obtain ⟨rfl, rfl, rfl, rfl, rfl⟩ := H
         clear c9
         go_wp2_with (first | ((with_reducible refine gate_callee (f := 56) rfl ?_); refine goesL_ (some 40) rfl rfl Tryz.func56 z1a rfl #[.string t, .int .u8 46] rfl z2p ?_; (with_reducible refine (spec_l3Split.calls kj t 46 l _ AL.out).mono ?_); rintro e w3 ⟨v122, rfl, ho0, hb⟩; refine ⟨_, rfl, ?_⟩; have nh_ := zi (Kd.R_lower ho0 (below_size zt)); have n0_ := zi (below_step zt hb); have n1_ := zi (blk_below (g := g2) (o := .cells #[.int .i64 0, .int .i64 0, .int .i64 0, .string (⟨#[]⟩ : ByteArray)] 25 (0, 0)) z2r hb); have n2_ := zi (blk_below (g := g4) (o := .cells #[.int .i64 0, .int .i64 0, .int .i64 0, .string (⟨#[]⟩ : ByteArray)] 25 (0, 0)) z4d hb); have n3_ := zi (blk_below (g := g6) (o := .cells #[.int .i64 0, .int .i64 0, .int .i64 0, .string p] 25 (0, 0)) z4e hb); clear HB BK2 BK4 BK6; have HB := n0_; have BK2 := n1_; have BK4 := n2_; have BK6 := n3_; clear n0_ n1_ n2_ n3_; have HO := nh_; clear nh_; clear hb ho0; obtain ⟨Ao4, co4, eo4⟩ := Kd.R_slice HO.out; subst eo4; obtain ⟨ad, e, hx⟩ := Kd.at_string (Kd.R_reads' HO.out).2.2 (0 : Int) z1g pl0.out; cases e; replace hx : w3.cell? ad = some (.string (rdOf ByteArray.empty l 0)) := hx) | ((with_reducible refine gate_callee (f := 87) rfl ?_); refine goesL_ (some 48) rfl rfl Tryz.func87 z1a rfl #[.string (rdOf ByteArray.empty l 0)] rfl z2p ?_; (with_reducible refine (spec_l3Number.calls kj (rdOf ByteArray.empty l 0) x _ AN0.out).mono ?_); rintro e w' ⟨rfl, ⟨nd0, rfl⟩⟩; refine ⟨_, rfl, ?_⟩; have s0 : (w3.drewN nd0).cell? ⟨g6, 0, none⟩ = some (.int .i64 0) := (blk_cell (show ((w3.drewN nd0)).heap[g6]? = some (.cells #[.int .i64 0, .int .i64 0, .int .i64 0, .string p] 25 (0, 0)) from BK6.out) 0).trans rfl; have u0 : (w3.drewN nd0).frozen? ⟨g6, 0, none⟩ = false := blk_frozen (show ((w3.drewN nd0)).heap[g6]? = some (.cells #[.int .i64 0, .int .i64 0, .int .i64 0, .string p] 25 (0, 0)) from BK6.out) 0; have n0_ := zi ((Kd.R_set (Kd.R_drewN HO.out nd0) (show ((w3.drewN nd0)).heap[g6]? = some (.cells #[.int .i64 0, .int .i64 0, .int .i64 0, .string p] 25 (0, 0)) from BK6.out) z1g 0 (.int .i64 x) : Kd.R Kd.string 9 ((w3.drewN nd0).setCell ⟨g6, 0, none⟩ (.int .i64 x)) w.heap.size (fun _ => True) (.slice (some ad) l.length co4) l)); have n1_ := zi ((blk_far (w := (w3.drewN nd0)) (g := g2) (p := ⟨g6, 0, none⟩) (show ((w3.drewN nd0)).heap[g2]? = some (.cells #[.int .i64 0, .int .i64 0, .int .i64 0, .string (⟨#[]⟩ : ByteArray)] 25 (0, 0)) from BK2.out) NE26.out (.int .i64 x) : ((w3.drewN nd0).setCell ⟨g6, 0, none⟩ (.int .i64 x)).heap[g2]? = some (.cells #[.int .i64 0, .int .i64 0, .int .i64 0, .string (⟨#[]⟩ : ByteArray)] 25 (0, 0)))); have n2_ := zi ((blk_far (w := (w3.drewN nd0)) (g := g4) (p := ⟨g6, 0, none⟩) (show ((w3.drewN nd0)).heap[g4]? = some (.cells #[.int .i64 0, .int .i64 0, .int .i64 0, .string (⟨#[]⟩ : ByteArray)] 25 (0, 0)) from BK4.out) NE46.out (.int .i64 x) : ((w3.drewN nd0).setCell ⟨g6, 0, none⟩ (.int .i64 x)).heap[g4]? = some (.cells #[.int .i64 0, .int .i64 0, .int .i64 0, .string (⟨#[]⟩ : ByteArray)] 25 (0, 0)))); have n3_ := zi ((blk_put (w := (w3.drewN nd0)) (g := g6) (show ((w3.drewN nd0)).heap[g6]? = some (.cells #[.int .i64 0, .int .i64 0, .int .i64 0, .string p] 25 (0, 0)) from BK6.out) 0 (.int .i64 x) rfl : ((w3.drewN nd0).setCell ⟨g6, 0, none⟩ (.int .i64 x)).heap[g6]? = some (.cells #[.int .i64 x, .int .i64 0, .int .i64 0, .string p] 25 (0, 0)))); have n4_ := zi ((below_set (pw_below_drewN HB.out nd0) GE6.out : Below w.heap.size w ((w3.drewN nd0).setCell ⟨g6, 0, none⟩ (.int .i64 x)))); clear HO BK2 BK4 BK6 HB; have HO := n0_; have BK2 := n1_; have BK4 := n2_; have BK6 := n3_; have HB := n4_; clear n0_ n1_ n2_ n3_ n4_; obtain ⟨ad, e, hx⟩ := Kd.at_string (Kd.R_reads' HO.out).2.2 (1 : Int) z1g pl1.out; cases e; replace hx : ((w3.drewN nd0).setCell ⟨g6, 0, none⟩ (.int .i64 x)).cell? (⟨ad.block, ad.off + 1, none⟩ : Addr) = some (.string (rdOf ByteArray.empty l 1)) := hx) | ((with_reducible refine gate_callee (f := 87) rfl ?_); refine goesL_ (some 53) rfl rfl Tryz.func87 z1a rfl #[.string (rdOf ByteArray.empty l 1)] rfl z2p ?_; (with_reducible refine (spec_l3Number.calls kj (rdOf ByteArray.empty l 1) y _ AN1.out).mono ?_); rintro e w' ⟨rfl, ⟨nd1, rfl⟩⟩; refine ⟨_, rfl, ?_⟩; have s1 : (((w3.drewN nd0).setCell ⟨g6, 0, none⟩ (.int .i64 x)).drewN nd1).cell? ⟨g6, 1, none⟩ = some (.int .i64 0) := (blk_cell (show ((((w3.drewN nd0).setCell ⟨g6, 0, none⟩ (.int .i64 x)).drewN nd1)).heap[g6]? = some (.cells #[.int .i64 x, .int .i64 0, .int .i64 0, .string p] 25 (0, 0)) from BK6.out) 1).trans rfl; have u1 : (((w3.drewN nd0).setCell ⟨g6, 0, none⟩ (.int .i64 x)).drewN nd1).frozen? ⟨g6, 1, none⟩ = false := blk_frozen (show ((((w3.drewN nd0).setCell ⟨g6, 0, none⟩ (.int .i64 x)).drewN nd1)).heap[g6]? = some (.cells #[.int .i64 x, .int .i64 0, .int .i64 0, .string p] 25 (0, 0)) from BK6.out) 1; have n0_ := zi ((Kd.R_set (Kd.R_drewN HO.out nd1) (show ((((w3.drewN nd0).setCell ⟨g6, 0, none⟩ (.int .i64 x)).drewN nd1)).heap[g6]? = some (.cells #[.int .i64 x, .int .i64 0, .int .i64 0, .string p] 25 (0, 0)) from BK6.out) z1g 1 (.int .i64 y) : Kd.R Kd.string 9 ((((w3.drewN nd0).setCell ⟨g6, 0, none⟩ (.int .i64 x)).drewN nd1).setCell ⟨g6, 1, none⟩ (.int .i64 y)) w.heap.size (fun _ => True) (.slice (some ad) l.length co4) l)); have n1_ := zi ((blk_far (w := (((w3.drewN nd0).setCell ⟨g6, 0, none⟩ (.int .i64 x)).drewN nd1)) (g := g2) (p := ⟨g6, 1, none⟩) (show ((((w3.drewN nd0).setCell ⟨g6, 0, none⟩ (.int .i64 x)).drewN nd1)).heap[g2]? = some (.cells #[.int .i64 0, .int .i64 0, .int .i64 0, .string (⟨#[]⟩ : ByteArray)] 25 (0, 0)) from BK2.out) NE26.out (.int .i64 y) : ((((w3.drewN nd0).setCell ⟨g6, 0, none⟩ (.int .i64 x)).drewN nd1).setCell ⟨g6, 1, none⟩ (.int .i64 y)).heap[g2]? = some (.cells #[.int .i64 0, .int .i64 0, .int .i64 0, .string (⟨#[]⟩ : ByteArray)] 25 (0, 0)))); have n2_ := zi ((blk_far (w := (((w3.drewN nd0).setCell ⟨g6, 0, none⟩ (.int .i64 x)).drewN nd1)) (g := g4) (p := ⟨g6, 1, none⟩) (show ((((w3.drewN nd0).setCell ⟨g6, 0, none⟩ (.int .i64 x)).drewN nd1)).heap[g4]? = some (.cells #[.int .i64 0, .int .i64 0, .int .i64 0, .string (⟨#[]⟩ : ByteArray)] 25 (0, 0)) from BK4.out) NE46.out (.int .i64 y) : ((((w3.drewN nd0).setCell ⟨g6, 0, none⟩ (.int .i64 x)).drewN nd1).setCell ⟨g6, 1, none⟩ (.int .i64 y)).heap[g4]? = some (.cells #[.int .i64 0, .int .i64 0, .int .i64 0, .string (⟨#[]⟩ : ByteArray)] 25 (0, 0)))); have n3_ := zi ((blk_put (w := (((w3.drewN nd0).setCell ⟨g6, 0, none⟩ (.int .i64 x)).drewN nd1)) (g := g6) (show ((((w3.drewN nd0).setCell ⟨g6, 0, none⟩ (.int .i64 x)).drewN nd1)).heap[g6]? = some (.cells #[.int .i64 x, .int .i64 0, .int .i64 0, .string p] 25 (0, 0)) from BK6.out) 1 (.int .i64 y) rfl : ((((w3.drewN nd0).setCell ⟨g6, 0, none⟩ (.int .i64 x)).drewN nd1).setCell ⟨g6, 1, none⟩ (.int .i64 y)).heap[g6]? = some (.cells #[.int .i64 x, .int .i64 y, .int .i64 0, .string p] 25 (0, 0)))); have n4_ := zi ((below_set (pw_below_drewN HB.out nd1) GE6.out : Below w.heap.size w ((((w3.drewN nd0).setCell ⟨g6, 0, none⟩ (.int .i64 x)).drewN nd1).setCell ⟨g6, 1, none⟩ (.int .i64 y)))); clear HO BK2 BK4 BK6 HB; have HO := n0_; have BK2 := n1_; have BK4 := n2_; have BK6 := n3_; have HB := n4_; clear n0_ n1_ n2_ n3_ n4_; obtain ⟨ad, e, hx⟩ := Kd.at_string (Kd.R_reads' HO.out).2.2 (2 : Int) z1g pl2.out; cases e; replace hx : ((((w3.drewN nd0).setCell ⟨g6, 0, none⟩ (.int .i64 x)).drewN nd1).setCell ⟨g6, 1, none⟩ (.int .i64 y)).cell? (⟨ad.block, ad.off + 2, none⟩ : Addr) = some (.string (rdOf ByteArray.empty l 2)) := hx) | ((with_reducible refine gate_callee (f := 87) rfl ?_); refine goesL_ (some 58) rfl rfl Tryz.func87 z1a rfl #[.string (rdOf ByteArray.empty l 2)] rfl z2p ?_; (with_reducible refine (spec_l3Number.calls kj (rdOf ByteArray.empty l 2) z _ AN2.out).mono ?_); rintro e w' ⟨rfl, ⟨nd2, rfl⟩⟩; refine ⟨_, rfl, ?_⟩; have s2 : (((((w3.drewN nd0).setCell ⟨g6, 0, none⟩ (.int .i64 x)).drewN nd1).setCell ⟨g6, 1, none⟩ (.int .i64 y)).drewN nd2).cell? ⟨g6, 2, none⟩ = some (.int .i64 0) := (blk_cell (show ((((((w3.drewN nd0).setCell ⟨g6, 0, none⟩ (.int .i64 x)).drewN nd1).setCell ⟨g6, 1, none⟩ (.int .i64 y)).drewN nd2)).heap[g6]? = some (.cells #[.int .i64 x, .int .i64 y, .int .i64 0, .string p] 25 (0, 0)) from BK6.out) 2).trans rfl; have u2 : (((((w3.drewN nd0).setCell ⟨g6, 0, none⟩ (.int .i64 x)).drewN nd1).setCell ⟨g6, 1, none⟩ (.int .i64 y)).drewN nd2).frozen? ⟨g6, 2, none⟩ = false := blk_frozen (show ((((((w3.drewN nd0).setCell ⟨g6, 0, none⟩ (.int .i64 x)).drewN nd1).setCell ⟨g6, 1, none⟩ (.int .i64 y)).drewN nd2)).heap[g6]? = some (.cells #[.int .i64 x, .int .i64 y, .int .i64 0, .string p] 25 (0, 0)) from BK6.out) 2; have n0_ := zi ((Kd.R_set (Kd.R_drewN HO.out nd2) (show ((((((w3.drewN nd0).setCell ⟨g6, 0, none⟩ (.int .i64 x)).drewN nd1).setCell ⟨g6, 1, none⟩ (.int .i64 y)).drewN nd2)).heap[g6]? = some (.cells #[.int .i64 x, .int .i64 y, .int .i64 0, .string p] 25 (0, 0)) from BK6.out) z1g 2 (.int .i64 z) : Kd.R Kd.string 9 ((((((w3.drewN nd0).setCell ⟨g6, 0, none⟩ (.int .i64 x)).drewN nd1).setCell ⟨g6, 1, none⟩ (.int .i64 y)).drewN nd2).setCell ⟨g6, 2, none⟩ (.int .i64 z)) w.heap.size (fun _ => True) (.slice (some ad) l.length co4) l)); have n1_ := zi ((blk_far (w := (((((w3.drewN nd0).setCell ⟨g6, 0, none⟩ (.int .i64 x)).drewN nd1).setCell ⟨g6, 1, none⟩ (.int .i64 y)).drewN nd2)) (g := g2) (p := ⟨g6, 2, none⟩) (show ((((((w3.drewN nd0).setCell ⟨g6, 0, none⟩ (.int .i64 x)).drewN nd1).setCell ⟨g6, 1, none⟩ (.int .i64 y)).drewN nd2)).heap[g2]? = some (.cells #[.int .i64 0, .int .i64 0, .int .i64 0, .string (⟨#[]⟩ : ByteArray)] 25 (0, 0)) from BK2.out) NE26.out (.int .i64 z) : ((((((w3.drewN nd0).setCell ⟨g6, 0, none⟩ (.int .i64 x)).drewN nd1).setCell ⟨g6, 1, none⟩ (.int .i64 y)).drewN nd2).setCell ⟨g6, 2, none⟩ (.int .i64 z)).heap[g2]? = some (.cells #[.int .i64 0, .int .i64 0, .int .i64 0, .string (⟨#[]⟩ : ByteArray)] 25 (0, 0)))); have n2_ := zi ((blk_far (w := (((((w3.drewN nd0).setCell ⟨g6, 0, none⟩ (.int .i64 x)).drewN nd1).setCell ⟨g6, 1, none⟩ (.int .i64 y)).drewN nd2)) (g := g4) (p := ⟨g6, 2, none⟩) (show ((((((w3.drewN nd0).setCell ⟨g6, 0, none⟩ (.int .i64 x)).drewN nd1).setCell ⟨g6, 1, none⟩ (.int .i64 y)).drewN nd2)).heap[g4]? = some (.cells #[.int .i64 0, .int .i64 0, .int .i64 0, .string (⟨#[]⟩ : ByteArray)] 25 (0, 0)) from BK4.out) NE46.out (.int .i64 z) : ((((((w3.drewN nd0).setCell ⟨g6, 0, none⟩ (.int .i64 x)).drewN nd1).setCell ⟨g6, 1, none⟩ (.int .i64 y)).drewN nd2).setCell ⟨g6, 2, none⟩ (.int .i64 z)).heap[g4]? = some (.cells #[.int .i64 0, .int .i64 0, .int .i64 0, .string (⟨#[]⟩ : ByteArray)] 25 (0, 0)))); have n3_ := zi ((blk_put (w := (((((w3.drewN nd0).setCell ⟨g6, 0, none⟩ (.int .i64 x)).drewN nd1).setCell ⟨g6, 1, none⟩ (.int .i64 y)).drewN nd2)) (g := g6) (show ((((((w3.drewN nd0).setCell ⟨g6, 0, none⟩ (.int .i64 x)).drewN nd1).setCell ⟨g6, 1, none⟩ (.int .i64 y)).drewN nd2)).heap[g6]? = some (.cells #[.int .i64 x, .int .i64 y, .int .i64 0, .string p] 25 (0, 0)) from BK6.out) 2 (.int .i64 z) rfl : ((((((w3.drewN nd0).setCell ⟨g6, 0, none⟩ (.int .i64 x)).drewN nd1).setCell ⟨g6, 1, none⟩ (.int .i64 y)).drewN nd2).setCell ⟨g6, 2, none⟩ (.int .i64 z)).heap[g6]? = some (.cells #[.int .i64 x, .int .i64 y, .int .i64 z, .string p] 25 (0, 0)))); have n4_ := zi ((below_set (pw_below_drewN HB.out nd2) GE6.out : Below w.heap.size w ((((((w3.drewN nd0).setCell ⟨g6, 0, none⟩ (.int .i64 x)).drewN nd1).setCell ⟨g6, 1, none⟩ (.int .i64 y)).drewN nd2).setCell ⟨g6, 2, none⟩ (.int .i64 z)))); clear HO BK2 BK4 BK6 HB; have HO := n0_; have BK2 := n1_; have BK4 := n2_; have BK6 := n3_; have HB := n4_; clear n0_ n1_ n2_ n3_ n4_; have e0 : ((((((w3.drewN nd0).setCell ⟨g6, 0, none⟩ (.int .i64 x)).drewN nd1).setCell ⟨g6, 1, none⟩ (.int .i64 y)).drewN nd2).setCell ⟨g6, 2, none⟩ (.int .i64 z)).cell? ⟨g6, 0, none⟩ = some (.int .i64 x) := (blk_cell BK6.out 0).trans rfl; have e1 : ((((((w3.drewN nd0).setCell ⟨g6, 0, none⟩ (.int .i64 x)).drewN nd1).setCell ⟨g6, 1, none⟩ (.int .i64 y)).drewN nd2).setCell ⟨g6, 2, none⟩ (.int .i64 z)).cell? ⟨g6, 1, none⟩ = some (.int .i64 y) := (blk_cell BK6.out 1).trans rfl; have e2 : ((((((w3.drewN nd0).setCell ⟨g6, 0, none⟩ (.int .i64 x)).drewN nd1).setCell ⟨g6, 1, none⟩ (.int .i64 y)).drewN nd2).setCell ⟨g6, 2, none⟩ (.int .i64 z)).cell? ⟨g6, 2, none⟩ = some (.int .i64 z) := (blk_cell BK6.out 2).trans rfl; have e3 : ((((((w3.drewN nd0).setCell ⟨g6, 0, none⟩ (.int .i64 x)).drewN nd1).setCell ⟨g6, 1, none⟩ (.int .i64 y)).drewN nd2).setCell ⟨g6, 2, none⟩ (.int .i64 z)).cell? ⟨g6, 3, none⟩ = some (.string p) := (blk_cell BK6.out 3).trans rfl) | ((with_reducible refine gate_callee (f := 68) rfl ?_); refine goesL_ (some 61) rfl rfl Tryz.func68 z1a rfl #[.agg #[.int .i64 x, .int .i64 y, .int .i64 z, .string p]] rfl z2p ?_; (with_reducible refine (spec_VersionOk.calls kj x y z p true _ AB.out).mono ?_); rintro e w8 ⟨rfl, hb⟩; refine ⟨_, rfl, ?_⟩; clear e0 e1 e2 e3; have n0_ := zi (below_step zt hb); have n1_ := zi (blk_below (g := g2) (o := .cells #[.int .i64 0, .int .i64 0, .int .i64 0, .string (⟨#[]⟩ : ByteArray)] 25 (0, 0)) z2r hb); have n2_ := zi (blk_below (g := g4) (o := .cells #[.int .i64 0, .int .i64 0, .int .i64 0, .string (⟨#[]⟩ : ByteArray)] 25 (0, 0)) z4d hb); have n3_ := zi (blk_below (g := g6) (o := .cells #[.int .i64 x, .int .i64 y, .int .i64 z, .string p] 25 (0, 0)) z4e hb); clear HB BK2 BK4 BK6; have HB := n0_; have BK2 := n1_; have BK4 := n2_; have BK6 := n3_; clear n0_ n1_ n2_ n3_; clear hb; have e0 : w8.cell? ⟨g6, 0, none⟩ = some (.int .i64 x) := (blk_cell BK6.out 0).trans rfl; have e1 : w8.cell? ⟨g6, 1, none⟩ = some (.int .i64 y) := (blk_cell BK6.out 1).trans rfl; have e2 : w8.cell? ⟨g6, 2, none⟩ = some (.int .i64 z) := (blk_cell BK6.out 2).trans rfl; have e3 : w8.cell? ⟨g6, 3, none⟩ = some (.string p) := (blk_cell BK6.out 3).trans rfl) | (go_at_call 86; (with_reducible refine (spec_VersionText.calls kj x y z p tx _ AT.out).mono ?_); rintro e w9 ⟨rfl, hb⟩; clear e0 e1 e2 e3; have n0_ := zi (below_step zt hb); have n1_ := zi (blk_below (g := g2) (o := .cells #[.int .i64 0, .int .i64 0, .int .i64 0, .string (⟨#[]⟩ : ByteArray)] 25 (0, 0)) z2r hb); have n2_ := zi (blk_below (g := g4) (o := .cells #[.int .i64 0, .int .i64 0, .int .i64 0, .string (⟨#[]⟩ : ByteArray)] 25 (0, 0)) z4d hb); have n3_ := zi (blk_below (g := g6) (o := .cells #[.int .i64 x, .int .i64 y, .int .i64 z, .string p] 25 (0, 0)) z4e hb); clear HB BK2 BK4 BK6; have HB := n0_; have BK2 := n1_; have BK4 := n2_; have BK6 := n3_; clear n0_ n1_ n2_ n3_; clear hb; have d0 : w9.cell? ⟨g2, 0, none⟩ = some (.int .i64 0) := (blk_cell BK2.out 0).trans rfl; have d1 : w9.cell? ⟨g2, 1, none⟩ = some (.int .i64 0) := (blk_cell BK2.out 1).trans rfl; have d2 : w9.cell? ⟨g2, 2, none⟩ = some (.int .i64 0) := (blk_cell BK2.out 2).trans rfl; have d3 : w9.cell? ⟨g2, 3, none⟩ = some (.string (⟨#[]⟩ : ByteArray)) := (blk_cell BK2.out 3).trans rfl; have f0 : w9.frozen? ⟨g2, 0, none⟩ = false := blk_frozen BK2.out 0; have f1 : w9.frozen? ⟨g2, 1, none⟩ = false := blk_frozen BK2.out 1; have f2 : w9.frozen? ⟨g2, 2, none⟩ = false := blk_frozen BK2.out 2; have f3 : w9.frozen? ⟨g2, 3, none⟩ = false := blk_frozen BK2.out 3; have m0 : w9.cell? ⟨g4, 0, none⟩ = some (.int .i64 0) := (blk_cell BK4.out 0).trans rfl; have m1 : w9.cell? ⟨g4, 1, none⟩ = some (.int .i64 0) := (blk_cell BK4.out 1).trans rfl; have m2 : w9.cell? ⟨g4, 2, none⟩ = some (.int .i64 0) := (blk_cell BK4.out 2).trans rfl; have m3 : w9.cell? ⟨g4, 3, none⟩ = some (.string (⟨#[]⟩ : ByteArray)) := (blk_cell BK4.out 3).trans rfl))
         refine bodyPost_ret (results_ct rfl _ _ g2 25 #[.int .i64 0, .int .i64 0, .int .i64 0, .string (⟨#[]⟩ : ByteArray)] (0, 0) _ rfl (spec_ParseVersion.four BK2.out _ _ _ _) hu27 rfl z1a) rfl ?_
         exact ⟨rfl, spec_ParseVersion.fourB zt GE2.out _ _ _ _⟩
       | false =>
        replace H : some (0, 0, 0, (⟨#[]⟩ : ByteArray), false) = some (r1, r2, r3, r4, r5) := H
        simp only [Option.some.injEq, Prod.mk.injEq] at H
        obtain ⟨rfl, rfl, rfl, rfl, rfl⟩ := H
        go_wp2_with (first | ((with_reducible refine gate_callee (f := 56) rfl ?_); refine goesL_ (some 40) rfl rfl Tryz.func56 z1a rfl #[.string t, .int .u8 46] rfl z2p ?_; (with_reducible refine (spec_l3Split.calls kj t 46 l _ AL.out).mono ?_); rintro e w3 ⟨v122, rfl, ho0, hb⟩; refine ⟨_, rfl, ?_⟩; have nh_ := zi (Kd.R_lower ho0 (below_size zt)); have n0_ := zi (below_step zt hb); have n1_ := zi (blk_below (g := g2) (o := .cells #[.int .i64 0, .int .i64 0, .int .i64 0, .string (⟨#[]⟩ : ByteArray)] 25 (0, 0)) z2r hb); have n2_ := zi (blk_below (g := g4) (o := .cells #[.int .i64 0, .int .i64 0, .int .i64 0, .string (⟨#[]⟩ : ByteArray)] 25 (0, 0)) z4d hb); have n3_ := zi (blk_below (g := g6) (o := .cells #[.int .i64 0, .int .i64 0, .int .i64 0, .string p] 25 (0, 0)) z4e hb); clear HB BK2 BK4 BK6; have HB := n0_; have BK2 := n1_; have BK4 := n2_; have BK6 := n3_; clear n0_ n1_ n2_ n3_; have HO := nh_; clear nh_; clear hb ho0; obtain ⟨Ao4, co4, eo4⟩ := Kd.R_slice HO.out; subst eo4; obtain ⟨ad, e, hx⟩ := Kd.at_string (Kd.R_reads' HO.out).2.2 (0 : Int) z1g pl0.out; cases e; replace hx : w3.cell? ad = some (.string (rdOf ByteArray.empty l 0)) := hx) | ((with_reducible refine gate_callee (f := 87) rfl ?_); refine goesL_ (some 48) rfl rfl Tryz.func87 z1a rfl #[.string (rdOf ByteArray.empty l 0)] rfl z2p ?_; (with_reducible refine (spec_l3Number.calls kj (rdOf ByteArray.empty l 0) x _ AN0.out).mono ?_); rintro e w' ⟨rfl, ⟨nd0, rfl⟩⟩; refine ⟨_, rfl, ?_⟩; have s0 : (w3.drewN nd0).cell? ⟨g6, 0, none⟩ = some (.int .i64 0) := (blk_cell (show ((w3.drewN nd0)).heap[g6]? = some (.cells #[.int .i64 0, .int .i64 0, .int .i64 0, .string p] 25 (0, 0)) from BK6.out) 0).trans rfl; have u0 : (w3.drewN nd0).frozen? ⟨g6, 0, none⟩ = false := blk_frozen (show ((w3.drewN nd0)).heap[g6]? = some (.cells #[.int .i64 0, .int .i64 0, .int .i64 0, .string p] 25 (0, 0)) from BK6.out) 0; have n0_ := zi ((Kd.R_set (Kd.R_drewN HO.out nd0) (show ((w3.drewN nd0)).heap[g6]? = some (.cells #[.int .i64 0, .int .i64 0, .int .i64 0, .string p] 25 (0, 0)) from BK6.out) z1g 0 (.int .i64 x) : Kd.R Kd.string 9 ((w3.drewN nd0).setCell ⟨g6, 0, none⟩ (.int .i64 x)) w.heap.size (fun _ => True) (.slice (some ad) l.length co4) l)); have n1_ := zi ((blk_far (w := (w3.drewN nd0)) (g := g2) (p := ⟨g6, 0, none⟩) (show ((w3.drewN nd0)).heap[g2]? = some (.cells #[.int .i64 0, .int .i64 0, .int .i64 0, .string (⟨#[]⟩ : ByteArray)] 25 (0, 0)) from BK2.out) NE26.out (.int .i64 x) : ((w3.drewN nd0).setCell ⟨g6, 0, none⟩ (.int .i64 x)).heap[g2]? = some (.cells #[.int .i64 0, .int .i64 0, .int .i64 0, .string (⟨#[]⟩ : ByteArray)] 25 (0, 0)))); have n2_ := zi ((blk_far (w := (w3.drewN nd0)) (g := g4) (p := ⟨g6, 0, none⟩) (show ((w3.drewN nd0)).heap[g4]? = some (.cells #[.int .i64 0, .int .i64 0, .int .i64 0, .string (⟨#[]⟩ : ByteArray)] 25 (0, 0)) from BK4.out) NE46.out (.int .i64 x) : ((w3.drewN nd0).setCell ⟨g6, 0, none⟩ (.int .i64 x)).heap[g4]? = some (.cells #[.int .i64 0, .int .i64 0, .int .i64 0, .string (⟨#[]⟩ : ByteArray)] 25 (0, 0)))); have n3_ := zi ((blk_put (w := (w3.drewN nd0)) (g := g6) (show ((w3.drewN nd0)).heap[g6]? = some (.cells #[.int .i64 0, .int .i64 0, .int .i64 0, .string p] 25 (0, 0)) from BK6.out) 0 (.int .i64 x) rfl : ((w3.drewN nd0).setCell ⟨g6, 0, none⟩ (.int .i64 x)).heap[g6]? = some (.cells #[.int .i64 x, .int .i64 0, .int .i64 0, .string p] 25 (0, 0)))); have n4_ := zi ((below_set (pw_below_drewN HB.out nd0) GE6.out : Below w.heap.size w ((w3.drewN nd0).setCell ⟨g6, 0, none⟩ (.int .i64 x)))); clear HO BK2 BK4 BK6 HB; have HO := n0_; have BK2 := n1_; have BK4 := n2_; have BK6 := n3_; have HB := n4_; clear n0_ n1_ n2_ n3_ n4_; obtain ⟨ad, e, hx⟩ := Kd.at_string (Kd.R_reads' HO.out).2.2 (1 : Int) z1g pl1.out; cases e; replace hx : ((w3.drewN nd0).setCell ⟨g6, 0, none⟩ (.int .i64 x)).cell? (⟨ad.block, ad.off + 1, none⟩ : Addr) = some (.string (rdOf ByteArray.empty l 1)) := hx) | ((with_reducible refine gate_callee (f := 87) rfl ?_); refine goesL_ (some 53) rfl rfl Tryz.func87 z1a rfl #[.string (rdOf ByteArray.empty l 1)] rfl z2p ?_; (with_reducible refine (spec_l3Number.calls kj (rdOf ByteArray.empty l 1) y _ AN1.out).mono ?_); rintro e w' ⟨rfl, ⟨nd1, rfl⟩⟩; refine ⟨_, rfl, ?_⟩; have s1 : (((w3.drewN nd0).setCell ⟨g6, 0, none⟩ (.int .i64 x)).drewN nd1).cell? ⟨g6, 1, none⟩ = some (.int .i64 0) := (blk_cell (show ((((w3.drewN nd0).setCell ⟨g6, 0, none⟩ (.int .i64 x)).drewN nd1)).heap[g6]? = some (.cells #[.int .i64 x, .int .i64 0, .int .i64 0, .string p] 25 (0, 0)) from BK6.out) 1).trans rfl; have u1 : (((w3.drewN nd0).setCell ⟨g6, 0, none⟩ (.int .i64 x)).drewN nd1).frozen? ⟨g6, 1, none⟩ = false := blk_frozen (show ((((w3.drewN nd0).setCell ⟨g6, 0, none⟩ (.int .i64 x)).drewN nd1)).heap[g6]? = some (.cells #[.int .i64 x, .int .i64 0, .int .i64 0, .string p] 25 (0, 0)) from BK6.out) 1; have n0_ := zi ((Kd.R_set (Kd.R_drewN HO.out nd1) (show ((((w3.drewN nd0).setCell ⟨g6, 0, none⟩ (.int .i64 x)).drewN nd1)).heap[g6]? = some (.cells #[.int .i64 x, .int .i64 0, .int .i64 0, .string p] 25 (0, 0)) from BK6.out) z1g 1 (.int .i64 y) : Kd.R Kd.string 9 ((((w3.drewN nd0).setCell ⟨g6, 0, none⟩ (.int .i64 x)).drewN nd1).setCell ⟨g6, 1, none⟩ (.int .i64 y)) w.heap.size (fun _ => True) (.slice (some ad) l.length co4) l)); have n1_ := zi ((blk_far (w := (((w3.drewN nd0).setCell ⟨g6, 0, none⟩ (.int .i64 x)).drewN nd1)) (g := g2) (p := ⟨g6, 1, none⟩) (show ((((w3.drewN nd0).setCell ⟨g6, 0, none⟩ (.int .i64 x)).drewN nd1)).heap[g2]? = some (.cells #[.int .i64 0, .int .i64 0, .int .i64 0, .string (⟨#[]⟩ : ByteArray)] 25 (0, 0)) from BK2.out) NE26.out (.int .i64 y) : ((((w3.drewN nd0).setCell ⟨g6, 0, none⟩ (.int .i64 x)).drewN nd1).setCell ⟨g6, 1, none⟩ (.int .i64 y)).heap[g2]? = some (.cells #[.int .i64 0, .int .i64 0, .int .i64 0, .string (⟨#[]⟩ : ByteArray)] 25 (0, 0)))); have n2_ := zi ((blk_far (w := (((w3.drewN nd0).setCell ⟨g6, 0, none⟩ (.int .i64 x)).drewN nd1)) (g := g4) (p := ⟨g6, 1, none⟩) (show ((((w3.drewN nd0).setCell ⟨g6, 0, none⟩ (.int .i64 x)).drewN nd1)).heap[g4]? = some (.cells #[.int .i64 0, .int .i64 0, .int .i64 0, .string (⟨#[]⟩ : ByteArray)] 25 (0, 0)) from BK4.out) NE46.out (.int .i64 y) : ((((w3.drewN nd0).setCell ⟨g6, 0, none⟩ (.int .i64 x)).drewN nd1).setCell ⟨g6, 1, none⟩ (.int .i64 y)).heap[g4]? = some (.cells #[.int .i64 0, .int .i64 0, .int .i64 0, .string (⟨#[]⟩ : ByteArray)] 25 (0, 0)))); have n3_ := zi ((blk_put (w := (((w3.drewN nd0).setCell ⟨g6, 0, none⟩ (.int .i64 x)).drewN nd1)) (g := g6) (show ((((w3.drewN nd0).setCell ⟨g6, 0, none⟩ (.int .i64 x)).drewN nd1)).heap[g6]? = some (.cells #[.int .i64 x, .int .i64 0, .int .i64 0, .string p] 25 (0, 0)) from BK6.out) 1 (.int .i64 y) rfl : ((((w3.drewN nd0).setCell ⟨g6, 0, none⟩ (.int .i64 x)).drewN nd1).setCell ⟨g6, 1, none⟩ (.int .i64 y)).heap[g6]? = some (.cells #[.int .i64 x, .int .i64 y, .int .i64 0, .string p] 25 (0, 0)))); have n4_ := zi ((below_set (pw_below_drewN HB.out nd1) GE6.out : Below w.heap.size w ((((w3.drewN nd0).setCell ⟨g6, 0, none⟩ (.int .i64 x)).drewN nd1).setCell ⟨g6, 1, none⟩ (.int .i64 y)))); clear HO BK2 BK4 BK6 HB; have HO := n0_; have BK2 := n1_; have BK4 := n2_; have BK6 := n3_; have HB := n4_; clear n0_ n1_ n2_ n3_ n4_; obtain ⟨ad, e, hx⟩ := Kd.at_string (Kd.R_reads' HO.out).2.2 (2 : Int) z1g pl2.out; cases e; replace hx : ((((w3.drewN nd0).setCell ⟨g6, 0, none⟩ (.int .i64 x)).drewN nd1).setCell ⟨g6, 1, none⟩ (.int .i64 y)).cell? (⟨ad.block, ad.off + 2, none⟩ : Addr) = some (.string (rdOf ByteArray.empty l 2)) := hx) | ((with_reducible refine gate_callee (f := 87) rfl ?_); refine goesL_ (some 58) rfl rfl Tryz.func87 z1a rfl #[.string (rdOf ByteArray.empty l 2)] rfl z2p ?_; (with_reducible refine (spec_l3Number.calls kj (rdOf ByteArray.empty l 2) z _ AN2.out).mono ?_); rintro e w' ⟨rfl, ⟨nd2, rfl⟩⟩; refine ⟨_, rfl, ?_⟩; have s2 : (((((w3.drewN nd0).setCell ⟨g6, 0, none⟩ (.int .i64 x)).drewN nd1).setCell ⟨g6, 1, none⟩ (.int .i64 y)).drewN nd2).cell? ⟨g6, 2, none⟩ = some (.int .i64 0) := (blk_cell (show ((((((w3.drewN nd0).setCell ⟨g6, 0, none⟩ (.int .i64 x)).drewN nd1).setCell ⟨g6, 1, none⟩ (.int .i64 y)).drewN nd2)).heap[g6]? = some (.cells #[.int .i64 x, .int .i64 y, .int .i64 0, .string p] 25 (0, 0)) from BK6.out) 2).trans rfl; have u2 : (((((w3.drewN nd0).setCell ⟨g6, 0, none⟩ (.int .i64 x)).drewN nd1).setCell ⟨g6, 1, none⟩ (.int .i64 y)).drewN nd2).frozen? ⟨g6, 2, none⟩ = false := blk_frozen (show ((((((w3.drewN nd0).setCell ⟨g6, 0, none⟩ (.int .i64 x)).drewN nd1).setCell ⟨g6, 1, none⟩ (.int .i64 y)).drewN nd2)).heap[g6]? = some (.cells #[.int .i64 x, .int .i64 y, .int .i64 0, .string p] 25 (0, 0)) from BK6.out) 2; have n0_ := zi ((Kd.R_set (Kd.R_drewN HO.out nd2) (show ((((((w3.drewN nd0).setCell ⟨g6, 0, none⟩ (.int .i64 x)).drewN nd1).setCell ⟨g6, 1, none⟩ (.int .i64 y)).drewN nd2)).heap[g6]? = some (.cells #[.int .i64 x, .int .i64 y, .int .i64 0, .string p] 25 (0, 0)) from BK6.out) z1g 2 (.int .i64 z) : Kd.R Kd.string 9 ((((((w3.drewN nd0).setCell ⟨g6, 0, none⟩ (.int .i64 x)).drewN nd1).setCell ⟨g6, 1, none⟩ (.int .i64 y)).drewN nd2).setCell ⟨g6, 2, none⟩ (.int .i64 z)) w.heap.size (fun _ => True) (.slice (some ad) l.length co4) l)); have n1_ := zi ((blk_far (w := (((((w3.drewN nd0).setCell ⟨g6, 0, none⟩ (.int .i64 x)).drewN nd1).setCell ⟨g6, 1, none⟩ (.int .i64 y)).drewN nd2)) (g := g2) (p := ⟨g6, 2, none⟩) (show ((((((w3.drewN nd0).setCell ⟨g6, 0, none⟩ (.int .i64 x)).drewN nd1).setCell ⟨g6, 1, none⟩ (.int .i64 y)).drewN nd2)).heap[g2]? = some (.cells #[.int .i64 0, .int .i64 0, .int .i64 0, .string (⟨#[]⟩ : ByteArray)] 25 (0, 0)) from BK2.out) NE26.out (.int .i64 z) : ((((((w3.drewN nd0).setCell ⟨g6, 0, none⟩ (.int .i64 x)).drewN nd1).setCell ⟨g6, 1, none⟩ (.int .i64 y)).drewN nd2).setCell ⟨g6, 2, none⟩ (.int .i64 z)).heap[g2]? = some (.cells #[.int .i64 0, .int .i64 0, .int .i64 0, .string (⟨#[]⟩ : ByteArray)] 25 (0, 0)))); have n2_ := zi ((blk_far (w := (((((w3.drewN nd0).setCell ⟨g6, 0, none⟩ (.int .i64 x)).drewN nd1).setCell ⟨g6, 1, none⟩ (.int .i64 y)).drewN nd2)) (g := g4) (p := ⟨g6, 2, none⟩) (show ((((((w3.drewN nd0).setCell ⟨g6, 0, none⟩ (.int .i64 x)).drewN nd1).setCell ⟨g6, 1, none⟩ (.int .i64 y)).drewN nd2)).heap[g4]? = some (.cells #[.int .i64 0, .int .i64 0, .int .i64 0, .string (⟨#[]⟩ : ByteArray)] 25 (0, 0)) from BK4.out) NE46.out (.int .i64 z) : ((((((w3.drewN nd0).setCell ⟨g6, 0, none⟩ (.int .i64 x)).drewN nd1).setCell ⟨g6, 1, none⟩ (.int .i64 y)).drewN nd2).setCell ⟨g6, 2, none⟩ (.int .i64 z)).heap[g4]? = some (.cells #[.int .i64 0, .int .i64 0, .int .i64 0, .string (⟨#[]⟩ : ByteArray)] 25 (0, 0)))); have n3_ := zi ((blk_put (w := (((((w3.drewN nd0).setCell ⟨g6, 0, none⟩ (.int .i64 x)).drewN nd1).setCell ⟨g6, 1, none⟩ (.int .i64 y)).drewN nd2)) (g := g6) (show ((((((w3.drewN nd0).setCell ⟨g6, 0, none⟩ (.int .i64 x)).drewN nd1).setCell ⟨g6, 1, none⟩ (.int .i64 y)).drewN nd2)).heap[g6]? = some (.cells #[.int .i64 x, .int .i64 y, .int .i64 0, .string p] 25 (0, 0)) from BK6.out) 2 (.int .i64 z) rfl : ((((((w3.drewN nd0).setCell ⟨g6, 0, none⟩ (.int .i64 x)).drewN nd1).setCell ⟨g6, 1, none⟩ (.int .i64 y)).drewN nd2).setCell ⟨g6, 2, none⟩ (.int .i64 z)).heap[g6]? = some (.cells #[.int .i64 x, .int .i64 y, .int .i64 z, .string p] 25 (0, 0)))); have n4_ := zi ((below_set (pw_below_drewN HB.out nd2) GE6.out : Below w.heap.size w ((((((w3.drewN nd0).setCell ⟨g6, 0, none⟩ (.int .i64 x)).drewN nd1).setCell ⟨g6, 1, none⟩ (.int .i64 y)).drewN nd2).setCell ⟨g6, 2, none⟩ (.int .i64 z)))); clear HO BK2 BK4 BK6 HB; have HO := n0_; have BK2 := n1_; have BK4 := n2_; have BK6 := n3_; have HB := n4_; clear n0_ n1_ n2_ n3_ n4_; have e0 : ((((((w3.drewN nd0).setCell ⟨g6, 0, none⟩ (.int .i64 x)).drewN nd1).setCell ⟨g6, 1, none⟩ (.int .i64 y)).drewN nd2).setCell ⟨g6, 2, none⟩ (.int .i64 z)).cell? ⟨g6, 0, none⟩ = some (.int .i64 x) := (blk_cell BK6.out 0).trans rfl; have e1 : ((((((w3.drewN nd0).setCell ⟨g6, 0, none⟩ (.int .i64 x)).drewN nd1).setCell ⟨g6, 1, none⟩ (.int .i64 y)).drewN nd2).setCell ⟨g6, 2, none⟩ (.int .i64 z)).cell? ⟨g6, 1, none⟩ = some (.int .i64 y) := (blk_cell BK6.out 1).trans rfl; have e2 : ((((((w3.drewN nd0).setCell ⟨g6, 0, none⟩ (.int .i64 x)).drewN nd1).setCell ⟨g6, 1, none⟩ (.int .i64 y)).drewN nd2).setCell ⟨g6, 2, none⟩ (.int .i64 z)).cell? ⟨g6, 2, none⟩ = some (.int .i64 z) := (blk_cell BK6.out 2).trans rfl; have e3 : ((((((w3.drewN nd0).setCell ⟨g6, 0, none⟩ (.int .i64 x)).drewN nd1).setCell ⟨g6, 1, none⟩ (.int .i64 y)).drewN nd2).setCell ⟨g6, 2, none⟩ (.int .i64 z)).cell? ⟨g6, 3, none⟩ = some (.string p) := (blk_cell BK6.out 3).trans rfl) | ((with_reducible refine gate_callee (f := 68) rfl ?_); refine goesL_ (some 61) rfl rfl Tryz.func68 z1a rfl #[.agg #[.int .i64 x, .int .i64 y, .int .i64 z, .string p]] rfl z2p ?_; (with_reducible refine (spec_VersionOk.calls kj x y z p false _ AB.out).mono ?_); rintro e w8 ⟨rfl, hb⟩; refine ⟨_, rfl, ?_⟩; clear e0 e1 e2 e3; have n0_ := zi (below_step zt hb); have n1_ := zi (blk_below (g := g2) (o := .cells #[.int .i64 0, .int .i64 0, .int .i64 0, .string (⟨#[]⟩ : ByteArray)] 25 (0, 0)) z2r hb); have n2_ := zi (blk_below (g := g4) (o := .cells #[.int .i64 0, .int .i64 0, .int .i64 0, .string (⟨#[]⟩ : ByteArray)] 25 (0, 0)) z4d hb); have n3_ := zi (blk_below (g := g6) (o := .cells #[.int .i64 x, .int .i64 y, .int .i64 z, .string p] 25 (0, 0)) z4e hb); clear HB BK2 BK4 BK6; have HB := n0_; have BK2 := n1_; have BK4 := n2_; have BK6 := n3_; clear n0_ n1_ n2_ n3_; clear hb; have d0 : w8.cell? ⟨g2, 0, none⟩ = some (.int .i64 0) := (blk_cell BK2.out 0).trans rfl; have d1 : w8.cell? ⟨g2, 1, none⟩ = some (.int .i64 0) := (blk_cell BK2.out 1).trans rfl; have d2 : w8.cell? ⟨g2, 2, none⟩ = some (.int .i64 0) := (blk_cell BK2.out 2).trans rfl; have d3 : w8.cell? ⟨g2, 3, none⟩ = some (.string (⟨#[]⟩ : ByteArray)) := (blk_cell BK2.out 3).trans rfl; have f0 : w8.frozen? ⟨g2, 0, none⟩ = false := blk_frozen BK2.out 0; have f1 : w8.frozen? ⟨g2, 1, none⟩ = false := blk_frozen BK2.out 1; have f2 : w8.frozen? ⟨g2, 2, none⟩ = false := blk_frozen BK2.out 2; have f3 : w8.frozen? ⟨g2, 3, none⟩ = false := blk_frozen BK2.out 3; have m0 : w8.cell? ⟨g4, 0, none⟩ = some (.int .i64 0) := (blk_cell BK4.out 0).trans rfl; have m1 : w8.cell? ⟨g4, 1, none⟩ = some (.int .i64 0) := (blk_cell BK4.out 1).trans rfl; have m2 : w8.cell? ⟨g4, 2, none⟩ = some (.int .i64 0) := (blk_cell BK4.out 2).trans rfl; have m3 : w8.cell? ⟨g4, 3, none⟩ = some (.string (⟨#[]⟩ : ByteArray)) := (blk_cell BK4.out 3).trans rfl))
        refine bodyPost_ret (results_ct rfl _ _ g2 25 #[.int .i64 0, .int .i64 0, .int .i64 0, .string (⟨#[]⟩ : ByteArray)] (0, 0) _ rfl (spec_ParseVersion.four BK2.out _ _ _ _) hu27 rfl z1a) rfl ?_
        exact ⟨rfl, spec_ParseVersion.fourB zt GE2.out _ _ _ _⟩
      ·replace H : some (0, 0, 0, (⟨#[]⟩ : ByteArray), false) = some (r1, r2, r3, r4, r5) := by rw [if_neg c5] at H; exact H
       simp only [Option.some.injEq, Prod.mk.injEq] at H
       obtain ⟨rfl, rfl, rfl, rfl, rfl⟩ := H
       have c5b0 : ((l.length : Int) != 3) = true := bne_iff_ne.mpr zq
       have c5b1 : ((l.length : Int) == 3) = false := beq_eq_false_iff_ne.mpr zq
       clear c5
       go_wp2_with (first | ((with_reducible refine gate_callee (f := 56) rfl ?_); refine goesL_ (some 40) rfl rfl Tryz.func56 z1a rfl #[.string t, .int .u8 46] rfl z2p ?_; (with_reducible refine (spec_l3Split.calls kj t 46 l _ AL.out).mono ?_); rintro e w3 ⟨v122, rfl, ho0, hb⟩; refine ⟨_, rfl, ?_⟩; have nh_ := zi (Kd.R_lower ho0 (below_size zt)); have n0_ := zi (below_step zt hb); have n1_ := zi (blk_below (g := g2) (o := .cells #[.int .i64 0, .int .i64 0, .int .i64 0, .string (⟨#[]⟩ : ByteArray)] 25 (0, 0)) z2r hb); have n2_ := zi (blk_below (g := g4) (o := .cells #[.int .i64 0, .int .i64 0, .int .i64 0, .string (⟨#[]⟩ : ByteArray)] 25 (0, 0)) z4d hb); have n3_ := zi (blk_below (g := g6) (o := .cells #[.int .i64 0, .int .i64 0, .int .i64 0, .string p] 25 (0, 0)) z4e hb); clear HB BK2 BK4 BK6; have HB := n0_; have BK2 := n1_; have BK4 := n2_; have BK6 := n3_; clear n0_ n1_ n2_ n3_; have HO := nh_; clear nh_; clear hb ho0; obtain ⟨Ao4, co4, eo4⟩ := Kd.R_slice HO.out; subst eo4; have d0 : w3.cell? ⟨g2, 0, none⟩ = some (.int .i64 0) := (blk_cell BK2.out 0).trans rfl; have d1 : w3.cell? ⟨g2, 1, none⟩ = some (.int .i64 0) := (blk_cell BK2.out 1).trans rfl; have d2 : w3.cell? ⟨g2, 2, none⟩ = some (.int .i64 0) := (blk_cell BK2.out 2).trans rfl; have d3 : w3.cell? ⟨g2, 3, none⟩ = some (.string (⟨#[]⟩ : ByteArray)) := (blk_cell BK2.out 3).trans rfl; have f0 : w3.frozen? ⟨g2, 0, none⟩ = false := blk_frozen BK2.out 0; have f1 : w3.frozen? ⟨g2, 1, none⟩ = false := blk_frozen BK2.out 1; have f2 : w3.frozen? ⟨g2, 2, none⟩ = false := blk_frozen BK2.out 2; have f3 : w3.frozen? ⟨g2, 3, none⟩ = false := blk_frozen BK2.out 3; have m0 : w3.cell? ⟨g4, 0, none⟩ = some (.int .i64 0) := (blk_cell BK4.out 0).trans rfl; have m1 : w3.cell? ⟨g4, 1, none⟩ = some (.int .i64 0) := (blk_cell BK4.out 1).trans rfl; have m2 : w3.cell? ⟨g4, 2, none⟩ = some (.int .i64 0) := (blk_cell BK4.out 2).trans rfl; have m3 : w3.cell? ⟨g4, 3, none⟩ = some (.string (⟨#[]⟩ : ByteArray)) := (blk_cell BK4.out 3).trans rfl))
       refine bodyPost_ret (results_ct rfl _ _ g2 25 #[.int .i64 0, .int .i64 0, .int .i64 0, .string (⟨#[]⟩ : ByteArray)] (0, 0) _ rfl (spec_ParseVersion.four BK2.out _ _ _ _) hu27 rfl z1a) rfl ?_
       exact ⟨rfl, spec_ParseVersion.fourB zt GE2.out _ _ _ _⟩
    ·rw [if_neg c4] at h
     cases h
   ·rw [if_neg c3] at h
    have c3b0 : (bt a0 0 == 118) = false := beq_eq_false_iff_ne.mpr c3
    have c3b1 : (bt a0 0 != 118) = true := bne_iff_ne.mpr c3
    simp only [Option.some.injEq, Prod.mk.injEq] at h
    obtain ⟨rfl, rfl, rfl, rfl, rfl⟩ := h
    clear c1 c2 c3
    go_enter Tryz.func57, Tryz.ntmps57
    go_wp2_with (first | ((with_reducible refine gate_dst (N := 2) rfl ?_); refine box_event zr (N := 2) zr (cs := #[.int .i64 0, .int .i64 0, .int .i64 0, .string (⟨#[]⟩ : ByteArray)]) (t := 25) zs ?_; intro g2 hg w2 hbox hb; have n0_ := zi (below_step zt hb); have n1_ := zi hbox; have n2_ := zi ((z5s : w.heap.size ≤ g2)); clear HB; have HB := n0_; have BK2 := n1_; have GE2 := n2_; clear n0_ n1_ n2_; clear hb hbox hg) | ((with_reducible refine gate_dst (N := 4) rfl ?_); refine box_event zr (N := 4) zr (cs := #[.int .i64 0, .int .i64 0, .int .i64 0, .string (⟨#[]⟩ : ByteArray)]) (t := 25) zs ?_; intro g4 hg w4 hbox hb; have n0_ := zi (blk_below (g := g2) (o := .cells #[.int .i64 0, .int .i64 0, .int .i64 0, .string (⟨#[]⟩ : ByteArray)] 25 (0, 0)) z2r hb); have n1_ := zi ((z6l : g2 ≠ g4)); have n2_ := zi (below_step zt hb); have n3_ := zi hbox; have n4_ := zi ((z5s : w.heap.size ≤ g4)); clear BK2 HB; have BK2 := n0_; have NE24 := n1_; have HB := n2_; have BK4 := n3_; have GE4 := n4_; clear n0_ n1_ n2_ n3_ n4_; clear hb hbox hg; have i4_0 : w4.cell? ⟨g4, 0, none⟩ = some (.int .i64 0) := (blk_cell BK4.out 0).trans rfl; have i4_1 : w4.cell? ⟨g4, 1, none⟩ = some (.int .i64 0) := (blk_cell BK4.out 1).trans rfl; have i4_2 : w4.cell? ⟨g4, 2, none⟩ = some (.int .i64 0) := (blk_cell BK4.out 2).trans rfl; have i4_3 : w4.cell? ⟨g4, 3, none⟩ = some (.string (⟨#[]⟩ : ByteArray)) := (blk_cell BK4.out 3).trans rfl; have j4_0 : w4.frozen? ⟨g4, 0, none⟩ = false := blk_frozen BK4.out 0; have j4_1 : w4.frozen? ⟨g4, 1, none⟩ = false := blk_frozen BK4.out 1; have j4_2 : w4.frozen? ⟨g4, 2, none⟩ = false := blk_frozen BK4.out 2; have j4_3 : w4.frozen? ⟨g4, 3, none⟩ = false := blk_frozen BK4.out 3; have n0_ := zi (spec_ParseVersion.fourF BK2.out NE24.out (.int .i64 0) (.int .i64 0) (.int .i64 0) (.string (⟨#[]⟩ : ByteArray))); have n1_ := zi (spec_ParseVersion.four BK4.out (.int .i64 0) (.int .i64 0) (.int .i64 0) (.string (⟨#[]⟩ : ByteArray))); have n2_ := zi (spec_ParseVersion.fourB HB.out GE4.out (.int .i64 0) (.int .i64 0) (.int .i64 0) (.string (⟨#[]⟩ : ByteArray))); clear BK2 BK4 HB; have BK2 := n0_; have BK4 := n1_; have HB := n2_; clear n0_ n1_ n2_; have d0 : ((((w4.setCell ⟨g4, 0, none⟩ (.int .i64 0)).setCell ⟨g4, 1, none⟩ (.int .i64 0)).setCell ⟨g4, 2, none⟩ (.int .i64 0)).setCell ⟨g4, 3, none⟩ (.string (⟨#[]⟩ : ByteArray))).cell? ⟨g2, 0, none⟩ = some (.int .i64 0) := (blk_cell BK2.out 0).trans rfl; have d1 : ((((w4.setCell ⟨g4, 0, none⟩ (.int .i64 0)).setCell ⟨g4, 1, none⟩ (.int .i64 0)).setCell ⟨g4, 2, none⟩ (.int .i64 0)).setCell ⟨g4, 3, none⟩ (.string (⟨#[]⟩ : ByteArray))).cell? ⟨g2, 1, none⟩ = some (.int .i64 0) := (blk_cell BK2.out 1).trans rfl; have d2 : ((((w4.setCell ⟨g4, 0, none⟩ (.int .i64 0)).setCell ⟨g4, 1, none⟩ (.int .i64 0)).setCell ⟨g4, 2, none⟩ (.int .i64 0)).setCell ⟨g4, 3, none⟩ (.string (⟨#[]⟩ : ByteArray))).cell? ⟨g2, 2, none⟩ = some (.int .i64 0) := (blk_cell BK2.out 2).trans rfl; have d3 : ((((w4.setCell ⟨g4, 0, none⟩ (.int .i64 0)).setCell ⟨g4, 1, none⟩ (.int .i64 0)).setCell ⟨g4, 2, none⟩ (.int .i64 0)).setCell ⟨g4, 3, none⟩ (.string (⟨#[]⟩ : ByteArray))).cell? ⟨g2, 3, none⟩ = some (.string (⟨#[]⟩ : ByteArray)) := (blk_cell BK2.out 3).trans rfl; have f0 : ((((w4.setCell ⟨g4, 0, none⟩ (.int .i64 0)).setCell ⟨g4, 1, none⟩ (.int .i64 0)).setCell ⟨g4, 2, none⟩ (.int .i64 0)).setCell ⟨g4, 3, none⟩ (.string (⟨#[]⟩ : ByteArray))).frozen? ⟨g2, 0, none⟩ = false := blk_frozen BK2.out 0; have f1 : ((((w4.setCell ⟨g4, 0, none⟩ (.int .i64 0)).setCell ⟨g4, 1, none⟩ (.int .i64 0)).setCell ⟨g4, 2, none⟩ (.int .i64 0)).setCell ⟨g4, 3, none⟩ (.string (⟨#[]⟩ : ByteArray))).frozen? ⟨g2, 1, none⟩ = false := blk_frozen BK2.out 1; have f2 : ((((w4.setCell ⟨g4, 0, none⟩ (.int .i64 0)).setCell ⟨g4, 1, none⟩ (.int .i64 0)).setCell ⟨g4, 2, none⟩ (.int .i64 0)).setCell ⟨g4, 3, none⟩ (.string (⟨#[]⟩ : ByteArray))).frozen? ⟨g2, 2, none⟩ = false := blk_frozen BK2.out 2; have f3 : ((((w4.setCell ⟨g4, 0, none⟩ (.int .i64 0)).setCell ⟨g4, 1, none⟩ (.int .i64 0)).setCell ⟨g4, 2, none⟩ (.int .i64 0)).setCell ⟨g4, 3, none⟩ (.string (⟨#[]⟩ : ByteArray))).frozen? ⟨g2, 3, none⟩ = false := blk_frozen BK2.out 3; have m0 : ((((w4.setCell ⟨g4, 0, none⟩ (.int .i64 0)).setCell ⟨g4, 1, none⟩ (.int .i64 0)).setCell ⟨g4, 2, none⟩ (.int .i64 0)).setCell ⟨g4, 3, none⟩ (.string (⟨#[]⟩ : ByteArray))).cell? ⟨g4, 0, none⟩ = some (.int .i64 0) := (blk_cell BK4.out 0).trans rfl; have m1 : ((((w4.setCell ⟨g4, 0, none⟩ (.int .i64 0)).setCell ⟨g4, 1, none⟩ (.int .i64 0)).setCell ⟨g4, 2, none⟩ (.int .i64 0)).setCell ⟨g4, 3, none⟩ (.string (⟨#[]⟩ : ByteArray))).cell? ⟨g4, 1, none⟩ = some (.int .i64 0) := (blk_cell BK4.out 1).trans rfl; have m2 : ((((w4.setCell ⟨g4, 0, none⟩ (.int .i64 0)).setCell ⟨g4, 1, none⟩ (.int .i64 0)).setCell ⟨g4, 2, none⟩ (.int .i64 0)).setCell ⟨g4, 3, none⟩ (.string (⟨#[]⟩ : ByteArray))).cell? ⟨g4, 2, none⟩ = some (.int .i64 0) := (blk_cell BK4.out 2).trans rfl; have m3 : ((((w4.setCell ⟨g4, 0, none⟩ (.int .i64 0)).setCell ⟨g4, 1, none⟩ (.int .i64 0)).setCell ⟨g4, 2, none⟩ (.int .i64 0)).setCell ⟨g4, 3, none⟩ (.string (⟨#[]⟩ : ByteArray))).cell? ⟨g4, 3, none⟩ = some (.string (⟨#[]⟩ : ByteArray)) := (blk_cell BK4.out 3).trans rfl))
    refine bodyPost_ret (results_ct rfl _ _ g2 25 #[.int .i64 0, .int .i64 0, .int .i64 0, .string (⟨#[]⟩ : ByteArray)] (0, 0) _ rfl (spec_ParseVersion.four BK2.out _ _ _ _) hu27 rfl z1a) rfl ?_
    exact ⟨rfl, spec_ParseVersion.fourB zt GE2.out _ _ _ _⟩
  ·rw [if_neg c2] at h
   cases h
end Go.Proofs.YtgdknepphkhnlaaGreatDoor.X
