/- The law FnExactFits, as a plain statement: the program's Fits answers as the reference's. Conditions: those of the row's reading alone. -/
/- Part 5 of 7 of this claim's texts. -/
import Derived.Test.YtkofdkinaahbpaaDoorWWords
import Derived.Test.YtkofdkinaahbpaaDoorWMore
import Derived.Laws.BitsLemmas
import Derived.Lib.Atoi
import Derived.Lib.ItoaNum
import Derived.Deep.Slices
import Derived.ChangeArms
import Derived.WideShapes
import Derived.DataReads
import Derived.Test.YtkofdkinaahbpaaDoorCFnExactFits0
import Derived.Test.YtkofdkinaahbpaaDoorCFnExactFits1
import Derived.Test.YtkofdkinaahbpaaDoorCFnExactFits2
import Derived.Test.YtkofdkinaahbpaaDoorCFnExactFits3
namespace Go.Proofs.YtkofdkinaahbpaaDoor.X
open Go.RowKit Go.Proofs.YtkofdkinaahbpaaDoorW.PrintWords Go.Proofs.YtkofdkinaahbpaaDoorW.PrintLast Go.Proofs.YtkofdkinaahbpaaDoorW.PrintMore
attribute [local go_sem] max2_int min2_int max_two min_two max_three min_three max_four min_four   -- for this text's walks alone
set_option linter.unusedVariables false
set_option linter.unusedSimpArgs false

/-! ### laws_FnExactFits: function 3 -/
def laws_FnExactFits.f (k : Nat) (a0 : ByteArray) (a1_0 : Int) (a1_1 : Int) (a1_2 : Int) (a1_3 : ByteArray) : Option (Bool) := if (a0.size : Int) > 1048576 then (some true) else ((laws_szVersion.f a1_0 a1_1 a1_2 a1_3 1048576).bind fun t195 => (if t195 < 0 then (some true) else ((laws_toVersion.f a1_0 a1_1 a1_2 a1_3).bind fun bt196 => ((spec_Fits.f k a0 bt196.1 bt196.2.1 bt196.2.2.1 bt196.2.2.2).bind fun t200 => ((laws_toVersion.f a1_0 a1_1 a1_2 a1_3).bind fun bt201 => ((impl_Fits.f k a0 bt201.1 bt201.2.1 bt201.2.2.1 bt201.2.2.2).bind fun t205 => (if (t205 != t200) = true then (some false) else (some true))))))))
theorem laws_FnExactFits.mono : ∀ a0 a1 a2 a3 a4 k, LeO (laws_FnExactFits.f k a0 a1 a2 a3 a4) (laws_FnExactFits.f (k + 1) a0 a1 a2 a3 a4) := by
  intro a0 a1 a2 a3 a4 k
  unfold laws_FnExactFits.f
  repeat' first
      | (with_reducible exact impl_Fits.mono _ _ _ _ _ _)
      | (with_reducible exact spec_Fits.mono _ _ _ _ _ _)
      | (with_reducible exact LeO.refl _)
      | (with_reducible exact LeO.none _)
      | (with_reducible refine LeO.ite ?_ ?_)
      | (with_reducible refine LeO.bind ?_ (fun _ => ?_))
      | exact impl_Fits.mono _ _ _ _ _ _
      | exact spec_Fits.mono _ _ _ _ _ _
      | exact LeO.none _
      | refine LeO.ite ?_ ?_
      | refine LeO.bind ?_ (fun _ => ?_)
set_option maxHeartbeats 8000000 in
set_option maxRecDepth 100000 in
theorem laws_FnExactFits.calls (k : Nat) (a0 : ByteArray) (a1_0 : Int) (a1_1 : Int) (a1_2 : Int) (a1_3 : ByteArray) (r : Bool) (w : World) (h : laws_FnExactFits.f k a0 a1_0 a1_1 a1_2 a1_3 = some r) :
    Calls Tryd.prog 3 #[.string a0, .agg #[.int .i64 a1_0, .int .i64 a1_1, .int .i64 a1_2, .string a1_3]] w fun e w' => e = .returned (.bool r) ∧ Below w.heap.size w w' := by
  have hu23 := Tryd.underlying23
  have HB := Aside0.mk (Below.refl w.heap.size w)
  have H : (if (a0.size : Int) > 1048576 then (some true) else ((laws_szVersion.f a1_0 a1_1 a1_2 a1_3 1048576).bind fun t195 => (if t195 < 0 then (some true) else ((laws_toVersion.f a1_0 a1_1 a1_2 a1_3).bind fun bt196 => ((spec_Fits.f k a0 bt196.1 bt196.2.1 bt196.2.2.1 bt196.2.2.2).bind fun t200 => ((laws_toVersion.f a1_0 a1_1 a1_2 a1_3).bind fun bt201 => ((impl_Fits.f k a0 bt201.1 bt201.2.1 bt201.2.2.1 bt201.2.2.2).bind fun t205 => (if (t205 != t200) = true then (some false) else (some true))))))))) = some r := h
  clear h
  by_cases c3 : (a0.size : Int) > 1048576
  · rw [if_pos c3] at H
    have c3b0 : decide (1048576 < (a0.size : Int)) = true := decide_eq_true c3
    have c3b1 : decide (1048576 < a0.size) = true := decide_eq_true (by omega)
    clear c3
    obtain rfl := Option.some.inj H
    go_enter Tryd.func3, Tryd.ntmps3
    go_wp2_with (first | ((with_reducible refine gate_dst (N := 3) rfl ?_); refine box_event ?hg (N := 3) ?hd (cs := #[.int .i64 a1_0, .int .i64 a1_1, .int .i64 a1_2, .string a1_3]) (t := 23) ?hr ?_; (case hd => rfl); (case hg => rfl); (case hr => first | (go_simp; done) | (go_simp; rfl)); intro gb194 hg w4 hbox hb; have n0_ := Aside0.mk (below_step (by repeat (first | (with_reducible first | exact HB.out | apply below_alloc | apply pw_below_drewN | apply below_drew1) | exact HB.out)) hb); have n1_ := Aside0.mk (hbox); have n2_ := Aside0.mk ((by rw [hg]; exact (below_size (by repeat (first | (with_reducible first | exact HB.out | apply below_alloc | apply pw_below_drewN | apply below_drew1) | exact HB.out))) : w.heap.size ≤ gb194)); have n3_ := Aside0.mk ((by rw [hg]; exact (below_size (by repeat (first | (with_reducible first | exact HB.out | apply below_alloc | apply pw_below_drewN | apply below_drew1) | exact HB.out))) : w.heap.size ≤ gb194)); clear HB; have HB := n0_; have BK194 := n1_; have GW194 := n2_; have GE194 := n3_; clear n0_ n1_ n2_ n3_; clear hb hbox hg))
    go_ret
    exact ⟨by first | rfl | (simp [errW_none, errW_some] <;> rfl) | (simp [*, errW_none, errW_some] <;> rfl), by repeat (first | (with_reducible first | exact HB.out | apply below_alloc | apply pw_below_drewN | apply below_drew1 | refine below_set ?_ GE194.out) | exact HB.out)⟩
  · rw [if_neg c3] at H
    have c3b0 : decide (1048576 < (a0.size : Int)) = false := decide_eq_false c3
    have c3b1 : decide (1048576 < a0.size) = false := decide_eq_false (by omega)
    clear c3
    replace H := Option.bind_eq_some_iff.mp H
    obtain ⟨t195, A50, H⟩ := H
    replace H : (if t195 < 0 then (some true) else ((laws_toVersion.f a1_0 a1_1 a1_2 a1_3).bind fun bt196 => ((spec_Fits.f k a0 bt196.1 bt196.2.1 bt196.2.2.1 bt196.2.2.2).bind fun t200 => ((laws_toVersion.f a1_0 a1_1 a1_2 a1_3).bind fun bt201 => ((impl_Fits.f k a0 bt201.1 bt201.2.1 bt201.2.2.1 bt201.2.2.2).bind fun t205 => (if (t205 != t200) = true then (some false) else (some true))))))) = some r := H
    have A5 := Aside0.mk A50
    clear A50
    by_cases c6 : t195 < 0
    · rw [if_pos c6] at H
      have c6b0 : decide (t195 < 0) = true := decide_eq_true c6
      clear c6
      obtain rfl := Option.some.inj H
      go_enter Tryd.func3, Tryd.ntmps3
      go_wp2_with (first | ((with_reducible refine gate_dst (N := 3) rfl ?_); refine box_event ?hg (N := 3) ?hd (cs := #[.int .i64 a1_0, .int .i64 a1_1, .int .i64 a1_2, .string a1_3]) (t := 23) ?hr ?_; (case hd => rfl); (case hg => rfl); (case hr => first | (go_simp; done) | (go_simp; rfl)); intro gb194 hg w7 hbox hb; have n0_ := Aside0.mk (below_step (by repeat (first | (with_reducible first | exact HB.out | apply below_alloc | apply pw_below_drewN | apply below_drew1) | exact HB.out)) hb); have n1_ := Aside0.mk (hbox); have n2_ := Aside0.mk ((by rw [hg]; exact (below_size (by repeat (first | (with_reducible first | exact HB.out | apply below_alloc | apply pw_below_drewN | apply below_drew1) | exact HB.out))) : w.heap.size ≤ gb194)); have n3_ := Aside0.mk ((by rw [hg]; exact (below_size (by repeat (first | (with_reducible first | exact HB.out | apply below_alloc | apply pw_below_drewN | apply below_drew1) | exact HB.out))) : w.heap.size ≤ gb194)); clear HB; have HB := n0_; have BK194 := n1_; have GW194 := n2_; have GE194 := n3_; clear n0_ n1_ n2_ n3_; clear hb hbox hg; have hcz8_0 : w7.cell? ⟨gb194, 0, none⟩ = some (.int .i64 a1_0) := (blk_cell BK194.out 0).trans rfl; have hcz8_1 : w7.cell? ⟨gb194, 1, none⟩ = some (.int .i64 a1_1) := (blk_cell BK194.out 1).trans rfl; have hcz8_2 : w7.cell? ⟨gb194, 2, none⟩ = some (.int .i64 a1_2) := (blk_cell BK194.out 2).trans rfl; have hcz8_3 : w7.cell? ⟨gb194, 3, none⟩ = some (.string a1_3) := (blk_cell BK194.out 3).trans rfl; have hfz8_0 := blk_frozen BK194.out 0; have hfz8_1 := blk_frozen BK194.out 1; have hfz8_2 := blk_frozen BK194.out 2; have hfz8_3 := blk_frozen BK194.out 3) | ((with_reducible refine gate_callee (f := 12) rfl ?_); refine goesL_ (some 13) rfl rfl Tryd.func12 (by kernel_rfl) rfl #[.agg #[.int .i64 a1_0, .int .i64 a1_1, .int .i64 a1_2, .string a1_3], .int .i64 1048576] rfl (by (try simp only [List.map_toArray, List.map_cons, List.map_nil]); first | done | rfl | (simp only [List.length_drop, List.length_take]; rfl)) ?_; (with_reducible refine (laws_szVersion.calls a1_0 a1_1 a1_2 a1_3 1048576 t195 _ A5.out).mono ?_); rintro e w9 ⟨rfl, hb⟩; refine ⟨_, rfl, ?_⟩; have n0_ := Aside0.mk (blk_below (g := gb194) (o := .cells #[.int .i64 a1_0, .int .i64 a1_1, .int .i64 a1_2, .string a1_3] 23 (0, 0)) (by (with_reducible repeat (first | refine blk_drewN ?_ _ | refine blk_drew ?_ | refine blk_alloc ?_ _)); exact BK194.out) hb); have n1_ := Aside0.mk (below_step (by repeat (first | (with_reducible first | exact HB.out | apply below_alloc | apply pw_below_drewN | apply below_drew1 | refine below_set ?_ GE194.out) | exact HB.out)) hb); clear BK194; clear HB; have BK194 := n0_; have HB := n1_; clear n0_ n1_; (try clear hb); (try clear hb2); (try clear hk); (try clear hi)))
      go_ret
      exact ⟨by first | rfl | (simp [errW_none, errW_some] <;> rfl) | (simp [*, errW_none, errW_some] <;> rfl), by repeat (first | (with_reducible first | exact HB.out | apply below_alloc | apply pw_below_drewN | apply below_drew1 | refine below_set ?_ GE194.out) | exact HB.out)⟩
    · rw [if_neg c6] at H
      have c6b0 : decide (t195 < 0) = false := decide_eq_false c6
      clear c6
      replace H := Option.bind_eq_some_iff.mp H
      obtain ⟨⟨t196, t197, t198, t199⟩, A100, H⟩ := H
      replace H : ((spec_Fits.f k a0 t196 t197 t198 t199).bind fun t200 => ((laws_toVersion.f a1_0 a1_1 a1_2 a1_3).bind fun bt201 => ((impl_Fits.f k a0 bt201.1 bt201.2.1 bt201.2.2.1 bt201.2.2.2).bind fun t205 => (if (t205 != t200) = true then (some false) else (some true))))) = some r := H
      have A10 := Aside0.mk A100
      clear A100
      replace H := Option.bind_eq_some_iff.mp H
      obtain ⟨t200, A110, H⟩ := H
      replace H : ((laws_toVersion.f a1_0 a1_1 a1_2 a1_3).bind fun bt201 => ((impl_Fits.f k a0 bt201.1 bt201.2.1 bt201.2.2.1 bt201.2.2.2).bind fun t205 => (if (t205 != t200) = true then (some false) else (some true)))) = some r := H
      have A11 := Aside0.mk A110
      clear A110
      replace H := Option.bind_eq_some_iff.mp H
      obtain ⟨⟨t201, t202, t203, t204⟩, A120, H⟩ := H
      replace H : ((impl_Fits.f k a0 t201 t202 t203 t204).bind fun t205 => (if (t205 != t200) = true then (some false) else (some true))) = some r := H
      have A12 := Aside0.mk A120
      clear A120
      replace H := Option.bind_eq_some_iff.mp H
      obtain ⟨t205, A130, H⟩ := H
      replace H : (if (t205 != t200) = true then (some false) else (some true)) = some r := H
      have A13 := Aside0.mk A130
      clear A130
      by_cases c14 : (t205 != t200) = true
      · rw [if_pos c14] at H
        have c14b0 : (t205 != t200) = true := c14
        (try (have c14b1 : decide (t205 = t200) = false := by simpa using c14))
        (try (have c14b2 : (t205 == t200) = false := by simpa using c14))
        (try (have c14b3 : ¬ (t205 = t200) := by simpa using c14))
        clear c14
        obtain rfl := Option.some.inj H
        go_enter Tryd.func3, Tryd.ntmps3
        go_wp2_with (first | ((with_reducible refine gate_dst (N := 3) rfl ?_); refine box_event ?hg (N := 3) ?hd (cs := #[.int .i64 a1_0, .int .i64 a1_1, .int .i64 a1_2, .string a1_3]) (t := 23) ?hr ?_; (case hd => rfl); (case hg => rfl); (case hr => first | (go_simp; done) | (go_simp; rfl)); intro gb194 hg w15 hbox hb; have n0_ := Aside0.mk (below_step (by repeat (first | (with_reducible first | exact HB.out | apply below_alloc | apply pw_below_drewN | apply below_drew1) | exact HB.out)) hb); have n1_ := Aside0.mk (hbox); have n2_ := Aside0.mk ((by rw [hg]; exact (below_size (by repeat (first | (with_reducible first | exact HB.out | apply below_alloc | apply pw_below_drewN | apply below_drew1) | exact HB.out))) : w.heap.size ≤ gb194)); have n3_ := Aside0.mk ((by rw [hg]; exact (below_size (by repeat (first | (with_reducible first | exact HB.out | apply below_alloc | apply pw_below_drewN | apply below_drew1) | exact HB.out))) : w.heap.size ≤ gb194)); clear HB; have HB := n0_; have BK194 := n1_; have GW194 := n2_; have GE194 := n3_; clear n0_ n1_ n2_ n3_; clear hb hbox hg; have hcz16_0 : w15.cell? ⟨gb194, 0, none⟩ = some (.int .i64 a1_0) := (blk_cell BK194.out 0).trans rfl; have hcz16_1 : w15.cell? ⟨gb194, 1, none⟩ = some (.int .i64 a1_1) := (blk_cell BK194.out 1).trans rfl; have hcz16_2 : w15.cell? ⟨gb194, 2, none⟩ = some (.int .i64 a1_2) := (blk_cell BK194.out 2).trans rfl; have hcz16_3 : w15.cell? ⟨gb194, 3, none⟩ = some (.string a1_3) := (blk_cell BK194.out 3).trans rfl; have hfz16_0 := blk_frozen BK194.out 0; have hfz16_1 := blk_frozen BK194.out 1; have hfz16_2 := blk_frozen BK194.out 2; have hfz16_3 := blk_frozen BK194.out 3) | ((with_reducible refine gate_callee (f := 12) rfl ?_); refine goesL_ (some 13) rfl rfl Tryd.func12 (by kernel_rfl) rfl #[.agg #[.int .i64 a1_0, .int .i64 a1_1, .int .i64 a1_2, .string a1_3], .int .i64 1048576] rfl (by (try simp only [List.map_toArray, List.map_cons, List.map_nil]); first | done | rfl | (simp only [List.length_drop, List.length_take]; rfl)) ?_; (with_reducible refine (laws_szVersion.calls a1_0 a1_1 a1_2 a1_3 1048576 t195 _ A5.out).mono ?_); rintro e w17 ⟨rfl, hb⟩; refine ⟨_, rfl, ?_⟩; have n0_ := Aside0.mk (blk_below (g := gb194) (o := .cells #[.int .i64 a1_0, .int .i64 a1_1, .int .i64 a1_2, .string a1_3] 23 (0, 0)) (by (with_reducible repeat (first | refine blk_drewN ?_ _ | refine blk_drew ?_ | refine blk_alloc ?_ _)); exact BK194.out) hb); have n1_ := Aside0.mk (below_step (by repeat (first | (with_reducible first | exact HB.out | apply below_alloc | apply pw_below_drewN | apply below_drew1 | refine below_set ?_ GE194.out) | exact HB.out)) hb); clear BK194; clear HB; have BK194 := n0_; have HB := n1_; clear n0_ n1_; (try clear hb); (try clear hb2); (try clear hk); (try clear hi); have hcz18_0 : w17.cell? ⟨gb194, 0, none⟩ = some (.int .i64 a1_0) := (blk_cell BK194.out 0).trans rfl; have hcz18_1 : w17.cell? ⟨gb194, 1, none⟩ = some (.int .i64 a1_1) := (blk_cell BK194.out 1).trans rfl; have hcz18_2 : w17.cell? ⟨gb194, 2, none⟩ = some (.int .i64 a1_2) := (blk_cell BK194.out 2).trans rfl; have hcz18_3 : w17.cell? ⟨gb194, 3, none⟩ = some (.string a1_3) := (blk_cell BK194.out 3).trans rfl; have hfz18_0 := blk_frozen BK194.out 0; have hfz18_1 := blk_frozen BK194.out 1; have hfz18_2 := blk_frozen BK194.out 2; have hfz18_3 := blk_frozen BK194.out 3) | ((with_reducible refine gate_callee (f := 14) rfl ?_); refine goesL_ (some 18) rfl rfl Tryd.func14 (by kernel_rfl) rfl #[.agg #[.int .i64 a1_0, .int .i64 a1_1, .int .i64 a1_2, .string a1_3]] rfl (by (try simp only [List.map_toArray, List.map_cons, List.map_nil]); first | done | rfl | (simp only [List.length_drop, List.length_take]; rfl)) ?_; (with_reducible refine (laws_toVersion.calls a1_0 a1_1 a1_2 a1_3 t196 t197 t198 t199 _ A10.out).mono ?_); rintro e w19 ⟨rfl, hb⟩; refine ⟨_, rfl, ?_⟩; have n0_ := Aside0.mk (blk_below (g := gb194) (o := .cells #[.int .i64 a1_0, .int .i64 a1_1, .int .i64 a1_2, .string a1_3] 23 (0, 0)) (by (with_reducible repeat (first | refine blk_drewN ?_ _ | refine blk_drew ?_ | refine blk_alloc ?_ _)); exact BK194.out) hb); have n1_ := Aside0.mk (below_step (by repeat (first | (with_reducible first | exact HB.out | apply below_alloc | apply pw_below_drewN | apply below_drew1 | refine below_set ?_ GE194.out) | exact HB.out)) hb); clear BK194; clear HB; have BK194 := n0_; have HB := n1_; clear n0_ n1_; (try clear hb); (try clear hb2); (try clear hk); (try clear hi)) | ((with_reducible refine gate_callee (f := 13) rfl ?_); refine goesL_ (some 19) rfl rfl Tryd.func13 (by kernel_rfl) rfl #[.string a0, .agg #[.int .i64 t196, .int .i64 t197, .int .i64 t198, .string t199]] rfl (by (try simp only [List.map_toArray, List.map_cons, List.map_nil]); first | done | rfl | (simp only [List.length_drop, List.length_take]; rfl)) ?_; (with_reducible refine (spec_Fits.calls k a0 t196 t197 t198 t199 t200 _ A11.out).mono ?_); rintro e w20 ⟨rfl, hb⟩; refine ⟨_, rfl, ?_⟩; have n0_ := Aside0.mk (blk_below (g := gb194) (o := .cells #[.int .i64 a1_0, .int .i64 a1_1, .int .i64 a1_2, .string a1_3] 23 (0, 0)) (by (with_reducible repeat (first | refine blk_drewN ?_ _ | refine blk_drew ?_ | refine blk_alloc ?_ _)); exact BK194.out) hb); have n1_ := Aside0.mk (below_step (by repeat (first | (with_reducible first | exact HB.out | apply below_alloc | apply pw_below_drewN | apply below_drew1 | refine below_set ?_ GE194.out) | exact HB.out)) hb); clear BK194; clear HB; have BK194 := n0_; have HB := n1_; clear n0_ n1_; (try clear hb); (try clear hb2); (try clear hk); (try clear hi); have hcz21_0 : w20.cell? ⟨gb194, 0, none⟩ = some (.int .i64 a1_0) := (blk_cell BK194.out 0).trans rfl; have hcz21_1 : w20.cell? ⟨gb194, 1, none⟩ = some (.int .i64 a1_1) := (blk_cell BK194.out 1).trans rfl; have hcz21_2 : w20.cell? ⟨gb194, 2, none⟩ = some (.int .i64 a1_2) := (blk_cell BK194.out 2).trans rfl; have hcz21_3 : w20.cell? ⟨gb194, 3, none⟩ = some (.string a1_3) := (blk_cell BK194.out 3).trans rfl; have hfz21_0 := blk_frozen BK194.out 0; have hfz21_1 := blk_frozen BK194.out 1; have hfz21_2 := blk_frozen BK194.out 2; have hfz21_3 := blk_frozen BK194.out 3) | ((with_reducible refine gate_callee (f := 14) rfl ?_); refine goesL_ (some 22) rfl rfl Tryd.func14 (by kernel_rfl) rfl #[.agg #[.int .i64 a1_0, .int .i64 a1_1, .int .i64 a1_2, .string a1_3]] rfl (by (try simp only [List.map_toArray, List.map_cons, List.map_nil]); first | done | rfl | (simp only [List.length_drop, List.length_take]; rfl)) ?_; (with_reducible refine (laws_toVersion.calls a1_0 a1_1 a1_2 a1_3 t201 t202 t203 t204 _ A12.out).mono ?_); rintro e w22 ⟨rfl, hb⟩; refine ⟨_, rfl, ?_⟩; have n0_ := Aside0.mk (blk_below (g := gb194) (o := .cells #[.int .i64 a1_0, .int .i64 a1_1, .int .i64 a1_2, .string a1_3] 23 (0, 0)) (by (with_reducible repeat (first | refine blk_drewN ?_ _ | refine blk_drew ?_ | refine blk_alloc ?_ _)); exact BK194.out) hb); have n1_ := Aside0.mk (below_step (by repeat (first | (with_reducible first | exact HB.out | apply below_alloc | apply pw_below_drewN | apply below_drew1 | refine below_set ?_ GE194.out) | exact HB.out)) hb); clear BK194; clear HB; have BK194 := n0_; have HB := n1_; clear n0_ n1_; (try clear hb); (try clear hb2); (try clear hk); (try clear hi)) | ((with_reducible refine gate_callee (f := 15) rfl ?_); refine goesL_ (some 23) rfl rfl Tryd.func15 (by kernel_rfl) rfl #[.string a0, .agg #[.int .i64 t201, .int .i64 t202, .int .i64 t203, .string t204]] rfl (by (try simp only [List.map_toArray, List.map_cons, List.map_nil]); first | done | rfl | (simp only [List.length_drop, List.length_take]; rfl)) ?_; (with_reducible refine (impl_Fits.calls k a0 t201 t202 t203 t204 t205 _ A13.out).mono ?_); rintro e w23 ⟨rfl, hb⟩; refine ⟨_, rfl, ?_⟩; have n0_ := Aside0.mk (blk_below (g := gb194) (o := .cells #[.int .i64 a1_0, .int .i64 a1_1, .int .i64 a1_2, .string a1_3] 23 (0, 0)) (by (with_reducible repeat (first | refine blk_drewN ?_ _ | refine blk_drew ?_ | refine blk_alloc ?_ _)); exact BK194.out) hb); have n1_ := Aside0.mk (below_step (by repeat (first | (with_reducible first | exact HB.out | apply below_alloc | apply pw_below_drewN | apply below_drew1 | refine below_set ?_ GE194.out) | exact HB.out)) hb); clear BK194; clear HB; have BK194 := n0_; have HB := n1_; clear n0_ n1_; (try clear hb); (try clear hb2); (try clear hk); (try clear hi)))
        go_ret
        exact ⟨by first | rfl | (simp [errW_none, errW_some] <;> rfl) | (simp [*, errW_none, errW_some] <;> rfl), by repeat (first | (with_reducible first | exact HB.out | apply below_alloc | apply pw_below_drewN | apply below_drew1 | refine below_set ?_ GE194.out) | exact HB.out)⟩
      · rw [if_neg c14] at H
        have c14b0 : (t205 != t200) = false := by simpa using c14
        (try (have c14b1 : decide (t205 = t200) = true := by simpa using c14))
        (try (have c14b2 : (t205 == t200) = true := by simpa using c14))
        clear c14
        obtain rfl := Option.some.inj H
        go_enter Tryd.func3, Tryd.ntmps3
        go_wp2_with (first | ((with_reducible refine gate_dst (N := 3) rfl ?_); refine box_event ?hg (N := 3) ?hd (cs := #[.int .i64 a1_0, .int .i64 a1_1, .int .i64 a1_2, .string a1_3]) (t := 23) ?hr ?_; (case hd => rfl); (case hg => rfl); (case hr => first | (go_simp; done) | (go_simp; rfl)); intro gb194 hg w24 hbox hb; have n0_ := Aside0.mk (below_step (by repeat (first | (with_reducible first | exact HB.out | apply below_alloc | apply pw_below_drewN | apply below_drew1) | exact HB.out)) hb); have n1_ := Aside0.mk (hbox); have n2_ := Aside0.mk ((by rw [hg]; exact (below_size (by repeat (first | (with_reducible first | exact HB.out | apply below_alloc | apply pw_below_drewN | apply below_drew1) | exact HB.out))) : w.heap.size ≤ gb194)); have n3_ := Aside0.mk ((by rw [hg]; exact (below_size (by repeat (first | (with_reducible first | exact HB.out | apply below_alloc | apply pw_below_drewN | apply below_drew1) | exact HB.out))) : w.heap.size ≤ gb194)); clear HB; have HB := n0_; have BK194 := n1_; have GW194 := n2_; have GE194 := n3_; clear n0_ n1_ n2_ n3_; clear hb hbox hg; have hcz25_0 : w24.cell? ⟨gb194, 0, none⟩ = some (.int .i64 a1_0) := (blk_cell BK194.out 0).trans rfl; have hcz25_1 : w24.cell? ⟨gb194, 1, none⟩ = some (.int .i64 a1_1) := (blk_cell BK194.out 1).trans rfl; have hcz25_2 : w24.cell? ⟨gb194, 2, none⟩ = some (.int .i64 a1_2) := (blk_cell BK194.out 2).trans rfl; have hcz25_3 : w24.cell? ⟨gb194, 3, none⟩ = some (.string a1_3) := (blk_cell BK194.out 3).trans rfl; have hfz25_0 := blk_frozen BK194.out 0; have hfz25_1 := blk_frozen BK194.out 1; have hfz25_2 := blk_frozen BK194.out 2; have hfz25_3 := blk_frozen BK194.out 3) | ((with_reducible refine gate_callee (f := 12) rfl ?_); refine goesL_ (some 13) rfl rfl Tryd.func12 (by kernel_rfl) rfl #[.agg #[.int .i64 a1_0, .int .i64 a1_1, .int .i64 a1_2, .string a1_3], .int .i64 1048576] rfl (by (try simp only [List.map_toArray, List.map_cons, List.map_nil]); first | done | rfl | (simp only [List.length_drop, List.length_take]; rfl)) ?_; (with_reducible refine (laws_szVersion.calls a1_0 a1_1 a1_2 a1_3 1048576 t195 _ A5.out).mono ?_); rintro e w26 ⟨rfl, hb⟩; refine ⟨_, rfl, ?_⟩; have n0_ := Aside0.mk (blk_below (g := gb194) (o := .cells #[.int .i64 a1_0, .int .i64 a1_1, .int .i64 a1_2, .string a1_3] 23 (0, 0)) (by (with_reducible repeat (first | refine blk_drewN ?_ _ | refine blk_drew ?_ | refine blk_alloc ?_ _)); exact BK194.out) hb); have n1_ := Aside0.mk (below_step (by repeat (first | (with_reducible first | exact HB.out | apply below_alloc | apply pw_below_drewN | apply below_drew1 | refine below_set ?_ GE194.out) | exact HB.out)) hb); clear BK194; clear HB; have BK194 := n0_; have HB := n1_; clear n0_ n1_; (try clear hb); (try clear hb2); (try clear hk); (try clear hi); have hcz27_0 : w26.cell? ⟨gb194, 0, none⟩ = some (.int .i64 a1_0) := (blk_cell BK194.out 0).trans rfl; have hcz27_1 : w26.cell? ⟨gb194, 1, none⟩ = some (.int .i64 a1_1) := (blk_cell BK194.out 1).trans rfl; have hcz27_2 : w26.cell? ⟨gb194, 2, none⟩ = some (.int .i64 a1_2) := (blk_cell BK194.out 2).trans rfl; have hcz27_3 : w26.cell? ⟨gb194, 3, none⟩ = some (.string a1_3) := (blk_cell BK194.out 3).trans rfl; have hfz27_0 := blk_frozen BK194.out 0; have hfz27_1 := blk_frozen BK194.out 1; have hfz27_2 := blk_frozen BK194.out 2; have hfz27_3 := blk_frozen BK194.out 3) | ((with_reducible refine gate_callee (f := 14) rfl ?_); refine goesL_ (some 18) rfl rfl Tryd.func14 (by kernel_rfl) rfl #[.agg #[.int .i64 a1_0, .int .i64 a1_1, .int .i64 a1_2, .string a1_3]] rfl (by (try simp only [List.map_toArray, List.map_cons, List.map_nil]); first | done | rfl | (simp only [List.length_drop, List.length_take]; rfl)) ?_; (with_reducible refine (laws_toVersion.calls a1_0 a1_1 a1_2 a1_3 t196 t197 t198 t199 _ A10.out).mono ?_); rintro e w28 ⟨rfl, hb⟩; refine ⟨_, rfl, ?_⟩; have n0_ := Aside0.mk (blk_below (g := gb194) (o := .cells #[.int .i64 a1_0, .int .i64 a1_1, .int .i64 a1_2, .string a1_3] 23 (0, 0)) (by (with_reducible repeat (first | refine blk_drewN ?_ _ | refine blk_drew ?_ | refine blk_alloc ?_ _)); exact BK194.out) hb); have n1_ := Aside0.mk (below_step (by repeat (first | (with_reducible first | exact HB.out | apply below_alloc | apply pw_below_drewN | apply below_drew1 | refine below_set ?_ GE194.out) | exact HB.out)) hb); clear BK194; clear HB; have BK194 := n0_; have HB := n1_; clear n0_ n1_; (try clear hb); (try clear hb2); (try clear hk); (try clear hi)) | ((with_reducible refine gate_callee (f := 13) rfl ?_); refine goesL_ (some 19) rfl rfl Tryd.func13 (by kernel_rfl) rfl #[.string a0, .agg #[.int .i64 t196, .int .i64 t197, .int .i64 t198, .string t199]] rfl (by (try simp only [List.map_toArray, List.map_cons, List.map_nil]); first | done | rfl | (simp only [List.length_drop, List.length_take]; rfl)) ?_; (with_reducible refine (spec_Fits.calls k a0 t196 t197 t198 t199 t200 _ A11.out).mono ?_); rintro e w29 ⟨rfl, hb⟩; refine ⟨_, rfl, ?_⟩; have n0_ := Aside0.mk (blk_below (g := gb194) (o := .cells #[.int .i64 a1_0, .int .i64 a1_1, .int .i64 a1_2, .string a1_3] 23 (0, 0)) (by (with_reducible repeat (first | refine blk_drewN ?_ _ | refine blk_drew ?_ | refine blk_alloc ?_ _)); exact BK194.out) hb); have n1_ := Aside0.mk (below_step (by repeat (first | (with_reducible first | exact HB.out | apply below_alloc | apply pw_below_drewN | apply below_drew1 | refine below_set ?_ GE194.out) | exact HB.out)) hb); clear BK194; clear HB; have BK194 := n0_; have HB := n1_; clear n0_ n1_; (try clear hb); (try clear hb2); (try clear hk); (try clear hi); have hcz30_0 : w29.cell? ⟨gb194, 0, none⟩ = some (.int .i64 a1_0) := (blk_cell BK194.out 0).trans rfl; have hcz30_1 : w29.cell? ⟨gb194, 1, none⟩ = some (.int .i64 a1_1) := (blk_cell BK194.out 1).trans rfl; have hcz30_2 : w29.cell? ⟨gb194, 2, none⟩ = some (.int .i64 a1_2) := (blk_cell BK194.out 2).trans rfl; have hcz30_3 : w29.cell? ⟨gb194, 3, none⟩ = some (.string a1_3) := (blk_cell BK194.out 3).trans rfl; have hfz30_0 := blk_frozen BK194.out 0; have hfz30_1 := blk_frozen BK194.out 1; have hfz30_2 := blk_frozen BK194.out 2; have hfz30_3 := blk_frozen BK194.out 3) | ((with_reducible refine gate_callee (f := 14) rfl ?_); refine goesL_ (some 22) rfl rfl Tryd.func14 (by kernel_rfl) rfl #[.agg #[.int .i64 a1_0, .int .i64 a1_1, .int .i64 a1_2, .string a1_3]] rfl (by (try simp only [List.map_toArray, List.map_cons, List.map_nil]); first | done | rfl | (simp only [List.length_drop, List.length_take]; rfl)) ?_; (with_reducible refine (laws_toVersion.calls a1_0 a1_1 a1_2 a1_3 t201 t202 t203 t204 _ A12.out).mono ?_); rintro e w31 ⟨rfl, hb⟩; refine ⟨_, rfl, ?_⟩; have n0_ := Aside0.mk (blk_below (g := gb194) (o := .cells #[.int .i64 a1_0, .int .i64 a1_1, .int .i64 a1_2, .string a1_3] 23 (0, 0)) (by (with_reducible repeat (first | refine blk_drewN ?_ _ | refine blk_drew ?_ | refine blk_alloc ?_ _)); exact BK194.out) hb); have n1_ := Aside0.mk (below_step (by repeat (first | (with_reducible first | exact HB.out | apply below_alloc | apply pw_below_drewN | apply below_drew1 | refine below_set ?_ GE194.out) | exact HB.out)) hb); clear BK194; clear HB; have BK194 := n0_; have HB := n1_; clear n0_ n1_; (try clear hb); (try clear hb2); (try clear hk); (try clear hi)) | ((with_reducible refine gate_callee (f := 15) rfl ?_); refine goesL_ (some 23) rfl rfl Tryd.func15 (by kernel_rfl) rfl #[.string a0, .agg #[.int .i64 t201, .int .i64 t202, .int .i64 t203, .string t204]] rfl (by (try simp only [List.map_toArray, List.map_cons, List.map_nil]); first | done | rfl | (simp only [List.length_drop, List.length_take]; rfl)) ?_; (with_reducible refine (impl_Fits.calls k a0 t201 t202 t203 t204 t205 _ A13.out).mono ?_); rintro e w32 ⟨rfl, hb⟩; refine ⟨_, rfl, ?_⟩; have n0_ := Aside0.mk (blk_below (g := gb194) (o := .cells #[.int .i64 a1_0, .int .i64 a1_1, .int .i64 a1_2, .string a1_3] 23 (0, 0)) (by (with_reducible repeat (first | refine blk_drewN ?_ _ | refine blk_drew ?_ | refine blk_alloc ?_ _)); exact BK194.out) hb); have n1_ := Aside0.mk (below_step (by repeat (first | (with_reducible first | exact HB.out | apply below_alloc | apply pw_below_drewN | apply below_drew1 | refine below_set ?_ GE194.out) | exact HB.out)) hb); clear BK194; clear HB; have BK194 := n0_; have HB := n1_; clear n0_ n1_; (try clear hb); (try clear hb2); (try clear hk); (try clear hi)))
        go_ret
        exact ⟨by first | rfl | (simp [errW_none, errW_some] <;> rfl) | (simp [*, errW_none, errW_some] <;> rfl), by repeat (first | (with_reducible first | exact HB.out | apply below_alloc | apply pw_below_drewN | apply below_drew1 | refine below_set ?_ GE194.out) | exact HB.out)⟩

/-- THE ONE PURE STATEMENT of laws_FnExactFits: yours. -/
def laws_FnExactFits.Pure : Prop := ∀ (a0 : ByteArray) (a1_0 : Int) (a1_1 : Int) (a1_2 : Int) (a1_3 : ByteArray), a0.size ≤ 140737488351232 → (((Lit.int .i64 a1_0).wf = true) ∧ ((Lit.int .i64 a1_1).wf = true) ∧ ((Lit.int .i64 a1_2).wf = true) ∧ a1_3.size ≤ maxLen) → ∃ k, laws_FnExactFits.f k a0 a1_0 a1_1 a1_2 a1_3 = some true
theorem laws_FnExactFits.walk (P : laws_FnExactFits.Pure) (a0 : ByteArray) (a1_0 : Int) (a1_1 : Int) (a1_2 : Int) (a1_3 : ByteArray) (w : World) (w0 : a0.size ≤ 140737488351232)  (hg1 : ((Lit.int .i64 a1_0).wf = true) ∧ ((Lit.int .i64 a1_1).wf = true) ∧ ((Lit.int .i64 a1_2).wf = true) ∧ a1_3.size ≤ maxLen) :
    Calls Tryd.prog 3 #[.string a0, .agg #[.int .i64 a1_0, .int .i64 a1_1, .int .i64 a1_2, .string a1_3]] w fun e w' => e = .returned (.bool true) ∧ Below w.heap.size w w' := by
  obtain ⟨k, h⟩ := P a0 a1_0 a1_1 a1_2 a1_3 w0 hg1
  refine (laws_FnExactFits.calls k a0 a1_0 a1_1 a1_2 a1_3 true w h).mono ?_
  rintro e w' ⟨rfl, hd⟩
  exact ⟨rfl, hd⟩

end Go.Proofs.YtkofdkinaahbpaaDoor.X

/- Plain lemmas for what the printed functions compute: enough rounds ('Ev'), tests, bounds of whole numbers, lists. No Go, no memory. -/
set_option linter.unusedVariables false
namespace Go.Proofs.YtkofdkinaahbpaaDoor.Z
open Go.RowKit Go.Proofs.YtkofdkinaahbpaaDoorW.PrintWords Go.Proofs.YtkofdkinaahbpaaDoorW.PrintMore

theorem evT {α : Type} {c : Prop} [Decidable c] {f g : Nat → Option α} {r : α} (h : c) (H : Ev f r) : Ev (fun k => if c then f k else g k) r := by
  obtain ⟨K, hK⟩ := H
  exact ⟨K, fun k hk => (if_pos h).trans (hK k hk)⟩
theorem evF {α : Type} {c : Prop} [Decidable c] {f g : Nat → Option α} {r : α} (h : ¬ c) (H : Ev g r) : Ev (fun k => if c then f k else g k) r := by
  obtain ⟨K, hK⟩ := H
  exact ⟨K, fun k hk => (if_neg h).trans (hK k hk)⟩
theorem evI {α : Type} {c : Prop} [Decidable c] {f g : Nat → Option α} {r : α} (H : c → Ev f r) (H' : ¬ c → Ev g r) : Ev (fun k => if c then f k else g k) r := by
  by_cases h : c
  · exact evT h (H h)
  · exact evF h (H' h)
theorem evB {α β : Type} {g : Nat → Option α} {f : Nat → α → Option β} {a : α} {r : β} (h : Ev g a) (k : Ev (fun n => f n a) r) : Ev (fun n => (g n).bind (f n)) r := Ev.bind h k
theorem evR {α : Type} {r r' : α} (h : r = r') : Ev (fun _ => some r) r' := h ▸ Ev.now r
/-- A callee without rounds. -/
theorem evC {α β : Type} {x : Option α} {f : Nat → α → Option β} {a : α} {r : β} (h : x = some a) (k : Ev (fun n => f n a) r) : Ev (fun n => x.bind (f n)) r := by
  subst h
  exact k
theorem evS {α : Type} {g f : Nat → Option α} {r : α} (h : ∀ k, g (k + 1) = f k) (k : Ev f r) : Ev g r := Ev.step h k
theorem evE {α : Type} {g : Nat → Option α} {r r' : α} (h : r = r') (k : Ev g r) : Ev g r' := h ▸ k
/-- Two answers of one function are one. -/
theorem ev_one {α : Type} {g : Nat → Option α} {r r' : α} (h : Ev g r) (h' : Ev g r') : r = r' := by
  obtain ⟨K, hK⟩ := h
  obtain ⟨L, hL⟩ := h'
  have a := hK (max K L) (Nat.le_max_left _ _)
  have b := hL (max K L) (Nat.le_max_right _ _)
  rw [a] at b
  exact Option.some.inj b

theorem w64 {x : Int} (h : -9223372036854775808 ≤ x ∧ x ≤ 9223372036854775807) : wrap64 x = x := by unfold wrap64; omega
theorem w64s {i n : Nat} (h : i < n) (hn : n ≤ 9223372036854775807) : wrap64 ((i : Int) + 1) = ((i + 1 : Nat) : Int) := by unfold wrap64; omega
theorem wu64 {x : Int} (h : 0 ≤ x ∧ x ≤ 18446744073709551615) : IntKind.u64.wrap x = x := by
  simp [IntKind.wrap, IntKind.bits, IntKind.signed]
  omega
theorem wi64 (x : Int) : IntKind.i64.wrap x = wrap64 x := by rw [Go.IntKind.wrap_i64]; unfold wrap64; rfl
theorem wraps_i64 (n : Int) (h₀ : 0 ≤ n) (h₁ : n < 2 ^ 63) : IntKind.i64.wrap n = n := by
  rw [wi64, w64]
  have : (2 : Int) ^ 63 = 9223372036854775808 := by decide
  omega

/-- Two lists that tell the same at each place. -/
theorem ext_get {α : Type} {l m : List α} (hn : l.length = m.length) (h : ∀ j, j < m.length → l[j]? = m[j]?) : l = m := by
  apply List.ext_getElem?
  intro j
  rcases Nat.lt_or_ge j m.length with hj | hj
  · exact h j hj
  · rw [List.getElem?_eq_none (by omega), List.getElem?_eq_none (by omega)]
theorem rd_get {l : List Int} {i : Nat} (h : i < l.length) : l[i]? = some (rd l (i : Int)) := by
  simp [rd, List.getElem?_eq_getElem h]
theorem rdOf_get {α : Type} {d : α} {l : List α} {i : Nat} (h : i < l.length) : l[i]? = some (rdOf d l (i : Int)) := by
  simp [rdOf, List.getElem?_eq_getElem h]
/-- A place that is written as it must be: one more place tells the same. -/
theorem set_next {α : Type} {l m : List α} {i : Nat} {x : α} (hn : l.length = m.length) (hi : i < m.length) (hx : m[i]? = some x) (h : ∀ j, j < i → l[j]? = m[j]?) : ∀ j, j < i + 1 → (l.set i x)[j]? = m[j]? := by
  intro j hj
  rcases Nat.lt_or_ge j i with h1 | h1
  · rw [List.getElem?_set_ne (by omega)]
    exact h j h1
  · obtain rfl : i = j := by omega
    rw [List.getElem?_set_self (by omega), hx]
end Go.Proofs.YtkofdkinaahbpaaDoor.Z

/- Strings as lists of bytes. No Go, no memory. -/
set_option linter.unusedVariables false
namespace Go.Proofs.YtkofdkinaahbpaaDoor.Z
open Go.RowKit Go.Proofs.YtkofdkinaahbpaaDoorW.PrintWords Go.Proofs.YtkofdkinaahbpaaDoorW.PrintMore
theorem tl_loop (a : ByteArray) (d : Nat) : ∀ i r, a.size = i + d → ByteArray.toList.loop a i r = r.reverse ++ a.data.toList.drop i := by
  have h2 := data_length a
  induction d with
  | zero =>
    intro i r h
    unfold ByteArray.toList.loop
    rw [if_neg (by omega), List.drop_eq_nil_of_le (by omega), List.append_nil]
  | succ d ih =>
    intro i r h
    unfold ByteArray.toList.loop
    rw [if_pos (by omega), ih (i + 1) _ (by omega)]
    have hi : i < a.data.size := by
      have : a.data.size = a.size := rfl
      omega
    rw [List.drop_eq_getElem_cons (i := i) (by simpa using hi)]
    simp [ByteArray.get!]
    exact getElem!_pos a.data i hi
theorem tl (a : ByteArray) : a.toList = a.data.toList := by
  unfold ByteArray.toList
  rw [tl_loop a a.size 0 [] (by omega)]
  simp
theorem tl_inj {a b : ByteArray} : a.toList = b.toList ↔ a = b := by
  constructor
  · intro h
    rw [tl, tl] at h
    have h1 : a.data = b.data := Array.toList_inj.1 h
    cases a
    cases b
    simp_all
  · rintro rfl
    rfl

end Go.Proofs.YtkofdkinaahbpaaDoor.Z

/- Ranges, the program's and the reference's: the same. Plain lemmas. -/
set_option linter.unusedVariables false
namespace Go.Proofs.YtkofdkinaahbpaaDoor.Z
open Go.RowKit Go.Proofs.YtkofdkinaahbpaaDoorW.PrintWords Go.Proofs.YtkofdkinaahbpaaDoorW.PrintMore Go.Proofs.YtkofdkinaahbpaaDoor.X
theorem rng_impl (a b c : Int) : impl_inRange.f a b c = some (decide (b ≤ a ∧ a ≤ c)) := by
  unfold impl_inRange.f
  by_cases h : a ≥ b
  · rw [if_pos h]
    simp [show b ≤ a from h]
  · rw [if_neg h]
    simp [show ¬ b ≤ a from h]
theorem rng_spec (a b c : Int) : spec_l1In.f a b c = some (decide (b ≤ a ∧ a ≤ c)) := by
  unfold spec_l1In.f
  by_cases h : a ≥ b
  · rw [if_pos h]
    simp [show b ≤ a from h]
  · rw [if_neg h]
    simp [show ¬ b ≤ a from h]
end Go.Proofs.YtkofdkinaahbpaaDoor.Z

/- A text's pieces, the reference's: those between the bytes. Plain lemmas. -/
set_option linter.unusedVariables false
namespace Go.Proofs.YtkofdkinaahbpaaDoor.Z
open Go.RowKit Go.Proofs.YtkofdkinaahbpaaDoorW.PrintWords Go.Proofs.YtkofdkinaahbpaaDoorW.PrintMore Go.Proofs.YtkofdkinaahbpaaDoor.X Go.Proofs.YtkofdkinaahbpaaDoor.Sp
theorem byte_at (s : ByteArray) (i : Nat) (h : i < s.size) : bt s (i : Int) = ((s.data.toList[i]'(by rw [data_length]; exact h)).toNat : Int) := by
  have := rd_bytesOf s (i : Int)
  rw [← this]
  unfold rd bytesOf
  simp [List.getD_eq_getElem?_getD, h]
theorem ext_list (s : ByteArray) (f i : Nat) : s.extract f i = ⟨((s.data.toList.drop f).take (i - f)).toArray⟩ := by
  have h : (s.extract f i).data.toList = (s.data.toList.drop f).take (i - f) := by
    simp [ByteArray.data_extract, List.extract_eq_take_drop]
  cases hx : s.extract f i with
  | mk d =>
    rw [hx] at h
    congr 1
    rw [← h]
/-- The pieces, bytes more ahead of the first. -/
def pcsF (pre : List UInt8) (c : UInt8) (l : List UInt8) : List (List UInt8) :=
  match pcs c l with
  | [] => [pre]
  | h :: t => (pre ++ h) :: t
theorem pcs_ne (c : UInt8) (l : List UInt8) : pcs c l ≠ [] := fun h => by
  have := pcs_length c l
  rw [h] at this
  simp at this
theorem pcsF_nil (c : UInt8) (l : List UInt8) : pcsF [] c l = pcs c l := by
  unfold pcsF
  cases h : pcs c l with
  | nil => exact absurd h (pcs_ne c l)
  | cons a t => rfl
theorem pcsF_eq (pre : List UInt8) (c : UInt8) (l : List UInt8) : pcsF pre c (c :: l) = pre :: pcsF [] c l := by
  rw [pcsF_nil]
  unfold pcsF
  rw [pcs, if_pos rfl]
  simp
theorem pcsF_ne (pre : List UInt8) (b c : UInt8) (l : List UInt8) (h : b ≠ c) : pcsF pre c (b :: l) = pcsF (pre ++ [b]) c l := by
  unfold pcsF
  rw [pcs, if_neg h]
  cases hp : pcs c l with
  | nil => exact absurd hp (pcs_ne c l)
  | cons a t => simp [onto]
theorem pcsF_end (pre : List UInt8) (c : UInt8) : pcsF pre c [] = [pre] := by simp [pcsF, pcs]
def toB (l : List UInt8) : ByteArray := ⟨l.toArray⟩
theorem split_l0 (s : ByteArray) (hs : s.size ≤ 1048576) (c : UInt8) (d : Nat) : ∀ (i f : Nat) (out : List ByteArray), i + d = s.size → f ≤ i → out.length + d ≤ 1048577 →
    Ev (fun k => spec_l3Split.l0 k s (c.toNat : Int) out (f : Int) (i : Int)) (out ++ (pcsF ((s.data.toList.drop f).take (i - f)) c (s.data.toList.drop i)).map toB) := by
  induction d with
  | zero =>
    intro i f out hi hf ho
    rw [List.drop_eq_nil_of_le (show s.data.toList.length ≤ i by rw [data_length]; omega), pcsF_end]
    refine evS (fun k => by rw [spec_l3Split.l0]) ?_
    rw [w64s (show i < 1048577 by omega) (by omega), show ((f : Nat) : Int).toNat = f by omega, show ((i : Nat) : Int).toNat = i by omega, ext_list]
    refine evT (by omega) (evT (by omega) (evT (by omega) (evT (by omega) (evT (by omega) ?_))))
    refine evS (fun k => by rw [spec_l3Split.l0]) ?_
    exact evF (by omega) (evR rfl)
  | succ d ih =>
    intro i f out hi hf ho
    have hl : i < s.data.toList.length := by rw [data_length]; omega
    have hb := byte_at s i (by omega)
    rw [List.drop_eq_getElem_cons hl]
    refine evS (fun k => by rw [spec_l3Split.l0]) ?_
    rw [w64s (show i < 1048577 by omega) (by omega), show ((f : Nat) : Int).toNat = f by omega, show ((i : Nat) : Int).toNat = i by omega, hb, ext_list]
    refine evT (by omega) (evF (by omega) (evT (by omega) (evT (by omega) ?_)))
    by_cases hc : s.data.toList[i] = c
    · refine evT (by rw [hc]) (evT (by omega) (evT (by omega) (evT (by omega) ?_)))
      refine evE ?_ (ih (i + 1) (i + 1) _ (by omega) (Nat.le_refl _) (by simp; omega))
      rw [hc, pcsF_eq, Nat.sub_self, List.take_zero]
      simp [toB]
    · refine evF (fun e => hc (UInt8.toNat_inj.1 (by omega))) ?_
      refine evE ?_ (ih (i + 1) f out (by omega) (by omega) (by omega))
      rw [pcsF_ne _ _ _ _ hc]
      congr 3
      have hl2 : i - f < (s.data.toList.drop f).length := by rw [List.length_drop]; omega
      rw [show i + 1 - f = (i - f) + 1 by omega, List.take_succ_eq_append_getElem hl2]
      congr 2
      rw [List.getElem_drop]
      congr 1
      omega
theorem split_spec (s : ByteArray) (hs : s.size ≤ 1048576) (c : UInt8) : Ev (fun k => spec_l3Split.f k s (c.toNat : Int)) (pieces c s) := by
  have h := split_l0 s hs c s.size 0 0 [] (by omega) (Nat.le_refl _) (by simp; omega)
  rw [Nat.sub_self, List.take_zero, List.drop_zero, pcsF_nil, List.nil_append] at h
  exact h
theorem pcs_mem (c : UInt8) : ∀ (l : List UInt8) (x : List UInt8), x ∈ pcs c l → x.length ≤ l.length
  | [], x, h => by simp [pcs] at h; simp [h]
  | b :: l, x, h => by
    have ih := pcs_mem c l
    rw [pcs] at h
    split at h
    · rcases List.mem_cons.1 h with rfl | h
      · simp
      · have := ih x h; simp; omega
    · cases hp : pcs c l with
      | nil => exact absurd hp (pcs_ne c l)
      | cons a t =>
        rw [hp] at h
        rcases List.mem_cons.1 h with rfl | h
        · have := ih a (by rw [hp]; exact List.mem_cons_self); simp; omega
        · have := ih x (by rw [hp]; exact List.mem_cons_of_mem _ h); simp; omega
theorem pieces_mem (c : UInt8) (s : ByteArray) : ∀ x ∈ pieces c s, x.size ≤ s.size := by
  intro x hx
  obtain ⟨l, hl, rfl⟩ := List.mem_map.1 hx
  have := pcs_mem c _ l hl
  rw [data_length] at this
  show l.toArray.size ≤ _
  simpa using this
theorem pieces_count (c : UInt8) (s : ByteArray) : (pieces c s).length ≤ s.size + 1 := by
  rw [pieces, List.length_map, pcs_length]
  have := List.count_le_length (a := c) (l := s.data.toList)
  rw [data_length] at this
  omega
theorem rdOf_mem {l : List ByteArray} {i : Nat} (h : i < l.length) : rdOf ByteArray.empty l (i : Int) ∈ l := List.mem_of_getElem? (rdOf_get (d := ByteArray.empty) h)
end Go.Proofs.YtkofdkinaahbpaaDoor.Z

/- Numbers in versions, the program's and the reference's. Plain lemmas. -/
set_option linter.unusedVariables false
namespace Go.Proofs.YtkofdkinaahbpaaDoor.Z
open Go.RowKit Go.Proofs.YtkofdkinaahbpaaDoorW.PrintWords Go.Proofs.YtkofdkinaahbpaaDoorW.PrintMore Go.Proofs.YtkofdkinaahbpaaDoor.X Go.Proofs.YtkofdkinaahbpaaDoor.Sp
def isD (u : UInt8) : Bool := decide (48 ≤ u.toNat ∧ u.toNat ≤ 57)
def figs (s : ByteArray) : Bool := s.data.toList.all isD && decide (s.size ≠ 0)
theorem figure_ev (b : Int) : impl_isFigure.f b = some (decide (48 ≤ b ∧ b ≤ 57)) := by
  unfold impl_isFigure.f
  by_cases h : b ≥ 48
  · rw [if_pos h]
    simp [show 48 ≤ b from h]
  · rw [if_neg h]
    simp [show ¬ 48 ≤ b from h]
theorem ne_nil (s : ByteArray) : (s.toList != ([] : List UInt8)) = decide (s.size ≠ 0) := by
  rw [tl]
  have := data_length s
  by_cases h : s.size = 0
  · rw [List.eq_nil_of_length_eq_zero (show s.data.toList.length = 0 by omega)]
    simp [h]
  · have h1 : s.data.toList ≠ [] := fun e => by rw [e] at this; simp at this; omega
    simp [h1, h]
theorem figs_l0 (s : ByteArray) (hs : s.size ≤ 1048576) (d : Nat) : ∀ i : Nat, i + d = s.size → Ev (fun k => impl_isFigures.l0 k s (i : Int)) ((s.data.toList.drop i).all isD && decide (s.size ≠ 0)) ∧ Ev (fun k => spec_l3Digits.l0 k s (i : Int)) ((s.data.toList.drop i).all isD && decide (s.size ≠ 0)) := by
  induction d with
  | zero =>
    intro i hi
    rw [List.drop_eq_nil_of_le (show s.data.toList.length ≤ i by rw [data_length]; omega)]
    constructor
    · refine evS (fun k => by rw [impl_isFigures.l0]) ?_
      exact evF (by omega) (evR (by rw [ne_nil]; rfl))
    · refine evS (fun k => by rw [spec_l3Digits.l0]) ?_
      exact evF (by omega) (evR (by rw [ne_nil]; rfl))
  | succ d ih =>
    intro i hi
    have hl : i < s.data.toList.length := by rw [data_length]; omega
    have hb := byte_at s i (by omega)
    have hlt : (s.data.toList[i]).toNat < 256 := UInt8.toNat_lt _
    have hw : wrap64 (((s.data.toList[i]).toNat : Nat) : Int) = (((s.data.toList[i]).toNat : Nat) : Int) := w64 (by omega)
    obtain ⟨h1, h2⟩ := ih (i + 1) (by omega)
    have he : (s.data.toList.drop i).all isD = (isD s.data.toList[i] && (s.data.toList.drop (i + 1)).all isD) := by
      rw [List.drop_eq_getElem_cons hl]
      rfl
    have hd : decide (48 ≤ (((s.data.toList[i]).toNat : Nat) : Int) ∧ (((s.data.toList[i]).toNat : Nat) : Int) ≤ 57) = isD s.data.toList[i] := by
      unfold isD
      exact decide_eq_decide.2 (by omega)
    rw [he]
    constructor
    · refine evS (fun k => by rw [impl_isFigures.l0]) ?_
      rw [hb, w64s (show i < s.size by omega) (by omega)]
      refine evT (by omega) (evT (by omega) (evC (figure_ev _) ?_))
      rw [hd]
      cases hx : isD s.data.toList[i] with
      | true => exact evT rfl (by simpa using h1)
      | false => exact evF Bool.false_ne_true (evR rfl)
    · refine evS (fun k => by rw [spec_l3Digits.l0]) ?_
      rw [hb, hw, w64s (show i < s.size by omega) (by omega)]
      refine evT (by omega) (evT (by omega) (evC (rng_spec _ _ _) ?_))
      rw [hd]
      cases hx : isD s.data.toList[i] with
      | true => exact evT rfl (by simpa using h2)
      | false => exact evF Bool.false_ne_true (evR rfl)
theorem figs_impl (s : ByteArray) (hs : s.size ≤ 1048576) : Ev (fun k => impl_isFigures.f k s) (figs s) := (figs_l0 s hs s.size 0 (by omega)).1
theorem figs_spec (s : ByteArray) (hs : s.size ≤ 1048576) : Ev (fun k => spec_l3Digits.f k s) (figs s) := (figs_l0 s hs s.size 0 (by omega)).2
def num (s : ByteArray) : Bool := figs s && (decide (s.data.toList = [48]) || decide (bt s 0 ≠ 48))
theorem figs_size {s : ByteArray} (h : figs s = true) : 0 < s.size := by
  simp only [figs, Bool.and_eq_true, decide_eq_true_eq] at h
  have := h.2
  omega
theorem num_impl (s : ByteArray) (hs : s.size ≤ 1048576) : Ev (fun k => impl_isNumber.f k s) (num s) := by
  unfold impl_isNumber.f num
  refine evB (figs_impl s hs) ?_
  cases hf : figs s with
  | false => exact evF Bool.false_ne_true (evR rfl)
  | true =>
    have := figs_size hf
    refine evT rfl ?_
    by_cases h : s.data.toList = [48]
    · exact evT (by rw [tl]; exact h) (evR (by simp [h]))
    · refine evF (by rw [tl]; exact h) (evT (by omega) (evR ?_))
      simp [h, bne, decide_not]
      by_cases hb : bt s 0 = 48
      · simp [hb]
      · simp [hb]
def digit (b : UInt8) : Nat := b.toNat - 48
def valA (a : Nat) (l : List UInt8) : Nat := l.foldl (fun n b => n * 10 + digit b) a
theorem valA_nil (a : Nat) : valA a [] = a := rfl
theorem valA_cons (a : Nat) (b : UInt8) (l : List UInt8) : valA a (b :: l) = valA (a * 10 + digit b) l := by unfold valA; rw [List.foldl_cons]
def val (l : List UInt8) : Nat := valA 0 l
theorem valA_eq (l : List UInt8) : ∀ a : Nat, valA a l = a * 10 ^ l.length + valA 0 l := by
  induction l with
  | nil => intro a; simp [valA_nil]
  | cons b l ih =>
    intro a
    rw [valA_cons, ih, valA_cons, ih (0 * 10 + digit b), List.length_cons, Nat.pow_succ, Nat.add_mul, Nat.zero_mul, Nat.zero_add, Nat.mul_assoc, Nat.mul_comm 10, Nat.add_assoc]
theorem val_cons (b : UInt8) (l : List UInt8) : val (b :: l) = digit b * 10 ^ l.length + val l := by
  unfold val
  rw [valA_cons, valA_eq, Nat.zero_mul, Nat.zero_add]
theorem isD_iff (u : UInt8) : isD u = true ↔ 48 ≤ u.toNat ∧ u.toNat ≤ 57 := by unfold isD; exact decide_eq_true_iff
theorem val_lt (l : List UInt8) (h : l.all isD = true) : val l < 10 ^ l.length := by
  induction l with
  | nil => exact Nat.one_pos
  | cons b l ih =>
    simp only [List.all_cons, Bool.and_eq_true] at h
    have hb := (isD_iff b).1 h.1
    have := ih h.2
    rw [val_cons, List.length_cons, Nat.pow_succ]
    have h9 : digit b * 10 ^ l.length ≤ 9 * 10 ^ l.length := Nat.mul_le_mul_right _ (by unfold digit; omega)
    omega
theorem val_l0 (s : ByteArray) (hs : s.size ≤ 8) (ha : s.data.toList.all isD = true) (d : Nat) : ∀ (i : Nat) (a : Nat), i + d = s.size → a < 10 ^ i → Ev (fun k => spec_l3Number.l0 k s (a : Int) (i : Int)) ((valA a (s.data.toList.drop i) : Nat) : Int) := by
  induction d with
  | zero =>
    intro i a hi hlt
    rw [List.drop_eq_nil_of_le (show s.data.toList.length ≤ i by rw [data_length]; omega)]
    refine evS (fun k => by rw [spec_l3Number.l0]) ?_
    exact evF (by omega) (evR rfl)
  | succ d ih =>
    intro i a hi hlt
    have hl : i < s.data.toList.length := by rw [data_length]; omega
    have hb := byte_at s i (by omega)
    have hD := (isD_iff _).1 (List.all_eq_true.1 ha _ (List.getElem_mem hl))
    have hp : 10 ^ i ≤ 10 ^ 7 := Nat.pow_le_pow_right (by decide) (by omega)
    rw [List.drop_eq_getElem_cons hl, valA_cons]
    unfold digit
    generalize (s.data.toList[i]).toNat = n at *
    have e1 : wrap64 (wrap64 ((a : Int) * 10) + ((n : Int) - 48) % 256) = ((a * 10 + (n - 48) : Nat) : Int) := by
      rw [w64 (x := (a : Int) * 10) (by omega), w64 (by omega)]
      omega
    refine evS (fun k => by rw [spec_l3Number.l0]) ?_
    rw [hb, e1, w64s (show i < s.size by omega) (by omega)]
    refine evT (by omega) (evT (by omega) (ih (i + 1) _ (by omega) ?_))
    rw [Nat.pow_succ]
    omega
/-- A number of at most eight digits. -/
def short (s : ByteArray) : Bool := num s && decide (s.size ≤ 8)
def numS (s : ByteArray) : Int := if short s = true then ((val s.data.toList : Nat) : Int) else -1
theorem head_one (s : ByteArray) (h : s.size = 1) : s.data.toList = [48] ↔ bt s 0 = 48 := by
  have hl : s.data.toList.length = 1 := by rw [data_length]; exact h
  have hb : bt s 0 = _ := byte_at s 0 (by omega)
  obtain ⟨x, hx⟩ := List.length_eq_one_iff.1 hl
  rw [hb]
  simp only [hx, List.getElem_cons_zero, List.cons.injEq, and_true]
  constructor
  · rintro rfl; rfl
  · intro e
    exact UInt8.toNat_inj.1 (by show x.toNat = 48; omega)
theorem numS_spec (s : ByteArray) (hs : s.size ≤ 1048576) : Ev (fun k => spec_l3Number.f k s) (numS s) := by
  unfold spec_l3Number.f
  refine evB (figs_spec s hs) ?_
  cases hf : figs s with
  | false =>
    have e : numS s = -1 := by unfold numS short num; rw [hf]; rfl
    rw [e]
    refine evF Bool.false_ne_true ?_
    refine evS (fun k => by rw [spec_l3Number.j0]) ?_
    exact evT rfl (evR rfl)
  | true =>
    have hz := figs_size hf
    have ha : s.data.toList.all isD = true := by unfold figs at hf; simp at hf; simpa using hf.1
    refine evT rfl ?_
    by_cases h8 : (s.size : Int) > 8
    · have e : numS s = -1 := by
        unfold numS short
        rw [decide_eq_false (by omega), Bool.and_false, if_neg Bool.false_ne_true]
      rw [e]
      refine evT h8 ?_
      refine evS (fun k => by rw [spec_l3Number.j0]) ?_
      exact evT rfl (evR rfl)
    · refine evF h8 ?_
      have hv := val_l0 s (by omega) ha s.size 0 0 (by omega) (by decide)
      have hv' : Ev (fun k => spec_l3Number.l0 k s 0 0) ((val s.data.toList : Nat) : Int) := hv
      by_cases h1 : (s.size : Int) > 1
      · refine evT h1 (evT (by omega) ?_)
        have hne : ¬ s.data.toList = [48] := fun e => by
          have := data_length s
          rw [e] at this
          simp at this
          omega
        by_cases hb : bt s 0 = 48
        · have e : numS s = -1 := by
            unfold numS short num
            rw [decide_eq_false hne, decide_eq_false (fun h => h hb)]
            simp
          rw [e, hb]
          refine evS (fun k => by rw [spec_l3Number.j0]) ?_
          exact evT rfl (evR rfl)
        · have e : numS s = ((val s.data.toList : Nat) : Int) := by
            unfold numS short num
            rw [hf, decide_eq_true hb, decide_eq_true (show s.size ≤ 8 by omega)]
            simp
          rw [e, beq_eq_false_iff_ne.2 hb]
          refine evS (fun k => by rw [spec_l3Number.j0]) ?_
          exact evF Bool.false_ne_true hv'
      · refine evF h1 ?_
        have h11 : s.size = 1 := by omega
        have e : numS s = ((val s.data.toList : Nat) : Int) := by
          unfold numS short num
          rw [hf, decide_eq_true (show s.size ≤ 8 by omega)]
          have := head_one s h11
          by_cases hb : bt s 0 = 48
          · rw [decide_eq_true (this.2 hb)]; simp
          · rw [decide_eq_true hb]; simp
        rw [e]
        refine evS (fun k => by rw [spec_l3Number.j0]) ?_
        exact evF Bool.false_ne_true hv'
end Go.Proofs.YtkofdkinaahbpaaDoor.Z

/- Short numbers: their values. Plain lemmas. -/
set_option linter.unusedVariables false
namespace Go.Proofs.YtkofdkinaahbpaaDoor.Z
open Go.RowKit Go.Proofs.YtkofdkinaahbpaaDoorW.PrintWords Go.Proofs.YtkofdkinaahbpaaDoorW.PrintMore Go.Proofs.YtkofdkinaahbpaaDoor.X Go.Proofs.YtkofdkinaahbpaaDoor.Sp
theorem digit_lt {a b : UInt8} (ha : isD a = true) (hb : isD b = true) : digit a < digit b ↔ a < b := by
  have h1 := (isD_iff a).1 ha
  have h2 := (isD_iff b).1 hb
  unfold digit
  rw [UInt8.lt_iff_toNat_lt]
  omega
theorem less_val : ∀ x y : List UInt8, x.all isD = true → y.all isD = true → x.length = y.length → (Op.bytesLess x y = true ↔ val x < val y)
  | [], [], _, _, _ => by simp [Op.bytesLess]
  | [], _ :: _, _, _, h => by simp at h
  | _ :: _, [], _, _, h => by simp at h
  | a :: x, b :: y, hx, hy, hl => by
    simp only [List.all_cons, Bool.and_eq_true] at hx hy
    have hl' : x.length = y.length := by simpa using hl
    have ih := less_val x y hx.2 hy.2 hl'
    have vx := val_lt x hx.2
    have vy := val_lt y hy.2
    rw [val_cons, val_cons, ← hl'] 
    rw [← hl'] at vy
    have hd := digit_lt hx.1 hy.1
    have hd' := digit_lt hy.1 hx.1
    generalize 10 ^ x.length = p at *
    by_cases h1 : a < b
    · have h2 : digit a + 1 ≤ digit b := hd.2 h1
      have h3 : (digit a + 1) * p ≤ digit b * p := Nat.mul_le_mul_right _ h2
      rw [Nat.add_mul] at h3
      simp only [Op.bytesLess, h1, decide_true, Bool.true_or, true_iff]
      omega
    · by_cases h4 : a = b
      · subst h4
        simp only [Op.bytesLess, h1, decide_false, Bool.false_or, beq_self_eq_true, Bool.true_and]
        rw [ih]
        omega
      · have h5 : b < a := by
          rw [UInt8.lt_iff_toNat_lt] at h1 ⊢
          have : a.toNat ≠ b.toNat := fun e => h4 (UInt8.toNat_inj.1 e)
          omega
        have h2 : digit b + 1 ≤ digit a := hd'.2 h5
        have h3 : (digit b + 1) * p ≤ digit a * p := Nat.mul_le_mul_right _ h2
        rw [Nat.add_mul] at h3
        simp only [Op.bytesLess, h1, decide_false, Bool.false_or, beq_eq_false_iff_ne.2 h4, Bool.false_and, Bool.false_eq_true, false_iff]
        omega
theorem short_all {s : ByteArray} (h : short s = true) : s.data.toList.all isD = true ∧ 0 < s.size ∧ s.size ≤ 8 ∧ (s.data.toList = [48] ∨ bt s 0 ≠ 48) := by
  simp only [short, num, figs, Bool.and_eq_true, Bool.or_eq_true, decide_eq_true_eq] at h
  exact ⟨h.1.1.1, by have := h.1.1.2; omega, h.2, h.1.2⟩
theorem short_lead {s : ByteArray} (h : short s = true) (h1 : 1 < s.size) : 10 ^ (s.size - 1) ≤ val s.data.toList := by
  obtain ⟨ha, hz, h8, hb⟩ := short_all h
  have hl := data_length s
  have hne : ¬ s.data.toList = [48] := fun e => by rw [e] at hl; simp at hl; omega
  have hb0 := hb.resolve_left hne
  have hat : bt s 0 = _ := byte_at s 0 (by omega)
  cases hs : s.data.toList with
  | nil => rw [hs] at hl; simp at hl; omega
  | cons b l =>
    rw [hat] at hb0
    simp only [hs, List.getElem_cons_zero] at hb0
    rw [hs] at ha hl
    simp only [List.all_cons, Bool.and_eq_true] at ha
    have hd := (isD_iff b).1 ha.1
    rw [val_cons, show s.size - 1 = l.length by simp at hl; omega]
    have : 1 * 10 ^ l.length ≤ digit b * 10 ^ l.length := Nat.mul_le_mul_right _ (by unfold digit; omega)
    omega
theorem numS_pos (s : ByteArray) : 0 ≤ numS s ↔ short s = true := by
  unfold numS
  split
  · rename_i h; simp [h]
  · rename_i h; simp [h]
theorem numS_val {s : ByteArray} (h : short s = true) : numS s = ((val s.data.toList : Nat) : Int) := by unfold numS; rw [if_pos h]
theorem short_less {a b : ByteArray} (ha : short a = true) (hb : short b = true) (h : a.size < b.size) : val a.data.toList < val b.data.toList := by
  obtain ⟨aa, az, _, _⟩ := short_all ha
  obtain ⟨_, bz, _, _⟩ := short_all hb
  have h1 := val_lt _ aa
  rw [data_length] at h1
  have h2 := short_lead hb (by omega)
  have h3 : 10 ^ a.size ≤ 10 ^ (b.size - 1) := Nat.pow_le_pow_right (by decide) (by omega)
  omega
end Go.Proofs.YtkofdkinaahbpaaDoor.Z

namespace Go.Proofs.YtkofdkinaahbpaaDoor.X
open Go.RowKit Go.Proofs.YtkofdkinaahbpaaDoorW.PrintWords Go.Proofs.YtkofdkinaahbpaaDoorW.PrintLast Go.Proofs.YtkofdkinaahbpaaDoorW.PrintMore
attribute [local go_sem] max2_int min2_int max_two min_two max_three min_three max_four min_four   -- for this text's walks alone
set_option linter.unusedVariables false
set_option linter.unusedSimpArgs false

/-! ### spec_l3Text: function 77 -/
def spec_l3Text.f : Nat → Int → Option (ByteArray)
  | 0, _ => none
  | k + 1, a0 => if a0 < 10 then (some (strOfNums (([(wrap64 (48 + a0)) % 256] : List Int)))) else ((spec_l3Text.f k (wrap64 (Int.tdiv a0 10))).bind fun t236 => ((some (([(wrap64 (48 + (Int.tmod a0 10))) % 256] : List Int) : List Int)).bind fun y237 => (if t236.size + (strOfNums y237).size ≤ 9223372036854775807 then (some (t236 ++ (strOfNums y237))) else (none))))
theorem spec_l3Text.mono_l : ∀ k, (∀ y0, LeO (spec_l3Text.f k y0) (spec_l3Text.f (k + 1) y0))
  | 0 => fun _ r h => by simp [spec_l3Text.f] at h
  | k + 1 => by
    have ih0 := spec_l3Text.mono_l k
    · intro y0
      unfold spec_l3Text.f
      repeat' first
      | (with_reducible exact ih0 _)
      | (with_reducible exact LeO.refl _)
      | (with_reducible exact LeO.none _)
      | (with_reducible refine LeO.ite ?_ ?_)
      | (with_reducible refine LeO.bind ?_ (fun _ => ?_))
      | exact ih0 _
      | exact LeO.none _
      | refine LeO.ite ?_ ?_
      | refine LeO.bind ?_ (fun _ => ?_)
theorem spec_l3Text.mono : ∀ a0 k, LeO (spec_l3Text.f k a0) (spec_l3Text.f (k + 1) a0) := by
  intro a0 k
  have ih0 := spec_l3Text.mono_l k
  exact ih0 a0
def spec_l3Text.T3 : Bool × List (List Nat × List Nat) := (true, [([], []), ([0], [0]), ([1], [1]), ([], []), ([3], [3]), ([4], [4]), ([5], [5]), ([6], [6]), ([7], [7]), ([2, 8], [2, 8]), ([9, 2, 0, 1, 2, 3, 4, 5, 6, 7, 8, 9], [9])])
def spec_l3Text.B3 : List Nat := [0, 1, 3, 0, 8, 24, 56, 120, 248, 511, 1023]
theorem spec_l3Text.tab3 : rtab .any (opsOf Tryd.f77 3) = spec_l3Text.T3 := by kernel_rfl
theorem spec_l3Text.bits3 : waitsOk spec_l3Text.T3.2 spec_l3Text.B3 = true := by kernel_rfl
set_option maxHeartbeats 8000000 in
set_option maxRecDepth 100000 in
theorem spec_l3Text.calls (k : Nat) : ∀ (a0 : Int) (r : ByteArray) (w : World) (h : spec_l3Text.f k a0 = some r),
    Calls Tryd.prog 77 #[.int .i64 a0] w fun e w' => e = .returned (.string r) ∧ Below w.heap.size w w' := by
  induction k using Nat.strongRecOn with
  | _ k ih =>
  intro a0 r w h
  cases k with
  | zero => exact absurd h (by simp [spec_l3Text.f])
  | succ k =>
  simp only [spec_l3Text.f] at h
  have HB := Aside0.mk (Below.refl w.heap.size w)
  have H : (if a0 < 10 then (some (strOfNums (([(wrap64 (48 + a0)) % 256] : List Int)))) else ((spec_l3Text.f k (wrap64 (Int.tdiv a0 10))).bind fun t236 => ((some (([(wrap64 (48 + (Int.tmod a0 10))) % 256] : List Int) : List Int)).bind fun y237 => (if t236.size + (strOfNums y237).size ≤ 9223372036854775807 then (some (t236 ++ (strOfNums y237))) else (none))))) = some r := h
  clear h
  by_cases c2 : a0 < 10
  · rw [if_pos c2] at H
    have c2b0 : decide (a0 < 10) = true := decide_eq_true c2
    clear c2
    obtain ⟨y233, hy233⟩ : ∃ y_ : List Int, y_ = (([(wrap64 (48 + a0)) % 256] : List Int)) := ⟨_, rfl⟩
    replace H : (some (strOfNums y233)) = some r := by first | (rw [hy233]; with_reducible exact H) | (have H2_ := (Option.bind_some _ _).symm.trans H; rw [hy233]; with_reducible exact H2_) | (have H2_ := (Option.bind_some _ _).symm.trans H; with_reducible exact H2_) | with_reducible exact H | (rw [hy233]; exact H) | exact H
    have Ny233 := Aside0.mk hy233
    clear hy233
    obtain rfl := Option.some.inj H
    go_enter Tryd.func77, Tryd.ntmps77
    go_wp2_with (first | ((with_reducible refine gate_dst (N := 8) rfl ?_); refine Kd.R_lit (Kd.int .u8) _ 5 ?hg (N := 8) ?hd (xs := ([(wrap64 (48 + a0)) % 256] : List Int)) (inner := [.int .u8 ((wrap64 (48 + a0)) % 256)]) (ok := fun _ => True) (okp := fun _ => True) ?hr ?hp (fun _ hk => hk) trivial (Below.refl _ _) (Nat.le_refl _) (by simp) ?_; (case hd => rfl); (case hg => rfl); (case hr => first | (go_simp; done) | (go_simp; rfl)); (case hp => exact (Reps.one (show Kd.M (Kd.int .u8) _ _ _ ((wrap64 (48 + a0)) % 256) [.int .u8 ((wrap64 (48 + a0)) % 256)] from rfl) (Reps.none _ _))); intro v234 w3 ho4 hb hg_ hnew_; clear hg_ hnew_; (first | rw [← Ny233.out] at ho4 | (simp only [Int.reduceToNat] at ho4; rw [← Ny233.out] at ho4)); have n0_ := Aside0.mk (Kd.R_lower ho4 (below_size (by repeat (first | (with_reducible first | exact HB.out | apply below_alloc | apply pw_below_drewN | apply below_drew1) | exact HB.out)))); have n1_ := Aside0.mk (below_step (by repeat (first | (with_reducible first | exact HB.out | apply below_alloc | apply pw_below_drewN | apply below_drew1) | exact HB.out)) hb); clear HB; have HO235 := n0_; have HB := n1_; clear n0_ n1_; clear hb ho4; have hcv5 := own_string (P := Tryd.prog) Tryd.underlying38 Tryd.underlying5 Tryd.underlying9 (Kd.own_of_R HO235.out)))
    go_ret
    exact ⟨by first | rfl | (simp [errW_none, errW_some] <;> rfl) | (simp [*, errW_none, errW_some] <;> rfl), by repeat (first | (with_reducible first | exact HB.out | apply below_alloc | apply pw_below_drewN | apply below_drew1) | exact HB.out)⟩
  · rw [if_neg c2] at H
    have c2b0 : decide (a0 < 10) = false := decide_eq_false c2
    clear c2
    replace H := Option.bind_eq_some_iff.mp H
    obtain ⟨t236, A60, H⟩ := H
    replace H : ((some (([(wrap64 (48 + (Int.tmod a0 10))) % 256] : List Int) : List Int)).bind fun y237 => (if t236.size + (strOfNums y237).size ≤ 9223372036854775807 then (some (t236 ++ (strOfNums y237))) else (none))) = some r := H
    have A6 := Aside0.mk A60
    clear A60
    obtain ⟨y237, hy237⟩ : ∃ y_ : List Int, y_ = (([(wrap64 (48 + (Int.tmod a0 10))) % 256] : List Int)) := ⟨_, rfl⟩
    replace H : (if t236.size + (strOfNums y237).size ≤ 9223372036854775807 then (some (t236 ++ (strOfNums y237))) else (none)) = some r := by first | (rw [hy237]; with_reducible exact H) | (have H2_ := (Option.bind_some _ _).symm.trans H; rw [hy237]; with_reducible exact H2_) | (have H2_ := (Option.bind_some _ _).symm.trans H; with_reducible exact H2_) | with_reducible exact H | (rw [hy237]; exact H) | exact H
    have Ny237 := Aside0.mk hy237
    clear hy237
    by_cases c7 : t236.size + (strOfNums y237).size ≤ 9223372036854775807
    · rw [if_pos c7] at H
      have c7b0 := eq_true c7
      have c7b1 : decide (t236.size + (strOfNums y237).size ≤ 9223372036854775807) = true := decide_eq_true c7
      try have c7b2 : (9223372036854775807 < t236.size + (strOfNums y237).size) = False := eq_false (Nat.not_lt.2 c7)
      obtain rfl := Option.some.inj H
      go_enter Tryd.func77, Tryd.ntmps77
      try go_wp2
      have n0_ := Aside0.mk (below_drew1 HB.out)
      clear HB
      have HB := n0_
      clear n0_
      refine start_ (n := 11) (S := fun w' => True) (ds := []) #[false, false, false, false, false, false, false, false, false, false, false] (by kernel_rfl) rfl rfl trivial (fun hHeld => ?_); refine with_tabW spec_l3Text.tab3 spec_l3Text.bits3 (fun HT_ HW_ => ?_)
      generalize w.drew = w8 at HB hHeld ⊢
      refine pure_ (i := 0) (N := some 10) (v := ?_) (a' := ?_) #[true, false, false, false, false, false, false, false, false, false, false] rfl rfl (any_of HT_.out (by kernel_rfl)) (fun _ _ _ h => h) (Or.inl ⟨by rfl, ?_⟩) ?_ ?_
      rotate_left
      · intro w'
        go_simp
        with_reducible rfl
      rotate_left
      · simp only [Act.put, List.setIfInBounds_toArray, List.set_cons_zero, List.set_cons_succ, i64_w, i32_w]
        rfl
      refine pure_ (i := 1) (N := some 11) (v := ?_) (a' := ?_) #[true, true, false, false, false, false, false, false, false, false, false] rfl rfl (any_of HT_.out (by kernel_rfl)) (fun _ _ _ h => h) (Or.inl ⟨by rfl, ?_⟩) ?_ ?_
      rotate_left
      · intro w'
        go_simp
        with_reducible rfl
      rotate_left
      · simp only [Act.put, List.setIfInBounds_toArray, List.set_cons_zero, List.set_cons_succ, i64_w, i32_w]
        rfl
      refine pure_ (i := 3) (N := some 13) (v := ?_) (a' := ?_) #[true, true, false, true, false, false, false, false, false, false, false] rfl rfl (any_of HT_.out (by kernel_rfl)) (fun _ _ _ h => h) (Or.inl ⟨by rfl, ?_⟩) ?_ ?_
      rotate_left
      · intro w'
        go_simp
        with_reducible rfl
      rotate_left
      · simp only [Act.put, List.setIfInBounds_toArray, List.set_cons_zero, List.set_cons_succ, i64_w, i32_w]
        rfl
      refine pure_ (i := 4) (N := some 14) (v := ?_) (a' := ?_) #[true, true, false, true, true, false, false, false, false, false, false] rfl rfl (any_of HT_.out (by kernel_rfl)) (fun _ _ _ h => h) (Or.inl ⟨by rfl, ?_⟩) ?_ ?_
      rotate_left
      · intro w'
        go_simp
        with_reducible rfl
      rotate_left
      · simp only [Act.put, List.setIfInBounds_toArray, List.set_cons_zero, List.set_cons_succ, i64_w, i32_w]
        rfl
      refine pure_ (i := 5) (N := some 15) (v := ?_) (a' := ?_) #[true, true, false, true, true, true, false, false, false, false, false] rfl rfl (any_of HT_.out (by kernel_rfl)) (fun _ _ _ h => h) (Or.inl ⟨by rfl, ?_⟩) ?_ ?_
      rotate_left
      · intro w'
        go_simp
        with_reducible rfl
      rotate_left
      · simp only [Act.put, List.setIfInBounds_toArray, List.set_cons_zero, List.set_cons_succ, i64_w, i32_w]
        rfl
      refine pure_ (i := 6) (N := some 16) (v := ?_) (a' := ?_) #[true, true, false, true, true, true, true, false, false, false, false] rfl rfl (any_of HT_.out (by kernel_rfl)) (fun _ _ _ h => h) (Or.inl ⟨by rfl, ?_⟩) ?_ ?_
      rotate_left
      · intro w'
        go_simp
        with_reducible rfl
      rotate_left
      · simp only [Act.put, List.setIfInBounds_toArray, List.set_cons_zero, List.set_cons_succ, i64_w, i32_w]
        rfl
      refine join_ (σ := Value) 2 #[true, true, true, true, true, true, true, true, true, false, false] (fun s_ => [(12, .string t236), (17, s_), (18, .string (strOfNums y237))]) (fun s_ w' => (Kd.R (Kd.int .u8) 5 w' w.heap.size (fun _ => True) s_ y237) ∧ (Below w.heap.size w w')) ?_ ?_
      rotate_left
      · intro hCont
        refine two_ (i := 2) (j := 7) (Ni := some 12) (Nj := some 17) #[true, true, true, true, true, true, true, false, false, false, false] #[true, true, false, true, true, true, true, true, false, false, false] rfl rfl rfl rfl (two_of HT_.out (by kernel_rfl)) (by decide) (by decide) (fun K hK => ?_) (fun K hK => ?_)
        · skip
          refine goes_ Tryd.func77 (by kernel_rfl) rfl #[.int .i64 (wrap64 (Int.tdiv a0 10))] (by rfl) rfl rfl (by (try simp only [List.map_toArray, List.map_cons, List.map_nil]); first | done | rfl | (simp only [List.length_drop, List.length_take]; rfl)) ?_
          with_reducible refine (ih k (by omega) (wrap64 (Int.tdiv a0 10)) t236 _ A6.out).mono ?_
          rintro e w9 ⟨rfl, hb⟩
          refine ⟨_, rfl, ?_⟩
          have n0_ := Aside0.mk (below_step (by repeat (first | (with_reducible first | exact HB.out | apply below_alloc | apply pw_below_drewN | apply below_drew1) | exact HB.out)) hb)
          clear HB
          have HB := n0_
          clear n0_
          (try clear hb)
          (try clear hb2)
          (try clear hk)
          (try clear hi)
          refine hK.out _ _ trivial (fun hHeld => ?_)
          clear hK K
          refine norm_ (a' := ?_) ?_ ?_
          rotate_left
          · show Act.put _ (some 12) _ = _
            simp only [Act.put, List.setIfInBounds_toArray, List.set_cons_zero, List.set_cons_succ, i64_w, i32_w]
            rfl
          refine one_ (i := 7) (N := some 17) #[true, true, true, true, true, true, true, true, false, false, false] rfl rfl (one_of HT_.out (by kernel_rfl)) (by decide) (fun K hK => ?_)
          refine Kd.R_lit_step (Kd.int .u8) _ 5 ?hg (N := 17) ?hd (xs := ([(wrap64 (48 + (Int.tmod a0 10))) % 256] : List Int)) (inner := [.int .u8 ((wrap64 (48 + (Int.tmod a0 10))) % 256)]) (ok := fun _ => True) (okp := fun _ => True) ?hr ?hp (fun _ hk => hk) trivial (Below.refl _ _) (Nat.le_refl _) (by simp) ?_; (case hd => rfl); (case hg => rfl); (case hr => first | (go_simp; done) | (go_simp; rfl)); (case hp => exact (Reps.one (show Kd.M (Kd.int .u8) _ _ _ ((wrap64 (48 + (Int.tmod a0 10))) % 256) [.int .u8 ((wrap64 (48 + (Int.tmod a0 10))) % 256)] from rfl) (Reps.none _ _)))
          intro v238 w10 ho11 hb hg_ hnew_
          clear hg_ hnew_
          (first | rw [← Ny237.out] at ho11 | (simp only [Int.reduceToNat] at ho11; rw [← Ny237.out] at ho11))
          have n0_ := Aside0.mk (Kd.R_lower ho11 (below_size (by repeat (first | (with_reducible first | exact HB.out | apply below_alloc | apply pw_below_drewN | apply below_drew1) | exact HB.out))))
          have n1_ := Aside0.mk (below_step (by repeat (first | (with_reducible first | exact HB.out | apply below_alloc | apply pw_below_drewN | apply below_drew1) | exact HB.out)) hb)
          clear HB
          have HO239 := n0_
          have HB := n1_
          clear n0_ n1_
          clear hb ho11
          refine hK.out _ _ trivial (fun hHeld => ?_)
          clear hK K
          refine norm_ (a' := ?_) ?_ ?_
          rotate_left
          · show Act.put _ (some 17) _ = _
            simp only [Act.put, List.setIfInBounds_toArray, List.set_cons_zero, List.set_cons_succ, i64_w, i32_w]
            rfl
          refine one_ (i := 8) (N := some 18) #[true, true, true, true, true, true, true, true, true, false, false] rfl rfl (one_of HT_.out (by kernel_rfl)) (by decide) (fun K hK => ?_)
          have hcv12 := own_string (P := Tryd.prog) Tryd.underlying38 Tryd.underlying5 Tryd.underlying9 (Kd.own_of_R HO239.out)
          refine value_ (w1 := ?_) (v := ?_) (by rfl) rfl ?_ ?_
          rotate_left 2
          · go_simp
            constructor
            · rfl
            · rfl
          clear hcv12
          refine hK.out _ _ trivial (fun hHeld => ?_)
          clear hK K
          refine norm_ (a' := ?_) ?_ ?_
          rotate_left
          · show Act.put _ (some 18) _ = _
            simp only [Act.put, List.setIfInBounds_toArray, List.set_cons_zero, List.set_cons_succ, i64_w, i32_w]
            rfl
          exact norm_ (by simp only [putAll, Act.put, List.setIfInBounds_toArray, List.set_cons_zero, List.set_cons_succ]) (hCont (v238) _ ⟨(by (with_reducible repeat (first | apply Kd.R_alloc | apply Kd.R_drewN | apply Kd.R_drew)); exact HO239.out), (by repeat (first | (with_reducible first | exact HB.out | apply below_alloc | apply pw_below_drewN | apply below_drew1) | exact HB.out))⟩)
        · skip
          refine Kd.R_lit_step (Kd.int .u8) _ 5 ?hg (N := 17) ?hd (xs := ([(wrap64 (48 + (Int.tmod a0 10))) % 256] : List Int)) (inner := [.int .u8 ((wrap64 (48 + (Int.tmod a0 10))) % 256)]) (ok := fun _ => True) (okp := fun _ => True) ?hr ?hp (fun _ hk => hk) trivial (Below.refl _ _) (Nat.le_refl _) (by simp) ?_; (case hd => rfl); (case hg => rfl); (case hr => first | (go_simp; done) | (go_simp; rfl)); (case hp => exact (Reps.one (show Kd.M (Kd.int .u8) _ _ _ ((wrap64 (48 + (Int.tmod a0 10))) % 256) [.int .u8 ((wrap64 (48 + (Int.tmod a0 10))) % 256)] from rfl) (Reps.none _ _)))
          intro v238 w9 ho10 hb hg_ hnew_
          clear hg_ hnew_
          (first | rw [← Ny237.out] at ho10 | (simp only [Int.reduceToNat] at ho10; rw [← Ny237.out] at ho10))
          have n0_ := Aside0.mk (Kd.R_lower ho10 (below_size (by repeat (first | (with_reducible first | exact HB.out | apply below_alloc | apply pw_below_drewN | apply below_drew1) | exact HB.out))))
          have n1_ := Aside0.mk (below_step (by repeat (first | (with_reducible first | exact HB.out | apply below_alloc | apply pw_below_drewN | apply below_drew1) | exact HB.out)) hb)
          clear HB
          have HO239 := n0_
          have HB := n1_
          clear n0_ n1_
          clear hb ho10
          refine hK.out _ _ trivial (fun hHeld => ?_)
          clear hK K
          refine norm_ (a' := ?_) ?_ ?_
          rotate_left
          · show Act.put _ (some 17) _ = _
            simp only [Act.put, List.setIfInBounds_toArray, List.set_cons_zero, List.set_cons_succ, i64_w, i32_w]
            rfl
          refine two_ (i := 2) (j := 8) (Ni := some 12) (Nj := some 18) #[true, true, true, true, true, true, true, true, false, false, false] #[true, true, false, true, true, true, true, true, true, false, false] rfl rfl rfl rfl (two_of HT_.out (by kernel_rfl)) (by decide) (by decide) (fun K hK => ?_) (fun K hK => ?_)
          · skip
            refine goes_ Tryd.func77 (by kernel_rfl) rfl #[.int .i64 (wrap64 (Int.tdiv a0 10))] (by rfl) rfl rfl (by (try simp only [List.map_toArray, List.map_cons, List.map_nil]); first | done | rfl | (simp only [List.length_drop, List.length_take]; rfl)) ?_
            with_reducible refine (ih k (by omega) (wrap64 (Int.tdiv a0 10)) t236 _ A6.out).mono ?_
            rintro e w11 ⟨rfl, hb⟩
            refine ⟨_, rfl, ?_⟩
            have n0_ := Aside0.mk (Kd.R_below (by (with_reducible repeat (first | apply Kd.R_alloc | apply Kd.R_drewN | apply Kd.R_drew)); exact HO239.out) hb)
            have n1_ := Aside0.mk (below_step (by repeat (first | (with_reducible first | exact HB.out | apply below_alloc | apply pw_below_drewN | apply below_drew1) | exact HB.out)) hb)
            clear HO239
            clear HB
            have HO239 := n0_
            have HB := n1_
            clear n0_ n1_
            (try clear hb)
            (try clear hb2)
            (try clear hk)
            (try clear hi)
            refine hK.out _ _ trivial (fun hHeld => ?_)
            clear hK K
            refine norm_ (a' := ?_) ?_ ?_
            rotate_left
            · show Act.put _ (some 12) _ = _
              simp only [Act.put, List.setIfInBounds_toArray, List.set_cons_zero, List.set_cons_succ, i64_w, i32_w]
              rfl
            refine one_ (i := 8) (N := some 18) #[true, true, true, true, true, true, true, true, true, false, false] rfl rfl (one_of HT_.out (by kernel_rfl)) (by decide) (fun K hK => ?_)
            have hcv12 := own_string (P := Tryd.prog) Tryd.underlying38 Tryd.underlying5 Tryd.underlying9 (Kd.own_of_R HO239.out)
            refine value_ (w1 := ?_) (v := ?_) (by rfl) rfl ?_ ?_
            rotate_left 2
            · go_simp
              constructor
              · rfl
              · rfl
            clear hcv12
            refine hK.out _ _ trivial (fun hHeld => ?_)
            clear hK K
            refine norm_ (a' := ?_) ?_ ?_
            rotate_left
            · show Act.put _ (some 18) _ = _
              simp only [Act.put, List.setIfInBounds_toArray, List.set_cons_zero, List.set_cons_succ, i64_w, i32_w]
              rfl
            exact norm_ (by simp only [putAll, Act.put, List.setIfInBounds_toArray, List.set_cons_zero, List.set_cons_succ]) (hCont (v238) _ ⟨(by (with_reducible repeat (first | apply Kd.R_alloc | apply Kd.R_drewN | apply Kd.R_drew)); exact HO239.out), (by repeat (first | (with_reducible first | exact HB.out | apply below_alloc | apply pw_below_drewN | apply below_drew1) | exact HB.out))⟩)
          · skip
            have hcv11 := own_string (P := Tryd.prog) Tryd.underlying38 Tryd.underlying5 Tryd.underlying9 (Kd.own_of_R HO239.out)
            refine value_ (w1 := ?_) (v := ?_) (by rfl) rfl ?_ ?_
            rotate_left 2
            · go_simp
              constructor
              · rfl
              · rfl
            clear hcv11
            refine hK.out _ _ trivial (fun hHeld => ?_)
            clear hK K
            refine norm_ (a' := ?_) ?_ ?_
            rotate_left
            · show Act.put _ (some 18) _ = _
              simp only [Act.put, List.setIfInBounds_toArray, List.set_cons_zero, List.set_cons_succ, i64_w, i32_w]
              rfl
            refine one_ (i := 2) (N := some 12) #[true, true, true, true, true, true, true, true, true, false, false] rfl rfl (one_of HT_.out (by kernel_rfl)) (by decide) (fun K hK => ?_)
            refine goes_ Tryd.func77 (by kernel_rfl) rfl #[.int .i64 (wrap64 (Int.tdiv a0 10))] (by rfl) rfl rfl (by (try simp only [List.map_toArray, List.map_cons, List.map_nil]); first | done | rfl | (simp only [List.length_drop, List.length_take]; rfl)) ?_
            with_reducible refine (ih k (by omega) (wrap64 (Int.tdiv a0 10)) t236 _ A6.out).mono ?_
            rintro e w12 ⟨rfl, hb⟩
            refine ⟨_, rfl, ?_⟩
            have n0_ := Aside0.mk (Kd.R_below (by (with_reducible repeat (first | apply Kd.R_alloc | apply Kd.R_drewN | apply Kd.R_drew)); exact HO239.out) hb)
            have n1_ := Aside0.mk (below_step (by repeat (first | (with_reducible first | exact HB.out | apply below_alloc | apply pw_below_drewN | apply below_drew1) | exact HB.out)) hb)
            clear HO239
            clear HB
            have HO239 := n0_
            have HB := n1_
            clear n0_ n1_
            (try clear hb)
            (try clear hb2)
            (try clear hk)
            (try clear hi)
            refine hK.out _ _ trivial (fun hHeld => ?_)
            clear hK K
            refine norm_ (a' := ?_) ?_ ?_
            rotate_left
            · show Act.put _ (some 12) _ = _
              simp only [Act.put, List.setIfInBounds_toArray, List.set_cons_zero, List.set_cons_succ, i64_w, i32_w]
              rfl
            exact norm_ (by simp only [putAll, Act.put, List.setIfInBounds_toArray, List.set_cons_zero, List.set_cons_succ]) (hCont (v238) _ ⟨(by (with_reducible repeat (first | apply Kd.R_alloc | apply Kd.R_drewN | apply Kd.R_drew)); exact HO239.out), (by repeat (first | (with_reducible first | exact HB.out | apply below_alloc | apply pw_below_drewN | apply below_drew1) | exact HB.out))⟩)
      rintro v238 w13 ⟨h0_, h1_⟩
      have n0_ : Aside0 (Kd.R (Kd.int .u8) 5 w13 w.heap.size (fun _ => True) v238 y237) := ⟨h0_⟩
      have n1_ : Aside0 (Below w.heap.size w w13) := ⟨h1_⟩
      clear HB
      clear h0_ h1_
      have HO239 := n0_
      have HB := n1_
      clear n0_ n1_
      have hHeld := trivial
      refine norm_ (a' := ?_) ?_ ?_
      rotate_left
      · simp only [putAll, Act.put, List.setIfInBounds_toArray, List.set_cons_zero, List.set_cons_succ]
        rfl
      refine pure_ (i := 9) (N := some 19) (v := ?_) (a' := ?_) #[true, true, true, true, true, true, true, true, true, true, false] rfl rfl (any_of HT_.out (by kernel_rfl)) (fun _ _ _ h => h) (Or.inl ⟨by rfl, ?_⟩) ?_ ?_
      rotate_left
      · intro w'
        go_simp
        with_reducible rfl
      rotate_left
      · simp only [Act.put, List.setIfInBounds_toArray, List.set_cons_zero, List.set_cons_succ, i64_w, i32_w]
        rfl
      refine pure_ (i := 10) (N := some 2) (v := ?_) (a' := ?_) #[true, true, true, true, true, true, true, true, true, true, true] rfl rfl (any_of HT_.out (by kernel_rfl)) (fun _ _ _ h => h) (Or.inl ⟨by rfl, ?_⟩) ?_ ?_
      rotate_left
      · intro w'
        go_simp
        with_reducible rfl
      rotate_left
      · simp only [Act.put, List.setIfInBounds_toArray, List.set_cons_zero, List.set_cons_succ, i64_w, i32_w]
        rfl
      refine done_ (done_of HT_.out (by kernel_rfl)) ?_
      try go_wp2
      go_ret
      exact ⟨by first | rfl | (simp [errW_none, errW_some] <;> rfl) | (simp [*, errW_none, errW_some] <;> rfl), by repeat (first | (with_reducible first | exact HB.out | apply below_alloc | apply pw_below_drewN | apply below_drew1) | exact HB.out)⟩
    · rw [if_neg c7] at H
      exact absurd H (by simp)

end Go.Proofs.YtkofdkinaahbpaaDoor.X

/- Decimal texts and their numbers. Plain lemmas. -/
set_option linter.unusedVariables false
namespace Go.Proofs.YtkofdkinaahbpaaDoor.Z
open Go.RowKit Go.Proofs.YtkofdkinaahbpaaDoorW.PrintWords Go.Proofs.YtkofdkinaahbpaaDoorW.PrintMore Go.Proofs.YtkofdkinaahbpaaDoor.X Go.Proofs.YtkofdkinaahbpaaDoor.Sp
theorem val_snoc (l : List UInt8) (b : UInt8) : val (l ++ [b]) = val l * 10 + digit b := by
  unfold val valA
  rw [List.foldl_append]
  rfl
theorem digit_back {b : UInt8} (h : isD b = true) : UInt8.ofNat (48 + digit b) = b := by
  have := (isD_iff b).1 h
  unfold digit
  rw [show 48 + (b.toNat - 48) = b.toNat by omega]
  exact UInt8.ofNat_toNat
theorem digit_le {b : UInt8} (h : isD b = true) : digit b ≤ 9 := by
  have := (isD_iff b).1 h
  unfold digit
  omega
/-- No zero ahead. -/
def lead (l : List UInt8) : Prop := l.head? ≠ some 48
theorem val_pos {l : List UInt8} (hn : l ≠ []) (hd : l.all isD = true) (hl : lead l) : 1 ≤ val l := by
  cases l with
  | nil => exact absurd rfl hn
  | cons b m =>
    simp only [List.all_cons, Bool.and_eq_true] at hd
    have hb := (isD_iff b).1 hd.1
    have hne : b.toNat ≠ 48 := fun e => hl (by show some b = some 48; rw [UInt8.toNat_inj.1 (show b.toNat = (48 : UInt8).toNat from e)])
    rw [val_cons]
    have h1 : 1 * 10 ^ m.length ≤ digit b * 10 ^ m.length := Nat.mul_le_mul_right _ (by unfold digit; omega)
    have h2 : 0 < 10 ^ m.length := Nat.pow_pos (by decide)
    omega
theorem dec_snoc (n : Nat) : ∀ l : List UInt8, l.length = n → l ≠ [] → l.all isD = true → (lead l ∨ l.length = 1) → Lib.decDigits (val l) = l := by
  induction n with
  | zero => intro l h hn; exact absurd (List.eq_nil_of_length_eq_zero h) hn
  | succ n ih =>
    intro l h hn hd hl
    obtain ⟨m, b, rfl⟩ : ∃ m b, l = m ++ [b] := ⟨l.dropLast, l.getLast hn, (List.dropLast_concat_getLast hn).symm⟩
    rw [List.all_append, Bool.and_eq_true] at hd
    have hb : isD b = true := by simpa using hd.2
    have hb9 := digit_le hb
    rw [val_snoc, Lib.decDigits]
    by_cases hm : m = []
    · subst hm
      have e : val [] * 10 + digit b = digit b := by rw [show val [] = 0 from rfl]; omega
      rw [e, dif_pos (by omega), digit_back hb]
      rfl
    · have hlen : 1 ≤ m.length := by cases m with | nil => exact absurd rfl hm | cons _ _ => simp
      have hl' : lead (m ++ [b]) := hl.resolve_right (by simp; omega)
      have hlm : lead m := by
        unfold lead at hl' ⊢
        cases m with
        | nil => exact absurd rfl hm
        | cons x y => exact hl'
      have hv := val_pos hm hd.1 hlm
      rw [dif_neg (by omega), show (val m * 10 + digit b) / 10 = val m by omega, show (val m * 10 + digit b) % 10 = digit b by omega, digit_back hb, ih m (by simpa using h) hm hd.1 (.inl hlm)]
/-- A number's text of its value. -/
theorem dec_short {s : ByteArray} (h : num s = true) : Lib.decDigits (val s.data.toList) = s.data.toList := by
  simp only [num, figs, Bool.and_eq_true, Bool.or_eq_true, decide_eq_true_eq] at h
  obtain ⟨⟨ha, hz⟩, hb⟩ := h
  have hl := data_length s
  have hn : s.data.toList ≠ [] := fun e => by rw [e] at hl; simp at hl; omega
  refine dec_snoc _ _ rfl hn ha ?_
  rcases hb with hb | hb
  · exact .inr (by rw [hb]; rfl)
  · left
    have hat : bt s 0 = _ := byte_at s 0 (by omega)
    unfold lead
    cases hs : s.data.toList with
    | nil => exact absurd hs hn
    | cons x y =>
      rw [hat] at hb
      simp only [hs, List.getElem_cons_zero] at hb
      intro e
      have : x = 48 := by simpa using e
      subst this
      exact hb rfl
theorem decFrom_ev (l : List UInt8) (hd : l.all isD = true) : ∀ a : Nat, Lib.decFrom a l = some (valA a l) := by
  induction l with
  | nil => intro a; rfl
  | cons b l ih =>
    intro a
    simp only [List.all_cons, Bool.and_eq_true] at hd
    have hb := (isD_iff b).1 hd.1
    rw [valA_cons]
    unfold Lib.decFrom Lib.digitVal
    rw [if_pos hb]
    exact ih hd.2 _
theorem atoi_val {s : ByteArray} (h : num s = true) : Lib.atoi s.data.toList = some ((val s.data.toList : Nat) : Int) := by
  simp only [num, figs, Bool.and_eq_true, Bool.or_eq_true, decide_eq_true_eq] at h
  obtain ⟨⟨ha, hz⟩, hb⟩ := h
  have hl := data_length s
  cases hs : s.data.toList with
  | nil => rw [hs] at hl; simp at hl; omega
  | cons b l =>
    rw [hs] at ha
    have ha' := ha
    simp only [List.all_cons, Bool.and_eq_true] at ha
    have hb := (isD_iff b).1 ha.1
    have h1 : (b == 45) = false := beq_eq_false_iff_ne.2 (fun e => by subst e; revert hb; decide)
    have h2 : (b == 43) = false := beq_eq_false_iff_ne.2 (fun e => by subst e; revert hb; decide)
    simp only [Lib.atoi, h1, h2, Bool.false_eq_true, if_false]
    unfold Lib.decNat
    rw [decFrom_ev _ ha']
    rfl
theorem text_ev (n : Nat) : n ≤ 100000000 → Ev (fun k => spec_l3Text.f k (n : Int)) ⟨(Lib.decDigits n).toArray⟩ := by
  induction n using Nat.strongRecOn with
  | ind n ih =>
    intro hn
    rw [Lib.decDigits]
    by_cases h : n < 10
    · rw [dif_pos h]
      refine evS (fun k => by rw [spec_l3Text.f]) (evT (by omega) (evR ?_))
      rw [w64 (by omega), show (48 + (n : Int)) % 256 = ((48 + n : Nat) : Int) by omega]
      rfl
    · rw [dif_neg h]
      have e1 : wrap64 (Int.tdiv (n : Int) 10) = ((n / 10 : Nat) : Int) := by
        rw [Int.tdiv_eq_ediv_of_nonneg (by omega), w64 (by omega)]
        omega
      have e2 : wrap64 (48 + Int.tmod (n : Int) 10) % 256 = ((48 + n % 10 : Nat) : Int) := by
        rw [Int.tmod_eq_emod_of_nonneg (by omega), w64 (by omega)]
        omega
      have hsz : (Lib.decDigits (n / 10)).length ≤ n := by
        rw [Lib.decDigits_length]
        have : ∀ m : Nat, Lib.nDigits m ≤ m + 1 := by
          intro m
          induction m using Nat.strongRecOn with
          | ind m ihm =>
            rw [Lib.nDigits]
            split
            · omega
            · have := ihm (m / 10) (by omega)
              omega
        have := this (n / 10)
        omega
      refine evS (fun k => by rw [spec_l3Text.f]) ?_
      rw [e1, e2]
      refine evF (by omega) (evB (ih (n / 10) (by omega) (by omega)) (evC rfl (evT ?_ (evR ?_))))
      · show (Lib.decDigits (n / 10)).toArray.size + 1 ≤ _
        rw [List.size_toArray]
        omega
      · show (⟨(Lib.decDigits (n / 10)).toArray⟩ : ByteArray) ++ (⟨([UInt8.ofNat (48 + n % 10)] : List UInt8).toArray⟩ : ByteArray) = _
        apply ByteArray.ext
        rw [ByteArray.data_append]
        simp
end Go.Proofs.YtkofdkinaahbpaaDoor.Z

/- Parts of a path, the program's and the reference's: the same. Plain lemmas. -/
set_option linter.unusedVariables false
namespace Go.Proofs.YtkofdkinaahbpaaDoor.Z
open Go.RowKit Go.Proofs.YtkofdkinaahbpaaDoorW.PrintWords Go.Proofs.YtkofdkinaahbpaaDoorW.PrintMore Go.Proofs.YtkofdkinaahbpaaDoor.X Go.Proofs.YtkofdkinaahbpaaDoor.Sp
theorem fig_impl (b : Int) : impl_isFigure.f b = some (decide (48 ≤ b ∧ b ≤ 57)) := by
  unfold impl_isFigure.f
  by_cases h : b ≥ 48
  · rw [if_pos h]
    simp [show 48 ≤ b from h]
  · rw [if_neg h]
    simp [show ¬ 48 ≤ b from h]
theorem ev_rest {c0 : Bool} {z e1 e2 e3 : Prop} [Decidable z] [Decidable e1] [Decidable e2] [Decidable e3] {A : Nat → Option Bool} {r : Bool} (H : (c0 = true ∨ ¬ z ∧ (e1 ∨ e2 ∨ e3)) → Ev A r) (H' : ¬ (c0 = true ∨ ¬ z ∧ (e1 ∨ e2 ∨ e3)) → r = false) :
    Ev (fun k => if c0 = true then A k else if z then some false else if e1 then A k else if e2 then A k else if e3 then A k else some false) r := by
  refine evI (fun h => H (.inl h)) (fun h0 => evI (fun hz => evR (H' (by simp [h0, hz])).symm) (fun hz => evI (fun h => H (.inr ⟨hz, .inl h⟩)) (fun h1 => evI (fun h => H (.inr ⟨hz, .inr (.inl h)⟩)) (fun h2 => evI (fun h => H (.inr ⟨hz, .inr (.inr h)⟩)) (fun h3 => evR (H' ?_).symm)))))
  rintro (h | ⟨_, h | h | h⟩)
  · exact h0 h
  · exact h1 h
  · exact h2 h
  · exact h3 h
theorem part_both (s : ByteArray) (hs : s.size ≤ 1048576) (d : Nat) : ∀ i : Nat, i + d = s.size → ∃ r, Ev (fun k => impl_pathPartOk.l0 k s (i : Int)) r ∧ Ev (fun k => spec_l4Part.l0 k s (i : Int)) r := by
  induction d with
  | zero =>
    intro i hi
    refine ⟨decide ((1 : Int) ≤ s.size ∧ (s.size : Int) ≤ 20), ?_, ?_⟩
    · refine evS (fun k => by rw [impl_pathPartOk.l0]) (evF (by omega) ?_)
      exact evC (rng_impl _ _ _) (evR rfl)
    · refine evS (fun k => by rw [spec_l4Part.l0]) (evF (by omega) ?_)
      exact evC (rng_spec _ _ _) (evR rfl)
  | succ d ih =>
    intro i hi
    have hb := bt_range s (i : Int)
    obtain ⟨r, h1, h2⟩ := ih (i + 1) (by omega)
    have hw : wrap64 (bt s (i : Int)) = bt s (i : Int) := w64 (by omega)
    generalize hx : bt s (i : Int) = b at hb hw
    obtain ⟨r', hr⟩ : ∃ r', r' = if (97 ≤ b ∧ b ≤ 122) ∨ (48 ≤ b ∧ b ≤ 57) ∨ ¬ (i : Int) = 0 ∧ (b = 45 ∨ b = 46 ∨ b = 95) then r else false := ⟨_, rfl⟩
    have Hr : ∀ {A : Nat → Option Bool}, Ev A r → (¬ (97 ≤ b ∧ b ≤ 122)) → (decide (48 ≤ b ∧ b ≤ 57) = true ∨ ¬ (i : Int) = 0 ∧ (b = 45 ∨ b = 46 ∨ b = 95)) → Ev A r' := fun hA _ h => by
      rw [hr, if_pos (.inr (by simpa using h))]
      exact hA
    have Hn : (¬ (97 ≤ b ∧ b ≤ 122)) → ¬ (decide (48 ≤ b ∧ b ≤ 57) = true ∨ ¬ (i : Int) = 0 ∧ (b = 45 ∨ b = 46 ∨ b = 95)) → r' = false := fun ha h => by
      rw [hr, if_neg]
      rintro (h' | h')
      · exact ha h'
      · exact h (by simpa using h')
    have Hl : ∀ {A : Nat → Option Bool}, Ev A r → (97 ≤ b ∧ b ≤ 122) → Ev A r' := fun hA h => by
      rw [hr, if_pos (.inl h)]
      exact hA
    refine ⟨r', ?_, ?_⟩
    · refine evS (fun k => by rw [impl_pathPartOk.l0]) ?_
      rw [hx, w64s (show i < s.size by omega) (by omega)]
      refine evT (by omega) (evT (by omega) ?_)
      by_cases ha : b ≥ 97
      · refine evT ha ?_
        by_cases hc : b ≤ 122
        · exact evT hc (Hl h1 ⟨ha, hc⟩)
        · refine evF hc (evC (fig_impl b) ?_)
          exact ev_rest (Hr h1 (fun h => hc h.2)) (Hn (fun h => hc h.2))
      · refine evF ha (evC (fig_impl b) ?_)
        exact ev_rest (Hr h1 (fun h => ha h.1)) (Hn (fun h => ha h.1))
    · refine evS (fun k => by rw [spec_l4Part.l0]) ?_
      rw [hx, hw, w64s (show i < s.size by omega) (by omega)]
      refine evT (by omega) (evT (by omega) (evC (rng_spec _ _ _) ?_))
      by_cases ha : 97 ≤ b ∧ b ≤ 122
      · exact evT (decide_eq_true ha) (Hl h2 ha)
      · refine evF (by simpa using ha) (evC (rng_spec _ _ _) ?_)
        exact ev_rest (Hr h2 ha) (Hn ha)
theorem part_nil (s : ByteArray) (h : s.size = 0) : Ev (fun k => impl_pathPartOk.f k s) false := by
  show Ev (fun k => impl_pathPartOk.l0 k s 0) false
  refine evS (fun k => by rw [impl_pathPartOk.l0]) (evF (by omega) ?_)
  exact evC (rng_impl _ _ _) (evR (decide_eq_false (by omega)))
theorem path_l0 (s : ByteArray) (l : List ByteArray) (hl : l.length ≤ 1048577) (hm : ∀ x ∈ l, x.size ≤ 1048576) (d : Nat) : ∀ i : Nat, i + d = l.length → ∃ r, Ev (fun k => impl_PathOk.l0 k s l l (l.length : Int) (i : Int)) r ∧ Ev (fun k => spec_PathOk.l0 k s l (i : Int)) r ∧ (r = true → ∀ x ∈ l.drop i, 1 ≤ x.size) := by
  induction d with
  | zero =>
    intro i hi
    have hnil : ∀ b : Bool, b = true → ∀ x ∈ l.drop i, 1 ≤ x.size := fun b _ x hx => by rw [List.drop_eq_nil_of_le (by omega)] at hx; cases hx
    by_cases h6 : (l.length : Int) ≤ 6
    · refine ⟨decide ((s.size : Int) ≤ 60), ?_, ?_, hnil _⟩
      · refine evS (fun k => by rw [impl_PathOk.l0]) (evF (by omega) (evT h6 (evR rfl)))
      · refine evS (fun k => by rw [spec_PathOk.l0]) (evF (by omega) (evT h6 (evR rfl)))
    · refine ⟨false, ?_, ?_, hnil _⟩
      · refine evS (fun k => by rw [impl_PathOk.l0]) (evF (by omega) (evF h6 (evR rfl)))
      · refine evS (fun k => by rw [spec_PathOk.l0]) (evF (by omega) (evF h6 (evR rfl)))
  | succ d ih =>
    intro i hi
    have hz := hm _ (rdOf_mem (l := l) (i := i) (by omega))
    obtain ⟨b, p1, p2⟩ := part_both (rdOf ByteArray.empty l (i : Int)) hz _ 0 (Nat.zero_add _)
    obtain ⟨r, h1, h2, h3⟩ := ih (i + 1) (by omega)
    have il : i < l.length := by omega
    have gl : rdOf ByteArray.empty l (i : Int) = l[i] := by
      have := rdOf_get (d := ByteArray.empty) il
      rw [List.getElem?_eq_getElem il] at this
      exact (Option.some.inj this).symm
    have q1 : Ev (fun k => impl_pathPartOk.f k (rdOf ByteArray.empty l (i : Int))) b := p1
    have q2 : Ev (fun k => spec_l4Part.f k (rdOf ByteArray.empty l (i : Int))) b := p2
    cases b with
    | true =>
      refine ⟨r, ?_, ?_, fun hr x hx => ?_⟩
      rotate_left 2
      · rw [List.drop_eq_getElem_cons il] at hx
        rcases List.mem_cons.1 hx with rfl | hx
        · rw [gl] at q1
          rcases Nat.eq_zero_or_pos l[i].size with h0 | h0
          · have := ev_one q1 (part_nil _ h0)
            cases this
          · exact h0
        · exact h3 hr x hx
      · refine evS (fun k => by rw [impl_PathOk.l0]) ?_
        rw [w64s (show i < l.length by omega) (by omega)]
        exact evT (by omega) (evT (by omega) (evT (by omega) (evB q1 (evT rfl h1))))
      · refine evS (fun k => by rw [spec_PathOk.l0]) ?_
        rw [w64s (show i < l.length by omega) (by omega)]
        exact evT (by omega) (evT (by omega) (evB q2 (evT rfl h2)))
    | false =>
      refine ⟨false, ?_, ?_, fun h => by cases h⟩
      · refine evS (fun k => by rw [impl_PathOk.l0]) ?_
        exact evT (by omega) (evT (by omega) (evT (by omega) (evB q1 (evF Bool.false_ne_true (evR rfl)))))
      · refine evS (fun k => by rw [spec_PathOk.l0]) ?_
        exact evT (by omega) (evT (by omega) (evB q2 (evF Bool.false_ne_true (evR rfl))))
theorem split_impl (s : ByteArray) (hs : s.size ≤ 1048576) (c : UInt8) : strings_Split.f s (⟨#[c]⟩ : ByteArray) = some (pieces c s) := by
  unfold strings_Split.f
  rw [if_pos ⟨by omega, rfl⟩]
  rfl
theorem pathOk_both (s : ByteArray) (hs : s.size ≤ 1048576) : ∃ r, Ev (fun k => impl_PathOk.f k s) r ∧ Ev (fun k => spec_PathOk.f k s) r ∧ (r = true → ∀ x ∈ pieces 47 s, 1 ≤ x.size) := by
  have hc := pieces_count 47 s
  obtain ⟨r, h1, h2, h3⟩ := path_l0 s (pieces 47 s) (by omega) (fun x hx => by have := pieces_mem 47 s x hx; omega) _ 0 (Nat.zero_add _)
  have hS : Ev (fun k => spec_l3Split.f k s 47) (pieces 47 s) := split_spec s hs 47
  refine ⟨r, ?_, ?_, h3⟩
  · unfold impl_PathOk.f
    exact evC (split_impl s hs 47) h1
  · unfold spec_PathOk.f
    exact evB hS h2
end Go.Proofs.YtkofdkinaahbpaaDoor.Z

/- A path's last part that tells a number, the program's way and the reference's. Plain lemmas. -/
set_option linter.unusedVariables false
namespace Go.Proofs.YtkofdkinaahbpaaDoor.Z
open Go.RowKit Go.Proofs.YtkofdkinaahbpaaDoorW.PrintWords Go.Proofs.YtkofdkinaahbpaaDoorW.PrintMore Go.Proofs.YtkofdkinaahbpaaDoor.X Go.Proofs.YtkofdkinaahbpaaDoor.Sp
/-- Where the last byte c lies; -1: nowhere. -/
def lastIx (c : UInt8) (l : List UInt8) : Int := match l.reverse.findIdx? (· = c) with | some j => (l.length : Int) - 1 - j | none => -1
theorem lastIx_snoc_eq (c : UInt8) (l : List UInt8) : lastIx c (l ++ [c]) = l.length := by
  unfold lastIx
  rw [List.reverse_append, List.reverse_singleton, List.singleton_append, List.findIdx?_cons]
  simp
theorem lastIx_snoc_ne (b c : UInt8) (l : List UInt8) (h : b ≠ c) : lastIx c (l ++ [b]) = lastIx c l := by
  unfold lastIx
  rw [List.reverse_append, List.reverse_singleton, List.singleton_append, List.findIdx?_cons]
  simp only [h, decide_false, Bool.false_eq_true, if_false]
  cases l.reverse.findIdx? (fun x => decide (x = c)) with
  | none => rfl
  | some j => simp; omega
theorem lastIx_nil (c : UInt8) : lastIx c [] = -1 := rfl
theorem last_l0 (s : ByteArray) (hs : s.size ≤ 1048576) (c : UInt8) : ∀ i : Nat, i ≤ s.size → Ev (fun k => bytealg_LastIndexByteString.l0 k s (c.toNat : Int) ((i : Int) - 1)) (lastIx c (s.data.toList.take i)) := by
  intro i
  induction i with
  | zero =>
    intro hi
    refine evS (fun k => by rw [bytealg_LastIndexByteString.l0]) ?_
    exact evF (by omega) (evR rfl)
  | succ i ih =>
    intro hi
    have hl : i < s.data.toList.length := by rw [data_length]; omega
    have hb := byte_at s i (by omega)
    have e0 : (((i + 1 : Nat) : Int) - 1) = (i : Int) := by omega
    rw [e0, List.take_succ_eq_append_getElem hl]
    refine evS (fun k => by rw [bytealg_LastIndexByteString.l0]) ?_
    rw [hb, w64 (x := (i : Int) - 1) (by omega)]
    refine evT (by omega) (evT (by omega) (evT (by omega) ?_))
    by_cases hc : s.data.toList[i] = c
    · refine evT (by rw [hc]) (evR ?_)
      rw [hc, lastIx_snoc_eq, List.length_take, Nat.min_eq_left (by omega)]
    · refine evF (fun e => hc (UInt8.toNat_inj.1 (by omega))) ?_
      rw [lastIx_snoc_ne _ _ _ hc]
      exact ih (by omega)
theorem last_ev (s : ByteArray) (hs : s.size ≤ 1048576) (c : UInt8) : Ev (fun k => strings_LastIndexByte.f k s (c.toNat : Int)) (lastIx c s.data.toList) := by
  unfold strings_LastIndexByte.f
  refine evB (a := lastIx c s.data.toList) ?_ (evR rfl)
  unfold bytealg_LastIndexByteString.f
  rw [w64 (x := (s.size : Int) - 1) (by omega)]
  have := last_l0 s hs c s.size (Nat.le_refl _)
  rwa [List.take_of_length_le (by rw [data_length]; exact Nat.le_refl _)] at this
/-- The last piece, and what is ahead of it. -/
theorem pcs_last (c : UInt8) : ∀ l : List UInt8, (lastIx c l = -1 ∧ pcs c l = [l]) ∨ ∃ a b : List UInt8, l = a ++ c :: b ∧ lastIx c l = a.length ∧ (pcs c l).getLast? = some b ∧ 2 ≤ (pcs c l).length := by
  intro l
  induction l with
  | nil => exact .inl ⟨rfl, rfl⟩
  | cons x l ih =>
    have hap : ∀ (y : UInt8) (m : List UInt8), lastIx c (y :: m) = if lastIx c m = -1 then (if y = c then 0 else -1) else lastIx c m + 1 := by
      intro y m
      unfold lastIx
      rw [List.reverse_cons, List.findIdx?_append]
      cases hf : m.reverse.findIdx? (fun x => decide (x = c)) with
      | some j =>
        have hj := List.findIdx?_eq_some_iff_getElem.1 hf
        obtain ⟨hj1, _⟩ := hj
        rw [List.length_reverse] at hj1
        simp only [Option.some_or, List.length_cons]
        rw [if_neg (by omega)]
        omega
      | none =>
        by_cases hy : y = c
        · simp [hy]
        · simp [hy]
    rw [hap]
    rcases ih with ⟨h1, h2⟩ | ⟨a, b, h1, h2, h3, h4⟩
    · rw [if_pos h1]
      by_cases hx : x = c
      · right
        refine ⟨[], l, by rw [hx]; rfl, by rw [if_pos hx]; rfl, ?_, ?_⟩
        · rw [pcs, if_pos hx, h2]
          rfl
        · rw [pcs, if_pos hx, h2]
          simp
      · left
        rw [if_neg hx]
        exact ⟨rfl, by rw [pcs, if_neg hx, h2]; rfl⟩
    · rw [if_neg (by omega)]
      right
      refine ⟨x :: a, b, by rw [h1]; rfl, by rw [h2]; simp, ?_, ?_⟩
      · by_cases hx : x = c
        · rw [pcs, if_pos hx]
          cases hp : pcs c l with
          | nil => exact absurd hp (pcs_ne c l)
          | cons u v => rw [hp] at h3; rw [List.getLast?_cons_cons]; exact h3
        · rw [pcs, if_neg hx]
          cases hp : pcs c l with
          | nil => exact absurd hp (pcs_ne c l)
          | cons u v =>
            cases v with
            | nil => rw [hp] at h4; simp at h4
            | cons p q =>
              rw [hp] at h3
              rw [List.getLast?_cons_cons] at h3
              show ((x :: u) :: p :: q).getLast? = some b
              rw [List.getLast?_cons_cons]
              exact h3
      · by_cases hx : x = c
        · rw [pcs, if_pos hx]; simp; omega
        · rw [pcs, if_neg hx]
          cases hp : pcs c l with
          | nil => exact absurd hp (pcs_ne c l)
          | cons u v => rw [hp] at h4; simpa [onto] using h4
end Go.Proofs.YtkofdkinaahbpaaDoor.Z

/- The number that a text is, the program's way; ends of texts. Plain lemmas. -/
set_option linter.unusedVariables false
namespace Go.Proofs.YtkofdkinaahbpaaDoor.Z
open Go.RowKit Go.Proofs.YtkofdkinaahbpaaDoorW.PrintWords Go.Proofs.YtkofdkinaahbpaaDoorW.PrintMore Go.Proofs.YtkofdkinaahbpaaDoor.X Go.Proofs.YtkofdkinaahbpaaDoor.Sp
theorem ext_end (s : ByteArray) (f : Nat) : s.extract f s.size = toB (s.data.toList.drop f) := by
  rw [ext_list]
  unfold toB
  rw [List.take_of_length_le (by rw [List.length_drop, data_length]; exact Nat.le_refl _)]
theorem toB_size (l : List UInt8) : (toB l).size = l.length := by
  show l.toArray.size = _
  rw [List.size_toArray]
theorem toB_data (l : List UInt8) : (toB l).data.toList = l := by unfold toB; simp
theorem pieces_toB (c : UInt8) (s : ByteArray) : pieces c s = (pcs c s.data.toList).map toB := rfl
theorem numberOf_ev (t : ByteArray) (ht : t.size ≤ 1048576) (m : Int) (hm : m ≤ 18) : Ev (fun k => impl_numberOf.f k t m) (if num t = true ∧ (t.size : Int) ≤ m then (((val t.data.toList : Nat) : Int), true) else (0, false)) := by
  unfold impl_numberOf.f
  refine evB (num_impl t ht) ?_
  cases hn : num t with
  | false => exact evF Bool.false_ne_true (evR (by simp))
  | true =>
    refine evT rfl ?_
    by_cases h : (t.size : Int) > m
    · exact evT h (evR (by rw [if_neg (fun e => by omega)]))
    · refine evF h (evT (by omega) (evC (atoi_val hn) (evR ?_)))
      rw [if_pos ⟨rfl, by omega⟩]
theorem pow4 {n : Nat} (h : 4 ≤ n) : 10000 ≤ 10 ^ n := Nat.le_trans (by decide) (Nat.pow_le_pow_right (show 0 < 10 by decide) h)
theorem small4 {t : ByteArray} (hsh : short t = true) (h : ((val t.data.toList : Nat) : Int) ≤ 1000) : t.size ≤ 4 := by
  rcases Nat.lt_or_ge 4 t.size with h5 | h5
  · have hle := short_lead hsh (by omega)
    have h10 := pow4 (n := t.size - 1) (by omega)
    generalize val t.data.toList = v at *
    generalize 10 ^ (t.size - 1) = p at *
    omega
  · exact h5
end Go.Proofs.YtkofdkinaahbpaaDoor.Z

/- A path's number, the program's way and the reference's: the same. Plain lemmas. -/
set_option linter.unusedVariables false
namespace Go.Proofs.YtkofdkinaahbpaaDoor.Z
open Go.RowKit Go.Proofs.YtkofdkinaahbpaaDoorW.PrintWords Go.Proofs.YtkofdkinaahbpaaDoorW.PrintMore Go.Proofs.YtkofdkinaahbpaaDoor.X Go.Proofs.YtkofdkinaahbpaaDoor.Sp
theorem w64p1 (a : Nat) (h : a ≤ 2000000) : wrap64 ((a : Int) + 1) = ((a + 1 : Nat) : Int) := by rw [w64 (by omega)]; omega
theorem w64p2 (a : Nat) (h : a ≤ 2000000) : wrap64 ((a : Int) + 2) = ((a + 2 : Nat) : Int) := by rw [w64 (by omega)]; omega
set_option maxHeartbeats 1000000 in
theorem major_both (s : ByteArray) (hs : s.size ≤ 1048576) (hp : ∀ x ∈ pieces 47 s, 1 ≤ x.size) : ∃ (n : Int) (base : ByteArray), Ev (fun k => impl_cutMajor.f k s) (base, if n = 0 then 1 else n) ∧ Ev (fun k => spec_l4Major.f k s) n ∧
    (n = 0 ∧ base = s ∨ 2 ≤ n ∧ n ≤ 1000 ∧ ∃ (t : ByteArray) (a : Nat), num t = true ∧ n = ((val t.data.toList : Nat) : Int) ∧ base = s.extract 0 a ∧ s.size = a + 2 + t.size) := by
  have hL := last_ev s hs 47
  have hS : Ev (fun k => spec_l3Split.f k s 47) (pieces 47 s) := split_spec s hs 47
  have hcount := pieces_count 47 s
  have hlen1 : 1 ≤ (pieces 47 s).length := by rw [pieces_length]; omega
  have ew : wrap64 (((pieces 47 s).length : Int) - 1) = (((pieces 47 s).length - 1 : Nat) : Int) := by rw [w64 (by omega)]; omega
  rcases pcs_last 47 s.data.toList with ⟨h1, h2⟩ | ⟨a, b, h1, h2, h3, h4⟩
  · refine ⟨0, s, ?_, ?_, .inl ⟨rfl, rfl⟩⟩
    · unfold impl_cutMajor.f
      refine evB hL ?_
      rw [h1]
      refine evT (by omega) ?_
      refine evS (fun k => by rw [impl_cutMajor.j0]) ?_
      exact evT rfl (evR rfl)
    · unfold spec_l4Major.f
      refine evB hS ?_
      have hl : (pieces 47 s).length = 1 := by rw [pieces_toB, h2]; rfl
      rw [ew]
      refine evT (by omega) (evT (by omega) (evT (by omega) ?_))
      refine evS (fun k => by rw [spec_l4Major.j0]) ?_
      exact evT rfl (evR rfl)
  · have EW := Aside0.mk ew
    have H2 := Aside0.mk h2
    clear ew h2
    have hsz : s.size = a.length + 1 + b.length := by rw [← data_length, h1]; simp; omega
    have hl2 : 2 ≤ (pieces 47 s).length := by rw [pieces_toB, List.length_map]; exact h4
    have hlast : rdOf ByteArray.empty (pieces 47 s) (((pieces 47 s).length - 1 : Nat) : Int) = toB b := by
      have g := rdOf_get (d := ByteArray.empty) (l := pieces 47 s) (i := (pieces 47 s).length - 1) (by omega)
      rw [← List.getLast?_eq_getElem?, pieces_toB, List.getLast?_map, h3] at g
      exact (Option.some.inj g).symm
    have hb1 : 1 ≤ b.length := by
      have := hp _ (rdOf_mem (l := pieces 47 s) (i := (pieces 47 s).length - 1) (by omega))
      rw [hlast, toB_size] at this
      exact this
    obtain ⟨x, y, hb⟩ : ∃ x y, b = x :: y := by
      cases b with
      | nil => simp at hb1
      | cons x y => exact ⟨x, y, rfl⟩
    subst hb
    have hsz' : s.size = a.length + 2 + y.length := by rw [List.length_cons] at hsz; omega
    have hy : (toB y).size ≤ 1048576 := by rw [toB_size]; omega
    have w1 := w64p1 a.length (by omega)
    have w2 := w64p2 a.length (by omega)
    have W1 := Aside0.mk w1
    have W2 := Aside0.mk w2
    clear w1 w2
    have hbt : bt s ((a.length + 1 : Nat) : Int) = (x.toNat : Int) := by
      have hlt : a.length + 1 < s.size := by rw [List.length_cons] at hsz; omega
      have hl' : a.length + 1 < s.data.toList.length := by rw [data_length]; exact hlt
      have h5 : s.data.toList[a.length + 1]? = some x := by
        rw [h1, List.getElem?_append_right (by omega), show a.length + 1 - a.length = 1 by omega]
        rfl
      rw [List.getElem?_eq_getElem hl'] at h5
      rw [byte_at s (a.length + 1) hlt]
      exact congrArg (fun u : UInt8 => (u.toNat : Int)) (Option.some.inj h5)
    have hbl : bt (toB (x :: y)) 0 = (x.toNat : Int) := by
      have h6 := byte_at (toB (x :: y)) 0 (by rw [toB_size]; simp)
      have h7 : (toB (x :: y)).data.toList[0]? = some x := by rw [toB_data]; rfl
      rw [List.getElem?_eq_getElem (by rw [toB_data]; simp)] at h7
      exact h6.trans (congrArg (fun u : UInt8 => (u.toNat : Int)) (Option.some.inj h7))
    have ht1 : s.extract (a.length + 2) s.size = toB y := by
      rw [ext_end]
      refine congrArg toB ?_
      rw [h1, List.drop_append, List.drop_eq_nil_of_le (by omega), show a.length + 2 - a.length = 2 by omega]
      rfl
    have ht2 : (toB (x :: y)).extract 1 (toB (x :: y)).size = toB y := by
      rw [ext_end, toB_data]
      rfl
    have HBT := Aside0.mk hbt
    have HBL := Aside0.mk hbl
    clear hbt hbl
    have hne : ¬ (toB (x :: y)).toList = ([] : List UInt8) := by rw [tl, toB_data]; simp
    have hz2 : 0 < ((toB (x :: y)).size : Int) := by rw [toB_size, List.length_cons]; omega
    by_cases hx : (x.toNat : Int) = 118
    · have hxb : ((x.toNat : Int) != 118) = false := bne_eq_false_iff_eq.2 hx
      have hN := numberOf_ev (toB y) hy 4 (by omega)
      have hSn := numS_spec (toB y) hy
      by_cases hr : 2 ≤ numS (toB y) ∧ numS (toB y) ≤ 1000
      · have hsh : short (toB y) = true := (numS_pos _).1 (by omega)
        have hv := Aside0.mk (numS_val hsh)
        have hn : num (toB y) = true := by unfold short at hsh; simp at hsh; exact hsh.1
        have h4' : ((toB y).size : Int) ≤ 4 := by
          have := small4 hsh (by rw [← hv.out]; exact hr.2)
          omega
        rw [if_pos ⟨hn, h4'⟩] at hN
        refine ⟨numS (toB y), s.extract 0 a.length, ?_, ?_, .inr ⟨hr.1, hr.2, toB y, a.length, hn, hv.out, rfl, by rw [toB_size]; exact hsz'⟩⟩
        · rw [if_neg (by omega)]
          unfold impl_cutMajor.f
          refine evB hL ?_
          rw [H2.out, W1.out, HBT.out, hxb]
          refine evF (by omega) (evT (by omega) (evT (by omega) ?_))
          refine evS (fun k => by rw [impl_cutMajor.j0]) ?_
          rw [W2.out, show ((a.length + 2 : Nat) : Int).toNat = a.length + 2 by omega, ht1, show ((a.length : Nat) : Int).toNat = a.length by omega]
          refine evF Bool.false_ne_true (evT (by omega) (evT (by omega) (evB hN (evT rfl (evC (rng_impl _ _ _) ?_)))))
          refine evT (decide_eq_true (by rw [← hv.out]; exact hr)) (evT (by omega) (evT (by omega) (evR ?_)))
          rw [hv.out]
        · unfold spec_l4Major.f
          refine evB hS ?_
          rw [EW.out, hlast]
          refine evT (by omega) (evT (by omega) (evF (by omega) (evF hne (evT hz2 ?_))))
          rw [HBL.out, hxb]
          refine evS (fun k => by rw [spec_l4Major.j0]) ?_
          rw [ht2]
          refine evF Bool.false_ne_true (evT (by omega) (evB hSn (evC (rng_spec _ _ _) ?_)))
          exact evT (decide_eq_true hr) (evR rfl)
      · refine ⟨0, s, ?_, ?_, .inl ⟨rfl, rfl⟩⟩
        · unfold impl_cutMajor.f
          refine evB hL ?_
          rw [H2.out, W1.out, HBT.out, hxb]
          refine evF (by omega) (evT (by omega) (evT (by omega) ?_))
          refine evS (fun k => by rw [impl_cutMajor.j0]) ?_
          rw [W2.out, show ((a.length + 2 : Nat) : Int).toNat = a.length + 2 by omega, ht1]
          refine evF Bool.false_ne_true (evT (by omega) (evT (by omega) (evB hN ?_)))
          by_cases hc : num (toB y) = true ∧ ((toB y).size : Int) ≤ 4
          · rw [if_pos hc]
            have hsh : short (toB y) = true := by unfold short; rw [hc.1, decide_eq_true (show (toB y).size ≤ 8 by omega)]; try rfl
            refine evT rfl (evC (rng_impl _ _ _) (evF ?_ (evR rfl)))
            intro e
            have := of_decide_eq_true e
            rw [← numS_val hsh] at this
            exact hr this
          · rw [if_neg hc]
            exact evF Bool.false_ne_true (evR rfl)
        · unfold spec_l4Major.f
          refine evB hS ?_
          rw [EW.out, hlast]
          refine evT (by omega) (evT (by omega) (evF (by omega) (evF hne (evT hz2 ?_))))
          rw [HBL.out, hxb]
          refine evS (fun k => by rw [spec_l4Major.j0]) ?_
          rw [ht2]
          refine evF Bool.false_ne_true (evT (by omega) (evB hSn (evC (rng_spec _ _ _) ?_)))
          exact evF (fun e => hr (of_decide_eq_true e)) (evR rfl)
    · have hxb : ((x.toNat : Int) != 118) = true := bne_iff_ne.2 hx
      refine ⟨0, s, ?_, ?_, .inl ⟨rfl, rfl⟩⟩
      · unfold impl_cutMajor.f
        refine evB hL ?_
        rw [H2.out, W1.out, HBT.out, hxb]
        refine evF (by omega) (evT (by omega) (evT (by omega) ?_))
        refine evS (fun k => by rw [impl_cutMajor.j0]) ?_
        exact evT rfl (evR rfl)
      · unfold spec_l4Major.f
        refine evB hS ?_
        rw [EW.out, hlast]
        refine evT (by omega) (evT (by omega) (evF (by omega) (evF hne (evT hz2 ?_))))
        rw [HBL.out, hxb]
        refine evS (fun k => by rw [spec_l4Major.j0]) ?_
        exact evT rfl (evR rfl)
end Go.Proofs.YtkofdkinaahbpaaDoor.Z

/- A path's number and base, the program's and the reference's functions: the same. Plain lemmas. -/
set_option linter.unusedVariables false
namespace Go.Proofs.YtkofdkinaahbpaaDoor.Z
open Go.RowKit Go.Proofs.YtkofdkinaahbpaaDoorW.PrintWords Go.Proofs.YtkofdkinaahbpaaDoorW.PrintMore Go.Proofs.YtkofdkinaahbpaaDoor.X Go.Proofs.YtkofdkinaahbpaaDoor.Sp
theorem maj_both (s : ByteArray) (hs : s.size ≤ 1048576) : ∃ m : Int, Ev (fun k => impl_MajorOf.f k s) m ∧ Ev (fun k => spec_MajorOf.f k s) m ∧ 0 ≤ m ∧ m ≤ 1000 := by
  obtain ⟨r, h1, h2, h3⟩ := pathOk_both s hs
  cases r with
  | false =>
    refine ⟨0, ?_, ?_, by omega, by omega⟩
    · unfold impl_MajorOf.f
      exact evB h1 (evF Bool.false_ne_true (evR rfl))
    · unfold spec_MajorOf.f
      exact evB h2 (evF Bool.false_ne_true (evR rfl))
  | true =>
    obtain ⟨n, base, m1, m2, hn⟩ := major_both s hs (h3 rfl)
    refine ⟨if n = 0 then 1 else n, ?_, ?_, ?_, ?_⟩
    · unfold impl_MajorOf.f
      exact evB h1 (evT rfl (evB m1 (evR rfl)))
    · unfold spec_MajorOf.f
      refine evB h2 (evT rfl (evB m2 ?_))
      by_cases h0 : n = 0
      · exact evT h0 (evR (by rw [if_pos h0]))
      · exact evF h0 (evR (by rw [if_neg h0]))
    · split <;> omega
    · split <;> omega
end Go.Proofs.YtkofdkinaahbpaaDoor.Z

/- Right versions, the program's and the reference's: the same. Plain lemmas. -/
set_option linter.unusedVariables false
namespace Go.Proofs.YtkofdkinaahbpaaDoor.Z
open Go.RowKit Go.Proofs.YtkofdkinaahbpaaDoorW.PrintWords Go.Proofs.YtkofdkinaahbpaaDoorW.PrintMore Go.Proofs.YtkofdkinaahbpaaDoor.X Go.Proofs.YtkofdkinaahbpaaDoor.Sp
/-- A sign of a part. -/
def pch (b : Int) : Prop := (97 ≤ b ∧ b ≤ 122) ∨ (65 ≤ b ∧ b ≤ 90) ∨ (48 ≤ b ∧ b ≤ 57) ∨ b = 45
instance (b : Int) : Decidable (pch b) := by unfold pch; infer_instance
def pchU (u : UInt8) : Bool := decide (pch (u.toNat : Int))
theorem ev_fig {b : Int} {A : Nat → Option Bool} {r : Bool} (H : (48 ≤ b ∧ b ≤ 57) ∨ b = 45 → Ev A r) (H' : ¬ ((48 ≤ b ∧ b ≤ 57) ∨ b = 45) → r = false) :
    Ev (fun k => (impl_isFigure.f b).bind fun t => if t = true then A k else if b = 45 then A k else some false) r := by
  refine evC (figure_ev b) ?_
  by_cases h : 48 ≤ b ∧ b ≤ 57
  · exact evT (decide_eq_true h) (H (.inl h))
  · refine evF (by simpa using h) ?_
    by_cases h2 : b = 45
    · exact evT h2 (H (.inr h2))
    · exact evF h2 (evR (H' (fun e => e.elim h h2)).symm)
theorem ev_sign {b : Int} {A : Nat → Option Bool} {r : Bool} (H : pch b → Ev A r) (H' : ¬ pch b → r = false) :
    Ev (fun k => if b ≥ 97 then (if b ≤ 122 then A k else (if b ≥ 65 then (if b ≤ 90 then A k else ((impl_isFigure.f b).bind fun t => if t = true then A k else if b = 45 then A k else some false)) else ((impl_isFigure.f b).bind fun t => if t = true then A k else if b = 45 then A k else some false))) else (if b ≥ 65 then (if b ≤ 90 then A k else ((impl_isFigure.f b).bind fun t => if t = true then A k else if b = 45 then A k else some false)) else ((impl_isFigure.f b).bind fun t => if t = true then A k else if b = 45 then A k else some false))) r := by
  have F : (¬ (97 ≤ b ∧ b ≤ 122)) → (¬ (65 ≤ b ∧ b ≤ 90)) → Ev (fun k => (impl_isFigure.f b).bind fun t => if t = true then A k else if b = 45 then A k else some false) r := fun h1 h2 =>
    ev_fig (fun h => H (by unfold pch; omega)) (fun h => H' (by unfold pch; omega))
  have M : (¬ (97 ≤ b ∧ b ≤ 122)) → Ev (fun k => if b ≥ 65 then (if b ≤ 90 then A k else ((impl_isFigure.f b).bind fun t => if t = true then A k else if b = 45 then A k else some false)) else ((impl_isFigure.f b).bind fun t => if t = true then A k else if b = 45 then A k else some false)) r := fun h1 => by
    by_cases h : b ≥ 65
    · refine evT h ?_
      by_cases h2 : b ≤ 90
      · exact evT h2 (H (by unfold pch; omega))
      · exact evF h2 (F h1 (by omega))
    · exact evF h (F h1 (by omega))
  by_cases h : b ≥ 97
  · refine evT h ?_
    by_cases h2 : b ≤ 122
    · exact evT h2 (H (by unfold pch; omega))
    · exact evF h2 (M (by omega))
  · exact evF h (M (by omega))
theorem ev_signS {b : Int} {A : Nat → Option Bool} {r : Bool} (H : pch b → Ev A r) (H' : ¬ pch b → r = false) :
    Ev (fun k => (spec_l1In.f b 97 122).bind fun t => (if t = true then A k else ((spec_l1In.f b 65 90).bind fun t => (if t = true then A k else ((spec_l1In.f b 48 57).bind fun t => (if t = true then A k else (if b = 45 then A k else (some false)))))))) r := by
  refine evC (rng_spec _ _ _) ?_
  by_cases h1 : 97 ≤ b ∧ b ≤ 122
  · exact evT (decide_eq_true h1) (H (by unfold pch; omega))
  refine evF (by simpa using h1) (evC (rng_spec _ _ _) ?_)
  by_cases h2 : 65 ≤ b ∧ b ≤ 90
  · exact evT (decide_eq_true h2) (H (by unfold pch; omega))
  refine evF (by simpa using h2) (evC (rng_spec _ _ _) ?_)
  by_cases h3 : 48 ≤ b ∧ b ≤ 57
  · exact evT (decide_eq_true h3) (H (by unfold pch; omega))
  refine evF (by simpa using h3) ?_
  by_cases h4 : b = 45
  · exact evT h4 (H (by unfold pch; omega))
  · exact evF h4 (evR (H' (by unfold pch; omega)).symm)
/-- A part. -/
def prtE (s : ByteArray) : Bool := decide ((1 : Int) ≤ s.size ∧ (s.size : Int) ≤ 8) && (!figs s || num s)
def prt (s : ByteArray) : Bool := s.data.toList.all pchU && prtE s
theorem prt_l0 (s : ByteArray) (hs : s.size ≤ 1048576) (d : Nat) : ∀ i : Nat, i + d = s.size → Ev (fun k => impl_partOk.l0 k s (i : Int)) ((s.data.toList.drop i).all pchU && prtE s) ∧ Ev (fun k => spec_l3Part.l0 k s (i : Int)) ((s.data.toList.drop i).all pchU && prtE s) := by
  induction d with
  | zero =>
    intro i hi
    rw [List.drop_eq_nil_of_le (show s.data.toList.length ≤ i by rw [data_length]; omega), List.all_nil, Bool.true_and]
    unfold prtE
    constructor
    · refine evS (fun k => by rw [impl_partOk.l0]) (evF (by omega) (evC (rng_impl _ _ _) ?_))
      cases hd : decide ((1 : Int) ≤ s.size ∧ (s.size : Int) ≤ 8) with
      | false => exact evF Bool.false_ne_true (evR rfl)
      | true =>
        refine evT rfl (evB (figs_impl s hs) ?_)
        cases hf : figs s with
        | false => exact evF Bool.false_ne_true (evR rfl)
        | true => exact evT rfl (evB (num_impl s hs) (evR (by simp)))
    · refine evS (fun k => by rw [spec_l3Part.l0]) (evF (by omega) (evC (rng_spec _ _ _) ?_))
      cases hd : decide ((1 : Int) ≤ s.size ∧ (s.size : Int) ≤ 8) with
      | false => exact evF Bool.false_ne_true (evR rfl)
      | true =>
        have h8 := of_decide_eq_true hd
        refine evT rfl (evB (figs_spec s hs) ?_)
        cases hf : figs s with
        | false => exact evF Bool.false_ne_true (evR rfl)
        | true =>
          refine evT rfl (evB (numS_spec s hs) (evR ?_))
          unfold numS short
          rw [decide_eq_true (show s.size ≤ 8 by omega)]
          cases num s with
          | true => simp
          | false => simp
  | succ d ih =>
    intro i hi
    have hl : i < s.data.toList.length := by rw [data_length]; omega
    have hb := byte_at s i (by omega)
    obtain ⟨h1, h2⟩ := ih (i + 1) (by omega)
    have hlt : (s.data.toList[i]).toNat < 256 := UInt8.toNat_lt _
    have he : (s.data.toList.drop i).all pchU = (pchU s.data.toList[i] && (s.data.toList.drop (i + 1)).all pchU) := by
      rw [List.drop_eq_getElem_cons hl]
      rfl
    have hw : wrap64 (((s.data.toList[i]).toNat : Nat) : Int) = (((s.data.toList[i]).toNat : Nat) : Int) := w64 (by omega)
    rw [he]
    have Hp : pch ((s.data.toList[i].toNat : Nat) : Int) → pchU s.data.toList[i] = true := fun h => decide_eq_true h
    have Hn : ¬ pch ((s.data.toList[i].toNat : Nat) : Int) → (pchU s.data.toList[i] && (s.data.toList.drop (i + 1)).all pchU && prtE s) = false := fun h => by
      have : pchU s.data.toList[i] = false := decide_eq_false h
      rw [this]
      rfl
    constructor
    · refine evS (fun k => by rw [impl_partOk.l0]) ?_
      rw [hb, w64s (show i < s.size by omega) (by omega)]
      refine evT (by omega) (evT (by omega) ?_)
      exact ev_sign (fun h => by rw [Hp h, Bool.true_and]; exact h1) Hn
    · refine evS (fun k => by rw [spec_l3Part.l0]) ?_
      rw [hb, hw, w64s (show i < s.size by omega) (by omega)]
      refine evT (by omega) (evT (by omega) ?_)
      exact ev_signS (fun h => by rw [Hp h, Bool.true_and]; exact h2) Hn
theorem prt_impl (s : ByteArray) (hs : s.size ≤ 1048576) : Ev (fun k => impl_partOk.f k s) (prt s) := (prt_l0 s hs s.size 0 (by omega)).1
theorem prt_spec (s : ByteArray) (hs : s.size ≤ 1048576) : Ev (fun k => spec_l3Part.f k s) (prt s) := (prt_l0 s hs s.size 0 (by omega)).2
theorem pre_l0 (l : List ByteArray) (hl : l.length ≤ 1048577) (zl : ∀ x ∈ l, x.size ≤ 1048576) (d : Nat) : ∀ i : Nat, i + d = l.length → Ev (fun k => impl_VersionOk.l0 k l (i : Int)) ((l.drop i).all prt && decide (l.length ≤ 4)) ∧ Ev (fun k => spec_l3Pre.l0 k l (i : Int)) ((l.drop i).all prt && decide (l.length ≤ 4)) := by
  induction d with
  | zero =>
    intro i hi
    rw [List.drop_eq_nil_of_le (by omega), List.all_nil, Bool.true_and]
    have e : decide ((l.length : Int) ≤ 4) = decide (l.length ≤ 4) := decide_eq_decide.2 (by omega)
    constructor
    · refine evS (fun k => by rw [impl_VersionOk.l0]) (evF (by omega) (evR e))
    · refine evS (fun k => by rw [spec_l3Pre.l0]) (evF (by omega) (evR e))
  | succ d ih =>
    intro i hi
    have il : i < l.length := by omega
    have gl : rdOf ByteArray.empty l (i : Int) = l[i] := by
      have := rdOf_get (d := ByteArray.empty) il
      rw [List.getElem?_eq_getElem il] at this
      exact (Option.some.inj this).symm
    have hz := zl _ (List.getElem_mem il)
    obtain ⟨h1, h2⟩ := ih (i + 1) (by omega)
    have he : (l.drop i).all prt = (prt l[i] && (l.drop (i + 1)).all prt) := by
      rw [List.drop_eq_getElem_cons il]
      rfl
    rw [he]
    have p1 := prt_impl l[i] hz
    have p2 := prt_spec l[i] hz
    cases hp : prt l[i] with
    | true =>
      rw [hp] at p1 p2
      rw [Bool.true_and]
      constructor
      · refine evS (fun k => by rw [impl_VersionOk.l0]) ?_
        rw [gl, w64s il (by omega)]
        exact evT (by omega) (evT (by omega) (evB p1 (evT rfl h1)))
      · refine evS (fun k => by rw [spec_l3Pre.l0]) ?_
        rw [gl, w64s il (by omega)]
        exact evT (by omega) (evT (by omega) (evB p2 (evT rfl h2)))
    | false =>
      rw [hp] at p1 p2
      constructor
      · refine evS (fun k => by rw [impl_VersionOk.l0]) ?_
        rw [gl]
        exact evT (by omega) (evT (by omega) (evB p1 (evF Bool.false_ne_true (evR rfl))))
      · refine evS (fun k => by rw [spec_l3Pre.l0]) ?_
        rw [gl]
        exact evT (by omega) (evT (by omega) (evB p2 (evF Bool.false_ne_true (evR rfl))))
def pre (p : ByteArray) : Bool := (pieces 46 p).all prt && decide ((pieces 46 p).length ≤ 4)
def in6 (a : Int) : Bool := decide (0 ≤ a ∧ a ≤ 1000000)
def verOk (a b c : Int) (p : ByteArray) : Bool := in6 a && (in6 b && (in6 c && (decide (p.size = 0) || pre p)))
theorem nil_iff' (s : ByteArray) : s.toList = ([] : List UInt8) ↔ s.size = 0 := by
  rw [tl]
  have := data_length s
  constructor
  · intro e; rw [e] at this; simpa using this.symm
  · intro e; exact List.eq_nil_of_length_eq_zero (by omega)
theorem verOk_both (a b c : Int) (p : ByteArray) (hp : p.size ≤ 1048576) : Ev (fun k => impl_VersionOk.f k a b c p) (verOk a b c p) ∧ Ev (fun k => spec_VersionOk.f k a b c p) (verOk a b c p) := by
  have hc := pieces_count 46 p
  obtain ⟨l1, l2⟩ := pre_l0 (pieces 46 p) (by omega) (fun x hx => by have := pieces_mem 46 p x hx; omega) _ 0 (Nat.zero_add _)
  rw [List.drop_zero] at l1 l2
  have hS : Ev (fun k => spec_l3Split.f k p 46) (pieces 46 p) := split_spec p hp 46
  have hI : strings_Split.f p (⟨#[46]⟩ : ByteArray) = some (pieces 46 p) := by
    unfold strings_Split.f
    rw [if_pos ⟨by omega, rfl⟩]
    rfl
  have tI : Ev (fun k => impl_VersionOk.f0 k p) (decide (p.size = 0) || pre p) := by
    unfold impl_VersionOk.f0
    by_cases h : p.size = 0
    · exact evT ((nil_iff' p).2 h) (evR (by rw [decide_eq_true h]; rfl))
    · refine evF (fun e => h ((nil_iff' p).1 e)) (evC hI ?_)
      rw [decide_eq_false h, Bool.false_or]
      exact l1
  have tS : Ev (fun k => if p.toList = ([] : List UInt8) then (some true) else ((spec_l3Pre.f k p).bind fun t146 => (some t146))) (decide (p.size = 0) || pre p) := by
    by_cases h : p.size = 0
    · exact evT ((nil_iff' p).2 h) (evR (by rw [decide_eq_true h]; rfl))
    · refine evF (fun e => h ((nil_iff' p).1 e)) ?_
      rw [decide_eq_false h, Bool.false_or]
      refine evB ?_ (evR rfl)
      unfold spec_l3Pre.f
      exact evB hS l2
  unfold verOk
  constructor
  · unfold impl_VersionOk.f
    refine evC (rng_impl _ _ _) ?_
    show Ev (fun k => if in6 a = true then _ else _) _
    cases in6 a with
    | false => exact evF Bool.false_ne_true (evR rfl)
    | true =>
      refine evT rfl ?_
      unfold impl_VersionOk.f2
      refine evC (rng_impl _ _ _) ?_
      show Ev (fun k => if in6 b = true then _ else _) _
      cases in6 b with
      | false => exact evF Bool.false_ne_true (evR rfl)
      | true =>
        refine evT rfl ?_
        unfold impl_VersionOk.f1
        refine evC (rng_impl _ _ _) ?_
        show Ev (fun k => if in6 c = true then _ else _) _
        cases in6 c with
        | false => exact evF Bool.false_ne_true (evR rfl)
        | true => exact evT rfl tI
  · unfold spec_VersionOk.f
    refine evC (rng_spec _ _ _) ?_
    show Ev (fun k => if in6 a = true then _ else _) _
    cases in6 a with
    | false => exact evF Bool.false_ne_true (evR rfl)
    | true =>
      refine evT rfl (evC (rng_spec _ _ _) ?_)
      show Ev (fun k => if in6 b = true then _ else _) _
      cases in6 b with
      | false => exact evF Bool.false_ne_true (evR rfl)
      | true =>
        refine evT rfl (evC (rng_spec _ _ _) ?_)
        show Ev (fun k => if in6 c = true then _ else _) _
        cases in6 c with
        | false => exact evF Bool.false_ne_true (evR rfl)
        | true => exact evT rfl tS
end Go.Proofs.YtkofdkinaahbpaaDoor.Z

/- Does a version fit a path: the program's and the reference's answer are the same. Plain lemmas. -/
set_option linter.unusedVariables false
namespace Go.Proofs.YtkofdkinaahbpaaDoor.Z
open Go.RowKit Go.Proofs.YtkofdkinaahbpaaDoorW.PrintWords Go.Proofs.YtkofdkinaahbpaaDoorW.PrintMore Go.Proofs.YtkofdkinaahbpaaDoor.X Go.Proofs.YtkofdkinaahbpaaDoor.Sp
/-- By the path's number. -/
def fitsM (m a b c : Int) (p : ByteArray) : Bool := decide (0 < m) && (verOk a b c p && (decide (a = m) || (decide (m = 1) && decide (a = 0))))
theorem fits_of (s : ByteArray) (m a b c : Int) (p : ByteArray) (hp : p.size ≤ 1048576) (h1 : Ev (fun k => impl_MajorOf.f k s) m) (h2 : Ev (fun k => spec_MajorOf.f k s) m) :
    Ev (fun k => impl_Fits.f k s a b c p) (fitsM m a b c p) ∧ Ev (fun k => spec_Fits.f k s a b c p) (fitsM m a b c p) := by
  obtain ⟨v1, v2⟩ := verOk_both a b c p hp
  unfold impl_Fits.f spec_Fits.f fitsM
  by_cases hm : 0 < m
  · rw [decide_eq_true hm, Bool.true_and]
    cases hv : verOk a b c p with
    | false =>
      rw [hv] at v1 v2
      exact ⟨evB h1 (evT hm (evB v1 (evF Bool.false_ne_true (evR rfl)))), evB h2 (evT hm (evB v2 (evF Bool.false_ne_true (evR rfl))))⟩
    | true =>
      rw [hv] at v1 v2
      rw [Bool.true_and]
      refine ⟨evB h1 (evT hm (evB v1 (evT rfl ?_))), evB h2 (evT hm (evB v2 (evT rfl ?_)))⟩
      · by_cases ha : a = m
        · exact evT ha (evR (by rw [decide_eq_true ha]; rfl))
        · refine evF ha ?_
          rw [decide_eq_false ha, Bool.false_or]
          by_cases h0 : a = 0
          · refine evT h0 (evR ?_)
            rw [decide_eq_true h0, Bool.and_true]
            by_cases h1 : m = 1 <;> simp [h1]
          · exact evF h0 (evR (by rw [decide_eq_false h0, Bool.and_false]))
      · by_cases ha : a = m
        · exact evT ha (evR (by rw [decide_eq_true ha]; rfl))
        · refine evF ha ?_
          rw [decide_eq_false ha, Bool.false_or]
          by_cases h1 : m = 1
          · refine evT h1 (evR ?_)
            rw [decide_eq_true h1, Bool.true_and]
            by_cases h0 : a = 0 <;> simp [h0]
          · exact evF h1 (evR (by rw [decide_eq_false h1, Bool.false_and]))
  · rw [decide_eq_false hm, Bool.false_and]
    exact ⟨evB h1 (evF (by omega) (evR rfl)), evB h2 (evF (by omega) (evR rfl))⟩
theorem fits_both (s : ByteArray) (a b c : Int) (p : ByteArray) (hs : s.size ≤ 1048576) (hp : p.size ≤ 1048576) : ∃ r, Ev (fun k => impl_Fits.f k s a b c p) r ∧ Ev (fun k => spec_Fits.f k s a b c p) r ∧ (r = true → verOk a b c p = true) := by
  obtain ⟨m, h1, h2, _⟩ := maj_both s hs
  obtain ⟨f1, f2⟩ := fits_of s m a b c p hp h1 h2
  refine ⟨_, f1, f2, fun h => ?_⟩
  unfold fitsM at h
  simp only [Bool.and_eq_true] at h
  exact h.2.1
end Go.Proofs.YtkofdkinaahbpaaDoor.Z

/- The law FnExactFits, as a plain statement: the program's Fits answers as the reference's. Conditions: those of the row's reading alone. -/
namespace Go.Proofs.YtkofdkinaahbpaaDoor.Pure
open Go.RowKit Go.Proofs.YtkofdkinaahbpaaDoor.X Go.Proofs.YtkofdkinaahbpaaDoor.Z Go.Proofs.YtkofdkinaahbpaaDoorW.PrintWords Go.Proofs.YtkofdkinaahbpaaDoorW.PrintLast
theorem FnExactFits : laws_FnExactFits.Pure := by
  intro s a0 a1 a2 a3 hs ⟨_, _, _, ha⟩
  refine Ev.rounds ?_
  unfold laws_FnExactFits.f
  unfold maxLen at ha
  refine evI (fun _ => evR rfl) (fun hl => ?_)
  have e1 : wrap64 ((1048576 : Int) - (a3.size : Int)) = 1048576 - (a3.size : Int) := w64 (by omega)
  by_cases h1 : (1048576 : Int) - (a3.size : Int) < 0
  · refine evC (a := -1) (by unfold laws_szVersion.f; rw [e1, if_pos h1]) ?_
    exact evT (by omega) (evR rfl)
  refine evC (a := 1048576 - (a3.size : Int)) (by unfold laws_szVersion.f; rw [e1, if_neg h1]) ?_
  refine evF h1 ?_
  obtain ⟨r, hI, hS, _⟩ := fits_both s a0 a1 a2 a3 (by omega) (by omega)
  exact evC rfl (evB hS (evC rfl (evB hI (evF (by cases r <;> decide) (evR rfl)))))
end Go.Proofs.YtkofdkinaahbpaaDoor.Pure

/- Values that come in as data (strings' slices, structs, slices of structs, nested) are of the printer's kinds: one lemma a make of type. Plain lemmas for the rows of laws over such parameters. No conditions beyond what each lemma names. -/
set_option linter.unusedVariables false
namespace Go.Proofs.YtkofdkinaahbpaaDoor.Y
open Go.RowKit Go.Proofs.YtkofdkinaahbpaaDoorW.PrintWords Go.ChangeShapes Go.WideShapes Go.Deep

/-- What is read as data of type T is of kind d, and G holds of what it says. -/
def Opn {α : Type} (P : Program) (d : Kd α) (T : TypeId) (G : α → Prop) : Prop :=
  ∀ {H : Type} (enc : TypeId × Value → H) (w : World) (spare : Nat → Bool) (held : Bool) (fuel : Nat) (cs : List Value) (x : DataW H × List MemPlace), DataW.trod enc P w 0 spare held fuel T cs = some x → ∃ y, d.K w y cs ∧ G y

theorem Opn.int {P : Program} {T : TypeId} {k : IntKind} (h : P.underlying T = some (.int k)) : Opn P (Kd.int k) T (fun n => (Lit.int k n).wf = true) := by
  intro H enc w spare held fuel cs x hx
  obtain ⟨n, rfl, _, hn⟩ := DataW.trod_int h hx
  exact ⟨n, rfl, hn⟩
theorem Opn.bool {P : Program} {T : TypeId} (h : P.underlying T = some .bool) : Opn P Kd.bool T (fun _ => True) := by
  intro H enc w spare held fuel cs x hx
  obtain ⟨n, rfl, _⟩ := DataW.trod_bool h hx
  exact ⟨n, rfl, trivial⟩
theorem Opn.string {P : Program} {T : TypeId} (h : P.underlying T = some .string) : Opn P Kd.string T (fun s => s.size ≤ maxLen) := by
  intro H enc w spare held fuel cs x hx
  obtain ⟨s, rfl, _, hs⟩ := DataW.trod_string h hx
  exact ⟨s, rfl, hs⟩
theorem Opn.slice {α : Type} {P : Program} {d : Kd α} {T e : TypeId} {G : α → Prop} [Inhabited α] (h : P.underlying T = some (.slice e)) (he : P.cellsOf e = d.sz) (ho : Opn P d e G) :
    Opn P (Kd.slice e d) T (fun l => l.length ≤ maxLen ∧ ∀ y, y ∈ l → G y) := by
  intro H enc w spare held fuel cs x hx
  rcases open_slice h hx with ⟨rfl, _⟩ | ⟨a, len, cap, m, n, D, Pl, rfl, _, hl, hm, hmm, _, hel⟩
  · exact ⟨[], ⟨none, 0, rfl, Nat.le_refl _, rfl, by simp, fun hn => absurd hn (Nat.lt_irrefl 0)⟩, by simp, fun y hy => by cases hy⟩
  · have hlm : len ≤ m := by rw [hmm]; split <;> omega
    have each : ∀ i, i < len → ∃ y, (∃ c, c.length = d.sz ∧ d.K w y c ∧ ∀ j u, c[j]? = some u → w.cell? (a.add (i * d.sz + j)) = some u) ∧ G y := by
      intro i hi
      obtain ⟨c, hc, ht⟩ := hel i (by omega)
      obtain ⟨y, hk, hg⟩ := ho enc w spare held n c _ ht
      obtain ⟨_, hlen, hcell⟩ := World.cells?_some hc
      refine ⟨y, ⟨c, hlen.trans he, hk, fun j u hu => ?_⟩, hg⟩
      have hj : j < P.cellsOf e := by rw [← hlen]; exact (List.getElem?_eq_some_iff.1 hu).1
      have := hcell j hj
      rw [Go.Deep.add_add, hu, he] at this
      exact this
    obtain ⟨f, hf⟩ := choose_lt each
    have hlen : ((List.range len).map f).length = len := by simp
    have hm' : len ≤ maxLen := Nat.le_trans hl hm
    refine ⟨(List.range len).map f, ⟨some a, cap, by rw [hlen], by rw [hlen]; exact hl, by rw [hlen], by rw [hlen]; unfold maxLen at hm'; exact hm', fun _ => ⟨a, rfl, fun j p hp => ?_⟩⟩, by rw [hlen]; exact hm', fun y hy => ?_⟩
    · obtain ⟨hj, rfl⟩ := List.getElem?_eq_some_iff.1 hp
      rw [hlen] at hj
      simp only [List.getElem_map, List.getElem_range]
      exact (hf j hj).1
    · obtain ⟨i, hi, rfl⟩ := List.mem_map.1 hy
      exact (hf i (List.mem_range.1 hi)).2

/-- The fields from cell 'off' on. -/
def FOpn {α : Type} (P : Program) (d : Kd α) (off : Nat) (fs : List Field) (G : α → Prop) : Prop :=
  ∀ {H : Type} (enc : TypeId × Value → H) (w : World) (spare : Nat → Bool) (held : Bool) (fuel : Nat) (cs : List Value),
    (∀ f, f ∈ fs → ∃ x, DataW.trod enc P w 0 spare held fuel f.type ((cs.drop f.offset).take (P.cellsOf f.type)) = some x) → cs.length = off + d.sz → ∃ y, d.K w y (cs.drop off) ∧ G y
theorem FOpn.one {α : Type} {P : Program} {d : Kd α} {off : Nat} {f : Field} {G : α → Prop} (hf : f.offset = off) (hc : P.cellsOf f.type = d.sz) (ho : Opn P d f.type G) : FOpn P d off [f] G := by
  intro H enc w spare held fuel cs hx hl
  obtain ⟨x, hx⟩ := hx f (by simp)
  rw [hf, hc, List.take_of_length_le (by simp; omega)] at hx
  exact ho enc w spare held fuel _ x hx
theorem FOpn.cons {α β : Type} {P : Program} {d : Kd α} {d' : Kd β} {off : Nat} {f : Field} {fs : List Field} {G : α → Prop} {G' : β → Prop} (hf : f.offset = off) (hc : P.cellsOf f.type = d.sz) (ho : Opn P d f.type G)
    (hs : FOpn P d' (off + d.sz) fs G') : FOpn P (Kd.pair d d') off (f :: fs) (fun y => G y.1 ∧ G' y.2) := by
  intro H enc w spare held fuel cs hx hl
  have hl' : cs.length = off + (d.sz + d'.sz) := hl
  obtain ⟨x, h1⟩ := hx f (by simp)
  rw [hf, hc] at h1
  obtain ⟨y, hy, gy⟩ := ho enc w spare held fuel _ x h1
  obtain ⟨z, hz, gz⟩ := hs enc w spare held fuel cs (fun g hg => hx g (List.mem_cons_of_mem _ hg)) (by omega)
  refine ⟨(y, z), ⟨_, _, ?_, hy, hz⟩, gy, gz⟩
  rw [← List.drop_drop, List.take_append_drop]
theorem Opn.struct {α β : Type} {P : Program} {d : Kd α} {T : TypeId} {fs : Array Field} {fl : List Field} {G : α → Prop} {G' : β → Prop} {proj : β → α} (mk : α → β) (h : P.underlying T = some (.struct fs)) (hfl : fs.toList = fl) (hc : P.cellsOf T = d.sz)
    (hmk : ∀ y, proj (mk y) = y) (hG : ∀ y, G y → G' (mk y)) (hs : FOpn P d 0 fl G) : Opn P (Kd.iso d proj) T G' := by
  intro H enc w spare held fuel cs x hx
  obtain ⟨xs, n, rfl, _, hlen, hxs, hall⟩ := DataW.trod_struct h hx
  obtain ⟨y, hy, gy⟩ := hs enc w spare held n cs (fun f hf => by
    rw [← hfl] at hf
    obtain ⟨i, hi, he⟩ := List.getElem_of_mem hf
    have hi' : i < fs.size := by simpa using hi
    have h1 : fs[i]? = some f := by rw [Array.getElem?_eq_getElem hi']; simpa using he
    exact ⟨_, (hall i f h1).trans (List.getElem?_eq_getElem (by omega))⟩) (by rw [hlen, hc, Nat.zero_add])
  refine ⟨mk y, ?_, hG y gy⟩
  show d.K w (proj (mk y)) cs
  rw [hmk]
  exact hy

/-- A parameter that is a slice. -/
theorem Opn.arg_slice {α : Type} {P : Program} {d : Kd α} {T e : TypeId} {G : α → Prop} [Inhabited α] (h : P.underlying T = some (.slice e)) (he : P.cellsOf e = d.sz) (ho : Opn P d e G)
    {H : Type} {enc : TypeId × Value → H} {w : World} {spare : Nat → Bool} {held : Bool} {v : Value} {D : DataW H} {ps : List MemPlace} {r : Reach} {b : Nat} (hv : Value.okWide P w r b T v) (hx : DataW.Trod enc P w 0 spare held T v D ps) :
    ∃ (A : Option Addr) (c : Nat) (l : List α), v = .slice A l.length c ∧ l.length ≤ c ∧ d.C w A l.length l ∧ l.length ≤ maxLen ∧ ∀ y, y ∈ l → G y := by
  obtain ⟨a, len, cap, rfl⟩ := okWide_slice h hv
  obtain ⟨fuel, hf⟩ := hx
  obtain ⟨l, ⟨A, c, hcs, hlc, hC⟩, hg1, hg2⟩ := Opn.slice h he ho enc w spare held fuel _ _ hf
  have hcs' : [Value.slice a len cap] = [Value.slice A l.length c] := hcs
  injection hcs' with h1 _
  exact ⟨A, c, l, h1, hlc, hC, hg1, hg2⟩
/-- A parameter that is a struct. -/
theorem Opn.arg_struct {α : Type} {P : Program} {d : Kd α} {T : TypeId} {G : α → Prop} {fs : Array Field} (hu : P.underlying T = some (.struct fs)) (ho : Opn P d T G)
    {H : Type} {enc : TypeId × Value → H} {w : World} {spare : Nat → Bool} {held : Bool} {v : Value} {D : DataW H} {ps : List MemPlace} {r : Reach} {b : Nat} (hv : Value.okWide P w r b T v) (hx : DataW.Trod enc P w 0 spare held T v D ps) :
    ∃ (cs : List Value) (y : α), v = .agg cs.toArray ∧ d.K w y cs ∧ G y := by
  obtain ⟨cs, rfl, _⟩ := okWide_struct hu hv
  obtain ⟨fuel, hf⟩ := hx
  obtain ⟨y, hk, hg⟩ := ho enc w spare held fuel _ _ hf
  exact ⟨cs.toList, y, by simp, hk, hg⟩
end Go.Proofs.YtkofdkinaahbpaaDoor.Y
