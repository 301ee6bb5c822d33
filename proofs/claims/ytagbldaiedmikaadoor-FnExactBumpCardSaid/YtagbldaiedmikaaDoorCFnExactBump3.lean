/- The law FnExactBump, as a plain statement: the program's Bump answers as the reference's. Conditions: those of the row's reading alone. -/
/- Part 4 of 5 of this claim's texts. -/
import Derived.Test.YtagbldaiedmikaaDoorWWords
import Derived.Test.YtagbldaiedmikaaDoorWMore
import Derived.Laws.BitsLemmas
import Derived.Deep.Slices
import Derived.ChangeArms
import Derived.WideShapes
import Derived.DataReads
import Derived.Test.YtagbldaiedmikaaDoorRows
import Derived.WalkKit
import Derived.ProofKit
import Derived.Test.YtagbldaiedmikaaDoorCFnExactBump0
import Derived.Test.YtagbldaiedmikaaDoorCFnExactBump1
import Derived.Test.YtagbldaiedmikaaDoorCFnExactBump2
namespace Go.Proofs.YtagbldaiedmikaaDoor.X
open Go.RowKit Go.Proofs.YtagbldaiedmikaaDoorW.PrintWords Go.Proofs.YtagbldaiedmikaaDoorW.PrintLast Go.Proofs.YtagbldaiedmikaaDoorW.PrintMore
attribute [local go_sem] max2_int min2_int max_two min_two max_three min_three max_four min_four   -- for this text's walks alone
set_option linter.unusedVariables false
set_option linter.unusedSimpArgs false

/-! ### laws_FnExactBump: function 5 -/
def laws_FnExactBump.f (k : Nat) (a0_0 : Int) (a0_1 : Int) (a0_2 : Int) (a0_3 : ByteArray) (a1 : Int) : Option (Bool) := (laws_szVersion.f a0_0 a0_1 a0_2 a0_3 1048576).bind fun t179 => (if t179 < 0 then (some true) else ((laws_toVersion.f a0_0 a0_1 a0_2 a0_3).bind fun bt180 => ((spec_Bump.f k bt180.1 bt180.2.1 bt180.2.2.1 bt180.2.2.2 a1).bind fun bt184 => ((laws_toVersion.f a0_0 a0_1 a0_2 a0_3).bind fun bt189 => ((impl_Bump.f k bt189.1 bt189.2.1 bt189.2.2.1 bt189.2.2.2 a1).bind fun bt193 => ((laws_eqVersion.f bt193.1 bt193.2.1 bt193.2.2.1 bt193.2.2.2 bt184.1 bt184.2.1 bt184.2.2.1 bt184.2.2.2).bind fun t198 => (if t198 = true then (some true) else (some false))))))))
theorem laws_FnExactBump.mono : ∀ a0 a1 a2 a3 a4 k, LeO (laws_FnExactBump.f k a0 a1 a2 a3 a4) (laws_FnExactBump.f (k + 1) a0 a1 a2 a3 a4) := by
  intro a0 a1 a2 a3 a4 k
  unfold laws_FnExactBump.f
  repeat' first
      | (with_reducible exact impl_Bump.mono _ _ _ _ _ _)
      | (with_reducible exact spec_Bump.mono _ _ _ _ _ _)
      | (with_reducible exact LeO.refl _)
      | (with_reducible exact LeO.none _)
      | (with_reducible refine LeO.ite ?_ ?_)
      | (with_reducible refine LeO.bind ?_ (fun _ => ?_))
      | exact impl_Bump.mono _ _ _ _ _ _
      | exact spec_Bump.mono _ _ _ _ _ _
      | exact LeO.none _
      | refine LeO.ite ?_ ?_
      | refine LeO.bind ?_ (fun _ => ?_)
set_option maxHeartbeats 8000000 in
set_option maxRecDepth 100000 in
theorem laws_FnExactBump.calls (k : Nat) (a0_0 : Int) (a0_1 : Int) (a0_2 : Int) (a0_3 : ByteArray) (a1 : Int) (r : Bool) (w : World) (h : laws_FnExactBump.f k a0_0 a0_1 a0_2 a0_3 a1 = some r) :
    Calls Tryd.prog 5 #[.agg #[.int .i64 a0_0, .int .i64 a0_1, .int .i64 a0_2, .string a0_3], .int .i64 a1] w fun e w' => e = .returned (.bool r) ∧ Below w.heap.size w w' := by
  have hu24 := Tryd.underlying24
  have hu27 := Tryd.underlying27
  have HB := Aside0.mk (Below.refl w.heap.size w)
  have H : ((laws_szVersion.f a0_0 a0_1 a0_2 a0_3 1048576).bind fun t179 => (if t179 < 0 then (some true) else ((laws_toVersion.f a0_0 a0_1 a0_2 a0_3).bind fun bt180 => ((spec_Bump.f k bt180.1 bt180.2.1 bt180.2.2.1 bt180.2.2.2 a1).bind fun bt184 => ((laws_toVersion.f a0_0 a0_1 a0_2 a0_3).bind fun bt189 => ((impl_Bump.f k bt189.1 bt189.2.1 bt189.2.2.1 bt189.2.2.2 a1).bind fun bt193 => ((laws_eqVersion.f bt193.1 bt193.2.1 bt193.2.2.1 bt193.2.2.2 bt184.1 bt184.2.1 bt184.2.2.1 bt184.2.2.2).bind fun t198 => (if t198 = true then (some true) else (some false))))))))) = some r := h
  clear h
  replace H := Option.bind_eq_some_iff.mp H
  obtain ⟨t179, A30, H⟩ := H
  replace H : (if t179 < 0 then (some true) else ((laws_toVersion.f a0_0 a0_1 a0_2 a0_3).bind fun bt180 => ((spec_Bump.f k bt180.1 bt180.2.1 bt180.2.2.1 bt180.2.2.2 a1).bind fun bt184 => ((laws_toVersion.f a0_0 a0_1 a0_2 a0_3).bind fun bt189 => ((impl_Bump.f k bt189.1 bt189.2.1 bt189.2.2.1 bt189.2.2.2 a1).bind fun bt193 => ((laws_eqVersion.f bt193.1 bt193.2.1 bt193.2.2.1 bt193.2.2.2 bt184.1 bt184.2.1 bt184.2.2.1 bt184.2.2.2).bind fun t198 => (if t198 = true then (some true) else (some false)))))))) = some r := H
  have A3 := Aside0.mk A30
  clear A30
  by_cases c4 : t179 < 0
  · rw [if_pos c4] at H
    have c4b0 : decide (t179 < 0) = true := decide_eq_true c4
    clear c4
    obtain rfl := Option.some.inj H
    go_enter Tryd.func5, Tryd.ntmps5
    go_wp2_with (first | ((with_reducible refine gate_dst (N := 2) rfl ?_); refine box_event ?hg (N := 2) ?hd (cs := #[.int .i64 a0_0, .int .i64 a0_1, .int .i64 a0_2, .string a0_3]) (t := 24) ?hr ?_; (case hd => rfl); (case hg => rfl); (case hr => first | (go_simp; done) | (go_simp; rfl)); intro gb178 hg w5 hbox hb; have n0_ := Aside0.mk (below_step (by repeat (first | (with_reducible first | exact HB.out | apply below_alloc | apply pw_below_drewN | apply below_drew1) | exact HB.out)) hb); have n1_ := Aside0.mk (hbox); have n2_ := Aside0.mk ((by rw [hg]; exact (below_size (by repeat (first | (with_reducible first | exact HB.out | apply below_alloc | apply pw_below_drewN | apply below_drew1) | exact HB.out))) : w.heap.size ≤ gb178)); have n3_ := Aside0.mk ((by rw [hg]; exact (below_size (by repeat (first | (with_reducible first | exact HB.out | apply below_alloc | apply pw_below_drewN | apply below_drew1) | exact HB.out))) : w.heap.size ≤ gb178)); clear HB; have HB := n0_; have BK178 := n1_; have GW178 := n2_; have GE178 := n3_; clear n0_ n1_ n2_ n3_; clear hb hbox hg; have hcz6_0 : w5.cell? ⟨gb178, 0, none⟩ = some (.int .i64 a0_0) := (blk_cell BK178.out 0).trans rfl; have hcz6_1 : w5.cell? ⟨gb178, 1, none⟩ = some (.int .i64 a0_1) := (blk_cell BK178.out 1).trans rfl; have hcz6_2 : w5.cell? ⟨gb178, 2, none⟩ = some (.int .i64 a0_2) := (blk_cell BK178.out 2).trans rfl; have hcz6_3 : w5.cell? ⟨gb178, 3, none⟩ = some (.string a0_3) := (blk_cell BK178.out 3).trans rfl; have hfz6_0 := blk_frozen BK178.out 0; have hfz6_1 := blk_frozen BK178.out 1; have hfz6_2 := blk_frozen BK178.out 2; have hfz6_3 := blk_frozen BK178.out 3) | ((with_reducible refine gate_callee (f := 17) rfl ?_); refine goesL_ (some 10) rfl rfl Tryd.func17 (by kernel_rfl) rfl #[.agg #[.int .i64 a0_0, .int .i64 a0_1, .int .i64 a0_2, .string a0_3], .int .i64 1048576] rfl (by (try simp only [List.map_toArray, List.map_cons, List.map_nil]); first | done | rfl | (simp only [List.length_drop, List.length_take]; rfl)) ?_; (with_reducible refine (laws_szVersion.calls a0_0 a0_1 a0_2 a0_3 1048576 t179 _ A3.out).mono ?_); rintro e w7 ⟨rfl, hb⟩; refine ⟨_, rfl, ?_⟩; have n0_ := Aside0.mk (blk_below (g := gb178) (o := .cells #[.int .i64 a0_0, .int .i64 a0_1, .int .i64 a0_2, .string a0_3] 24 (0, 0)) (by (with_reducible repeat (first | refine blk_drewN ?_ _ | refine blk_drew ?_ | refine blk_alloc ?_ _)); exact BK178.out) hb); have n1_ := Aside0.mk (below_step (by repeat (first | (with_reducible first | exact HB.out | apply below_alloc | apply pw_below_drewN | apply below_drew1 | refine below_set ?_ GE178.out) | exact HB.out)) hb); clear BK178; clear HB; have BK178 := n0_; have HB := n1_; clear n0_ n1_; (try clear hb); (try clear hb2); (try clear hk); (try clear hi)))
    go_ret
    exact ⟨by first | rfl | (simp [errW_none, errW_some] <;> rfl) | (simp [*, errW_none, errW_some] <;> rfl), by repeat (first | (with_reducible first | exact HB.out | apply below_alloc | apply pw_below_drewN | apply below_drew1 | refine below_set ?_ GE178.out) | exact HB.out)⟩
  · rw [if_neg c4] at H
    have c4b0 : decide (t179 < 0) = false := decide_eq_false c4
    clear c4
    replace H := Option.bind_eq_some_iff.mp H
    obtain ⟨⟨t180, t181, t182, t183⟩, A80, H⟩ := H
    replace H : ((spec_Bump.f k t180 t181 t182 t183 a1).bind fun bt184 => ((laws_toVersion.f a0_0 a0_1 a0_2 a0_3).bind fun bt189 => ((impl_Bump.f k bt189.1 bt189.2.1 bt189.2.2.1 bt189.2.2.2 a1).bind fun bt193 => ((laws_eqVersion.f bt193.1 bt193.2.1 bt193.2.2.1 bt193.2.2.2 bt184.1 bt184.2.1 bt184.2.2.1 bt184.2.2.2).bind fun t198 => (if t198 = true then (some true) else (some false)))))) = some r := H
    have A8 := Aside0.mk A80
    clear A80
    replace H := Option.bind_eq_some_iff.mp H
    obtain ⟨⟨t184, t185, t186, t187⟩, A90, H⟩ := H
    replace H : ((laws_toVersion.f a0_0 a0_1 a0_2 a0_3).bind fun bt189 => ((impl_Bump.f k bt189.1 bt189.2.1 bt189.2.2.1 bt189.2.2.2 a1).bind fun bt193 => ((laws_eqVersion.f bt193.1 bt193.2.1 bt193.2.2.1 bt193.2.2.2 t184 t185 t186 t187).bind fun t198 => (if t198 = true then (some true) else (some false))))) = some r := H
    have A9 := Aside0.mk A90
    clear A90
    replace H := Option.bind_eq_some_iff.mp H
    obtain ⟨⟨t189, t190, t191, t192⟩, A100, H⟩ := H
    replace H : ((impl_Bump.f k t189 t190 t191 t192 a1).bind fun bt193 => ((laws_eqVersion.f bt193.1 bt193.2.1 bt193.2.2.1 bt193.2.2.2 t184 t185 t186 t187).bind fun t198 => (if t198 = true then (some true) else (some false)))) = some r := H
    have A10 := Aside0.mk A100
    clear A100
    replace H := Option.bind_eq_some_iff.mp H
    obtain ⟨⟨t193, t194, t195, t196⟩, A110, H⟩ := H
    replace H : ((laws_eqVersion.f t193 t194 t195 t196 t184 t185 t186 t187).bind fun t198 => (if t198 = true then (some true) else (some false))) = some r := H
    have A11 := Aside0.mk A110
    clear A110
    replace H := Option.bind_eq_some_iff.mp H
    obtain ⟨t198, A120, H⟩ := H
    replace H : (if t198 = true then (some true) else (some false)) = some r := H
    have A12 := Aside0.mk A120
    clear A120
    by_cases c13 : t198 = true
    · subst c13
      have H1 : (some true) = some r := by rw [if_pos rfl] at H; exact H
      clear H
      have H := H1
      clear H1
      obtain rfl := Option.some.inj H
      go_enter Tryd.func5, Tryd.ntmps5
      go_wp2_with (first | ((with_reducible refine gate_dst (N := 2) rfl ?_); refine box_event ?hg (N := 2) ?hd (cs := #[.int .i64 a0_0, .int .i64 a0_1, .int .i64 a0_2, .string a0_3]) (t := 24) ?hr ?_; (case hd => rfl); (case hg => rfl); (case hr => first | (go_simp; done) | (go_simp; rfl)); intro gb178 hg w14 hbox hb; have n0_ := Aside0.mk (below_step (by repeat (first | (with_reducible first | exact HB.out | apply below_alloc | apply pw_below_drewN | apply below_drew1) | exact HB.out)) hb); have n1_ := Aside0.mk (hbox); have n2_ := Aside0.mk ((by rw [hg]; exact (below_size (by repeat (first | (with_reducible first | exact HB.out | apply below_alloc | apply pw_below_drewN | apply below_drew1) | exact HB.out))) : w.heap.size ≤ gb178)); have n3_ := Aside0.mk ((by rw [hg]; exact (below_size (by repeat (first | (with_reducible first | exact HB.out | apply below_alloc | apply pw_below_drewN | apply below_drew1) | exact HB.out))) : w.heap.size ≤ gb178)); clear HB; have HB := n0_; have BK178 := n1_; have GW178 := n2_; have GE178 := n3_; clear n0_ n1_ n2_ n3_; clear hb hbox hg; have hcz15_0 : w14.cell? ⟨gb178, 0, none⟩ = some (.int .i64 a0_0) := (blk_cell BK178.out 0).trans rfl; have hcz15_1 : w14.cell? ⟨gb178, 1, none⟩ = some (.int .i64 a0_1) := (blk_cell BK178.out 1).trans rfl; have hcz15_2 : w14.cell? ⟨gb178, 2, none⟩ = some (.int .i64 a0_2) := (blk_cell BK178.out 2).trans rfl; have hcz15_3 : w14.cell? ⟨gb178, 3, none⟩ = some (.string a0_3) := (blk_cell BK178.out 3).trans rfl; have hfz15_0 := blk_frozen BK178.out 0; have hfz15_1 := blk_frozen BK178.out 1; have hfz15_2 := blk_frozen BK178.out 2; have hfz15_3 := blk_frozen BK178.out 3) | ((with_reducible refine gate_callee (f := 17) rfl ?_); refine goesL_ (some 10) rfl rfl Tryd.func17 (by kernel_rfl) rfl #[.agg #[.int .i64 a0_0, .int .i64 a0_1, .int .i64 a0_2, .string a0_3], .int .i64 1048576] rfl (by (try simp only [List.map_toArray, List.map_cons, List.map_nil]); first | done | rfl | (simp only [List.length_drop, List.length_take]; rfl)) ?_; (with_reducible refine (laws_szVersion.calls a0_0 a0_1 a0_2 a0_3 1048576 t179 _ A3.out).mono ?_); rintro e w16 ⟨rfl, hb⟩; refine ⟨_, rfl, ?_⟩; have n0_ := Aside0.mk (blk_below (g := gb178) (o := .cells #[.int .i64 a0_0, .int .i64 a0_1, .int .i64 a0_2, .string a0_3] 24 (0, 0)) (by (with_reducible repeat (first | refine blk_drewN ?_ _ | refine blk_drew ?_ | refine blk_alloc ?_ _)); exact BK178.out) hb); have n1_ := Aside0.mk (below_step (by repeat (first | (with_reducible first | exact HB.out | apply below_alloc | apply pw_below_drewN | apply below_drew1 | refine below_set ?_ GE178.out) | exact HB.out)) hb); clear BK178; clear HB; have BK178 := n0_; have HB := n1_; clear n0_ n1_; (try clear hb); (try clear hb2); (try clear hk); (try clear hi); have hcz17_0 : w16.cell? ⟨gb178, 0, none⟩ = some (.int .i64 a0_0) := (blk_cell BK178.out 0).trans rfl; have hcz17_1 : w16.cell? ⟨gb178, 1, none⟩ = some (.int .i64 a0_1) := (blk_cell BK178.out 1).trans rfl; have hcz17_2 : w16.cell? ⟨gb178, 2, none⟩ = some (.int .i64 a0_2) := (blk_cell BK178.out 2).trans rfl; have hcz17_3 : w16.cell? ⟨gb178, 3, none⟩ = some (.string a0_3) := (blk_cell BK178.out 3).trans rfl; have hfz17_0 := blk_frozen BK178.out 0; have hfz17_1 := blk_frozen BK178.out 1; have hfz17_2 := blk_frozen BK178.out 2; have hfz17_3 := blk_frozen BK178.out 3) | ((with_reducible refine gate_callee (f := 19) rfl ?_); refine goesL_ (some 14) rfl rfl Tryd.func19 (by kernel_rfl) rfl #[.agg #[.int .i64 a0_0, .int .i64 a0_1, .int .i64 a0_2, .string a0_3]] rfl (by (try simp only [List.map_toArray, List.map_cons, List.map_nil]); first | done | rfl | (simp only [List.length_drop, List.length_take]; rfl)) ?_; (with_reducible refine (laws_toVersion.calls a0_0 a0_1 a0_2 a0_3 t180 t181 t182 t183 _ A8.out).mono ?_); rintro e w18 ⟨rfl, hb⟩; refine ⟨_, rfl, ?_⟩; have n0_ := Aside0.mk (blk_below (g := gb178) (o := .cells #[.int .i64 a0_0, .int .i64 a0_1, .int .i64 a0_2, .string a0_3] 24 (0, 0)) (by (with_reducible repeat (first | refine blk_drewN ?_ _ | refine blk_drew ?_ | refine blk_alloc ?_ _)); exact BK178.out) hb); have n1_ := Aside0.mk (below_step (by repeat (first | (with_reducible first | exact HB.out | apply below_alloc | apply pw_below_drewN | apply below_drew1 | refine below_set ?_ GE178.out) | exact HB.out)) hb); clear BK178; clear HB; have BK178 := n0_; have HB := n1_; clear n0_ n1_; (try clear hb); (try clear hb2); (try clear hk); (try clear hi)) | ((with_reducible refine gate_callee (f := 21) rfl ?_); refine goesL_ (some 16) rfl rfl Tryd.func21 (by kernel_rfl) rfl #[.agg #[.int .i64 t180, .int .i64 t181, .int .i64 t182, .string t183], .int .i64 a1] rfl (by (try simp only [List.map_toArray, List.map_cons, List.map_nil]); first | done | rfl | (simp only [List.length_drop, List.length_take]; rfl)) ?_; (with_reducible refine (spec_Bump.calls k t180 t181 t182 t183 a1 t184 t185 t186 t187 _ A9.out).mono ?_); rintro e w19 ⟨rfl, hb⟩; refine ⟨_, rfl, ?_⟩; have n0_ := Aside0.mk (blk_below (g := gb178) (o := .cells #[.int .i64 a0_0, .int .i64 a0_1, .int .i64 a0_2, .string a0_3] 24 (0, 0)) (by (with_reducible repeat (first | refine blk_drewN ?_ _ | refine blk_drew ?_ | refine blk_alloc ?_ _)); exact BK178.out) hb); have n1_ := Aside0.mk (below_step (by repeat (first | (with_reducible first | exact HB.out | apply below_alloc | apply pw_below_drewN | apply below_drew1 | refine below_set ?_ GE178.out) | exact HB.out)) hb); clear BK178; clear HB; have BK178 := n0_; have HB := n1_; clear n0_ n1_; (try clear hb); (try clear hb2); (try clear hk); (try clear hi)) | ((with_reducible refine gate_dst (N := 6) rfl ?_); refine box_event ?hg (N := 6) ?hd (cs := #[.int .i64 0, .int .i64 0, .int .i64 0, .string (⟨#[]⟩ : ByteArray)]) (t := 27) ?hr ?_; (case hd => rfl); (case hg => rfl); (case hr => first | (go_simp; done) | (go_simp; rfl)); intro gb188 hg w20 hbox hb; have n0_ := Aside0.mk (blk_below (g := gb178) (o := .cells #[.int .i64 a0_0, .int .i64 a0_1, .int .i64 a0_2, .string a0_3] 24 (0, 0)) (by (with_reducible repeat (first | refine blk_drewN ?_ _ | refine blk_drew ?_ | refine blk_alloc ?_ _)); exact BK178.out) hb); have n1_ := Aside0.mk (below_step (by repeat (first | (with_reducible first | exact HB.out | apply below_alloc | apply pw_below_drewN | apply below_drew1 | refine below_set ?_ GE178.out) | exact HB.out)) hb); have n2_ := Aside0.mk (hbox); have n3_ := Aside0.mk ((by rw [hg]; exact (below_size (by repeat (first | (with_reducible first | exact HB.out | apply below_alloc | apply pw_below_drewN | apply below_drew1 | refine below_set ?_ GE178.out) | exact HB.out))) : w.heap.size ≤ gb188)); have n4_ := Aside0.mk ((by rw [hg]; exact (below_size (by repeat (first | (with_reducible first | exact HB.out | apply below_alloc | apply pw_below_drewN | apply below_drew1 | refine below_set ?_ GE178.out) | exact HB.out))) : w.heap.size ≤ gb188)); have n5_ := Aside0.mk ((by rw [hg]; exact Nat.ne_of_lt (blk_lt (g := gb178) (o := .cells #[.int .i64 a0_0, .int .i64 a0_1, .int .i64 a0_2, .string a0_3] 24 (0, 0)) (by (with_reducible repeat (first | refine blk_drewN ?_ _ | refine blk_drew ?_ | refine blk_alloc ?_ _)); exact BK178.out)) : gb178 ≠ gb188)); have n6_ := Aside0.mk ((by rw [hg]; exact Nat.ne_of_gt (blk_lt (g := gb178) (o := .cells #[.int .i64 a0_0, .int .i64 a0_1, .int .i64 a0_2, .string a0_3] 24 (0, 0)) (by (with_reducible repeat (first | refine blk_drewN ?_ _ | refine blk_drew ?_ | refine blk_alloc ?_ _)); exact BK178.out)) : gb188 ≠ gb178)); clear BK178; clear HB; have BK178 := n0_; have HB := n1_; have BK188 := n2_; have GW188 := n3_; have GE188 := n4_; have NB178_188 := n5_; have NB188_178 := n6_; clear n0_ n1_ n2_ n3_ n4_ n5_ n6_; clear hb hbox hg; have hnb21 := NB188_178.out; have hnc21 := NB178_188.out; have hcz22_0 : w20.cell? ⟨gb188, 0, none⟩ = some (.int .i64 0) := (blk_cell BK188.out 0).trans rfl; have hcz22_1 : w20.cell? ⟨gb188, 1, none⟩ = some (.int .i64 0) := (blk_cell BK188.out 1).trans rfl; have hcz22_2 : w20.cell? ⟨gb188, 2, none⟩ = some (.int .i64 0) := (blk_cell BK188.out 2).trans rfl; have hcz22_3 : w20.cell? ⟨gb188, 3, none⟩ = some (.string (⟨#[]⟩ : ByteArray)) := (blk_cell BK188.out 3).trans rfl; have hfz22_0 := blk_frozen BK188.out 0; have hfz22_1 := blk_frozen BK188.out 1; have hfz22_2 := blk_frozen BK188.out 2; have hfz22_3 := blk_frozen BK188.out 3; have hcz23_0 : w20.cell? ⟨gb178, 0, none⟩ = some (.int .i64 a0_0) := (blk_cell BK178.out 0).trans rfl; have hcz23_1 : w20.cell? ⟨gb178, 1, none⟩ = some (.int .i64 a0_1) := (blk_cell BK178.out 1).trans rfl; have hcz23_2 : w20.cell? ⟨gb178, 2, none⟩ = some (.int .i64 a0_2) := (blk_cell BK178.out 2).trans rfl; have hcz23_3 : w20.cell? ⟨gb178, 3, none⟩ = some (.string a0_3) := (blk_cell BK178.out 3).trans rfl; have hfz23_0 := blk_frozen BK178.out 0; have hfz23_1 := blk_frozen BK178.out 1; have hfz23_2 := blk_frozen BK178.out 2; have hfz23_3 := blk_frozen BK178.out 3) | ((with_reducible refine gate_callee (f := 19) rfl ?_); refine goesL_ (some 18) rfl rfl Tryd.func19 (by kernel_rfl) rfl #[.agg #[.int .i64 a0_0, .int .i64 a0_1, .int .i64 a0_2, .string a0_3]] rfl (by (try simp only [List.map_toArray, List.map_cons, List.map_nil]); first | done | rfl | (simp only [List.length_drop, List.length_take]; rfl)) ?_; (with_reducible refine (laws_toVersion.calls a0_0 a0_1 a0_2 a0_3 t189 t190 t191 t192 _ A10.out).mono ?_); rintro e w24 ⟨rfl, hb⟩; refine ⟨_, rfl, ?_⟩; have n0_ := Aside0.mk (blk_below (g := gb178) (o := .cells #[.int .i64 a0_0, .int .i64 a0_1, .int .i64 a0_2, .string a0_3] 24 (0, 0)) (by (with_reducible repeat (first | refine blk_drewN ?_ _ | refine blk_drew ?_ | refine blk_alloc ?_ _)); refine blk_far ?_ NB178_188.out _; (with_reducible repeat (first | refine blk_drewN ?_ _ | refine blk_drew ?_ | refine blk_alloc ?_ _)); refine blk_far ?_ NB178_188.out _; (with_reducible repeat (first | refine blk_drewN ?_ _ | refine blk_drew ?_ | refine blk_alloc ?_ _)); refine blk_far ?_ NB178_188.out _; (with_reducible repeat (first | refine blk_drewN ?_ _ | refine blk_drew ?_ | refine blk_alloc ?_ _)); refine blk_far ?_ NB178_188.out _; (with_reducible repeat (first | refine blk_drewN ?_ _ | refine blk_drew ?_ | refine blk_alloc ?_ _)); exact BK178.out) hb); have n1_ := Aside0.mk (blk_below (g := gb188) (o := .cells #[.int .i64 t184, .int .i64 t185, .int .i64 t186, .string t187] 27 (0, 0)) (by (with_reducible repeat (first | refine blk_drewN ?_ _ | refine blk_drew ?_ | refine blk_alloc ?_ _)); refine blk_put (cs := #[.int .i64 t184, .int .i64 t185, .int .i64 t186, .string (⟨#[]⟩ : ByteArray)]) ?_ 3 _ rfl; (with_reducible repeat (first | refine blk_drewN ?_ _ | refine blk_drew ?_ | refine blk_alloc ?_ _)); refine blk_put (cs := #[.int .i64 t184, .int .i64 t185, .int .i64 0, .string (⟨#[]⟩ : ByteArray)]) ?_ 2 _ rfl; (with_reducible repeat (first | refine blk_drewN ?_ _ | refine blk_drew ?_ | refine blk_alloc ?_ _)); refine blk_put (cs := #[.int .i64 t184, .int .i64 0, .int .i64 0, .string (⟨#[]⟩ : ByteArray)]) ?_ 1 _ rfl; (with_reducible repeat (first | refine blk_drewN ?_ _ | refine blk_drew ?_ | refine blk_alloc ?_ _)); refine blk_put (cs := #[.int .i64 0, .int .i64 0, .int .i64 0, .string (⟨#[]⟩ : ByteArray)]) ?_ 0 _ rfl; (with_reducible repeat (first | refine blk_drewN ?_ _ | refine blk_drew ?_ | refine blk_alloc ?_ _)); exact BK188.out) hb); have n2_ := Aside0.mk (below_step (by repeat (first | (with_reducible first | exact HB.out | apply below_alloc | apply pw_below_drewN | apply below_drew1 | refine below_set ?_ GE178.out | refine below_set ?_ GE188.out) | exact HB.out)) hb); clear BK178; clear BK188; clear HB; have BK178 := n0_; have BK188 := n1_; have HB := n2_; clear n0_ n1_ n2_; (try clear hb); (try clear hb2); (try clear hk); (try clear hi)) | ((with_reducible refine gate_callee (f := 22) rfl ?_); refine goesL_ (some 20) rfl rfl Tryd.func22 (by kernel_rfl) rfl #[.agg #[.int .i64 t189, .int .i64 t190, .int .i64 t191, .string t192], .int .i64 a1] rfl (by (try simp only [List.map_toArray, List.map_cons, List.map_nil]); first | done | rfl | (simp only [List.length_drop, List.length_take]; rfl)) ?_; (with_reducible refine (impl_Bump.calls k t189 t190 t191 t192 a1 t193 t194 t195 t196 _ A11.out).mono ?_); rintro e w25 ⟨rfl, hb⟩; refine ⟨_, rfl, ?_⟩; have n0_ := Aside0.mk (blk_below (g := gb178) (o := .cells #[.int .i64 a0_0, .int .i64 a0_1, .int .i64 a0_2, .string a0_3] 24 (0, 0)) (by (with_reducible repeat (first | refine blk_drewN ?_ _ | refine blk_drew ?_ | refine blk_alloc ?_ _)); exact BK178.out) hb); have n1_ := Aside0.mk (blk_below (g := gb188) (o := .cells #[.int .i64 t184, .int .i64 t185, .int .i64 t186, .string t187] 27 (0, 0)) (by (with_reducible repeat (first | refine blk_drewN ?_ _ | refine blk_drew ?_ | refine blk_alloc ?_ _)); exact BK188.out) hb); have n2_ := Aside0.mk (below_step (by repeat (first | (with_reducible first | exact HB.out | apply below_alloc | apply pw_below_drewN | apply below_drew1 | refine below_set ?_ GE178.out | refine below_set ?_ GE188.out) | exact HB.out)) hb); clear BK178; clear BK188; clear HB; have BK178 := n0_; have BK188 := n1_; have HB := n2_; clear n0_ n1_ n2_; (try clear hb); (try clear hb2); (try clear hk); (try clear hi)) | ((with_reducible refine gate_dst (N := 7) rfl ?_); refine box_event ?hg (N := 7) ?hd (cs := #[.int .i64 0, .int .i64 0, .int .i64 0, .string (⟨#[]⟩ : ByteArray)]) (t := 27) ?hr ?_; (case hd => rfl); (case hg => rfl); (case hr => first | (go_simp; done) | (go_simp; rfl)); intro gb197 hg w26 hbox hb; have n0_ := Aside0.mk (blk_below (g := gb178) (o := .cells #[.int .i64 a0_0, .int .i64 a0_1, .int .i64 a0_2, .string a0_3] 24 (0, 0)) (by (with_reducible repeat (first | refine blk_drewN ?_ _ | refine blk_drew ?_ | refine blk_alloc ?_ _)); exact BK178.out) hb); have n1_ := Aside0.mk (blk_below (g := gb188) (o := .cells #[.int .i64 t184, .int .i64 t185, .int .i64 t186, .string t187] 27 (0, 0)) (by (with_reducible repeat (first | refine blk_drewN ?_ _ | refine blk_drew ?_ | refine blk_alloc ?_ _)); exact BK188.out) hb); have n2_ := Aside0.mk (below_step (by repeat (first | (with_reducible first | exact HB.out | apply below_alloc | apply pw_below_drewN | apply below_drew1 | refine below_set ?_ GE178.out | refine below_set ?_ GE188.out) | exact HB.out)) hb); have n3_ := Aside0.mk (hbox); have n4_ := Aside0.mk ((by rw [hg]; exact (below_size (by repeat (first | (with_reducible first | exact HB.out | apply below_alloc | apply pw_below_drewN | apply below_drew1 | refine below_set ?_ GE178.out | refine below_set ?_ GE188.out) | exact HB.out))) : w.heap.size ≤ gb197)); have n5_ := Aside0.mk ((by rw [hg]; exact (below_size (by repeat (first | (with_reducible first | exact HB.out | apply below_alloc | apply pw_below_drewN | apply below_drew1 | refine below_set ?_ GE178.out | refine below_set ?_ GE188.out) | exact HB.out))) : w.heap.size ≤ gb197)); have n6_ := Aside0.mk ((by rw [hg]; exact Nat.ne_of_lt (blk_lt (g := gb178) (o := .cells #[.int .i64 a0_0, .int .i64 a0_1, .int .i64 a0_2, .string a0_3] 24 (0, 0)) (by (with_reducible repeat (first | refine blk_drewN ?_ _ | refine blk_drew ?_ | refine blk_alloc ?_ _)); exact BK178.out)) : gb178 ≠ gb197)); have n7_ := Aside0.mk ((by rw [hg]; exact Nat.ne_of_gt (blk_lt (g := gb178) (o := .cells #[.int .i64 a0_0, .int .i64 a0_1, .int .i64 a0_2, .string a0_3] 24 (0, 0)) (by (with_reducible repeat (first | refine blk_drewN ?_ _ | refine blk_drew ?_ | refine blk_alloc ?_ _)); exact BK178.out)) : gb197 ≠ gb178)); have n8_ := Aside0.mk ((by rw [hg]; exact Nat.ne_of_lt (blk_lt (g := gb188) (o := .cells #[.int .i64 t184, .int .i64 t185, .int .i64 t186, .string t187] 27 (0, 0)) (by (with_reducible repeat (first | refine blk_drewN ?_ _ | refine blk_drew ?_ | refine blk_alloc ?_ _)); exact BK188.out)) : gb188 ≠ gb197)); have n9_ := Aside0.mk ((by rw [hg]; exact Nat.ne_of_gt (blk_lt (g := gb188) (o := .cells #[.int .i64 t184, .int .i64 t185, .int .i64 t186, .string t187] 27 (0, 0)) (by (with_reducible repeat (first | refine blk_drewN ?_ _ | refine blk_drew ?_ | refine blk_alloc ?_ _)); exact BK188.out)) : gb197 ≠ gb188)); clear BK178; clear BK188; clear HB; have BK178 := n0_; have BK188 := n1_; have HB := n2_; have BK197 := n3_; have GW197 := n4_; have GE197 := n5_; have NB178_197 := n6_; have NB197_178 := n7_; have NB188_197 := n8_; have NB197_188 := n9_; clear n0_ n1_ n2_ n3_ n4_ n5_ n6_ n7_ n8_ n9_; clear hb hbox hg; have hnb27 := NB197_178.out; have hnc27 := NB178_197.out; have hnb28 := NB197_188.out; have hnc28 := NB188_197.out; have hcz29_0 : w26.cell? ⟨gb197, 0, none⟩ = some (.int .i64 0) := (blk_cell BK197.out 0).trans rfl; have hcz29_1 : w26.cell? ⟨gb197, 1, none⟩ = some (.int .i64 0) := (blk_cell BK197.out 1).trans rfl; have hcz29_2 : w26.cell? ⟨gb197, 2, none⟩ = some (.int .i64 0) := (blk_cell BK197.out 2).trans rfl; have hcz29_3 : w26.cell? ⟨gb197, 3, none⟩ = some (.string (⟨#[]⟩ : ByteArray)) := (blk_cell BK197.out 3).trans rfl; have hfz29_0 := blk_frozen BK197.out 0; have hfz29_1 := blk_frozen BK197.out 1; have hfz29_2 := blk_frozen BK197.out 2; have hfz29_3 := blk_frozen BK197.out 3; have hcz30_0 : w26.cell? ⟨gb188, 0, none⟩ = some (.int .i64 t184) := (blk_cell BK188.out 0).trans rfl; have hcz30_1 : w26.cell? ⟨gb188, 1, none⟩ = some (.int .i64 t185) := (blk_cell BK188.out 1).trans rfl; have hcz30_2 : w26.cell? ⟨gb188, 2, none⟩ = some (.int .i64 t186) := (blk_cell BK188.out 2).trans rfl; have hcz30_3 : w26.cell? ⟨gb188, 3, none⟩ = some (.string t187) := (blk_cell BK188.out 3).trans rfl; have hfz30_0 := blk_frozen BK188.out 0; have hfz30_1 := blk_frozen BK188.out 1; have hfz30_2 := blk_frozen BK188.out 2; have hfz30_3 := blk_frozen BK188.out 3) | ((with_reducible refine gate_callee (f := 23) rfl ?_); refine goesL_ (some 23) rfl rfl Tryd.func23 (by kernel_rfl) rfl #[.agg #[.int .i64 t193, .int .i64 t194, .int .i64 t195, .string t196], .agg #[.int .i64 t184, .int .i64 t185, .int .i64 t186, .string t187]] rfl (by (try simp only [List.map_toArray, List.map_cons, List.map_nil]); first | done | rfl | (simp only [List.length_drop, List.length_take]; rfl)) ?_; (with_reducible refine (laws_eqVersion.calls t193 t194 t195 t196 t184 t185 t186 t187 true _ A12.out).mono ?_); rintro e w31 ⟨rfl, hb⟩; refine ⟨_, rfl, ?_⟩; have n0_ := Aside0.mk (blk_below (g := gb178) (o := .cells #[.int .i64 a0_0, .int .i64 a0_1, .int .i64 a0_2, .string a0_3] 24 (0, 0)) (by (with_reducible repeat (first | refine blk_drewN ?_ _ | refine blk_drew ?_ | refine blk_alloc ?_ _)); refine blk_far ?_ NB178_197.out _; (with_reducible repeat (first | refine blk_drewN ?_ _ | refine blk_drew ?_ | refine blk_alloc ?_ _)); refine blk_far ?_ NB178_197.out _; (with_reducible repeat (first | refine blk_drewN ?_ _ | refine blk_drew ?_ | refine blk_alloc ?_ _)); refine blk_far ?_ NB178_197.out _; (with_reducible repeat (first | refine blk_drewN ?_ _ | refine blk_drew ?_ | refine blk_alloc ?_ _)); refine blk_far ?_ NB178_197.out _; (with_reducible repeat (first | refine blk_drewN ?_ _ | refine blk_drew ?_ | refine blk_alloc ?_ _)); exact BK178.out) hb); have n1_ := Aside0.mk (blk_below (g := gb188) (o := .cells #[.int .i64 t184, .int .i64 t185, .int .i64 t186, .string t187] 27 (0, 0)) (by (with_reducible repeat (first | refine blk_drewN ?_ _ | refine blk_drew ?_ | refine blk_alloc ?_ _)); refine blk_far ?_ NB188_197.out _; (with_reducible repeat (first | refine blk_drewN ?_ _ | refine blk_drew ?_ | refine blk_alloc ?_ _)); refine blk_far ?_ NB188_197.out _; (with_reducible repeat (first | refine blk_drewN ?_ _ | refine blk_drew ?_ | refine blk_alloc ?_ _)); refine blk_far ?_ NB188_197.out _; (with_reducible repeat (first | refine blk_drewN ?_ _ | refine blk_drew ?_ | refine blk_alloc ?_ _)); refine blk_far ?_ NB188_197.out _; (with_reducible repeat (first | refine blk_drewN ?_ _ | refine blk_drew ?_ | refine blk_alloc ?_ _)); exact BK188.out) hb); have n2_ := Aside0.mk (blk_below (g := gb197) (o := .cells #[.int .i64 t193, .int .i64 t194, .int .i64 t195, .string t196] 27 (0, 0)) (by (with_reducible repeat (first | refine blk_drewN ?_ _ | refine blk_drew ?_ | refine blk_alloc ?_ _)); refine blk_put (cs := #[.int .i64 t193, .int .i64 t194, .int .i64 t195, .string (⟨#[]⟩ : ByteArray)]) ?_ 3 _ rfl; (with_reducible repeat (first | refine blk_drewN ?_ _ | refine blk_drew ?_ | refine blk_alloc ?_ _)); refine blk_put (cs := #[.int .i64 t193, .int .i64 t194, .int .i64 0, .string (⟨#[]⟩ : ByteArray)]) ?_ 2 _ rfl; (with_reducible repeat (first | refine blk_drewN ?_ _ | refine blk_drew ?_ | refine blk_alloc ?_ _)); refine blk_put (cs := #[.int .i64 t193, .int .i64 0, .int .i64 0, .string (⟨#[]⟩ : ByteArray)]) ?_ 1 _ rfl; (with_reducible repeat (first | refine blk_drewN ?_ _ | refine blk_drew ?_ | refine blk_alloc ?_ _)); refine blk_put (cs := #[.int .i64 0, .int .i64 0, .int .i64 0, .string (⟨#[]⟩ : ByteArray)]) ?_ 0 _ rfl; (with_reducible repeat (first | refine blk_drewN ?_ _ | refine blk_drew ?_ | refine blk_alloc ?_ _)); exact BK197.out) hb); have n3_ := Aside0.mk (below_step (by repeat (first | (with_reducible first | exact HB.out | apply below_alloc | apply pw_below_drewN | apply below_drew1 | refine below_set ?_ GE178.out | refine below_set ?_ GE188.out | refine below_set ?_ GE197.out) | exact HB.out)) hb); clear BK178; clear BK188; clear BK197; clear HB; have BK178 := n0_; have BK188 := n1_; have BK197 := n2_; have HB := n3_; clear n0_ n1_ n2_ n3_; (try clear hb); (try clear hb2); (try clear hk); (try clear hi)))
      go_ret
      exact ⟨by first | rfl | (simp [errW_none, errW_some] <;> rfl) | (simp [*, errW_none, errW_some] <;> rfl), by repeat (first | (with_reducible first | exact HB.out | apply below_alloc | apply pw_below_drewN | apply below_drew1 | refine below_set ?_ GE178.out | refine below_set ?_ GE188.out | refine below_set ?_ GE197.out) | exact HB.out)⟩
    · replace c13 := Bool.eq_false_iff.mpr c13
      subst c13
      have H1 : (some false) = some r := by rw [if_neg (show ¬ (false = true) by decide)] at H; exact H
      clear H
      have H := H1
      clear H1
      obtain rfl := Option.some.inj H
      go_enter Tryd.func5, Tryd.ntmps5
      go_wp2_with (first | ((with_reducible refine gate_dst (N := 2) rfl ?_); refine box_event ?hg (N := 2) ?hd (cs := #[.int .i64 a0_0, .int .i64 a0_1, .int .i64 a0_2, .string a0_3]) (t := 24) ?hr ?_; (case hd => rfl); (case hg => rfl); (case hr => first | (go_simp; done) | (go_simp; rfl)); intro gb178 hg w32 hbox hb; have n0_ := Aside0.mk (below_step (by repeat (first | (with_reducible first | exact HB.out | apply below_alloc | apply pw_below_drewN | apply below_drew1) | exact HB.out)) hb); have n1_ := Aside0.mk (hbox); have n2_ := Aside0.mk ((by rw [hg]; exact (below_size (by repeat (first | (with_reducible first | exact HB.out | apply below_alloc | apply pw_below_drewN | apply below_drew1) | exact HB.out))) : w.heap.size ≤ gb178)); have n3_ := Aside0.mk ((by rw [hg]; exact (below_size (by repeat (first | (with_reducible first | exact HB.out | apply below_alloc | apply pw_below_drewN | apply below_drew1) | exact HB.out))) : w.heap.size ≤ gb178)); clear HB; have HB := n0_; have BK178 := n1_; have GW178 := n2_; have GE178 := n3_; clear n0_ n1_ n2_ n3_; clear hb hbox hg; have hcz33_0 : w32.cell? ⟨gb178, 0, none⟩ = some (.int .i64 a0_0) := (blk_cell BK178.out 0).trans rfl; have hcz33_1 : w32.cell? ⟨gb178, 1, none⟩ = some (.int .i64 a0_1) := (blk_cell BK178.out 1).trans rfl; have hcz33_2 : w32.cell? ⟨gb178, 2, none⟩ = some (.int .i64 a0_2) := (blk_cell BK178.out 2).trans rfl; have hcz33_3 : w32.cell? ⟨gb178, 3, none⟩ = some (.string a0_3) := (blk_cell BK178.out 3).trans rfl; have hfz33_0 := blk_frozen BK178.out 0; have hfz33_1 := blk_frozen BK178.out 1; have hfz33_2 := blk_frozen BK178.out 2; have hfz33_3 := blk_frozen BK178.out 3) | ((with_reducible refine gate_callee (f := 17) rfl ?_); refine goesL_ (some 10) rfl rfl Tryd.func17 (by kernel_rfl) rfl #[.agg #[.int .i64 a0_0, .int .i64 a0_1, .int .i64 a0_2, .string a0_3], .int .i64 1048576] rfl (by (try simp only [List.map_toArray, List.map_cons, List.map_nil]); first | done | rfl | (simp only [List.length_drop, List.length_take]; rfl)) ?_; (with_reducible refine (laws_szVersion.calls a0_0 a0_1 a0_2 a0_3 1048576 t179 _ A3.out).mono ?_); rintro e w34 ⟨rfl, hb⟩; refine ⟨_, rfl, ?_⟩; have n0_ := Aside0.mk (blk_below (g := gb178) (o := .cells #[.int .i64 a0_0, .int .i64 a0_1, .int .i64 a0_2, .string a0_3] 24 (0, 0)) (by (with_reducible repeat (first | refine blk_drewN ?_ _ | refine blk_drew ?_ | refine blk_alloc ?_ _)); exact BK178.out) hb); have n1_ := Aside0.mk (below_step (by repeat (first | (with_reducible first | exact HB.out | apply below_alloc | apply pw_below_drewN | apply below_drew1 | refine below_set ?_ GE178.out) | exact HB.out)) hb); clear BK178; clear HB; have BK178 := n0_; have HB := n1_; clear n0_ n1_; (try clear hb); (try clear hb2); (try clear hk); (try clear hi); have hcz35_0 : w34.cell? ⟨gb178, 0, none⟩ = some (.int .i64 a0_0) := (blk_cell BK178.out 0).trans rfl; have hcz35_1 : w34.cell? ⟨gb178, 1, none⟩ = some (.int .i64 a0_1) := (blk_cell BK178.out 1).trans rfl; have hcz35_2 : w34.cell? ⟨gb178, 2, none⟩ = some (.int .i64 a0_2) := (blk_cell BK178.out 2).trans rfl; have hcz35_3 : w34.cell? ⟨gb178, 3, none⟩ = some (.string a0_3) := (blk_cell BK178.out 3).trans rfl; have hfz35_0 := blk_frozen BK178.out 0; have hfz35_1 := blk_frozen BK178.out 1; have hfz35_2 := blk_frozen BK178.out 2; have hfz35_3 := blk_frozen BK178.out 3) | ((with_reducible refine gate_callee (f := 19) rfl ?_); refine goesL_ (some 14) rfl rfl Tryd.func19 (by kernel_rfl) rfl #[.agg #[.int .i64 a0_0, .int .i64 a0_1, .int .i64 a0_2, .string a0_3]] rfl (by (try simp only [List.map_toArray, List.map_cons, List.map_nil]); first | done | rfl | (simp only [List.length_drop, List.length_take]; rfl)) ?_; (with_reducible refine (laws_toVersion.calls a0_0 a0_1 a0_2 a0_3 t180 t181 t182 t183 _ A8.out).mono ?_); rintro e w36 ⟨rfl, hb⟩; refine ⟨_, rfl, ?_⟩; have n0_ := Aside0.mk (blk_below (g := gb178) (o := .cells #[.int .i64 a0_0, .int .i64 a0_1, .int .i64 a0_2, .string a0_3] 24 (0, 0)) (by (with_reducible repeat (first | refine blk_drewN ?_ _ | refine blk_drew ?_ | refine blk_alloc ?_ _)); exact BK178.out) hb); have n1_ := Aside0.mk (below_step (by repeat (first | (with_reducible first | exact HB.out | apply below_alloc | apply pw_below_drewN | apply below_drew1 | refine below_set ?_ GE178.out) | exact HB.out)) hb); clear BK178; clear HB; have BK178 := n0_; have HB := n1_; clear n0_ n1_; (try clear hb); (try clear hb2); (try clear hk); (try clear hi)) | ((with_reducible refine gate_callee (f := 21) rfl ?_); refine goesL_ (some 16) rfl rfl Tryd.func21 (by kernel_rfl) rfl #[.agg #[.int .i64 t180, .int .i64 t181, .int .i64 t182, .string t183], .int .i64 a1] rfl (by (try simp only [List.map_toArray, List.map_cons, List.map_nil]); first | done | rfl | (simp only [List.length_drop, List.length_take]; rfl)) ?_; (with_reducible refine (spec_Bump.calls k t180 t181 t182 t183 a1 t184 t185 t186 t187 _ A9.out).mono ?_); rintro e w37 ⟨rfl, hb⟩; refine ⟨_, rfl, ?_⟩; have n0_ := Aside0.mk (blk_below (g := gb178) (o := .cells #[.int .i64 a0_0, .int .i64 a0_1, .int .i64 a0_2, .string a0_3] 24 (0, 0)) (by (with_reducible repeat (first | refine blk_drewN ?_ _ | refine blk_drew ?_ | refine blk_alloc ?_ _)); exact BK178.out) hb); have n1_ := Aside0.mk (below_step (by repeat (first | (with_reducible first | exact HB.out | apply below_alloc | apply pw_below_drewN | apply below_drew1 | refine below_set ?_ GE178.out) | exact HB.out)) hb); clear BK178; clear HB; have BK178 := n0_; have HB := n1_; clear n0_ n1_; (try clear hb); (try clear hb2); (try clear hk); (try clear hi)) | ((with_reducible refine gate_dst (N := 6) rfl ?_); refine box_event ?hg (N := 6) ?hd (cs := #[.int .i64 0, .int .i64 0, .int .i64 0, .string (⟨#[]⟩ : ByteArray)]) (t := 27) ?hr ?_; (case hd => rfl); (case hg => rfl); (case hr => first | (go_simp; done) | (go_simp; rfl)); intro gb188 hg w38 hbox hb; have n0_ := Aside0.mk (blk_below (g := gb178) (o := .cells #[.int .i64 a0_0, .int .i64 a0_1, .int .i64 a0_2, .string a0_3] 24 (0, 0)) (by (with_reducible repeat (first | refine blk_drewN ?_ _ | refine blk_drew ?_ | refine blk_alloc ?_ _)); exact BK178.out) hb); have n1_ := Aside0.mk (below_step (by repeat (first | (with_reducible first | exact HB.out | apply below_alloc | apply pw_below_drewN | apply below_drew1 | refine below_set ?_ GE178.out) | exact HB.out)) hb); have n2_ := Aside0.mk (hbox); have n3_ := Aside0.mk ((by rw [hg]; exact (below_size (by repeat (first | (with_reducible first | exact HB.out | apply below_alloc | apply pw_below_drewN | apply below_drew1 | refine below_set ?_ GE178.out) | exact HB.out))) : w.heap.size ≤ gb188)); have n4_ := Aside0.mk ((by rw [hg]; exact (below_size (by repeat (first | (with_reducible first | exact HB.out | apply below_alloc | apply pw_below_drewN | apply below_drew1 | refine below_set ?_ GE178.out) | exact HB.out))) : w.heap.size ≤ gb188)); have n5_ := Aside0.mk ((by rw [hg]; exact Nat.ne_of_lt (blk_lt (g := gb178) (o := .cells #[.int .i64 a0_0, .int .i64 a0_1, .int .i64 a0_2, .string a0_3] 24 (0, 0)) (by (with_reducible repeat (first | refine blk_drewN ?_ _ | refine blk_drew ?_ | refine blk_alloc ?_ _)); exact BK178.out)) : gb178 ≠ gb188)); have n6_ := Aside0.mk ((by rw [hg]; exact Nat.ne_of_gt (blk_lt (g := gb178) (o := .cells #[.int .i64 a0_0, .int .i64 a0_1, .int .i64 a0_2, .string a0_3] 24 (0, 0)) (by (with_reducible repeat (first | refine blk_drewN ?_ _ | refine blk_drew ?_ | refine blk_alloc ?_ _)); exact BK178.out)) : gb188 ≠ gb178)); clear BK178; clear HB; have BK178 := n0_; have HB := n1_; have BK188 := n2_; have GW188 := n3_; have GE188 := n4_; have NB178_188 := n5_; have NB188_178 := n6_; clear n0_ n1_ n2_ n3_ n4_ n5_ n6_; clear hb hbox hg; have hnb39 := NB188_178.out; have hnc39 := NB178_188.out; have hcz40_0 : w38.cell? ⟨gb188, 0, none⟩ = some (.int .i64 0) := (blk_cell BK188.out 0).trans rfl; have hcz40_1 : w38.cell? ⟨gb188, 1, none⟩ = some (.int .i64 0) := (blk_cell BK188.out 1).trans rfl; have hcz40_2 : w38.cell? ⟨gb188, 2, none⟩ = some (.int .i64 0) := (blk_cell BK188.out 2).trans rfl; have hcz40_3 : w38.cell? ⟨gb188, 3, none⟩ = some (.string (⟨#[]⟩ : ByteArray)) := (blk_cell BK188.out 3).trans rfl; have hfz40_0 := blk_frozen BK188.out 0; have hfz40_1 := blk_frozen BK188.out 1; have hfz40_2 := blk_frozen BK188.out 2; have hfz40_3 := blk_frozen BK188.out 3; have hcz41_0 : w38.cell? ⟨gb178, 0, none⟩ = some (.int .i64 a0_0) := (blk_cell BK178.out 0).trans rfl; have hcz41_1 : w38.cell? ⟨gb178, 1, none⟩ = some (.int .i64 a0_1) := (blk_cell BK178.out 1).trans rfl; have hcz41_2 : w38.cell? ⟨gb178, 2, none⟩ = some (.int .i64 a0_2) := (blk_cell BK178.out 2).trans rfl; have hcz41_3 : w38.cell? ⟨gb178, 3, none⟩ = some (.string a0_3) := (blk_cell BK178.out 3).trans rfl; have hfz41_0 := blk_frozen BK178.out 0; have hfz41_1 := blk_frozen BK178.out 1; have hfz41_2 := blk_frozen BK178.out 2; have hfz41_3 := blk_frozen BK178.out 3) | ((with_reducible refine gate_callee (f := 19) rfl ?_); refine goesL_ (some 18) rfl rfl Tryd.func19 (by kernel_rfl) rfl #[.agg #[.int .i64 a0_0, .int .i64 a0_1, .int .i64 a0_2, .string a0_3]] rfl (by (try simp only [List.map_toArray, List.map_cons, List.map_nil]); first | done | rfl | (simp only [List.length_drop, List.length_take]; rfl)) ?_; (with_reducible refine (laws_toVersion.calls a0_0 a0_1 a0_2 a0_3 t189 t190 t191 t192 _ A10.out).mono ?_); rintro e w42 ⟨rfl, hb⟩; refine ⟨_, rfl, ?_⟩; have n0_ := Aside0.mk (blk_below (g := gb178) (o := .cells #[.int .i64 a0_0, .int .i64 a0_1, .int .i64 a0_2, .string a0_3] 24 (0, 0)) (by (with_reducible repeat (first | refine blk_drewN ?_ _ | refine blk_drew ?_ | refine blk_alloc ?_ _)); refine blk_far ?_ NB178_188.out _; (with_reducible repeat (first | refine blk_drewN ?_ _ | refine blk_drew ?_ | refine blk_alloc ?_ _)); refine blk_far ?_ NB178_188.out _; (with_reducible repeat (first | refine blk_drewN ?_ _ | refine blk_drew ?_ | refine blk_alloc ?_ _)); refine blk_far ?_ NB178_188.out _; (with_reducible repeat (first | refine blk_drewN ?_ _ | refine blk_drew ?_ | refine blk_alloc ?_ _)); refine blk_far ?_ NB178_188.out _; (with_reducible repeat (first | refine blk_drewN ?_ _ | refine blk_drew ?_ | refine blk_alloc ?_ _)); exact BK178.out) hb); have n1_ := Aside0.mk (blk_below (g := gb188) (o := .cells #[.int .i64 t184, .int .i64 t185, .int .i64 t186, .string t187] 27 (0, 0)) (by (with_reducible repeat (first | refine blk_drewN ?_ _ | refine blk_drew ?_ | refine blk_alloc ?_ _)); refine blk_put (cs := #[.int .i64 t184, .int .i64 t185, .int .i64 t186, .string (⟨#[]⟩ : ByteArray)]) ?_ 3 _ rfl; (with_reducible repeat (first | refine blk_drewN ?_ _ | refine blk_drew ?_ | refine blk_alloc ?_ _)); refine blk_put (cs := #[.int .i64 t184, .int .i64 t185, .int .i64 0, .string (⟨#[]⟩ : ByteArray)]) ?_ 2 _ rfl; (with_reducible repeat (first | refine blk_drewN ?_ _ | refine blk_drew ?_ | refine blk_alloc ?_ _)); refine blk_put (cs := #[.int .i64 t184, .int .i64 0, .int .i64 0, .string (⟨#[]⟩ : ByteArray)]) ?_ 1 _ rfl; (with_reducible repeat (first | refine blk_drewN ?_ _ | refine blk_drew ?_ | refine blk_alloc ?_ _)); refine blk_put (cs := #[.int .i64 0, .int .i64 0, .int .i64 0, .string (⟨#[]⟩ : ByteArray)]) ?_ 0 _ rfl; (with_reducible repeat (first | refine blk_drewN ?_ _ | refine blk_drew ?_ | refine blk_alloc ?_ _)); exact BK188.out) hb); have n2_ := Aside0.mk (below_step (by repeat (first | (with_reducible first | exact HB.out | apply below_alloc | apply pw_below_drewN | apply below_drew1 | refine below_set ?_ GE178.out | refine below_set ?_ GE188.out) | exact HB.out)) hb); clear BK178; clear BK188; clear HB; have BK178 := n0_; have BK188 := n1_; have HB := n2_; clear n0_ n1_ n2_; (try clear hb); (try clear hb2); (try clear hk); (try clear hi)) | ((with_reducible refine gate_callee (f := 22) rfl ?_); refine goesL_ (some 20) rfl rfl Tryd.func22 (by kernel_rfl) rfl #[.agg #[.int .i64 t189, .int .i64 t190, .int .i64 t191, .string t192], .int .i64 a1] rfl (by (try simp only [List.map_toArray, List.map_cons, List.map_nil]); first | done | rfl | (simp only [List.length_drop, List.length_take]; rfl)) ?_; (with_reducible refine (impl_Bump.calls k t189 t190 t191 t192 a1 t193 t194 t195 t196 _ A11.out).mono ?_); rintro e w43 ⟨rfl, hb⟩; refine ⟨_, rfl, ?_⟩; have n0_ := Aside0.mk (blk_below (g := gb178) (o := .cells #[.int .i64 a0_0, .int .i64 a0_1, .int .i64 a0_2, .string a0_3] 24 (0, 0)) (by (with_reducible repeat (first | refine blk_drewN ?_ _ | refine blk_drew ?_ | refine blk_alloc ?_ _)); exact BK178.out) hb); have n1_ := Aside0.mk (blk_below (g := gb188) (o := .cells #[.int .i64 t184, .int .i64 t185, .int .i64 t186, .string t187] 27 (0, 0)) (by (with_reducible repeat (first | refine blk_drewN ?_ _ | refine blk_drew ?_ | refine blk_alloc ?_ _)); exact BK188.out) hb); have n2_ := Aside0.mk (below_step (by repeat (first | (with_reducible first | exact HB.out | apply below_alloc | apply pw_below_drewN | apply below_drew1 | refine below_set ?_ GE178.out | refine below_set ?_ GE188.out) | exact HB.out)) hb); clear BK178; clear BK188; clear HB; have BK178 := n0_; have BK188 := n1_; have HB := n2_; clear n0_ n1_ n2_; (try clear hb); (try clear hb2); (try clear hk); (try clear hi)) | ((with_reducible refine gate_dst (N := 7) rfl ?_); refine box_event ?hg (N := 7) ?hd (cs := #[.int .i64 0, .int .i64 0, .int .i64 0, .string (⟨#[]⟩ : ByteArray)]) (t := 27) ?hr ?_; (case hd => rfl); (case hg => rfl); (case hr => first | (go_simp; done) | (go_simp; rfl)); intro gb197 hg w44 hbox hb; have n0_ := Aside0.mk (blk_below (g := gb178) (o := .cells #[.int .i64 a0_0, .int .i64 a0_1, .int .i64 a0_2, .string a0_3] 24 (0, 0)) (by (with_reducible repeat (first | refine blk_drewN ?_ _ | refine blk_drew ?_ | refine blk_alloc ?_ _)); exact BK178.out) hb); have n1_ := Aside0.mk (blk_below (g := gb188) (o := .cells #[.int .i64 t184, .int .i64 t185, .int .i64 t186, .string t187] 27 (0, 0)) (by (with_reducible repeat (first | refine blk_drewN ?_ _ | refine blk_drew ?_ | refine blk_alloc ?_ _)); exact BK188.out) hb); have n2_ := Aside0.mk (below_step (by repeat (first | (with_reducible first | exact HB.out | apply below_alloc | apply pw_below_drewN | apply below_drew1 | refine below_set ?_ GE178.out | refine below_set ?_ GE188.out) | exact HB.out)) hb); have n3_ := Aside0.mk (hbox); have n4_ := Aside0.mk ((by rw [hg]; exact (below_size (by repeat (first | (with_reducible first | exact HB.out | apply below_alloc | apply pw_below_drewN | apply below_drew1 | refine below_set ?_ GE178.out | refine below_set ?_ GE188.out) | exact HB.out))) : w.heap.size ≤ gb197)); have n5_ := Aside0.mk ((by rw [hg]; exact (below_size (by repeat (first | (with_reducible first | exact HB.out | apply below_alloc | apply pw_below_drewN | apply below_drew1 | refine below_set ?_ GE178.out | refine below_set ?_ GE188.out) | exact HB.out))) : w.heap.size ≤ gb197)); have n6_ := Aside0.mk ((by rw [hg]; exact Nat.ne_of_lt (blk_lt (g := gb178) (o := .cells #[.int .i64 a0_0, .int .i64 a0_1, .int .i64 a0_2, .string a0_3] 24 (0, 0)) (by (with_reducible repeat (first | refine blk_drewN ?_ _ | refine blk_drew ?_ | refine blk_alloc ?_ _)); exact BK178.out)) : gb178 ≠ gb197)); have n7_ := Aside0.mk ((by rw [hg]; exact Nat.ne_of_gt (blk_lt (g := gb178) (o := .cells #[.int .i64 a0_0, .int .i64 a0_1, .int .i64 a0_2, .string a0_3] 24 (0, 0)) (by (with_reducible repeat (first | refine blk_drewN ?_ _ | refine blk_drew ?_ | refine blk_alloc ?_ _)); exact BK178.out)) : gb197 ≠ gb178)); have n8_ := Aside0.mk ((by rw [hg]; exact Nat.ne_of_lt (blk_lt (g := gb188) (o := .cells #[.int .i64 t184, .int .i64 t185, .int .i64 t186, .string t187] 27 (0, 0)) (by (with_reducible repeat (first | refine blk_drewN ?_ _ | refine blk_drew ?_ | refine blk_alloc ?_ _)); exact BK188.out)) : gb188 ≠ gb197)); have n9_ := Aside0.mk ((by rw [hg]; exact Nat.ne_of_gt (blk_lt (g := gb188) (o := .cells #[.int .i64 t184, .int .i64 t185, .int .i64 t186, .string t187] 27 (0, 0)) (by (with_reducible repeat (first | refine blk_drewN ?_ _ | refine blk_drew ?_ | refine blk_alloc ?_ _)); exact BK188.out)) : gb197 ≠ gb188)); clear BK178; clear BK188; clear HB; have BK178 := n0_; have BK188 := n1_; have HB := n2_; have BK197 := n3_; have GW197 := n4_; have GE197 := n5_; have NB178_197 := n6_; have NB197_178 := n7_; have NB188_197 := n8_; have NB197_188 := n9_; clear n0_ n1_ n2_ n3_ n4_ n5_ n6_ n7_ n8_ n9_; clear hb hbox hg; have hnb45 := NB197_178.out; have hnc45 := NB178_197.out; have hnb46 := NB197_188.out; have hnc46 := NB188_197.out; have hcz47_0 : w44.cell? ⟨gb197, 0, none⟩ = some (.int .i64 0) := (blk_cell BK197.out 0).trans rfl; have hcz47_1 : w44.cell? ⟨gb197, 1, none⟩ = some (.int .i64 0) := (blk_cell BK197.out 1).trans rfl; have hcz47_2 : w44.cell? ⟨gb197, 2, none⟩ = some (.int .i64 0) := (blk_cell BK197.out 2).trans rfl; have hcz47_3 : w44.cell? ⟨gb197, 3, none⟩ = some (.string (⟨#[]⟩ : ByteArray)) := (blk_cell BK197.out 3).trans rfl; have hfz47_0 := blk_frozen BK197.out 0; have hfz47_1 := blk_frozen BK197.out 1; have hfz47_2 := blk_frozen BK197.out 2; have hfz47_3 := blk_frozen BK197.out 3; have hcz48_0 : w44.cell? ⟨gb188, 0, none⟩ = some (.int .i64 t184) := (blk_cell BK188.out 0).trans rfl; have hcz48_1 : w44.cell? ⟨gb188, 1, none⟩ = some (.int .i64 t185) := (blk_cell BK188.out 1).trans rfl; have hcz48_2 : w44.cell? ⟨gb188, 2, none⟩ = some (.int .i64 t186) := (blk_cell BK188.out 2).trans rfl; have hcz48_3 : w44.cell? ⟨gb188, 3, none⟩ = some (.string t187) := (blk_cell BK188.out 3).trans rfl; have hfz48_0 := blk_frozen BK188.out 0; have hfz48_1 := blk_frozen BK188.out 1; have hfz48_2 := blk_frozen BK188.out 2; have hfz48_3 := blk_frozen BK188.out 3) | ((with_reducible refine gate_callee (f := 23) rfl ?_); refine goesL_ (some 23) rfl rfl Tryd.func23 (by kernel_rfl) rfl #[.agg #[.int .i64 t193, .int .i64 t194, .int .i64 t195, .string t196], .agg #[.int .i64 t184, .int .i64 t185, .int .i64 t186, .string t187]] rfl (by (try simp only [List.map_toArray, List.map_cons, List.map_nil]); first | done | rfl | (simp only [List.length_drop, List.length_take]; rfl)) ?_; (with_reducible refine (laws_eqVersion.calls t193 t194 t195 t196 t184 t185 t186 t187 false _ A12.out).mono ?_); rintro e w49 ⟨rfl, hb⟩; refine ⟨_, rfl, ?_⟩; have n0_ := Aside0.mk (blk_below (g := gb178) (o := .cells #[.int .i64 a0_0, .int .i64 a0_1, .int .i64 a0_2, .string a0_3] 24 (0, 0)) (by (with_reducible repeat (first | refine blk_drewN ?_ _ | refine blk_drew ?_ | refine blk_alloc ?_ _)); refine blk_far ?_ NB178_197.out _; (with_reducible repeat (first | refine blk_drewN ?_ _ | refine blk_drew ?_ | refine blk_alloc ?_ _)); refine blk_far ?_ NB178_197.out _; (with_reducible repeat (first | refine blk_drewN ?_ _ | refine blk_drew ?_ | refine blk_alloc ?_ _)); refine blk_far ?_ NB178_197.out _; (with_reducible repeat (first | refine blk_drewN ?_ _ | refine blk_drew ?_ | refine blk_alloc ?_ _)); refine blk_far ?_ NB178_197.out _; (with_reducible repeat (first | refine blk_drewN ?_ _ | refine blk_drew ?_ | refine blk_alloc ?_ _)); exact BK178.out) hb); have n1_ := Aside0.mk (blk_below (g := gb188) (o := .cells #[.int .i64 t184, .int .i64 t185, .int .i64 t186, .string t187] 27 (0, 0)) (by (with_reducible repeat (first | refine blk_drewN ?_ _ | refine blk_drew ?_ | refine blk_alloc ?_ _)); refine blk_far ?_ NB188_197.out _; (with_reducible repeat (first | refine blk_drewN ?_ _ | refine blk_drew ?_ | refine blk_alloc ?_ _)); refine blk_far ?_ NB188_197.out _; (with_reducible repeat (first | refine blk_drewN ?_ _ | refine blk_drew ?_ | refine blk_alloc ?_ _)); refine blk_far ?_ NB188_197.out _; (with_reducible repeat (first | refine blk_drewN ?_ _ | refine blk_drew ?_ | refine blk_alloc ?_ _)); refine blk_far ?_ NB188_197.out _; (with_reducible repeat (first | refine blk_drewN ?_ _ | refine blk_drew ?_ | refine blk_alloc ?_ _)); exact BK188.out) hb); have n2_ := Aside0.mk (blk_below (g := gb197) (o := .cells #[.int .i64 t193, .int .i64 t194, .int .i64 t195, .string t196] 27 (0, 0)) (by (with_reducible repeat (first | refine blk_drewN ?_ _ | refine blk_drew ?_ | refine blk_alloc ?_ _)); refine blk_put (cs := #[.int .i64 t193, .int .i64 t194, .int .i64 t195, .string (⟨#[]⟩ : ByteArray)]) ?_ 3 _ rfl; (with_reducible repeat (first | refine blk_drewN ?_ _ | refine blk_drew ?_ | refine blk_alloc ?_ _)); refine blk_put (cs := #[.int .i64 t193, .int .i64 t194, .int .i64 0, .string (⟨#[]⟩ : ByteArray)]) ?_ 2 _ rfl; (with_reducible repeat (first | refine blk_drewN ?_ _ | refine blk_drew ?_ | refine blk_alloc ?_ _)); refine blk_put (cs := #[.int .i64 t193, .int .i64 0, .int .i64 0, .string (⟨#[]⟩ : ByteArray)]) ?_ 1 _ rfl; (with_reducible repeat (first | refine blk_drewN ?_ _ | refine blk_drew ?_ | refine blk_alloc ?_ _)); refine blk_put (cs := #[.int .i64 0, .int .i64 0, .int .i64 0, .string (⟨#[]⟩ : ByteArray)]) ?_ 0 _ rfl; (with_reducible repeat (first | refine blk_drewN ?_ _ | refine blk_drew ?_ | refine blk_alloc ?_ _)); exact BK197.out) hb); have n3_ := Aside0.mk (below_step (by repeat (first | (with_reducible first | exact HB.out | apply below_alloc | apply pw_below_drewN | apply below_drew1 | refine below_set ?_ GE178.out | refine below_set ?_ GE188.out | refine below_set ?_ GE197.out) | exact HB.out)) hb); clear BK178; clear BK188; clear BK197; clear HB; have BK178 := n0_; have BK188 := n1_; have BK197 := n2_; have HB := n3_; clear n0_ n1_ n2_ n3_; (try clear hb); (try clear hb2); (try clear hk); (try clear hi)))
      go_ret
      exact ⟨by first | rfl | (simp [errW_none, errW_some] <;> rfl) | (simp [*, errW_none, errW_some] <;> rfl), by repeat (first | (with_reducible first | exact HB.out | apply below_alloc | apply pw_below_drewN | apply below_drew1 | refine below_set ?_ GE178.out | refine below_set ?_ GE188.out | refine below_set ?_ GE197.out) | exact HB.out)⟩

/-- THE ONE PURE STATEMENT of laws_FnExactBump: yours. -/
def laws_FnExactBump.Pure : Prop := ∀ (a0_0 : Int) (a0_1 : Int) (a0_2 : Int) (a0_3 : ByteArray) (a1 : Int), (((Lit.int .i64 a0_0).wf = true) ∧ ((Lit.int .i64 a0_1).wf = true) ∧ ((Lit.int .i64 a0_2).wf = true) ∧ a0_3.size ≤ maxLen) → (Lit.int .i64 a1).wf = true → ∃ k, laws_FnExactBump.f k a0_0 a0_1 a0_2 a0_3 a1 = some true
theorem laws_FnExactBump.walk (P : laws_FnExactBump.Pure) (a0_0 : Int) (a0_1 : Int) (a0_2 : Int) (a0_3 : ByteArray) (a1 : Int) (w : World)  (hg0 : ((Lit.int .i64 a0_0).wf = true) ∧ ((Lit.int .i64 a0_1).wf = true) ∧ ((Lit.int .i64 a0_2).wf = true) ∧ a0_3.size ≤ maxLen) (w1 : (Lit.int .i64 a1).wf = true) :
    Calls Tryd.prog 5 #[.agg #[.int .i64 a0_0, .int .i64 a0_1, .int .i64 a0_2, .string a0_3], .int .i64 a1] w fun e w' => e = .returned (.bool true) ∧ Below w.heap.size w w' := by
  obtain ⟨k, h⟩ := P a0_0 a0_1 a0_2 a0_3 a1 hg0 w1
  refine (laws_FnExactBump.calls k a0_0 a0_1 a0_2 a0_3 a1 true w h).mono ?_
  rintro e w' ⟨rfl, hd⟩
  exact ⟨rfl, hd⟩

end Go.Proofs.YtagbldaiedmikaaDoor.X

/- Plain lemmas for what the printed functions compute: enough rounds ('Ev'), tests, bounds of whole numbers, lists. No Go, no memory. -/
set_option linter.unusedVariables false
namespace Go.Proofs.YtagbldaiedmikaaDoor.Z
open Go.RowKit Go.Proofs.YtagbldaiedmikaaDoorW.PrintWords Go.Proofs.YtagbldaiedmikaaDoorW.PrintMore

theorem evT {α : Type} {c : Prop} [Decidable c] {f g : Nat → Option α} {r : α} (h : c) (H : Ev f r) : Ev (fun k => if c then f k else g k) r := by
  obtain ⟨K, hK⟩ := H
  exact ⟨K, fun k hk => (if_pos h).trans (hK k hk)⟩
theorem evF {α : Type} {c : Prop} [Decidable c] {f g : Nat → Option α} {r : α} (h : ¬ c) (H : Ev g r) : Ev (fun k => if c then f k else g k) r := by
  obtain ⟨K, hK⟩ := H
  exact ⟨K, fun k hk => (if_neg h).trans (hK k hk)⟩
theorem evI {α : Type} {c : Prop} [Decidable c] {f g : Nat → Option α} {r : α} (H : c → Ev f r) (H' : ¬ c → Ev g r) : Ev (fun k => if c then f k else g k) r := by
  by_cases h : c
  · exact evT h (H h)
  · exact evF h (H' h)
theorem evB {α β : Type} {g : Nat → Option α} {f : Nat → α → Option β} {a : α} {r : β} (h : Ev g a) (k : Ev (fun n => f n a) r) : Ev (fun n => (g n).bind (f n)) r := Ev.bind h k
theorem evR {α : Type} {r r' : α} (h : r = r') : Ev (fun _ => some r) r' := h ▸ Ev.now r
/-- A callee without rounds. -/
theorem evC {α β : Type} {x : Option α} {f : Nat → α → Option β} {a : α} {r : β} (h : x = some a) (k : Ev (fun n => f n a) r) : Ev (fun n => x.bind (f n)) r := by
  subst h
  exact k
theorem evS {α : Type} {g f : Nat → Option α} {r : α} (h : ∀ k, g (k + 1) = f k) (k : Ev f r) : Ev g r := Ev.step h k
theorem evE {α : Type} {g : Nat → Option α} {r r' : α} (h : r = r') (k : Ev g r) : Ev g r' := h ▸ k
/-- Two answers of one function are one. -/
theorem ev_one {α : Type} {g : Nat → Option α} {r r' : α} (h : Ev g r) (h' : Ev g r') : r = r' := by
  obtain ⟨K, hK⟩ := h
  obtain ⟨L, hL⟩ := h'
  have a := hK (max K L) (Nat.le_max_left _ _)
  have b := hL (max K L) (Nat.le_max_right _ _)
  rw [a] at b
  exact Option.some.inj b

theorem w64 {x : Int} (h : -9223372036854775808 ≤ x ∧ x ≤ 9223372036854775807) : wrap64 x = x := by unfold wrap64; omega
theorem w64s {i n : Nat} (h : i < n) (hn : n ≤ 9223372036854775807) : wrap64 ((i : Int) + 1) = ((i + 1 : Nat) : Int) := by unfold wrap64; omega
theorem wu64 {x : Int} (h : 0 ≤ x ∧ x ≤ 18446744073709551615) : IntKind.u64.wrap x = x := by
  simp [IntKind.wrap, IntKind.bits, IntKind.signed]
  omega
theorem wi64 (x : Int) : IntKind.i64.wrap x = wrap64 x := by rw [Go.IntKind.wrap_i64]; unfold wrap64; rfl
theorem wraps_i64 (n : Int) (h₀ : 0 ≤ n) (h₁ : n < 2 ^ 63) : IntKind.i64.wrap n = n := by
  rw [wi64, w64]
  have : (2 : Int) ^ 63 = 9223372036854775808 := by decide
  omega

/-- Two lists that tell the same at each place. -/
theorem ext_get {α : Type} {l m : List α} (hn : l.length = m.length) (h : ∀ j, j < m.length → l[j]? = m[j]?) : l = m := by
  apply List.ext_getElem?
  intro j
  rcases Nat.lt_or_ge j m.length with hj | hj
  · exact h j hj
  · rw [List.getElem?_eq_none (by omega), List.getElem?_eq_none (by omega)]
theorem rd_get {l : List Int} {i : Nat} (h : i < l.length) : l[i]? = some (rd l (i : Int)) := by
  simp [rd, List.getElem?_eq_getElem h]
theorem rdOf_get {α : Type} {d : α} {l : List α} {i : Nat} (h : i < l.length) : l[i]? = some (rdOf d l (i : Int)) := by
  simp [rdOf, List.getElem?_eq_getElem h]
/-- A place that is written as it must be: one more place tells the same. -/
theorem set_next {α : Type} {l m : List α} {i : Nat} {x : α} (hn : l.length = m.length) (hi : i < m.length) (hx : m[i]? = some x) (h : ∀ j, j < i → l[j]? = m[j]?) : ∀ j, j < i + 1 → (l.set i x)[j]? = m[j]? := by
  intro j hj
  rcases Nat.lt_or_ge j i with h1 | h1
  · rw [List.getElem?_set_ne (by omega)]
    exact h j h1
  · obtain rfl : i = j := by omega
    rw [List.getElem?_set_self (by omega), hx]
end Go.Proofs.YtagbldaiedmikaaDoor.Z

/- Strings as lists of bytes. No Go, no memory. -/
set_option linter.unusedVariables false
namespace Go.Proofs.YtagbldaiedmikaaDoor.Z
open Go.RowKit Go.Proofs.YtagbldaiedmikaaDoorW.PrintWords Go.Proofs.YtagbldaiedmikaaDoorW.PrintMore
theorem tl_loop (a : ByteArray) (d : Nat) : ∀ i r, a.size = i + d → ByteArray.toList.loop a i r = r.reverse ++ a.data.toList.drop i := by
  have h2 := data_length a
  induction d with
  | zero =>
    intro i r h
    unfold ByteArray.toList.loop
    rw [if_neg (by omega), List.drop_eq_nil_of_le (by omega), List.append_nil]
  | succ d ih =>
    intro i r h
    unfold ByteArray.toList.loop
    rw [if_pos (by omega), ih (i + 1) _ (by omega)]
    have hi : i < a.data.size := by
      have : a.data.size = a.size := rfl
      omega
    rw [List.drop_eq_getElem_cons (i := i) (by simpa using hi)]
    simp [ByteArray.get!]
    exact getElem!_pos a.data i hi
theorem tl (a : ByteArray) : a.toList = a.data.toList := by
  unfold ByteArray.toList
  rw [tl_loop a a.size 0 [] (by omega)]
  simp
theorem tl_inj {a b : ByteArray} : a.toList = b.toList ↔ a = b := by
  constructor
  · intro h
    rw [tl, tl] at h
    have h1 : a.data = b.data := Array.toList_inj.1 h
    cases a
    cases b
    simp_all
  · rintro rfl
    rfl

end Go.Proofs.YtagbldaiedmikaaDoor.Z

/- Ranges, the program's and the reference's: the same. Plain lemmas. -/
set_option linter.unusedVariables false
namespace Go.Proofs.YtagbldaiedmikaaDoor.Z
open Go.RowKit Go.Proofs.YtagbldaiedmikaaDoorW.PrintWords Go.Proofs.YtagbldaiedmikaaDoorW.PrintMore Go.Proofs.YtagbldaiedmikaaDoor.X
theorem rng_impl (a b c : Int) : impl_inRange.f a b c = some (decide (b ≤ a ∧ a ≤ c)) := by
  unfold impl_inRange.f
  by_cases h : a ≥ b
  · rw [if_pos h]
    simp [show b ≤ a from h]
  · rw [if_neg h]
    simp [show ¬ b ≤ a from h]
theorem rng_spec (a b c : Int) : spec_l1In.f a b c = some (decide (b ≤ a ∧ a ≤ c)) := by
  unfold spec_l1In.f
  by_cases h : a ≥ b
  · rw [if_pos h]
    simp [show b ≤ a from h]
  · rw [if_neg h]
    simp [show ¬ b ≤ a from h]
end Go.Proofs.YtagbldaiedmikaaDoor.Z

/- A text's pieces, the reference's: those between the bytes. Plain lemmas. -/
set_option linter.unusedVariables false
namespace Go.Proofs.YtagbldaiedmikaaDoor.Z
open Go.RowKit Go.Proofs.YtagbldaiedmikaaDoorW.PrintWords Go.Proofs.YtagbldaiedmikaaDoorW.PrintMore Go.Proofs.YtagbldaiedmikaaDoor.X Go.Proofs.YtagbldaiedmikaaDoor.Sp
theorem byte_at (s : ByteArray) (i : Nat) (h : i < s.size) : bt s (i : Int) = ((s.data.toList[i]'(by rw [data_length]; exact h)).toNat : Int) := by
  have := rd_bytesOf s (i : Int)
  rw [← this]
  unfold rd bytesOf
  simp [List.getD_eq_getElem?_getD, h]
theorem ext_list (s : ByteArray) (f i : Nat) : s.extract f i = ⟨((s.data.toList.drop f).take (i - f)).toArray⟩ := by
  have h : (s.extract f i).data.toList = (s.data.toList.drop f).take (i - f) := by
    simp [ByteArray.data_extract, List.extract_eq_take_drop]
  cases hx : s.extract f i with
  | mk d =>
    rw [hx] at h
    congr 1
    rw [← h]
/-- The pieces, bytes more ahead of the first. -/
def pcsF (pre : List UInt8) (c : UInt8) (l : List UInt8) : List (List UInt8) :=
  match pcs c l with
  | [] => [pre]
  | h :: t => (pre ++ h) :: t
theorem pcs_ne (c : UInt8) (l : List UInt8) : pcs c l ≠ [] := fun h => by
  have := pcs_length c l
  rw [h] at this
  simp at this
theorem pcsF_nil (c : UInt8) (l : List UInt8) : pcsF [] c l = pcs c l := by
  unfold pcsF
  cases h : pcs c l with
  | nil => exact absurd h (pcs_ne c l)
  | cons a t => rfl
theorem pcsF_eq (pre : List UInt8) (c : UInt8) (l : List UInt8) : pcsF pre c (c :: l) = pre :: pcsF [] c l := by
  rw [pcsF_nil]
  unfold pcsF
  rw [pcs, if_pos rfl]
  simp
theorem pcsF_ne (pre : List UInt8) (b c : UInt8) (l : List UInt8) (h : b ≠ c) : pcsF pre c (b :: l) = pcsF (pre ++ [b]) c l := by
  unfold pcsF
  rw [pcs, if_neg h]
  cases hp : pcs c l with
  | nil => exact absurd hp (pcs_ne c l)
  | cons a t => simp [onto]
theorem pcsF_end (pre : List UInt8) (c : UInt8) : pcsF pre c [] = [pre] := by simp [pcsF, pcs]
def toB (l : List UInt8) : ByteArray := ⟨l.toArray⟩
theorem split_l0 (s : ByteArray) (hs : s.size ≤ 1048576) (c : UInt8) (d : Nat) : ∀ (i f : Nat) (out : List ByteArray), i + d = s.size → f ≤ i → out.length + d ≤ 1048577 →
    Ev (fun k => spec_l3Split.l0 k s (c.toNat : Int) out (f : Int) (i : Int)) (out ++ (pcsF ((s.data.toList.drop f).take (i - f)) c (s.data.toList.drop i)).map toB) := by
  induction d with
  | zero =>
    intro i f out hi hf ho
    rw [List.drop_eq_nil_of_le (show s.data.toList.length ≤ i by rw [data_length]; omega), pcsF_end]
    refine evS (fun k => by rw [spec_l3Split.l0]) ?_
    rw [w64s (show i < 1048577 by omega) (by omega), show ((f : Nat) : Int).toNat = f by omega, show ((i : Nat) : Int).toNat = i by omega, ext_list]
    refine evT (by omega) (evT (by omega) (evT (by omega) (evT (by omega) (evT (by omega) ?_))))
    refine evS (fun k => by rw [spec_l3Split.l0]) ?_
    exact evF (by omega) (evR rfl)
  | succ d ih =>
    intro i f out hi hf ho
    have hl : i < s.data.toList.length := by rw [data_length]; omega
    have hb := byte_at s i (by omega)
    rw [List.drop_eq_getElem_cons hl]
    refine evS (fun k => by rw [spec_l3Split.l0]) ?_
    rw [w64s (show i < 1048577 by omega) (by omega), show ((f : Nat) : Int).toNat = f by omega, show ((i : Nat) : Int).toNat = i by omega, hb, ext_list]
    refine evT (by omega) (evF (by omega) (evT (by omega) (evT (by omega) ?_)))
    by_cases hc : s.data.toList[i] = c
    · refine evT (by rw [hc]) (evT (by omega) (evT (by omega) (evT (by omega) ?_)))
      refine evE ?_ (ih (i + 1) (i + 1) _ (by omega) (Nat.le_refl _) (by simp; omega))
      rw [hc, pcsF_eq, Nat.sub_self, List.take_zero]
      simp [toB]
    · refine evF (fun e => hc (UInt8.toNat_inj.1 (by omega))) ?_
      refine evE ?_ (ih (i + 1) f out (by omega) (by omega) (by omega))
      rw [pcsF_ne _ _ _ _ hc]
      congr 3
      have hl2 : i - f < (s.data.toList.drop f).length := by rw [List.length_drop]; omega
      rw [show i + 1 - f = (i - f) + 1 by omega, List.take_succ_eq_append_getElem hl2]
      congr 2
      rw [List.getElem_drop]
      congr 1
      omega
theorem split_spec (s : ByteArray) (hs : s.size ≤ 1048576) (c : UInt8) : Ev (fun k => spec_l3Split.f k s (c.toNat : Int)) (pieces c s) := by
  have h := split_l0 s hs c s.size 0 0 [] (by omega) (Nat.le_refl _) (by simp; omega)
  rw [Nat.sub_self, List.take_zero, List.drop_zero, pcsF_nil, List.nil_append] at h
  exact h
theorem pcs_mem (c : UInt8) : ∀ (l : List UInt8) (x : List UInt8), x ∈ pcs c l → x.length ≤ l.length
  | [], x, h => by simp [pcs] at h; simp [h]
  | b :: l, x, h => by
    have ih := pcs_mem c l
    rw [pcs] at h
    split at h
    · rcases List.mem_cons.1 h with rfl | h
      · simp
      · have := ih x h; simp; omega
    · cases hp : pcs c l with
      | nil => exact absurd hp (pcs_ne c l)
      | cons a t =>
        rw [hp] at h
        rcases List.mem_cons.1 h with rfl | h
        · have := ih a (by rw [hp]; exact List.mem_cons_self); simp; omega
        · have := ih x (by rw [hp]; exact List.mem_cons_of_mem _ h); simp; omega
theorem pieces_mem (c : UInt8) (s : ByteArray) : ∀ x ∈ pieces c s, x.size ≤ s.size := by
  intro x hx
  obtain ⟨l, hl, rfl⟩ := List.mem_map.1 hx
  have := pcs_mem c _ l hl
  rw [data_length] at this
  show l.toArray.size ≤ _
  simpa using this
theorem pieces_count (c : UInt8) (s : ByteArray) : (pieces c s).length ≤ s.size + 1 := by
  rw [pieces, List.length_map, pcs_length]
  have := List.count_le_length (a := c) (l := s.data.toList)
  rw [data_length] at this
  omega
theorem rdOf_mem {l : List ByteArray} {i : Nat} (h : i < l.length) : rdOf ByteArray.empty l (i : Int) ∈ l := List.mem_of_getElem? (rdOf_get (d := ByteArray.empty) h)
end Go.Proofs.YtagbldaiedmikaaDoor.Z

/- Numbers in versions, the program's and the reference's. Plain lemmas. -/
set_option linter.unusedVariables false
namespace Go.Proofs.YtagbldaiedmikaaDoor.Z
open Go.RowKit Go.Proofs.YtagbldaiedmikaaDoorW.PrintWords Go.Proofs.YtagbldaiedmikaaDoorW.PrintMore Go.Proofs.YtagbldaiedmikaaDoor.X Go.Proofs.YtagbldaiedmikaaDoor.Sp
def isD (u : UInt8) : Bool := decide (48 ≤ u.toNat ∧ u.toNat ≤ 57)
def figs (s : ByteArray) : Bool := s.data.toList.all isD && decide (s.size ≠ 0)
theorem figure_ev (b : Int) : impl_isFigure.f b = some (decide (48 ≤ b ∧ b ≤ 57)) := by
  unfold impl_isFigure.f
  by_cases h : b ≥ 48
  · rw [if_pos h]
    simp [show 48 ≤ b from h]
  · rw [if_neg h]
    simp [show ¬ 48 ≤ b from h]
theorem ne_nil (s : ByteArray) : (s.toList != ([] : List UInt8)) = decide (s.size ≠ 0) := by
  rw [tl]
  have := data_length s
  by_cases h : s.size = 0
  · rw [List.eq_nil_of_length_eq_zero (show s.data.toList.length = 0 by omega)]
    simp [h]
  · have h1 : s.data.toList ≠ [] := fun e => by rw [e] at this; simp at this; omega
    simp [h1, h]
theorem figs_l0 (s : ByteArray) (hs : s.size ≤ 1048576) (d : Nat) : ∀ i : Nat, i + d = s.size → Ev (fun k => impl_isFigures.l0 k s (i : Int)) ((s.data.toList.drop i).all isD && decide (s.size ≠ 0)) ∧ Ev (fun k => spec_l3Digits.l0 k s (i : Int)) ((s.data.toList.drop i).all isD && decide (s.size ≠ 0)) := by
  induction d with
  | zero =>
    intro i hi
    rw [List.drop_eq_nil_of_le (show s.data.toList.length ≤ i by rw [data_length]; omega)]
    constructor
    · refine evS (fun k => by rw [impl_isFigures.l0]) ?_
      exact evF (by omega) (evR (by rw [ne_nil]; rfl))
    · refine evS (fun k => by rw [spec_l3Digits.l0]) ?_
      exact evF (by omega) (evR (by rw [ne_nil]; rfl))
  | succ d ih =>
    intro i hi
    have hl : i < s.data.toList.length := by rw [data_length]; omega
    have hb := byte_at s i (by omega)
    have hlt : (s.data.toList[i]).toNat < 256 := UInt8.toNat_lt _
    have hw : wrap64 (((s.data.toList[i]).toNat : Nat) : Int) = (((s.data.toList[i]).toNat : Nat) : Int) := w64 (by omega)
    obtain ⟨h1, h2⟩ := ih (i + 1) (by omega)
    have he : (s.data.toList.drop i).all isD = (isD s.data.toList[i] && (s.data.toList.drop (i + 1)).all isD) := by
      rw [List.drop_eq_getElem_cons hl]
      rfl
    have hd : decide (48 ≤ (((s.data.toList[i]).toNat : Nat) : Int) ∧ (((s.data.toList[i]).toNat : Nat) : Int) ≤ 57) = isD s.data.toList[i] := by
      unfold isD
      exact decide_eq_decide.2 (by omega)
    rw [he]
    constructor
    · refine evS (fun k => by rw [impl_isFigures.l0]) ?_
      rw [hb, w64s (show i < s.size by omega) (by omega)]
      refine evT (by omega) (evT (by omega) (evC (figure_ev _) ?_))
      rw [hd]
      cases hx : isD s.data.toList[i] with
      | true => exact evT rfl (by simpa using h1)
      | false => exact evF Bool.false_ne_true (evR rfl)
    · refine evS (fun k => by rw [spec_l3Digits.l0]) ?_
      rw [hb, hw, w64s (show i < s.size by omega) (by omega)]
      refine evT (by omega) (evT (by omega) (evC (rng_spec _ _ _) ?_))
      rw [hd]
      cases hx : isD s.data.toList[i] with
      | true => exact evT rfl (by simpa using h2)
      | false => exact evF Bool.false_ne_true (evR rfl)
theorem figs_impl (s : ByteArray) (hs : s.size ≤ 1048576) : Ev (fun k => impl_isFigures.f k s) (figs s) := (figs_l0 s hs s.size 0 (by omega)).1
theorem figs_spec (s : ByteArray) (hs : s.size ≤ 1048576) : Ev (fun k => spec_l3Digits.f k s) (figs s) := (figs_l0 s hs s.size 0 (by omega)).2
def num (s : ByteArray) : Bool := figs s && (decide (s.data.toList = [48]) || decide (bt s 0 ≠ 48))
theorem figs_size {s : ByteArray} (h : figs s = true) : 0 < s.size := by
  simp only [figs, Bool.and_eq_true, decide_eq_true_eq] at h
  have := h.2
  omega
theorem num_impl (s : ByteArray) (hs : s.size ≤ 1048576) : Ev (fun k => impl_isNumber.f k s) (num s) := by
  unfold impl_isNumber.f num
  refine evB (figs_impl s hs) ?_
  cases hf : figs s with
  | false => exact evF Bool.false_ne_true (evR rfl)
  | true =>
    have := figs_size hf
    refine evT rfl ?_
    by_cases h : s.data.toList = [48]
    · exact evT (by rw [tl]; exact h) (evR (by simp [h]))
    · refine evF (by rw [tl]; exact h) (evT (by omega) (evR ?_))
      simp [h, bne, decide_not]
      by_cases hb : bt s 0 = 48
      · simp [hb]
      · simp [hb]
def digit (b : UInt8) : Nat := b.toNat - 48
def valA (a : Nat) (l : List UInt8) : Nat := l.foldl (fun n b => n * 10 + digit b) a
theorem valA_nil (a : Nat) : valA a [] = a := rfl
theorem valA_cons (a : Nat) (b : UInt8) (l : List UInt8) : valA a (b :: l) = valA (a * 10 + digit b) l := by unfold valA; rw [List.foldl_cons]
def val (l : List UInt8) : Nat := valA 0 l
theorem valA_eq (l : List UInt8) : ∀ a : Nat, valA a l = a * 10 ^ l.length + valA 0 l := by
  induction l with
  | nil => intro a; simp [valA_nil]
  | cons b l ih =>
    intro a
    rw [valA_cons, ih, valA_cons, ih (0 * 10 + digit b), List.length_cons, Nat.pow_succ, Nat.add_mul, Nat.zero_mul, Nat.zero_add, Nat.mul_assoc, Nat.mul_comm 10, Nat.add_assoc]
theorem val_cons (b : UInt8) (l : List UInt8) : val (b :: l) = digit b * 10 ^ l.length + val l := by
  unfold val
  rw [valA_cons, valA_eq, Nat.zero_mul, Nat.zero_add]
theorem isD_iff (u : UInt8) : isD u = true ↔ 48 ≤ u.toNat ∧ u.toNat ≤ 57 := by unfold isD; exact decide_eq_true_iff
theorem val_lt (l : List UInt8) (h : l.all isD = true) : val l < 10 ^ l.length := by
  induction l with
  | nil => exact Nat.one_pos
  | cons b l ih =>
    simp only [List.all_cons, Bool.and_eq_true] at h
    have hb := (isD_iff b).1 h.1
    have := ih h.2
    rw [val_cons, List.length_cons, Nat.pow_succ]
    have h9 : digit b * 10 ^ l.length ≤ 9 * 10 ^ l.length := Nat.mul_le_mul_right _ (by unfold digit; omega)
    omega
theorem val_l0 (s : ByteArray) (hs : s.size ≤ 8) (ha : s.data.toList.all isD = true) (d : Nat) : ∀ (i : Nat) (a : Nat), i + d = s.size → a < 10 ^ i → Ev (fun k => spec_l3Number.l0 k s (a : Int) (i : Int)) ((valA a (s.data.toList.drop i) : Nat) : Int) := by
  induction d with
  | zero =>
    intro i a hi hlt
    rw [List.drop_eq_nil_of_le (show s.data.toList.length ≤ i by rw [data_length]; omega)]
    refine evS (fun k => by rw [spec_l3Number.l0]) ?_
    exact evF (by omega) (evR rfl)
  | succ d ih =>
    intro i a hi hlt
    have hl : i < s.data.toList.length := by rw [data_length]; omega
    have hb := byte_at s i (by omega)
    have hD := (isD_iff _).1 (List.all_eq_true.1 ha _ (List.getElem_mem hl))
    have hp : 10 ^ i ≤ 10 ^ 7 := Nat.pow_le_pow_right (by decide) (by omega)
    rw [List.drop_eq_getElem_cons hl, valA_cons]
    unfold digit
    generalize (s.data.toList[i]).toNat = n at *
    have e1 : wrap64 (wrap64 ((a : Int) * 10) + ((n : Int) - 48) % 256) = ((a * 10 + (n - 48) : Nat) : Int) := by
      rw [w64 (x := (a : Int) * 10) (by omega), w64 (by omega)]
      omega
    refine evS (fun k => by rw [spec_l3Number.l0]) ?_
    rw [hb, e1, w64s (show i < s.size by omega) (by omega)]
    refine evT (by omega) (evT (by omega) (ih (i + 1) _ (by omega) ?_))
    rw [Nat.pow_succ]
    omega
/-- A number of at most eight digits. -/
def short (s : ByteArray) : Bool := num s && decide (s.size ≤ 8)
def numS (s : ByteArray) : Int := if short s = true then ((val s.data.toList : Nat) : Int) else -1
theorem head_one (s : ByteArray) (h : s.size = 1) : s.data.toList = [48] ↔ bt s 0 = 48 := by
  have hl : s.data.toList.length = 1 := by rw [data_length]; exact h
  have hb : bt s 0 = _ := byte_at s 0 (by omega)
  obtain ⟨x, hx⟩ := List.length_eq_one_iff.1 hl
  rw [hb]
  simp only [hx, List.getElem_cons_zero, List.cons.injEq, and_true]
  constructor
  · rintro rfl; rfl
  · intro e
    exact UInt8.toNat_inj.1 (by show x.toNat = 48; omega)
theorem numS_spec (s : ByteArray) (hs : s.size ≤ 1048576) : Ev (fun k => spec_l3Number.f k s) (numS s) := by
  unfold spec_l3Number.f
  refine evB (figs_spec s hs) ?_
  cases hf : figs s with
  | false =>
    have e : numS s = -1 := by unfold numS short num; rw [hf]; rfl
    rw [e]
    refine evF Bool.false_ne_true ?_
    refine evS (fun k => by rw [spec_l3Number.j0]) ?_
    exact evT rfl (evR rfl)
  | true =>
    have hz := figs_size hf
    have ha : s.data.toList.all isD = true := by unfold figs at hf; simp at hf; simpa using hf.1
    refine evT rfl ?_
    by_cases h8 : (s.size : Int) > 8
    · have e : numS s = -1 := by
        unfold numS short
        rw [decide_eq_false (by omega), Bool.and_false, if_neg Bool.false_ne_true]
      rw [e]
      refine evT h8 ?_
      refine evS (fun k => by rw [spec_l3Number.j0]) ?_
      exact evT rfl (evR rfl)
    · refine evF h8 ?_
      have hv := val_l0 s (by omega) ha s.size 0 0 (by omega) (by decide)
      have hv' : Ev (fun k => spec_l3Number.l0 k s 0 0) ((val s.data.toList : Nat) : Int) := hv
      by_cases h1 : (s.size : Int) > 1
      · refine evT h1 (evT (by omega) ?_)
        have hne : ¬ s.data.toList = [48] := fun e => by
          have := data_length s
          rw [e] at this
          simp at this
          omega
        by_cases hb : bt s 0 = 48
        · have e : numS s = -1 := by
            unfold numS short num
            rw [decide_eq_false hne, decide_eq_false (fun h => h hb)]
            simp
          rw [e, hb]
          refine evS (fun k => by rw [spec_l3Number.j0]) ?_
          exact evT rfl (evR rfl)
        · have e : numS s = ((val s.data.toList : Nat) : Int) := by
            unfold numS short num
            rw [hf, decide_eq_true hb, decide_eq_true (show s.size ≤ 8 by omega)]
            simp
          rw [e, beq_eq_false_iff_ne.2 hb]
          refine evS (fun k => by rw [spec_l3Number.j0]) ?_
          exact evF Bool.false_ne_true hv'
      · refine evF h1 ?_
        have h11 : s.size = 1 := by omega
        have e : numS s = ((val s.data.toList : Nat) : Int) := by
          unfold numS short num
          rw [hf, decide_eq_true (show s.size ≤ 8 by omega)]
          have := head_one s h11
          by_cases hb : bt s 0 = 48
          · rw [decide_eq_true (this.2 hb)]; simp
          · rw [decide_eq_true hb]; simp
        rw [e]
        refine evS (fun k => by rw [spec_l3Number.j0]) ?_
        exact evF Bool.false_ne_true hv'
end Go.Proofs.YtagbldaiedmikaaDoor.Z

/- Right versions, the program's and the reference's: the same. Plain lemmas. -/
set_option linter.unusedVariables false
namespace Go.Proofs.YtagbldaiedmikaaDoor.Z
open Go.RowKit Go.Proofs.YtagbldaiedmikaaDoorW.PrintWords Go.Proofs.YtagbldaiedmikaaDoorW.PrintMore Go.Proofs.YtagbldaiedmikaaDoor.X Go.Proofs.YtagbldaiedmikaaDoor.Sp
/-- A sign of a part. -/
def pch (b : Int) : Prop := (97 ≤ b ∧ b ≤ 122) ∨ (65 ≤ b ∧ b ≤ 90) ∨ (48 ≤ b ∧ b ≤ 57) ∨ b = 45
instance (b : Int) : Decidable (pch b) := by unfold pch; infer_instance
def pchU (u : UInt8) : Bool := decide (pch (u.toNat : Int))
theorem ev_fig {b : Int} {A : Nat → Option Bool} {r : Bool} (H : (48 ≤ b ∧ b ≤ 57) ∨ b = 45 → Ev A r) (H' : ¬ ((48 ≤ b ∧ b ≤ 57) ∨ b = 45) → r = false) :
    Ev (fun k => (impl_isFigure.f b).bind fun t => if t = true then A k else if b = 45 then A k else some false) r := by
  refine evC (figure_ev b) ?_
  by_cases h : 48 ≤ b ∧ b ≤ 57
  · exact evT (decide_eq_true h) (H (.inl h))
  · refine evF (by simpa using h) ?_
    by_cases h2 : b = 45
    · exact evT h2 (H (.inr h2))
    · exact evF h2 (evR (H' (fun e => e.elim h h2)).symm)
theorem ev_sign {b : Int} {A : Nat → Option Bool} {r : Bool} (H : pch b → Ev A r) (H' : ¬ pch b → r = false) :
    Ev (fun k => if b ≥ 97 then (if b ≤ 122 then A k else (if b ≥ 65 then (if b ≤ 90 then A k else ((impl_isFigure.f b).bind fun t => if t = true then A k else if b = 45 then A k else some false)) else ((impl_isFigure.f b).bind fun t => if t = true then A k else if b = 45 then A k else some false))) else (if b ≥ 65 then (if b ≤ 90 then A k else ((impl_isFigure.f b).bind fun t => if t = true then A k else if b = 45 then A k else some false)) else ((impl_isFigure.f b).bind fun t => if t = true then A k else if b = 45 then A k else some false))) r := by
  have F : (¬ (97 ≤ b ∧ b ≤ 122)) → (¬ (65 ≤ b ∧ b ≤ 90)) → Ev (fun k => (impl_isFigure.f b).bind fun t => if t = true then A k else if b = 45 then A k else some false) r := fun h1 h2 =>
    ev_fig (fun h => H (by unfold pch; omega)) (fun h => H' (by unfold pch; omega))
  have M : (¬ (97 ≤ b ∧ b ≤ 122)) → Ev (fun k => if b ≥ 65 then (if b ≤ 90 then A k else ((impl_isFigure.f b).bind fun t => if t = true then A k else if b = 45 then A k else some false)) else ((impl_isFigure.f b).bind fun t => if t = true then A k else if b = 45 then A k else some false)) r := fun h1 => by
    by_cases h : b ≥ 65
    · refine evT h ?_
      by_cases h2 : b ≤ 90
      · exact evT h2 (H (by unfold pch; omega))
      · exact evF h2 (F h1 (by omega))
    · exact evF h (F h1 (by omega))
  by_cases h : b ≥ 97
  · refine evT h ?_
    by_cases h2 : b ≤ 122
    · exact evT h2 (H (by unfold pch; omega))
    · exact evF h2 (M (by omega))
  · exact evF h (M (by omega))
theorem ev_signS {b : Int} {A : Nat → Option Bool} {r : Bool} (H : pch b → Ev A r) (H' : ¬ pch b → r = false) :
    Ev (fun k => (spec_l1In.f b 97 122).bind fun t => (if t = true then A k else ((spec_l1In.f b 65 90).bind fun t => (if t = true then A k else ((spec_l1In.f b 48 57).bind fun t => (if t = true then A k else (if b = 45 then A k else (some false)))))))) r := by
  refine evC (rng_spec _ _ _) ?_
  by_cases h1 : 97 ≤ b ∧ b ≤ 122
  · exact evT (decide_eq_true h1) (H (by unfold pch; omega))
  refine evF (by simpa using h1) (evC (rng_spec _ _ _) ?_)
  by_cases h2 : 65 ≤ b ∧ b ≤ 90
  · exact evT (decide_eq_true h2) (H (by unfold pch; omega))
  refine evF (by simpa using h2) (evC (rng_spec _ _ _) ?_)
  by_cases h3 : 48 ≤ b ∧ b ≤ 57
  · exact evT (decide_eq_true h3) (H (by unfold pch; omega))
  refine evF (by simpa using h3) ?_
  by_cases h4 : b = 45
  · exact evT h4 (H (by unfold pch; omega))
  · exact evF h4 (evR (H' (by unfold pch; omega)).symm)
/-- A part. -/
def prtE (s : ByteArray) : Bool := decide ((1 : Int) ≤ s.size ∧ (s.size : Int) ≤ 8) && (!figs s || num s)
def prt (s : ByteArray) : Bool := s.data.toList.all pchU && prtE s
theorem prt_l0 (s : ByteArray) (hs : s.size ≤ 1048576) (d : Nat) : ∀ i : Nat, i + d = s.size → Ev (fun k => impl_partOk.l0 k s (i : Int)) ((s.data.toList.drop i).all pchU && prtE s) ∧ Ev (fun k => spec_l3Part.l0 k s (i : Int)) ((s.data.toList.drop i).all pchU && prtE s) := by
  induction d with
  | zero =>
    intro i hi
    rw [List.drop_eq_nil_of_le (show s.data.toList.length ≤ i by rw [data_length]; omega), List.all_nil, Bool.true_and]
    unfold prtE
    constructor
    · refine evS (fun k => by rw [impl_partOk.l0]) (evF (by omega) (evC (rng_impl _ _ _) ?_))
      cases hd : decide ((1 : Int) ≤ s.size ∧ (s.size : Int) ≤ 8) with
      | false => exact evF Bool.false_ne_true (evR rfl)
      | true =>
        refine evT rfl (evB (figs_impl s hs) ?_)
        cases hf : figs s with
        | false => exact evF Bool.false_ne_true (evR rfl)
        | true => exact evT rfl (evB (num_impl s hs) (evR (by simp)))
    · refine evS (fun k => by rw [spec_l3Part.l0]) (evF (by omega) (evC (rng_spec _ _ _) ?_))
      cases hd : decide ((1 : Int) ≤ s.size ∧ (s.size : Int) ≤ 8) with
      | false => exact evF Bool.false_ne_true (evR rfl)
      | true =>
        have h8 := of_decide_eq_true hd
        refine evT rfl (evB (figs_spec s hs) ?_)
        cases hf : figs s with
        | false => exact evF Bool.false_ne_true (evR rfl)
        | true =>
          refine evT rfl (evB (numS_spec s hs) (evR ?_))
          unfold numS short
          rw [decide_eq_true (show s.size ≤ 8 by omega)]
          cases num s with
          | true => simp
          | false => simp
  | succ d ih =>
    intro i hi
    have hl : i < s.data.toList.length := by rw [data_length]; omega
    have hb := byte_at s i (by omega)
    obtain ⟨h1, h2⟩ := ih (i + 1) (by omega)
    have hlt : (s.data.toList[i]).toNat < 256 := UInt8.toNat_lt _
    have he : (s.data.toList.drop i).all pchU = (pchU s.data.toList[i] && (s.data.toList.drop (i + 1)).all pchU) := by
      rw [List.drop_eq_getElem_cons hl]
      rfl
    have hw : wrap64 (((s.data.toList[i]).toNat : Nat) : Int) = (((s.data.toList[i]).toNat : Nat) : Int) := w64 (by omega)
    rw [he]
    have Hp : pch ((s.data.toList[i].toNat : Nat) : Int) → pchU s.data.toList[i] = true := fun h => decide_eq_true h
    have Hn : ¬ pch ((s.data.toList[i].toNat : Nat) : Int) → (pchU s.data.toList[i] && (s.data.toList.drop (i + 1)).all pchU && prtE s) = false := fun h => by
      have : pchU s.data.toList[i] = false := decide_eq_false h
      rw [this]
      rfl
    constructor
    · refine evS (fun k => by rw [impl_partOk.l0]) ?_
      rw [hb, w64s (show i < s.size by omega) (by omega)]
      refine evT (by omega) (evT (by omega) ?_)
      exact ev_sign (fun h => by rw [Hp h, Bool.true_and]; exact h1) Hn
    · refine evS (fun k => by rw [spec_l3Part.l0]) ?_
      rw [hb, hw, w64s (show i < s.size by omega) (by omega)]
      refine evT (by omega) (evT (by omega) ?_)
      exact ev_signS (fun h => by rw [Hp h, Bool.true_and]; exact h2) Hn
theorem prt_impl (s : ByteArray) (hs : s.size ≤ 1048576) : Ev (fun k => impl_partOk.f k s) (prt s) := (prt_l0 s hs s.size 0 (by omega)).1
theorem prt_spec (s : ByteArray) (hs : s.size ≤ 1048576) : Ev (fun k => spec_l3Part.f k s) (prt s) := (prt_l0 s hs s.size 0 (by omega)).2
theorem pre_l0 (l : List ByteArray) (hl : l.length ≤ 1048577) (zl : ∀ x ∈ l, x.size ≤ 1048576) (d : Nat) : ∀ i : Nat, i + d = l.length → Ev (fun k => impl_VersionOk.l0 k l (i : Int)) ((l.drop i).all prt && decide (l.length ≤ 4)) ∧ Ev (fun k => spec_l3Pre.l0 k l (i : Int)) ((l.drop i).all prt && decide (l.length ≤ 4)) := by
  induction d with
  | zero =>
    intro i hi
    rw [List.drop_eq_nil_of_le (by omega), List.all_nil, Bool.true_and]
    have e : decide ((l.length : Int) ≤ 4) = decide (l.length ≤ 4) := decide_eq_decide.2 (by omega)
    constructor
    · refine evS (fun k => by rw [impl_VersionOk.l0]) (evF (by omega) (evR e))
    · refine evS (fun k => by rw [spec_l3Pre.l0]) (evF (by omega) (evR e))
  | succ d ih =>
    intro i hi
    have il : i < l.length := by omega
    have gl : rdOf ByteArray.empty l (i : Int) = l[i] := by
      have := rdOf_get (d := ByteArray.empty) il
      rw [List.getElem?_eq_getElem il] at this
      exact (Option.some.inj this).symm
    have hz := zl _ (List.getElem_mem il)
    obtain ⟨h1, h2⟩ := ih (i + 1) (by omega)
    have he : (l.drop i).all prt = (prt l[i] && (l.drop (i + 1)).all prt) := by
      rw [List.drop_eq_getElem_cons il]
      rfl
    rw [he]
    have p1 := prt_impl l[i] hz
    have p2 := prt_spec l[i] hz
    cases hp : prt l[i] with
    | true =>
      rw [hp] at p1 p2
      rw [Bool.true_and]
      constructor
      · refine evS (fun k => by rw [impl_VersionOk.l0]) ?_
        rw [gl, w64s il (by omega)]
        exact evT (by omega) (evT (by omega) (evB p1 (evT rfl h1)))
      · refine evS (fun k => by rw [spec_l3Pre.l0]) ?_
        rw [gl, w64s il (by omega)]
        exact evT (by omega) (evT (by omega) (evB p2 (evT rfl h2)))
    | false =>
      rw [hp] at p1 p2
      constructor
      · refine evS (fun k => by rw [impl_VersionOk.l0]) ?_
        rw [gl]
        exact evT (by omega) (evT (by omega) (evB p1 (evF Bool.false_ne_true (evR rfl))))
      · refine evS (fun k => by rw [spec_l3Pre.l0]) ?_
        rw [gl]
        exact evT (by omega) (evT (by omega) (evB p2 (evF Bool.false_ne_true (evR rfl))))
def pre (p : ByteArray) : Bool := (pieces 46 p).all prt && decide ((pieces 46 p).length ≤ 4)
def in6 (a : Int) : Bool := decide (0 ≤ a ∧ a ≤ 1000000)
def verOk (a b c : Int) (p : ByteArray) : Bool := in6 a && (in6 b && (in6 c && (decide (p.size = 0) || pre p)))
theorem nil_iff' (s : ByteArray) : s.toList = ([] : List UInt8) ↔ s.size = 0 := by
  rw [tl]
  have := data_length s
  constructor
  · intro e; rw [e] at this; simpa using this.symm
  · intro e; exact List.eq_nil_of_length_eq_zero (by omega)
theorem verOk_both (a b c : Int) (p : ByteArray) (hp : p.size ≤ 1048576) : Ev (fun k => impl_VersionOk.f k a b c p) (verOk a b c p) ∧ Ev (fun k => spec_VersionOk.f k a b c p) (verOk a b c p) := by
  have hc := pieces_count 46 p
  obtain ⟨l1, l2⟩ := pre_l0 (pieces 46 p) (by omega) (fun x hx => by have := pieces_mem 46 p x hx; omega) _ 0 (Nat.zero_add _)
  rw [List.drop_zero] at l1 l2
  have hS : Ev (fun k => spec_l3Split.f k p 46) (pieces 46 p) := split_spec p hp 46
  have hI : strings_Split.f p (⟨#[46]⟩ : ByteArray) = some (pieces 46 p) := by
    unfold strings_Split.f
    rw [if_pos ⟨by omega, rfl⟩]
    rfl
  have tI : Ev (fun k => impl_VersionOk.f0 k p) (decide (p.size = 0) || pre p) := by
    unfold impl_VersionOk.f0
    by_cases h : p.size = 0
    · exact evT ((nil_iff' p).2 h) (evR (by rw [decide_eq_true h]; rfl))
    · refine evF (fun e => h ((nil_iff' p).1 e)) (evC hI ?_)
      rw [decide_eq_false h, Bool.false_or]
      exact l1
  have tS : Ev (fun k => if p.toList = ([] : List UInt8) then (some true) else ((spec_l3Pre.f k p).bind fun t146 => (some t146))) (decide (p.size = 0) || pre p) := by
    by_cases h : p.size = 0
    · exact evT ((nil_iff' p).2 h) (evR (by rw [decide_eq_true h]; rfl))
    · refine evF (fun e => h ((nil_iff' p).1 e)) ?_
      rw [decide_eq_false h, Bool.false_or]
      refine evB ?_ (evR rfl)
      unfold spec_l3Pre.f
      exact evB hS l2
  unfold verOk
  constructor
  · unfold impl_VersionOk.f
    refine evC (rng_impl _ _ _) ?_
    show Ev (fun k => if in6 a = true then _ else _) _
    cases in6 a with
    | false => exact evF Bool.false_ne_true (evR rfl)
    | true =>
      refine evT rfl ?_
      unfold impl_VersionOk.f2
      refine evC (rng_impl _ _ _) ?_
      show Ev (fun k => if in6 b = true then _ else _) _
      cases in6 b with
      | false => exact evF Bool.false_ne_true (evR rfl)
      | true =>
        refine evT rfl ?_
        unfold impl_VersionOk.f1
        refine evC (rng_impl _ _ _) ?_
        show Ev (fun k => if in6 c = true then _ else _) _
        cases in6 c with
        | false => exact evF Bool.false_ne_true (evR rfl)
        | true => exact evT rfl tI
  · unfold spec_VersionOk.f
    refine evC (rng_spec _ _ _) ?_
    show Ev (fun k => if in6 a = true then _ else _) _
    cases in6 a with
    | false => exact evF Bool.false_ne_true (evR rfl)
    | true =>
      refine evT rfl (evC (rng_spec _ _ _) ?_)
      show Ev (fun k => if in6 b = true then _ else _) _
      cases in6 b with
      | false => exact evF Bool.false_ne_true (evR rfl)
      | true =>
        refine evT rfl (evC (rng_spec _ _ _) ?_)
        show Ev (fun k => if in6 c = true then _ else _) _
        cases in6 c with
        | false => exact evF Bool.false_ne_true (evR rfl)
        | true => exact evT rfl tS
end Go.Proofs.YtagbldaiedmikaaDoor.Z

/- The law FnExactBump, as a plain statement: the program's Bump answers as the reference's. Conditions: those of the row's reading alone. -/
namespace Go.Proofs.YtagbldaiedmikaaDoor.Pure
open Go.RowKit Go.Proofs.YtagbldaiedmikaaDoor.X Go.Proofs.YtagbldaiedmikaaDoor.Z Go.Proofs.YtagbldaiedmikaaDoorW.PrintWords Go.Proofs.YtagbldaiedmikaaDoorW.PrintLast
theorem bump_both (a b c : Int) (p : ByteArray) (n : Int) (hp : p.size ≤ 1048576) : ∃ r, Ev (fun k => impl_Bump.f k a b c p n) r ∧ Ev (fun k => spec_Bump.f k a b c p n) r := by
  obtain ⟨vI, vS⟩ := verOk_both a b c p hp
  have J : ∀ x y z : Int, Ev (fun k => impl_Bump.j0 k a b c p x y z (⟨#[]⟩ : ByteArray)) (if verOk a b c p = true then (if verOk x y z (⟨#[]⟩ : ByteArray) = true then (x, y, z, (⟨#[]⟩ : ByteArray)) else (a, b, c, p)) else (a, b, c, p)) := by
    intro x y z
    obtain ⟨wI, _⟩ := verOk_both x y z (⟨#[]⟩ : ByteArray) (by decide)
    refine evS (fun k => by rw [impl_Bump.j0]) (evB vI ?_)
    cases verOk a b c p with
    | false => exact evF Bool.false_ne_true (evR rfl)
    | true =>
      refine evT rfl (evB wI ?_)
      cases verOk x y z (⟨#[]⟩ : ByteArray) with
      | false => exact evF Bool.false_ne_true (evR rfl)
      | true => exact evT rfl (evR rfl)
  have K : ∀ x y z : Int, Ev (fun k => (spec_VersionOk.f k x y z (⟨#[]⟩ : ByteArray)).bind fun t => (if t = true then (some (x, y, z, (⟨#[]⟩ : ByteArray))) else (some (a, b, c, p)))) (if verOk x y z (⟨#[]⟩ : ByteArray) = true then (x, y, z, (⟨#[]⟩ : ByteArray)) else (a, b, c, p)) := by
    intro x y z
    obtain ⟨_, wS⟩ := verOk_both x y z (⟨#[]⟩ : ByteArray) (by decide)
    refine evB wS ?_
    cases verOk x y z (⟨#[]⟩ : ByteArray) with
    | false => exact evF Bool.false_ne_true (evR rfl)
    | true => exact evT rfl (evR rfl)
  unfold impl_Bump.f spec_Bump.f
  by_cases h0 : n = 0
  · refine ⟨_, evT h0 (J (wrap64 (a + 1)) 0 0), evB vS ?_⟩
    cases verOk a b c p with
    | false => exact evF Bool.false_ne_true (evR rfl)
    | true => exact evT rfl (evT h0 (K (wrap64 (a + 1)) 0 0))
  by_cases h1 : n = 1
  · refine ⟨_, evF h0 (evT h1 (J a (wrap64 (b + 1)) 0)), evB vS ?_⟩
    cases verOk a b c p with
    | false => exact evF Bool.false_ne_true (evR rfl)
    | true => exact evT rfl (evF h0 (evT h1 (K a (wrap64 (b + 1)) 0)))
  by_cases h2 : n = 2
  · refine ⟨_, evF h0 (evF h1 (evT h2 (J a b (wrap64 (c + 1))))), evB vS ?_⟩
    cases verOk a b c p with
    | false => exact evF Bool.false_ne_true (evR rfl)
    | true => exact evT rfl (evF h0 (evF h1 (evT h2 (K a b (wrap64 (c + 1))))))
  · refine ⟨(a, b, c, p), evF h0 (evF h1 (evF h2 (evR rfl))), evB vS ?_⟩
    cases verOk a b c p with
    | false => exact evF Bool.false_ne_true (evR rfl)
    | true => exact evT rfl (evF h0 (evF h1 (evF h2 (evR rfl))))
theorem FnExactBump : laws_FnExactBump.Pure := by
  intro a0 a1 a2 a3 n ⟨_, _, _, ha⟩ _
  refine Ev.rounds ?_
  unfold laws_FnExactBump.f
  unfold maxLen at ha
  have e1 : wrap64 ((1048576 : Int) - (a3.size : Int)) = 1048576 - (a3.size : Int) := w64 (by omega)
  by_cases h1 : (1048576 : Int) - (a3.size : Int) < 0
  · refine evC (a := -1) (by unfold laws_szVersion.f; rw [e1, if_pos h1]) ?_
    exact evT (by omega) (evR rfl)
  refine evC (a := 1048576 - (a3.size : Int)) (by unfold laws_szVersion.f; rw [e1, if_neg h1]) ?_
  refine evF h1 ?_
  obtain ⟨r, hI, hS⟩ := bump_both a0 a1 a2 a3 n (by omega)
  refine evC rfl (evB hS (evC rfl (evB hI (evC (a := true) ?_ (evT rfl (evR rfl))))))
  unfold laws_eqVersion.f
  rw [if_pos rfl, if_pos rfl, if_pos rfl, if_pos rfl]
end Go.Proofs.YtagbldaiedmikaaDoor.Pure

/- Values that come in as data (strings' slices, structs, slices of structs, nested) are of the printer's kinds: one lemma a make of type. Plain lemmas for the rows of laws over such parameters. No conditions beyond what each lemma names. -/
set_option linter.unusedVariables false
namespace Go.Proofs.YtagbldaiedmikaaDoor.Y
open Go.RowKit Go.Proofs.YtagbldaiedmikaaDoorW.PrintWords Go.ChangeShapes Go.WideShapes Go.Deep

/-- What is read as data of type T is of kind d, and G holds of what it says. -/
def Opn {α : Type} (P : Program) (d : Kd α) (T : TypeId) (G : α → Prop) : Prop :=
  ∀ {H : Type} (enc : TypeId × Value → H) (w : World) (spare : Nat → Bool) (held : Bool) (fuel : Nat) (cs : List Value) (x : DataW H × List MemPlace), DataW.trod enc P w 0 spare held fuel T cs = some x → ∃ y, d.K w y cs ∧ G y

theorem Opn.int {P : Program} {T : TypeId} {k : IntKind} (h : P.underlying T = some (.int k)) : Opn P (Kd.int k) T (fun n => (Lit.int k n).wf = true) := by
  intro H enc w spare held fuel cs x hx
  obtain ⟨n, rfl, _, hn⟩ := DataW.trod_int h hx
  exact ⟨n, rfl, hn⟩
theorem Opn.bool {P : Program} {T : TypeId} (h : P.underlying T = some .bool) : Opn P Kd.bool T (fun _ => True) := by
  intro H enc w spare held fuel cs x hx
  obtain ⟨n, rfl, _⟩ := DataW.trod_bool h hx
  exact ⟨n, rfl, trivial⟩
theorem Opn.string {P : Program} {T : TypeId} (h : P.underlying T = some .string) : Opn P Kd.string T (fun s => s.size ≤ maxLen) := by
  intro H enc w spare held fuel cs x hx
  obtain ⟨s, rfl, _, hs⟩ := DataW.trod_string h hx
  exact ⟨s, rfl, hs⟩
theorem Opn.slice {α : Type} {P : Program} {d : Kd α} {T e : TypeId} {G : α → Prop} [Inhabited α] (h : P.underlying T = some (.slice e)) (he : P.cellsOf e = d.sz) (ho : Opn P d e G) :
    Opn P (Kd.slice e d) T (fun l => l.length ≤ maxLen ∧ ∀ y, y ∈ l → G y) := by
  intro H enc w spare held fuel cs x hx
  rcases open_slice h hx with ⟨rfl, _⟩ | ⟨a, len, cap, m, n, D, Pl, rfl, _, hl, hm, hmm, _, hel⟩
  · exact ⟨[], ⟨none, 0, rfl, Nat.le_refl _, rfl, by simp, fun hn => absurd hn (Nat.lt_irrefl 0)⟩, by simp, fun y hy => by cases hy⟩
  · have hlm : len ≤ m := by rw [hmm]; split <;> omega
    have each : ∀ i, i < len → ∃ y, (∃ c, c.length = d.sz ∧ d.K w y c ∧ ∀ j u, c[j]? = some u → w.cell? (a.add (i * d.sz + j)) = some u) ∧ G y := by
      intro i hi
      obtain ⟨c, hc, ht⟩ := hel i (by omega)
      obtain ⟨y, hk, hg⟩ := ho enc w spare held n c _ ht
      obtain ⟨_, hlen, hcell⟩ := World.cells?_some hc
      refine ⟨y, ⟨c, hlen.trans he, hk, fun j u hu => ?_⟩, hg⟩
      have hj : j < P.cellsOf e := by rw [← hlen]; exact (List.getElem?_eq_some_iff.1 hu).1
      have := hcell j hj
      rw [Go.Deep.add_add, hu, he] at this
      exact this
    obtain ⟨f, hf⟩ := choose_lt each
    have hlen : ((List.range len).map f).length = len := by simp
    have hm' : len ≤ maxLen := Nat.le_trans hl hm
    refine ⟨(List.range len).map f, ⟨some a, cap, by rw [hlen], by rw [hlen]; exact hl, by rw [hlen], by rw [hlen]; unfold maxLen at hm'; exact hm', fun _ => ⟨a, rfl, fun j p hp => ?_⟩⟩, by rw [hlen]; exact hm', fun y hy => ?_⟩
    · obtain ⟨hj, rfl⟩ := List.getElem?_eq_some_iff.1 hp
      rw [hlen] at hj
      simp only [List.getElem_map, List.getElem_range]
      exact (hf j hj).1
    · obtain ⟨i, hi, rfl⟩ := List.mem_map.1 hy
      exact (hf i (List.mem_range.1 hi)).2

/-- The fields from cell 'off' on. -/
def FOpn {α : Type} (P : Program) (d : Kd α) (off : Nat) (fs : List Field) (G : α → Prop) : Prop :=
  ∀ {H : Type} (enc : TypeId × Value → H) (w : World) (spare : Nat → Bool) (held : Bool) (fuel : Nat) (cs : List Value),
    (∀ f, f ∈ fs → ∃ x, DataW.trod enc P w 0 spare held fuel f.type ((cs.drop f.offset).take (P.cellsOf f.type)) = some x) → cs.length = off + d.sz → ∃ y, d.K w y (cs.drop off) ∧ G y
theorem FOpn.one {α : Type} {P : Program} {d : Kd α} {off : Nat} {f : Field} {G : α → Prop} (hf : f.offset = off) (hc : P.cellsOf f.type = d.sz) (ho : Opn P d f.type G) : FOpn P d off [f] G := by
  intro H enc w spare held fuel cs hx hl
  obtain ⟨x, hx⟩ := hx f (by simp)
  rw [hf, hc, List.take_of_length_le (by simp; omega)] at hx
  exact ho enc w spare held fuel _ x hx
theorem FOpn.cons {α β : Type} {P : Program} {d : Kd α} {d' : Kd β} {off : Nat} {f : Field} {fs : List Field} {G : α → Prop} {G' : β → Prop} (hf : f.offset = off) (hc : P.cellsOf f.type = d.sz) (ho : Opn P d f.type G)
    (hs : FOpn P d' (off + d.sz) fs G') : FOpn P (Kd.pair d d') off (f :: fs) (fun y => G y.1 ∧ G' y.2) := by
  intro H enc w spare held fuel cs hx hl
  have hl' : cs.length = off + (d.sz + d'.sz) := hl
  obtain ⟨x, h1⟩ := hx f (by simp)
  rw [hf, hc] at h1
  obtain ⟨y, hy, gy⟩ := ho enc w spare held fuel _ x h1
  obtain ⟨z, hz, gz⟩ := hs enc w spare held fuel cs (fun g hg => hx g (List.mem_cons_of_mem _ hg)) (by omega)
  refine ⟨(y, z), ⟨_, _, ?_, hy, hz⟩, gy, gz⟩
  rw [← List.drop_drop, List.take_append_drop]
theorem Opn.struct {α β : Type} {P : Program} {d : Kd α} {T : TypeId} {fs : Array Field} {fl : List Field} {G : α → Prop} {G' : β → Prop} {proj : β → α} (mk : α → β) (h : P.underlying T = some (.struct fs)) (hfl : fs.toList = fl) (hc : P.cellsOf T = d.sz)
    (hmk : ∀ y, proj (mk y) = y) (hG : ∀ y, G y → G' (mk y)) (hs : FOpn P d 0 fl G) : Opn P (Kd.iso d proj) T G' := by
  intro H enc w spare held fuel cs x hx
  obtain ⟨xs, n, rfl, _, hlen, hxs, hall⟩ := DataW.trod_struct h hx
  obtain ⟨y, hy, gy⟩ := hs enc w spare held n cs (fun f hf => by
    rw [← hfl] at hf
    obtain ⟨i, hi, he⟩ := List.getElem_of_mem hf
    have hi' : i < fs.size := by simpa using hi
    have h1 : fs[i]? = some f := by rw [Array.getElem?_eq_getElem hi']; simpa using he
    exact ⟨_, (hall i f h1).trans (List.getElem?_eq_getElem (by omega))⟩) (by rw [hlen, hc, Nat.zero_add])
  refine ⟨mk y, ?_, hG y gy⟩
  show d.K w (proj (mk y)) cs
  rw [hmk]
  exact hy

/-- A parameter that is a slice. -/
theorem Opn.arg_slice {α : Type} {P : Program} {d : Kd α} {T e : TypeId} {G : α → Prop} [Inhabited α] (h : P.underlying T = some (.slice e)) (he : P.cellsOf e = d.sz) (ho : Opn P d e G)
    {H : Type} {enc : TypeId × Value → H} {w : World} {spare : Nat → Bool} {held : Bool} {v : Value} {D : DataW H} {ps : List MemPlace} {r : Reach} {b : Nat} (hv : Value.okWide P w r b T v) (hx : DataW.Trod enc P w 0 spare held T v D ps) :
    ∃ (A : Option Addr) (c : Nat) (l : List α), v = .slice A l.length c ∧ l.length ≤ c ∧ d.C w A l.length l ∧ l.length ≤ maxLen ∧ ∀ y, y ∈ l → G y := by
  obtain ⟨a, len, cap, rfl⟩ := okWide_slice h hv
  obtain ⟨fuel, hf⟩ := hx
  obtain ⟨l, ⟨A, c, hcs, hlc, hC⟩, hg1, hg2⟩ := Opn.slice h he ho enc w spare held fuel _ _ hf
  have hcs' : [Value.slice a len cap] = [Value.slice A l.length c] := hcs
  injection hcs' with h1 _
  exact ⟨A, c, l, h1, hlc, hC, hg1, hg2⟩
/-- A parameter that is a struct. -/
theorem Opn.arg_struct {α : Type} {P : Program} {d : Kd α} {T : TypeId} {G : α → Prop} {fs : Array Field} (hu : P.underlying T = some (.struct fs)) (ho : Opn P d T G)
    {H : Type} {enc : TypeId × Value → H} {w : World} {spare : Nat → Bool} {held : Bool} {v : Value} {D : DataW H} {ps : List MemPlace} {r : Reach} {b : Nat} (hv : Value.okWide P w r b T v) (hx : DataW.Trod enc P w 0 spare held T v D ps) :
    ∃ (cs : List Value) (y : α), v = .agg cs.toArray ∧ d.K w y cs ∧ G y := by
  obtain ⟨cs, rfl, _⟩ := okWide_struct hu hv
  obtain ⟨fuel, hf⟩ := hx
  obtain ⟨y, hk, hg⟩ := ho enc w spare held fuel _ _ hf
  exact ⟨cs.toList, y, by simp, hk, hg⟩
end Go.Proofs.YtagbldaiedmikaaDoor.Y

/- Three closed facts of the rows of this seat (how the program may be entered), by the first words of the translation's head row. No conditions. -/
namespace Go.Proofs.YtagbldaiedmikaaDoor.Y
open Go.ChangeShapes Go.WideShapes Go.ChangeAt Go.RowKit
def tailSigns : List Char := [Char.ofNat 108, Char.ofNat 111, Char.ofNat 111, Char.ofNat 112, Char.ofNat 46, Char.ofNat 101, Char.ofNat 120, Char.ofNat 97, Char.ofNat 109, Char.ofNat 112, Char.ofNat 108, Char.ofNat 101, Char.ofNat 47, Char.ofNat 103, Char.ofNat 48, Char.ofNat 48, Char.ofNat 50, Char.ofNat 51, Char.ofNat 51, Char.ofNat 47, Char.ofNat 108, Char.ofNat 97, Char.ofNat 119, Char.ofNat 115, Char.ofNat 46, Char.ofNat 70, Char.ofNat 110, Char.ofNat 69, Char.ofNat 120, Char.ofNat 97, Char.ofNat 99, Char.ofNat 116, Char.ofNat 80, Char.ofNat 97, Char.ofNat 116, Char.ofNat 104, Char.ofNat 79, Char.ofNat 107, Char.ofNat 32, Char.ofNat 108, Char.ofNat 111, Char.ofNat 111, Char.ofNat 112, Char.ofNat 46, Char.ofNat 101, Char.ofNat 120, Char.ofNat 97, Char.ofNat 109, Char.ofNat 112, Char.ofNat 108, Char.ofNat 101, Char.ofNat 47, Char.ofNat 103, Char.ofNat 48, Char.ofNat 48, Char.ofNat 50, Char.ofNat 51, Char.ofNat 51, Char.ofNat 47, Char.ofNat 108, Char.ofNat 97, Char.ofNat 119, Char.ofNat 115, Char.ofNat 46, Char.ofNat 70, Char.ofNat 110, Char.ofNat 69, Char.ofNat 120, Char.ofNat 97, Char.ofNat 99, Char.ofNat 116, Char.ofNat 86, Char.ofNat 101, Char.ofNat 114, Char.ofNat 115, Char.ofNat 105, Char.ofNat 111, Char.ofNat 110, Char.ofNat 79, Char.ofNat 107, Char.ofNat 32, Char.ofNat 108, Char.ofNat 111, Char.ofNat 111, Char.ofNat 112, Char.ofNat 46, Char.ofNat 101, Char.ofNat 120, Char.ofNat 97, Char.ofNat 109, Char.ofNat 112, Char.ofNat 108, Char.ofNat 101, Char.ofNat 47, Char.ofNat 103, Char.ofNat 48, Char.ofNat 48, Char.ofNat 50, Char.ofNat 51, Char.ofNat 51, Char.ofNat 47, Char.ofNat 108, Char.ofNat 97, Char.ofNat 119, Char.ofNat 115, Char.ofNat 46, Char.ofNat 70, Char.ofNat 110, Char.ofNat 69, Char.ofNat 120, Char.ofNat 97, Char.ofNat 99, Char.ofNat 116, Char.ofNat 66, Char.ofNat 117, Char.ofNat 109, Char.ofNat 112, Char.ofNat 32, Char.ofNat 108, Char.ofNat 111, Char.ofNat 111, Char.ofNat 112, Char.ofNat 46, Char.ofNat 101, Char.ofNat 120, Char.ofNat 97, Char.ofNat 109, Char.ofNat 112, Char.ofNat 108, Char.ofNat 101, Char.ofNat 47, Char.ofNat 103, Char.ofNat 48, Char.ofNat 48, Char.ofNat 50, Char.ofNat 51, Char.ofNat 51, Char.ofNat 47, Char.ofNat 108, Char.ofNat 97, Char.ofNat 119, Char.ofNat 115, Char.ofNat 46, Char.ofNat 70, Char.ofNat 110, Char.ofNat 69, Char.ofNat 120, Char.ofNat 97, Char.ofNat 99, Char.ofNat 116, Char.ofNat 76, Char.ofNat 101, Char.ofNat 115, Char.ofNat 115, Char.ofNat 86, Char.ofNat 101, Char.ofNat 114, Char.ofNat 115, Char.ofNat 105, Char.ofNat 111, Char.ofNat 110, Char.ofNat 32, Char.ofNat 108, Char.ofNat 111, Char.ofNat 111, Char.ofNat 112, Char.ofNat 46, Char.ofNat 101, Char.ofNat 120, Char.ofNat 97, Char.ofNat 109, Char.ofNat 112, Char.ofNat 108, Char.ofNat 101, Char.ofNat 47, Char.ofNat 103, Char.ofNat 48, Char.ofNat 48, Char.ofNat 50, Char.ofNat 51, Char.ofNat 51, Char.ofNat 47, Char.ofNat 108, Char.ofNat 97, Char.ofNat 119, Char.ofNat 115, Char.ofNat 46, Char.ofNat 70, Char.ofNat 110, Char.ofNat 80, Char.ofNat 114, Char.ofNat 101, Char.ofNat 32, Char.ofNat 108, Char.ofNat 111, Char.ofNat 111, Char.ofNat 112, Char.ofNat 46, Char.ofNat 101, Char.ofNat 120, Char.ofNat 97, Char.ofNat 109, Char.ofNat 112, Char.ofNat 108, Char.ofNat 101, Char.ofNat 47, Char.ofNat 103, Char.ofNat 48, Char.ofNat 48, Char.ofNat 50, Char.ofNat 51, Char.ofNat 51, Char.ofNat 47, Char.ofNat 108, Char.ofNat 97, Char.ofNat 119, Char.ofNat 115, Char.ofNat 46, Char.ofNat 70, Char.ofNat 110, Char.ofNat 79, Char.ofNat 114, Char.ofNat 100, Char.ofNat 101, Char.ofNat 114, Char.ofNat 32, Char.ofNat 108, Char.ofNat 111, Char.ofNat 111, Char.ofNat 112, Char.ofNat 46, Char.ofNat 101, Char.ofNat 120, Char.ofNat 97, Char.ofNat 109, Char.ofNat 112, Char.ofNat 108, Char.ofNat 101, Char.ofNat 47, Char.ofNat 103, Char.ofNat 48, Char.ofNat 48, Char.ofNat 50, Char.ofNat 51, Char.ofNat 51, Char.ofNat 47, Char.ofNat 108, Char.ofNat 97, Char.ofNat 119, Char.ofNat 115, Char.ofNat 46, Char.ofNat 70, Char.ofNat 110, Char.ofNat 69, Char.ofNat 120, Char.ofNat 97, Char.ofNat 99, Char.ofNat 116, Char.ofNat 76, Char.ofNat 97, Char.ofNat 116, Char.ofNat 101, Char.ofNat 115, Char.ofNat 116, Char.ofNat 32, Char.ofNat 108, Char.ofNat 111, Char.ofNat 111, Char.ofNat 112, Char.ofNat 46, Char.ofNat 101, Char.ofNat 120, Char.ofNat 97, Char.ofNat 109, Char.ofNat 112, Char.ofNat 108, Char.ofNat 101, Char.ofNat 47, Char.ofNat 103, Char.ofNat 48, Char.ofNat 48, Char.ofNat 50, Char.ofNat 51, Char.ofNat 51, Char.ofNat 47, Char.ofNat 108, Char.ofNat 97, Char.ofNat 119, Char.ofNat 115, Char.ofNat 46, Char.ofNat 70, Char.ofNat 110, Char.ofNat 76, Char.ofNat 97, Char.ofNat 116, Char.ofNat 101, Char.ofNat 115, Char.ofNat 116, Char.ofNat 32, Char.ofNat 108, Char.ofNat 111, Char.ofNat 111, Char.ofNat 112, Char.ofNat 46, Char.ofNat 101, Char.ofNat 120, Char.ofNat 97, Char.ofNat 109, Char.ofNat 112, Char.ofNat 108, Char.ofNat 101, Char.ofNat 47, Char.ofNat 103, Char.ofNat 48, Char.ofNat 48, Char.ofNat 50, Char.ofNat 51, Char.ofNat 51, Char.ofNat 47, Char.ofNat 108, Char.ofNat 97, Char.ofNat 119, Char.ofNat 115, Char.ofNat 46, Char.ofNat 70, Char.ofNat 110, Char.ofNat 69, Char.ofNat 120, Char.ofNat 97, Char.ofNat 99, Char.ofNat 116, Char.ofNat 86, Char.ofNat 101, Char.ofNat 114, Char.ofNat 115, Char.ofNat 105, Char.ofNat 111, Char.ofNat 110, Char.ofNat 84, Char.ofNat 101, Char.ofNat 120, Char.ofNat 116, Char.ofNat 32, Char.ofNat 108, Char.ofNat 111, Char.ofNat 111, Char.ofNat 112, Char.ofNat 46, Char.ofNat 101, Char.ofNat 120, Char.ofNat 97, Char.ofNat 109, Char.ofNat 112, Char.ofNat 108, Char.ofNat 101, Char.ofNat 47, Char.ofNat 103, Char.ofNat 48, Char.ofNat 48, Char.ofNat 50, Char.ofNat 51, Char.ofNat 51, Char.ofNat 47, Char.ofNat 108, Char.ofNat 97, Char.ofNat 119, Char.ofNat 115, Char.ofNat 46, Char.ofNat 70, Char.ofNat 110, Char.ofNat 69, Char.ofNat 120, Char.ofNat 97, Char.ofNat 99, Char.ofNat 116, Char.ofNat 77, Char.ofNat 97, Char.ofNat 106, Char.ofNat 111, Char.ofNat 114, Char.ofNat 79, Char.ofNat 102, Char.ofNat 32, Char.ofNat 108, Char.ofNat 111, Char.ofNat 111, Char.ofNat 112, Char.ofNat 46, Char.ofNat 101, Char.ofNat 120, Char.ofNat 97, Char.ofNat 109, Char.ofNat 112, Char.ofNat 108, Char.ofNat 101, Char.ofNat 47, Char.ofNat 103, Char.ofNat 48, Char.ofNat 48, Char.ofNat 50, Char.ofNat 51, Char.ofNat 51, Char.ofNat 47, Char.ofNat 108, Char.ofNat 97, Char.ofNat 119, Char.ofNat 115, Char.ofNat 46, Char.ofNat 70, Char.ofNat 110, Char.ofNat 69, Char.ofNat 120, Char.ofNat 97, Char.ofNat 99, Char.ofNat 116, Char.ofNat 66, Char.ofNat 97, Char.ofNat 115, Char.ofNat 101, Char.ofNat 32, Char.ofNat 108, Char.ofNat 111, Char.ofNat 111, Char.ofNat 112, Char.ofNat 46, Char.ofNat 101, Char.ofNat 120, Char.ofNat 97, Char.ofNat 109, Char.ofNat 112, Char.ofNat 108, Char.ofNat 101, Char.ofNat 47, Char.ofNat 103, Char.ofNat 48, Char.ofNat 48, Char.ofNat 50, Char.ofNat 51, Char.ofNat 51, Char.ofNat 47, Char.ofNat 108, Char.ofNat 97, Char.ofNat 119, Char.ofNat 115, Char.ofNat 46, Char.ofNat 70, Char.ofNat 110, Char.ofNat 69, Char.ofNat 120, Char.ofNat 97, Char.ofNat 99, Char.ofNat 116, Char.ofNat 80, Char.ofNat 97, Char.ofNat 114, Char.ofNat 115, Char.ofNat 101, Char.ofNat 86, Char.ofNat 101, Char.ofNat 114, Char.ofNat 115, Char.ofNat 105, Char.ofNat 111, Char.ofNat 110]
set_option maxRecDepth 100000 in
theorem initOrder_lit : Tryd.pinned.checked.prog.initOrder = "harness 8854c4987ba7e5863879e1c1f3e5572041dc37068018b6f4d5d9faa1d5368be2 cut at loop.example/g00233/laws.FnExactPathOk loop.example/g00233/laws.FnExactVersionOk loop.example/g00233/laws.FnExactBump loop.example/g00233/laws.FnExactLessVersion loop.example/g00233/laws.FnPre loop.example/g00233/laws.FnOrder loop.example/g00233/laws.FnExactLatest loop.example/g00233/laws.FnLatest loop.example/g00233/laws.FnExactVersionText loop.example/g00233/laws.FnExactMajorOf loop.example/g00233/laws.FnExactBase loop.example/g00233/laws.FnExactParseVersion" := by kernel_rfl
set_option maxRecDepth 100000 in
theorem lit_list : ("harness 8854c4987ba7e5863879e1c1f3e5572041dc37068018b6f4d5d9faa1d5368be2 cut at loop.example/g00233/laws.FnExactPathOk loop.example/g00233/laws.FnExactVersionOk loop.example/g00233/laws.FnExactBump loop.example/g00233/laws.FnExactLessVersion loop.example/g00233/laws.FnPre loop.example/g00233/laws.FnOrder loop.example/g00233/laws.FnExactLatest loop.example/g00233/laws.FnLatest loop.example/g00233/laws.FnExactVersionText loop.example/g00233/laws.FnExactMajorOf loop.example/g00233/laws.FnExactBase loop.example/g00233/laws.FnExactParseVersion" : String) = String.ofList (Char.ofNat 104 :: Char.ofNat 97 :: Char.ofNat 114 :: Char.ofNat 110 :: Char.ofNat 101 :: Char.ofNat 115 :: Char.ofNat 115 :: Char.ofNat 32 :: Char.ofNat 56 :: Char.ofNat 56 :: Char.ofNat 53 :: Char.ofNat 52 :: Char.ofNat 99 :: Char.ofNat 52 :: Char.ofNat 57 :: Char.ofNat 56 :: Char.ofNat 55 :: Char.ofNat 98 :: Char.ofNat 97 :: Char.ofNat 55 :: Char.ofNat 101 :: Char.ofNat 53 :: Char.ofNat 56 :: Char.ofNat 54 :: Char.ofNat 51 :: Char.ofNat 56 :: Char.ofNat 55 :: Char.ofNat 57 :: Char.ofNat 101 :: Char.ofNat 49 :: Char.ofNat 99 :: Char.ofNat 49 :: Char.ofNat 102 :: Char.ofNat 51 :: Char.ofNat 101 :: Char.ofNat 53 :: Char.ofNat 53 :: Char.ofNat 55 :: Char.ofNat 50 :: Char.ofNat 48 :: Char.ofNat 52 :: Char.ofNat 49 :: Char.ofNat 100 :: Char.ofNat 99 :: Char.ofNat 51 :: Char.ofNat 55 :: Char.ofNat 48 :: Char.ofNat 54 :: Char.ofNat 56 :: Char.ofNat 48 :: Char.ofNat 49 :: Char.ofNat 56 :: Char.ofNat 98 :: Char.ofNat 54 :: Char.ofNat 102 :: Char.ofNat 52 :: Char.ofNat 100 :: Char.ofNat 53 :: Char.ofNat 100 :: Char.ofNat 57 :: Char.ofNat 102 :: Char.ofNat 97 :: Char.ofNat 97 :: Char.ofNat 49 :: Char.ofNat 100 :: Char.ofNat 53 :: Char.ofNat 51 :: Char.ofNat 54 :: Char.ofNat 56 :: Char.ofNat 98 :: Char.ofNat 101 :: Char.ofNat 50 :: Char.ofNat 32 :: Char.ofNat 99 :: Char.ofNat 117 :: Char.ofNat 116 :: Char.ofNat 32 :: Char.ofNat 97 :: Char.ofNat 116 :: Char.ofNat 32 :: tailSigns) := by kernel_rfl
theorem initOrder_list : Tryd.pinned.checked.prog.initOrder.toList = Char.ofNat 104 :: Char.ofNat 97 :: Char.ofNat 114 :: Char.ofNat 110 :: Char.ofNat 101 :: Char.ofNat 115 :: Char.ofNat 115 :: Char.ofNat 32 :: Char.ofNat 56 :: Char.ofNat 56 :: Char.ofNat 53 :: Char.ofNat 52 :: Char.ofNat 99 :: Char.ofNat 52 :: Char.ofNat 57 :: Char.ofNat 56 :: Char.ofNat 55 :: Char.ofNat 98 :: Char.ofNat 97 :: Char.ofNat 55 :: Char.ofNat 101 :: Char.ofNat 53 :: Char.ofNat 56 :: Char.ofNat 54 :: Char.ofNat 51 :: Char.ofNat 56 :: Char.ofNat 55 :: Char.ofNat 57 :: Char.ofNat 101 :: Char.ofNat 49 :: Char.ofNat 99 :: Char.ofNat 49 :: Char.ofNat 102 :: Char.ofNat 51 :: Char.ofNat 101 :: Char.ofNat 53 :: Char.ofNat 53 :: Char.ofNat 55 :: Char.ofNat 50 :: Char.ofNat 48 :: Char.ofNat 52 :: Char.ofNat 49 :: Char.ofNat 100 :: Char.ofNat 99 :: Char.ofNat 51 :: Char.ofNat 55 :: Char.ofNat 48 :: Char.ofNat 54 :: Char.ofNat 56 :: Char.ofNat 48 :: Char.ofNat 49 :: Char.ofNat 56 :: Char.ofNat 98 :: Char.ofNat 54 :: Char.ofNat 102 :: Char.ofNat 52 :: Char.ofNat 100 :: Char.ofNat 53 :: Char.ofNat 100 :: Char.ofNat 57 :: Char.ofNat 102 :: Char.ofNat 97 :: Char.ofNat 97 :: Char.ofNat 49 :: Char.ofNat 100 :: Char.ofNat 53 :: Char.ofNat 51 :: Char.ofNat 54 :: Char.ofNat 56 :: Char.ofNat 98 :: Char.ofNat 101 :: Char.ofNat 50 :: Char.ofNat 32 :: Char.ofNat 99 :: Char.ofNat 117 :: Char.ofNat 116 :: Char.ofNat 32 :: Char.ofNat 97 :: Char.ofNat 116 :: Char.ofNat 32 :: tailSigns := (congrArg String.toList (initOrder_lit.trans lit_list)).trans String.toList_ofList
theorem words_at (r : List Char) : wordsSigns (Char.ofNat 104 :: Char.ofNat 97 :: Char.ofNat 114 :: Char.ofNat 110 :: Char.ofNat 101 :: Char.ofNat 115 :: Char.ofNat 115 :: Char.ofNat 32 :: Char.ofNat 56 :: Char.ofNat 56 :: Char.ofNat 53 :: Char.ofNat 52 :: Char.ofNat 99 :: Char.ofNat 52 :: Char.ofNat 57 :: Char.ofNat 56 :: Char.ofNat 55 :: Char.ofNat 98 :: Char.ofNat 97 :: Char.ofNat 55 :: Char.ofNat 101 :: Char.ofNat 53 :: Char.ofNat 56 :: Char.ofNat 54 :: Char.ofNat 51 :: Char.ofNat 56 :: Char.ofNat 55 :: Char.ofNat 57 :: Char.ofNat 101 :: Char.ofNat 49 :: Char.ofNat 99 :: Char.ofNat 49 :: Char.ofNat 102 :: Char.ofNat 51 :: Char.ofNat 101 :: Char.ofNat 53 :: Char.ofNat 53 :: Char.ofNat 55 :: Char.ofNat 50 :: Char.ofNat 48 :: Char.ofNat 52 :: Char.ofNat 49 :: Char.ofNat 100 :: Char.ofNat 99 :: Char.ofNat 51 :: Char.ofNat 55 :: Char.ofNat 48 :: Char.ofNat 54 :: Char.ofNat 56 :: Char.ofNat 48 :: Char.ofNat 49 :: Char.ofNat 56 :: Char.ofNat 98 :: Char.ofNat 54 :: Char.ofNat 102 :: Char.ofNat 52 :: Char.ofNat 100 :: Char.ofNat 53 :: Char.ofNat 100 :: Char.ofNat 57 :: Char.ofNat 102 :: Char.ofNat 97 :: Char.ofNat 97 :: Char.ofNat 49 :: Char.ofNat 100 :: Char.ofNat 53 :: Char.ofNat 51 :: Char.ofNat 54 :: Char.ofNat 56 :: Char.ofNat 98 :: Char.ofNat 101 :: Char.ofNat 50 :: Char.ofNat 32 :: Char.ofNat 99 :: Char.ofNat 117 :: Char.ofNat 116 :: Char.ofNat 32 :: Char.ofNat 97 :: Char.ofNat 116 :: Char.ofNat 32 :: r) = [Char.ofNat 104, Char.ofNat 97, Char.ofNat 114, Char.ofNat 110, Char.ofNat 101, Char.ofNat 115, Char.ofNat 115] :: [Char.ofNat 56, Char.ofNat 56, Char.ofNat 53, Char.ofNat 52, Char.ofNat 99, Char.ofNat 52, Char.ofNat 57, Char.ofNat 56, Char.ofNat 55, Char.ofNat 98, Char.ofNat 97, Char.ofNat 55, Char.ofNat 101, Char.ofNat 53, Char.ofNat 56, Char.ofNat 54, Char.ofNat 51, Char.ofNat 56, Char.ofNat 55, Char.ofNat 57, Char.ofNat 101, Char.ofNat 49, Char.ofNat 99, Char.ofNat 49, Char.ofNat 102, Char.ofNat 51, Char.ofNat 101, Char.ofNat 53, Char.ofNat 53, Char.ofNat 55, Char.ofNat 50, Char.ofNat 48, Char.ofNat 52, Char.ofNat 49, Char.ofNat 100, Char.ofNat 99, Char.ofNat 51, Char.ofNat 55, Char.ofNat 48, Char.ofNat 54, Char.ofNat 56, Char.ofNat 48, Char.ofNat 49, Char.ofNat 56, Char.ofNat 98, Char.ofNat 54, Char.ofNat 102, Char.ofNat 52, Char.ofNat 100, Char.ofNat 53, Char.ofNat 100, Char.ofNat 57, Char.ofNat 102, Char.ofNat 97, Char.ofNat 97, Char.ofNat 49, Char.ofNat 100, Char.ofNat 53, Char.ofNat 51, Char.ofNat 54, Char.ofNat 56, Char.ofNat 98, Char.ofNat 101, Char.ofNat 50] :: [Char.ofNat 99, Char.ofNat 117, Char.ofNat 116] :: [Char.ofNat 97, Char.ofNat 116] :: wordsSigns r := by kernel_rfl
theorem behind_at (t : List (List Char)) : behindMainWord ([Char.ofNat 104, Char.ofNat 97, Char.ofNat 114, Char.ofNat 110, Char.ofNat 101, Char.ofNat 115, Char.ofNat 115] :: [Char.ofNat 56, Char.ofNat 56, Char.ofNat 53, Char.ofNat 52, Char.ofNat 99, Char.ofNat 52, Char.ofNat 57, Char.ofNat 56, Char.ofNat 55, Char.ofNat 98, Char.ofNat 97, Char.ofNat 55, Char.ofNat 101, Char.ofNat 53, Char.ofNat 56, Char.ofNat 54, Char.ofNat 51, Char.ofNat 56, Char.ofNat 55, Char.ofNat 57, Char.ofNat 101, Char.ofNat 49, Char.ofNat 99, Char.ofNat 49, Char.ofNat 102, Char.ofNat 51, Char.ofNat 101, Char.ofNat 53, Char.ofNat 53, Char.ofNat 55, Char.ofNat 50, Char.ofNat 48, Char.ofNat 52, Char.ofNat 49, Char.ofNat 100, Char.ofNat 99, Char.ofNat 51, Char.ofNat 55, Char.ofNat 48, Char.ofNat 54, Char.ofNat 56, Char.ofNat 48, Char.ofNat 49, Char.ofNat 56, Char.ofNat 98, Char.ofNat 54, Char.ofNat 102, Char.ofNat 52, Char.ofNat 100, Char.ofNat 53, Char.ofNat 100, Char.ofNat 57, Char.ofNat 102, Char.ofNat 97, Char.ofNat 97, Char.ofNat 49, Char.ofNat 100, Char.ofNat 53, Char.ofNat 51, Char.ofNat 54, Char.ofNat 56, Char.ofNat 98, Char.ofNat 101, Char.ofNat 50] :: [Char.ofNat 99, Char.ofNat 117, Char.ofNat 116] :: [Char.ofNat 97, Char.ofNat 116] :: t) = [Char.ofNat 99, Char.ofNat 117, Char.ofNat 116] :: [Char.ofNat 97, Char.ofNat 116] :: t := by kernel_rfl
theorem behind_all : behindMainWord (wordsSigns Tryd.pinned.checked.prog.initOrder.toList) = [Char.ofNat 99, Char.ofNat 117, Char.ofNat 116] :: [Char.ofNat 97, Char.ofNat 116] :: wordsSigns tailSigns := by rw [initOrder_list, words_at, behind_at]
theorem make_of (c : List Char) (rest : List (List Char)) (P : Program) (h0 : (c == "gc".toList) = false) (h1 : (c == "spec".toList) = false) (h2 : (c == "cut".toList) = true) (h : behindMainWord (wordsSigns P.initOrder.toList) = c :: rest) : P.make = some .cut := by
  unfold Program.make
  rw [h]
  simp only [h0, h1, h2]
  rfl
theorem mayEnter_of (c : List Char) (rest : List (List Char)) (P : Program) (h0 : (c == "gc".toList) = false) (h1 : (c == "spec".toList) = false) (h2 : (c == "carried".toList) = false) (h : behindMainWord (wordsSigns P.initOrder.toList) = c :: rest)
    (h3 : ((stripLifts liftWords (c :: rest)).2.head? == some "cut".toList) = true) (h4 : P.laysLater = false) (h5 : P.bearsReflect = false) (h6 : P.doorFits (stripLifts liftWords (c :: rest)).1 = true) (h7 : (stripLifts liftWords (c :: rest)).1.contains "leanrows" = false) : P.mayEnter = true := by
  unfold Program.mayEnter
  rw [h]
  simp only [h0, h1, h2, h3, h4, h5, h6, h7]
  simp
theorem liftsFinal_of (c : List Char) (rest : List (List Char)) (P : Program) (h2 : (some c == some "carried".toList) = false) (h : behindMainWord (wordsSigns P.initOrder.toList) = c :: rest)
    (h3 : ((stripLifts liftWords (c :: rest)).2.head? == some "cut".toList) = true) (h7 : (stripLifts liftWords (c :: rest)).1.contains "finals" = false) : P.liftsFinal = false := by
  unfold Program.liftsFinal Program.headLifts
  rw [h]
  simp only [List.head?_cons, h2, h3, if_true, h7, Bool.false_and, Bool.or_self]
theorem strip_at (t : List (List Char)) : stripLifts liftWords ([Char.ofNat 99, Char.ofNat 117, Char.ofNat 116] :: [Char.ofNat 97, Char.ofNat 116] :: t) = ([], [Char.ofNat 99, Char.ofNat 117, Char.ofNat 116] :: [Char.ofNat 97, Char.ofNat 116] :: t) := by kernel_rfl
theorem laysLater_at : Tryd.pinned.checked.prog.laysLater = false := by kernel_rfl
theorem bearsReflect_at : Tryd.pinned.checked.prog.bearsReflect = false := by kernel_rfl
theorem doorFits_at : Tryd.pinned.checked.prog.doorFits [] = true := by kernel_rfl
theorem mayEnter_at : Tryd.pinned.checked.prog.mayEnter = true :=
  mayEnter_of _ _ _ (by kernel_rfl) (by kernel_rfl) (by kernel_rfl) behind_all (by rw [strip_at]; generalize wordsSigns tailSigns = t; kernel_rfl) laysLater_at bearsReflect_at (by rw [strip_at]; exact doorFits_at) (by rw [strip_at]; rfl)
theorem liftsFinal_at : Tryd.pinned.checked.prog.liftsFinal = false :=
  liftsFinal_of _ _ _ (by kernel_rfl) behind_all (by rw [strip_at]; generalize wordsSigns tailSigns = t; kernel_rfl) (by rw [strip_at]; rfl)
theorem make_at : Tryd.pinned.checked.prog.make = some .cut := make_of _ _ _ (by kernel_rfl) (by kernel_rfl) (by kernel_rfl) behind_all
end Go.Proofs.YtagbldaiedmikaaDoor.Y

/- A world for the witnesses: the settled one, the listed tables holding what their initialisers lay. No conditions. -/
namespace Go.Proofs.YtagbldaiedmikaaDoor.Y
open Go.ChangeShapes Go.WideShapes Go.ChangeAt Go.RowKit
noncomputable def laidWorld (os : Os) : World :=
  { World.holding Tryd.prog os ⟨#[], #[], []⟩ with heap := ((((((((((World.holding Tryd.prog os ⟨#[], #[], []⟩).heap).modify 1 (fun o => match o with | .cells _ t z => .cells #[Value.int .u64 1, Value.int .u64 10, Value.int .u64 100, Value.int .u64 1000, Value.int .u64 10000, Value.int .u64 100000, Value.int .u64 1000000, Value.int .u64 10000000, Value.int .u64 100000000, Value.int .u64 1000000000, Value.int .u64 10000000000, Value.int .u64 100000000000, Value.int .u64 1000000000000, Value.int .u64 10000000000000, Value.int .u64 100000000000000, Value.int .u64 1000000000000000, Value.int .u64 10000000000000000, Value.int .u64 100000000000000000, Value.int .u64 1000000000000000000, Value.int .u64 10000000000000000000] t z | o => o)).modify 4 (fun o => match o with | .cells _ t z => .cells ((Go.Pinned.utf8FirstZ.map fun (n : Nat) => Value.int .u8 (n : Int)).toArray) t z | o => o)).modify 5 (fun o => match o with | .cells _ t z => .cells #[Value.int .u8 128, Value.int .u8 191, Value.int .u8 160, Value.int .u8 191, Value.int .u8 128, Value.int .u8 159, Value.int .u8 144, Value.int .u8 191, Value.int .u8 128, Value.int .u8 143, Value.int .u8 0, Value.int .u8 0, Value.int .u8 0, Value.int .u8 0, Value.int .u8 0, Value.int .u8 0, Value.int .u8 0, Value.int .u8 0, Value.int .u8 0, Value.int .u8 0, Value.int .u8 0, Value.int .u8 0, Value.int .u8 0, Value.int .u8 0, Value.int .u8 0, Value.int .u8 0, Value.int .u8 0, Value.int .u8 0, Value.int .u8 0, Value.int .u8 0, Value.int .u8 0, Value.int .u8 0] t z | o => o)).modify 6 (fun o => match o with | .cells _ t z => .cells #[Value.int .u8 0, Value.int .u8 1, Value.int .u8 28, Value.int .u8 2, Value.int .u8 29, Value.int .u8 14, Value.int .u8 24, Value.int .u8 3, Value.int .u8 30, Value.int .u8 22, Value.int .u8 20, Value.int .u8 15, Value.int .u8 25, Value.int .u8 17, Value.int .u8 4, Value.int .u8 8, Value.int .u8 31, Value.int .u8 27, Value.int .u8 13, Value.int .u8 23, Value.int .u8 21, Value.int .u8 19, Value.int .u8 16, Value.int .u8 7, Value.int .u8 26, Value.int .u8 12, Value.int .u8 18, Value.int .u8 6, Value.int .u8 11, Value.int .u8 5, Value.int .u8 10, Value.int .u8 9] t z | o => o)).modify 7 (fun o => match o with | .cells _ t z => .cells #[Value.int .u8 0, Value.int .u8 1, Value.int .u8 56, Value.int .u8 2, Value.int .u8 57, Value.int .u8 49, Value.int .u8 28, Value.int .u8 3, Value.int .u8 61, Value.int .u8 58, Value.int .u8 42, Value.int .u8 50, Value.int .u8 38, Value.int .u8 29, Value.int .u8 17, Value.int .u8 4, Value.int .u8 62, Value.int .u8 47, Value.int .u8 59, Value.int .u8 36, Value.int .u8 45, Value.int .u8 43, Value.int .u8 51, Value.int .u8 22, Value.int .u8 53, Value.int .u8 39, Value.int .u8 33, Value.int .u8 30, Value.int .u8 24, Value.int .u8 18, Value.int .u8 12, Value.int .u8 5, Value.int .u8 63, Value.int .u8 55, Value.int .u8 48, Value.int .u8 27, Value.int .u8 60, Value.int .u8 41, Value.int .u8 37, Value.int .u8 16, Value.int .u8 46, Value.int .u8 35, Value.int .u8 44, Value.int .u8 21, Value.int .u8 52, Value.int .u8 32, Value.int .u8 23, Value.int .u8 11, Value.int .u8 54, Value.int .u8 26, Value.int .u8 40, Value.int .u8 15, Value.int .u8 34, Value.int .u8 20, Value.int .u8 31, Value.int .u8 10, Value.int .u8 25, Value.int .u8 14, Value.int .u8 19, Value.int .u8 9, Value.int .u8 13, Value.int .u8 8, Value.int .u8 7, Value.int .u8 6] t z | o => o)).modify 2 (fun o => match o with | .cells _ t z => .cells #[Value.iface 130 (.pointer (some ⟨(World.holding Tryd.prog os ⟨#[], #[], []⟩).heap.size + 0, 0, none⟩))] t z | o => o)).push (.cells #[Value.string ⟨#[105, 110, 118, 97, 108, 105, 100, 32, 115, 121, 110, 116, 97, 120]⟩] 132 (0, 0))).modify 3 (fun o => match o with | .cells _ t z => .cells #[Value.iface 130 (.pointer (some ⟨(World.holding Tryd.prog os ⟨#[], #[], []⟩).heap.size + 1, 0, none⟩))] t z | o => o)).push (.cells #[Value.string ⟨#[118, 97, 108, 117, 101, 32, 111, 117, 116, 32, 111, 102, 32, 114, 97, 110, 103, 101]⟩] 132 (0, 0)) }
end Go.Proofs.YtagbldaiedmikaaDoor.Y
