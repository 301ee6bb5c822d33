/- The law FnGrown, as a plain statement: each beginning of drawn texts has a path that is right; with one part more it is not; a list came of itself. Conditions: those of the row's reading alone. -/
/- Part 6 of 8 of this claim's texts. -/
import Derived.Test.YtmkhhnfmahdijaaWWords
import Derived.Test.YtmkhhnfmahdijaaWMore
import Derived.Laws.BitsLemmas
import Derived.Deep.Slices
import Derived.ChangeArms
import Derived.WideShapes
import Derived.DataReads
import Derived.Test.YtmkhhnfmahdijaaCBase0
import Derived.Test.YtmkhhnfmahdijaaCBase2
import Derived.Test.YtmkhhnfmahdijaaCFnGrown3
import Derived.Test.YtmkhhnfmahdijaaCFnGrown4
namespace Go.Proofs.Ytmkhhnfmahdijaa.X
open Go.RowKit Go.Proofs.YtmkhhnfmahdijaaW.PrintWords Go.Proofs.YtmkhhnfmahdijaaW.PrintLast Go.Proofs.YtmkhhnfmahdijaaW.PrintMore
attribute [local go_sem] max2_int min2_int max_two min_two max_three min_three max_four min_four   -- for this text's walks alone
set_option linter.unusedVariables false
set_option linter.unusedSimpArgs false

/-! ### laws_FnGrown: function 21 -/
def laws_FnGrown.j0 : Nat → List ByteArray → Int → Int → ByteArray → Bool → Option (Bool)
  | 0, _, _, _, _, _ => none
  | k + 1, x3, x4, x5, x6, x34 => if x34 = true then (some false) else (if x4 = 0 then ((impl_GrowPath.f k x3 0).bind fun t996 => (some ((t996.length : Int) == 0))) else ((impl_GrowPath.f k x3 x4).bind fun t999 => (if 0 ≤ x4 then (if x4 ≤ (x3.length : Int) then ((impl_RootOf.f k (x3.take (x4 : Int).toNat)).bind fun t1006 => ((some (([] : List ByteArray) : List ByteArray)).bind fun y1007 => (if y1007.length + t999.length < 8796093022208 then ((some (y1007 ++ t999 : List ByteArray)).bind fun y1010 => (if y1010.length < 8796093022208 then ((impl_CheckGrow.f k x4 x5 t1006 x6 t999).bind fun t1016 => (if t1016 = true then ((impl_CheckGrow.f k x4 x5 t1006 x6 (y1010 ++ [x6])).bind fun t1017 => (if t1017 = true then (some false) else (some (decide ((t999.length : Int) > 0))))) else (some false))) else (none))) else (none)))) else (none)) else (none))))
def laws_FnGrown.f (k : Nat) (l0 : List Int) : Option (Bool) := (laws_big.f l0).bind fun t982 => (if t982 = true then (some true) else ((spec_DrawLeaves.f k l0).bind fun bt983 => ((impl_RootOf.f k bt983.1).bind fun t987 => ((impl_CheckGrow.f k (bt983.1.length : Int) (bt983.1.length : Int) t987 t987 (([] : List ByteArray))).bind fun t991 => (if t991 = true then ((impl_CheckGrow.f k 0 (bt983.1.length : Int) t987 t987 (([] : List ByteArray))).bind fun t995 => (laws_FnGrown.j0 k bt983.1 bt983.2 (bt983.1.length : Int) t987 t995)) else (laws_FnGrown.j0 k bt983.1 bt983.2 (bt983.1.length : Int) t987 true))))))
theorem laws_FnGrown.mono_l : ∀ k, (∀ y0 y1 y2 y3 y4, LeO (laws_FnGrown.j0 k y0 y1 y2 y3 y4) (laws_FnGrown.j0 (k + 1) y0 y1 y2 y3 y4))
  | 0 => fun _ _ _ _ _ r h => by simp [laws_FnGrown.j0] at h
  | k + 1 => by
    have ih0 := laws_FnGrown.mono_l k
    · intro y0 y1 y2 y3 y4
      unfold laws_FnGrown.j0
      repeat' first
      | (with_reducible exact ih0 _ _ _ _ _)
      | (with_reducible exact impl_CheckGrow.mono _ _ _ _ _ _)
      | (with_reducible exact impl_GrowPath.mono _ _ _)
      | (with_reducible exact impl_RootOf.mono _ _)
      | (with_reducible exact spec_DrawLeaves.mono _ _)
      | (with_reducible exact LeO.refl _)
      | (with_reducible exact LeO.none _)
      | (with_reducible refine LeO.ite ?_ ?_)
      | (with_reducible refine LeO.bind ?_ (fun _ => ?_))
      | exact ih0 _ _ _ _ _
      | exact impl_CheckGrow.mono _ _ _ _ _ _
      | exact impl_GrowPath.mono _ _ _
      | exact impl_RootOf.mono _ _
      | exact spec_DrawLeaves.mono _ _
      | exact LeO.none _
      | refine LeO.ite ?_ ?_
      | refine LeO.bind ?_ (fun _ => ?_)
theorem laws_FnGrown.mono : ∀ a0 k, LeO (laws_FnGrown.f k a0) (laws_FnGrown.f (k + 1) a0) := by
  intro a0 k
  have ih0 := laws_FnGrown.mono_l k
  unfold laws_FnGrown.f
  repeat' first
      | (with_reducible exact ih0 _ _ _ _ _)
      | (with_reducible exact impl_CheckGrow.mono _ _ _ _ _ _)
      | (with_reducible exact impl_GrowPath.mono _ _ _)
      | (with_reducible exact impl_RootOf.mono _ _)
      | (with_reducible exact spec_DrawLeaves.mono _ _)
      | (with_reducible exact LeO.refl _)
      | (with_reducible exact LeO.none _)
      | (with_reducible refine LeO.ite ?_ ?_)
      | (with_reducible refine LeO.bind ?_ (fun _ => ?_))
      | exact ih0 _ _ _ _ _
      | exact impl_CheckGrow.mono _ _ _ _ _ _
      | exact impl_GrowPath.mono _ _ _
      | exact impl_RootOf.mono _ _
      | exact spec_DrawLeaves.mono _ _
      | exact LeO.none _
      | refine LeO.ite ?_ ?_
      | refine LeO.bind ?_ (fun _ => ?_)
set_option maxHeartbeats 8000000 in
set_option maxRecDepth 100000 in
theorem laws_FnGrown.calls (k : Nat) (A0 : Option Addr) (c0 : Nat) (l0 : List Int) (r : Bool) (w : World) (hr0 : Kd.C (Kd.int .u8) w A0 l0.length l0) (hc0 : l0.length ≤ c0) (h : laws_FnGrown.f k l0 = some r) :
    Calls Try.prog 21 #[.slice A0 l0.length c0] w fun e w' => e = .returned (.bool r) ∧ Below w.heap.size w w' := by
  have HR0 := Aside0.mk hr0
  have HC0 := Aside0.mk hc0
  clear hr0 hc0
  have HB := Aside0.mk (Below.refl w.heap.size w)
  have H : ((laws_big.f l0).bind fun t982 => (if t982 = true then (some true) else ((spec_DrawLeaves.f k l0).bind fun bt983 => ((impl_RootOf.f k bt983.1).bind fun t987 => ((impl_CheckGrow.f k (bt983.1.length : Int) (bt983.1.length : Int) t987 t987 (([] : List ByteArray))).bind fun t991 => (if t991 = true then ((impl_CheckGrow.f k 0 (bt983.1.length : Int) t987 t987 (([] : List ByteArray))).bind fun t995 => (laws_FnGrown.j0 k bt983.1 bt983.2 (bt983.1.length : Int) t987 t995)) else (laws_FnGrown.j0 k bt983.1 bt983.2 (bt983.1.length : Int) t987 true))))))) = some r := h
  clear h
  replace H := Option.bind_eq_some_iff.mp H
  obtain ⟨t982, A20, H⟩ := H
  replace H : (if t982 = true then (some true) else ((spec_DrawLeaves.f k l0).bind fun bt983 => ((impl_RootOf.f k bt983.1).bind fun t987 => ((impl_CheckGrow.f k (bt983.1.length : Int) (bt983.1.length : Int) t987 t987 (([] : List ByteArray))).bind fun t991 => (if t991 = true then ((impl_CheckGrow.f k 0 (bt983.1.length : Int) t987 t987 (([] : List ByteArray))).bind fun t995 => (laws_FnGrown.j0 k bt983.1 bt983.2 (bt983.1.length : Int) t987 t995)) else (laws_FnGrown.j0 k bt983.1 bt983.2 (bt983.1.length : Int) t987 true)))))) = some r := H
  have A2 := Aside0.mk A20
  clear A20
  by_cases c3 : t982 = true
  · subst c3
    have H1 : (some true) = some r := by rw [if_pos rfl] at H; exact H
    clear H
    have H := H1
    clear H1
    obtain rfl := Option.some.inj H
    go_enter Try.func21, Try.ntmps21
    go_wp2_with (first | ((with_reducible refine gate_callee (f := 46) rfl ?_); refine goesL_ (some 11) rfl rfl Try.func46 (by kernel_rfl) rfl #[.slice A0 l0.length c0] rfl (by (try simp only [List.map_toArray, List.map_cons, List.map_nil]); first | done | rfl | (simp only [List.length_drop, List.length_take]; rfl)) ?_; (with_reducible refine (laws_big.calls _ _ l0 true _ ?side1 ?side2 A2.out).mono ?_); (case side1 => repeat (first | exact HR0.out | (with_reducible refine Kd.C_alloc ?_ _) | (with_reducible refine Kd.C_drewN ?_ _) | (with_reducible refine Kd.C_drew ?_))); (case side2 => exact HC0.out); rintro e w' ⟨rfl, ⟨nd, rfl⟩⟩; refine ⟨_, rfl, ?_⟩))
    go_ret
    exact ⟨by first | rfl | (simp [errW_none, errW_some] <;> rfl) | (simp [*, errW_none, errW_some] <;> rfl), by repeat (first | (with_reducible first | exact HB.out | apply below_alloc | apply pw_below_drewN | apply below_drew1) | exact HB.out)⟩
  · replace c3 := Bool.eq_false_iff.mpr c3
    subst c3
    have H1 : ((spec_DrawLeaves.f k l0).bind fun bt983 => ((impl_RootOf.f k bt983.1).bind fun t987 => ((impl_CheckGrow.f k (bt983.1.length : Int) (bt983.1.length : Int) t987 t987 (([] : List ByteArray))).bind fun t991 => (if t991 = true then ((impl_CheckGrow.f k 0 (bt983.1.length : Int) t987 t987 (([] : List ByteArray))).bind fun t995 => (laws_FnGrown.j0 k bt983.1 bt983.2 (bt983.1.length : Int) t987 t995)) else (laws_FnGrown.j0 k bt983.1 bt983.2 (bt983.1.length : Int) t987 true))))) = some r := by rw [if_neg (show ¬ (false = true) by decide)] at H; exact H
    clear H
    have H := H1
    clear H1
    replace H := Option.bind_eq_some_iff.mp H
    obtain ⟨⟨t983, t984⟩, A40, H⟩ := H
    replace H : ((impl_RootOf.f k t983).bind fun t987 => ((impl_CheckGrow.f k (t983.length : Int) (t983.length : Int) t987 t987 (([] : List ByteArray))).bind fun t991 => (if t991 = true then ((impl_CheckGrow.f k 0 (t983.length : Int) t987 t987 (([] : List ByteArray))).bind fun t995 => (laws_FnGrown.j0 k t983 t984 (t983.length : Int) t987 t995)) else (laws_FnGrown.j0 k t983 t984 (t983.length : Int) t987 true)))) = some r := H
    have A4 := Aside0.mk A40
    clear A40
    replace H := Option.bind_eq_some_iff.mp H
    obtain ⟨t987, A50, H⟩ := H
    replace H : ((impl_CheckGrow.f k (t983.length : Int) (t983.length : Int) t987 t987 (([] : List ByteArray))).bind fun t991 => (if t991 = true then ((impl_CheckGrow.f k 0 (t983.length : Int) t987 t987 (([] : List ByteArray))).bind fun t995 => (laws_FnGrown.j0 k t983 t984 (t983.length : Int) t987 t995)) else (laws_FnGrown.j0 k t983 t984 (t983.length : Int) t987 true))) = some r := H
    have A5 := Aside0.mk A50
    clear A50
    have HC6 := Aside0.mk H
    clear H
    go_enter Try.func21, Try.ntmps21
    go_upto_region 6 with (first | ((with_reducible refine gate_callee (f := 46) rfl ?_); refine goesL_ (some 11) rfl rfl Try.func46 (by kernel_rfl) rfl #[.slice A0 l0.length c0] rfl (by (try simp only [List.map_toArray, List.map_cons, List.map_nil]); first | done | rfl | (simp only [List.length_drop, List.length_take]; rfl)) ?_; (with_reducible refine (laws_big.calls _ _ l0 false _ ?side1 ?side2 A2.out).mono ?_); (case side1 => repeat (first | exact HR0.out | (with_reducible refine Kd.C_alloc ?_ _) | (with_reducible refine Kd.C_drewN ?_ _) | (with_reducible refine Kd.C_drew ?_))); (case side2 => exact HC0.out); rintro e w' ⟨rfl, ⟨nd, rfl⟩⟩; refine ⟨_, rfl, ?_⟩) | ((with_reducible refine gate_callee (f := 65) rfl ?_); refine goesL_ (some 14) rfl rfl Try.func65 (by kernel_rfl) rfl #[.slice A0 l0.length c0] rfl (by (try simp only [List.map_toArray, List.map_cons, List.map_nil]); first | done | rfl | (simp only [List.length_drop, List.length_take]; rfl)) ?_; (with_reducible refine (spec_DrawLeaves.calls k _ _ l0 t983 t984 _ ?side1 ?side2 A4.out).mono ?_); (case side1 => repeat (first | exact HR0.out | (with_reducible refine Kd.C_alloc ?_ _) | (with_reducible refine Kd.C_drewN ?_ _) | (with_reducible refine Kd.C_drew ?_))); (case side2 => exact HC0.out); rintro e w7 ⟨v985, rfl, ho0, hb⟩; refine ⟨_, rfl, ?_⟩; have n0_ := Aside0.mk (Kd.R_lower ho0 (below_size (by repeat (first | (with_reducible first | exact HB.out | apply below_alloc | apply pw_below_drewN | apply below_drew1) | exact HB.out)))); have n1_ := Aside0.mk (below_step (by repeat (first | (with_reducible first | exact HB.out | apply below_alloc | apply pw_below_drewN | apply below_drew1) | exact HB.out)) hb); clear HB; have HO986 := n0_; have HB := n1_; clear n0_ n1_; (try clear hb); (try clear hb2); (try clear hk); (try clear hi); (try clear ho0); obtain ⟨Ao8, co8, eo8⟩ := Kd.R_slice HO986.out; subst eo8) | ((with_reducible refine gate_callee (f := 66) rfl ?_); refine goesL_ (some 20) rfl rfl Try.func66 (by kernel_rfl) rfl #[.slice Ao8 t983.length co8] rfl (by (try simp only [List.map_toArray, List.map_cons, List.map_nil]); first | done | rfl | (simp only [List.length_drop, List.length_take]; rfl)) ?_; (with_reducible refine (impl_RootOf.calls k _ _ t983 t987 _ ?side1 ?side2 A5.out).mono ?_); (case side1 => repeat (first | exact (Kd.R_reads' HO986.out).2.2 | (with_reducible refine Kd.C_alloc ?_ _) | (with_reducible refine Kd.C_drewN ?_ _) | (with_reducible refine Kd.C_drew ?_))); (case side2 => exact (Kd.R_reads' HO986.out).2.1); rintro e w9 ⟨rfl, hb⟩; refine ⟨_, rfl, ?_⟩; have n0_ := Aside0.mk (Kd.R_below (by (with_reducible repeat (first | apply Kd.R_alloc | apply Kd.R_drewN | apply Kd.R_drew)); exact HO986.out) hb); have n1_ := Aside0.mk (below_step (by repeat (first | (with_reducible first | exact HB.out | apply below_alloc | apply pw_below_drewN | apply below_drew1) | exact HB.out)) hb); clear HO986; clear HB; have HO986 := n0_; have HB := n1_; clear n0_ n1_; (try clear hb); (try clear hb2); (try clear hk); (try clear hi)))
    (try simp only [Act.put, List.setIfInBounds_toArray, List.set_cons_zero, List.set_cons_succ])
    go_cut [34] (fun v34 wc => ∃ (kq : Nat) (x34_5 : Bool), v34 = .bool x34_5 ∧ Aside0 (laws_FnGrown.j0 kq t983 t984 (t983.length : Int) t987 x34_5 = some r) ∧ Aside0 (kq ≤ k) ∧ Aside0 (Kd.R Kd.string 9 wc w.heap.size (fun _ => True) (.slice Ao8 t983.length co8) t983) ∧ Aside0 (Below w.heap.size w wc))
    case first =>
      have H := HC6.out
      clear HC6
      obtain ⟨y988, hy988⟩ : ∃ y_ : List ByteArray, y_ = (([] : List ByteArray)) := ⟨_, rfl⟩
      replace H : ((impl_CheckGrow.f k (t983.length : Int) (t983.length : Int) t987 t987 y988).bind fun t991 => (if t991 = true then ((impl_CheckGrow.f k 0 (t983.length : Int) t987 t987 (([] : List ByteArray))).bind fun t995 => (laws_FnGrown.j0 k t983 t984 (t983.length : Int) t987 t995)) else (laws_FnGrown.j0 k t983 t984 (t983.length : Int) t987 true))) = some r := by first | (rw [hy988]; with_reducible exact H) | (have H2_ := (Option.bind_some _ _).symm.trans H; rw [hy988]; with_reducible exact H2_) | (have H2_ := (Option.bind_some _ _).symm.trans H; with_reducible exact H2_) | with_reducible exact H | (rw [hy988]; exact H) | exact H
      have Ny988 := Aside0.mk hy988
      clear hy988
      replace H := Option.bind_eq_some_iff.mp H
      obtain ⟨t991, A100, H⟩ := H
      replace H : (if t991 = true then ((impl_CheckGrow.f k 0 (t983.length : Int) t987 t987 (([] : List ByteArray))).bind fun t995 => (laws_FnGrown.j0 k t983 t984 (t983.length : Int) t987 t995)) else (laws_FnGrown.j0 k t983 t984 (t983.length : Int) t987 true)) = some r := H
      have A10 := Aside0.mk A100
      clear A100
      by_cases c11 : t991 = true
      · subst c11
        have H1 : ((impl_CheckGrow.f k 0 (t983.length : Int) t987 t987 (([] : List ByteArray))).bind fun t995 => (laws_FnGrown.j0 k t983 t984 (t983.length : Int) t987 t995)) = some r := by rw [if_pos rfl] at H; exact H
        clear H
        have H := H1
        clear H1
        obtain ⟨y992, hy992⟩ : ∃ y_ : List ByteArray, y_ = (([] : List ByteArray)) := ⟨_, rfl⟩
        replace H : ((impl_CheckGrow.f k 0 (t983.length : Int) t987 t987 y992).bind fun t995 => (laws_FnGrown.j0 k t983 t984 (t983.length : Int) t987 t995)) = some r := by first | (rw [hy992]; with_reducible exact H) | (have H2_ := (Option.bind_some _ _).symm.trans H; rw [hy992]; with_reducible exact H2_) | (have H2_ := (Option.bind_some _ _).symm.trans H; with_reducible exact H2_) | with_reducible exact H | (rw [hy992]; exact H) | exact H
        have Ny992 := Aside0.mk hy992
        clear hy992
        replace H := Option.bind_eq_some_iff.mp H
        obtain ⟨t995, A120, H⟩ := H
        replace H : (laws_FnGrown.j0 k t983 t984 (t983.length : Int) t987 t995) = some r := H
        have A12 := Aside0.mk A120
        clear A120
        have H' := Aside0.mk H
        clear H
        go_wp2_with (first | ((with_reducible refine gate_dst (N := 25) rfl ?_); (try (refine gate_guard (by rfl) ?_; dsimp only)); refine Kd.R_lit Kd.string _ 9 ?hg (N := 25) ?hd (xs := ([] : List ByteArray)) (inner := []) (ok := fun _ => True) (okp := fun _ => True) ?hr ?hp (fun _ hk => hk) trivial (Below.refl _ _) (Nat.le_refl _) (by simp) ?_; (case hd => rfl); (case hg => rfl); (case hr => first | (go_simp; done) | (go_simp; rfl)); (case hp => exact (Reps.none _ _)); intro v989 w13 ho14 hb hg_ hnew_; clear hg_ hnew_; (first | rw [← Ny988.out] at ho14 | (simp only [Int.reduceToNat] at ho14; rw [← Ny988.out] at ho14)); have n0_ := Aside0.mk (Kd.R_elder' (by (with_reducible repeat (first | apply Kd.R_alloc | apply Kd.R_drewN | apply Kd.R_drew)); exact HO986.out) (Kd.R_base ho14) hb); have n1_ := Aside0.mk (Kd.R_lower (Kd.R_new' ho14 (Kd.R_lt (by (with_reducible repeat (first | apply Kd.R_alloc | apply Kd.R_drewN | apply Kd.R_drew)); exact HO986.out))) (below_size (by repeat (first | (with_reducible first | exact HB.out | apply below_alloc | apply pw_below_drewN | apply below_drew1) | exact HB.out)))); have n2_ := Aside0.mk (below_step (by repeat (first | (with_reducible first | exact HB.out | apply below_alloc | apply pw_below_drewN | apply below_drew1) | exact HB.out)) hb); clear HO986; clear HB; have HO986 := n0_; have HO990 := n1_; have HB := n2_; clear n0_ n1_ n2_; clear hb ho14; obtain ⟨Ao15, co15, eo15⟩ := Kd.R_slice HO990.out; subst eo15) | ((with_reducible refine gate_callee (f := 75) rfl ?_); refine goesL_ (some 26) rfl rfl Try.func75 (by kernel_rfl) rfl #[.int .i64 (t983.length : Int), .int .i64 (t983.length : Int), .string t987, .string t987, .slice Ao15 y988.length co15] rfl (by (try simp only [List.map_toArray, List.map_cons, List.map_nil]); first | done | rfl | (simp only [List.length_drop, List.length_take]; rfl)) ?_; (with_reducible refine (impl_CheckGrow.calls k (t983.length : Int) (t983.length : Int) t987 t987 _ _ y988 true _ ?side1 ?side2 A10.out).mono ?_); (case side1 => repeat (first | exact (Kd.R_reads' HO990.out).2.2 | (with_reducible refine Kd.C_alloc ?_ _) | (with_reducible refine Kd.C_drewN ?_ _) | (with_reducible refine Kd.C_drew ?_))); (case side2 => exact (Kd.R_reads' HO990.out).2.1); rintro e w16 ⟨rfl, hb⟩; refine ⟨_, rfl, ?_⟩; have n0_ := Aside0.mk (Kd.R_below (by (with_reducible repeat (first | apply Kd.R_alloc | apply Kd.R_drewN | apply Kd.R_drew)); exact HO986.out) hb); have n1_ := Aside0.mk (Kd.R_below (by (with_reducible repeat (first | apply Kd.R_alloc | apply Kd.R_drewN | apply Kd.R_drew)); exact HO990.out) hb); have n2_ := Aside0.mk (below_step (by repeat (first | (with_reducible first | exact HB.out | apply below_alloc | apply pw_below_drewN | apply below_drew1) | exact HB.out)) hb); clear HO986; clear HO990; clear HB; have HO986 := n0_; have HO990 := n1_; have HB := n2_; clear n0_ n1_ n2_; (try clear hb); (try clear hb2); (try clear hk); (try clear hi)) | ((with_reducible refine gate_dst (N := 32) rfl ?_); (try (refine gate_guard (by rfl) ?_; dsimp only)); refine Kd.R_lit Kd.string _ 9 ?hg (N := 32) ?hd (xs := ([] : List ByteArray)) (inner := []) (ok := fun _ => True) (okp := fun _ => True) ?hr ?hp (fun _ hk => hk) trivial (Below.refl _ _) (Nat.le_refl _) (by simp) ?_; (case hd => rfl); (case hg => rfl); (case hr => first | (go_simp; done) | (go_simp; rfl)); (case hp => exact (Reps.none _ _)); intro v993 w17 ho18 hb hg_ hnew_; clear hg_ hnew_; (first | rw [← Ny992.out] at ho18 | (simp only [Int.reduceToNat] at ho18; rw [← Ny992.out] at ho18)); have n0_ := Aside0.mk (Kd.R_elder' (by (with_reducible repeat (first | apply Kd.R_alloc | apply Kd.R_drewN | apply Kd.R_drew)); exact HO986.out) (Kd.R_base ho18) hb); have n1_ := Aside0.mk (Kd.R_elder' (by (with_reducible repeat (first | apply Kd.R_alloc | apply Kd.R_drewN | apply Kd.R_drew)); exact HO990.out) (Kd.R_base ho18) hb); have n2_ := Aside0.mk (Kd.R_lower (Kd.R_new' (Kd.R_new' ho18 (Kd.R_lt (by (with_reducible repeat (first | apply Kd.R_alloc | apply Kd.R_drewN | apply Kd.R_drew)); exact HO986.out))) (Kd.R_lt (by (with_reducible repeat (first | apply Kd.R_alloc | apply Kd.R_drewN | apply Kd.R_drew)); exact HO990.out))) (below_size (by repeat (first | (with_reducible first | exact HB.out | apply below_alloc | apply pw_below_drewN | apply below_drew1) | exact HB.out)))); have n3_ := Aside0.mk (below_step (by repeat (first | (with_reducible first | exact HB.out | apply below_alloc | apply pw_below_drewN | apply below_drew1) | exact HB.out)) hb); clear HO986; clear HO990; clear HB; have HO986 := n0_; have HO990 := n1_; have HO994 := n2_; have HB := n3_; clear n0_ n1_ n2_ n3_; clear hb ho18; obtain ⟨Ao19, co19, eo19⟩ := Kd.R_slice HO994.out; subst eo19) | (go_at_call 75; (with_reducible refine (impl_CheckGrow.calls k 0 (t983.length : Int) t987 t987 _ _ y992 t995 _ ?side1 ?side2 A12.out).mono ?_); (case side1 => repeat (first | exact (Kd.R_reads' HO994.out).2.2 | (with_reducible refine Kd.C_alloc ?_ _) | (with_reducible refine Kd.C_drewN ?_ _) | (with_reducible refine Kd.C_drew ?_))); (case side2 => exact (Kd.R_reads' HO994.out).2.1); rintro e w20 ⟨rfl, hb⟩; have n0_ := Aside0.mk (Kd.R_below (by (with_reducible repeat (first | apply Kd.R_alloc | apply Kd.R_drewN | apply Kd.R_drew)); exact HO986.out) hb); have n1_ := Aside0.mk (Kd.R_below (by (with_reducible repeat (first | apply Kd.R_alloc | apply Kd.R_drewN | apply Kd.R_drew)); exact HO990.out) hb); have n2_ := Aside0.mk (Kd.R_below (by (with_reducible repeat (first | apply Kd.R_alloc | apply Kd.R_drewN | apply Kd.R_drew)); exact HO994.out) hb); have n3_ := Aside0.mk (below_step (by repeat (first | (with_reducible first | exact HB.out | apply below_alloc | apply pw_below_drewN | apply below_drew1) | exact HB.out)) hb); clear HO986; clear HO990; clear HO994; clear HB; have HO986 := n0_; have HO990 := n1_; have HO994 := n2_; have HB := n3_; clear n0_ n1_ n2_ n3_; (try clear hb); (try clear hb2); (try clear hk); (try clear hi)))
        go_meet
        case rel => exact ⟨_, (t995), (by first | rfl | (simp; done) | (simp [*]; done)), H', ⟨by first | omega | exact Nat.le_refl _⟩, ⟨by (with_reducible repeat (first | apply Kd.R_alloc | apply Kd.R_drewN | apply Kd.R_drew)); exact Kd.R_mono HO986.out (fun _ hk => trivial)⟩, ⟨by repeat (first | (with_reducible first | exact HB.out | apply below_alloc | apply pw_below_drewN | apply below_drew1) | exact HB.out)⟩⟩
      · replace c11 := Bool.eq_false_iff.mpr c11
        subst c11
        have H1 : (laws_FnGrown.j0 k t983 t984 (t983.length : Int) t987 true) = some r := by rw [if_neg (show ¬ (false = true) by decide)] at H; exact H
        clear H
        have H := H1
        clear H1
        have H' := Aside0.mk H
        clear H
        go_wp2_with (first | ((with_reducible refine gate_dst (N := 25) rfl ?_); (try (refine gate_guard (by rfl) ?_; dsimp only)); refine Kd.R_lit Kd.string _ 9 ?hg (N := 25) ?hd (xs := ([] : List ByteArray)) (inner := []) (ok := fun _ => True) (okp := fun _ => True) ?hr ?hp (fun _ hk => hk) trivial (Below.refl _ _) (Nat.le_refl _) (by simp) ?_; (case hd => rfl); (case hg => rfl); (case hr => first | (go_simp; done) | (go_simp; rfl)); (case hp => exact (Reps.none _ _)); intro v989 w21 ho22 hb hg_ hnew_; clear hg_ hnew_; (first | rw [← Ny988.out] at ho22 | (simp only [Int.reduceToNat] at ho22; rw [← Ny988.out] at ho22)); have n0_ := Aside0.mk (Kd.R_elder' (by (with_reducible repeat (first | apply Kd.R_alloc | apply Kd.R_drewN | apply Kd.R_drew)); exact HO986.out) (Kd.R_base ho22) hb); have n1_ := Aside0.mk (Kd.R_lower (Kd.R_new' ho22 (Kd.R_lt (by (with_reducible repeat (first | apply Kd.R_alloc | apply Kd.R_drewN | apply Kd.R_drew)); exact HO986.out))) (below_size (by repeat (first | (with_reducible first | exact HB.out | apply below_alloc | apply pw_below_drewN | apply below_drew1) | exact HB.out)))); have n2_ := Aside0.mk (below_step (by repeat (first | (with_reducible first | exact HB.out | apply below_alloc | apply pw_below_drewN | apply below_drew1) | exact HB.out)) hb); clear HO986; clear HB; have HO986 := n0_; have HO990 := n1_; have HB := n2_; clear n0_ n1_ n2_; clear hb ho22; obtain ⟨Ao23, co23, eo23⟩ := Kd.R_slice HO990.out; subst eo23) | ((with_reducible refine gate_callee (f := 75) rfl ?_); refine goesL_ (some 26) rfl rfl Try.func75 (by kernel_rfl) rfl #[.int .i64 (t983.length : Int), .int .i64 (t983.length : Int), .string t987, .string t987, .slice Ao23 y988.length co23] rfl (by (try simp only [List.map_toArray, List.map_cons, List.map_nil]); first | done | rfl | (simp only [List.length_drop, List.length_take]; rfl)) ?_; (with_reducible refine (impl_CheckGrow.calls k (t983.length : Int) (t983.length : Int) t987 t987 _ _ y988 false _ ?side1 ?side2 A10.out).mono ?_); (case side1 => repeat (first | exact (Kd.R_reads' HO990.out).2.2 | (with_reducible refine Kd.C_alloc ?_ _) | (with_reducible refine Kd.C_drewN ?_ _) | (with_reducible refine Kd.C_drew ?_))); (case side2 => exact (Kd.R_reads' HO990.out).2.1); rintro e w24 ⟨rfl, hb⟩; refine ⟨_, rfl, ?_⟩; have n0_ := Aside0.mk (Kd.R_below (by (with_reducible repeat (first | apply Kd.R_alloc | apply Kd.R_drewN | apply Kd.R_drew)); exact HO986.out) hb); have n1_ := Aside0.mk (Kd.R_below (by (with_reducible repeat (first | apply Kd.R_alloc | apply Kd.R_drewN | apply Kd.R_drew)); exact HO990.out) hb); have n2_ := Aside0.mk (below_step (by repeat (first | (with_reducible first | exact HB.out | apply below_alloc | apply pw_below_drewN | apply below_drew1) | exact HB.out)) hb); clear HO986; clear HO990; clear HB; have HO986 := n0_; have HO990 := n1_; have HB := n2_; clear n0_ n1_ n2_; (try clear hb); (try clear hb2); (try clear hk); (try clear hi)))
        go_meet
        case rel => exact ⟨_, (true), (by first | rfl | (simp; done) | (simp [*]; done)), H', ⟨by first | omega | exact Nat.le_refl _⟩, ⟨by (with_reducible repeat (first | apply Kd.R_alloc | apply Kd.R_drewN | apply Kd.R_drew)); exact Kd.R_mono HO986.out (fun _ hk => trivial)⟩, ⟨by repeat (first | (with_reducible first | exact HB.out | apply below_alloc | apply pw_below_drewN | apply below_drew1) | exact HB.out)⟩⟩
    case rest =>
      clear HC6
      try clear c1
      try clear c2
      try clear p2
      try clear c3
      try clear c4
      try clear c6
      try clear c7
      try clear c11
      try clear c21
      obtain ⟨kq, x34_5, rfl, HA, HJ5, HO_3, HB⟩ := hcut
      cases kq with
      | zero => exact absurd HA.out (by simp [laws_FnGrown.j0])
      | succ kj5 =>
        have H := HA.out
        clear HA
        simp only [laws_FnGrown.j0] at H
        by_cases c25 : x34_5 = true
        · subst c25
          have H1 : (some false) = some r := by rw [if_pos rfl] at H; exact H
          clear H
          have H := H1
          clear H1
          obtain rfl := Option.some.inj H
          go_wp2
          go_ret
          exact ⟨by first | rfl | (simp [errW_none, errW_some] <;> rfl) | (simp [*, errW_none, errW_some] <;> rfl), by repeat (first | (with_reducible first | exact HB.out | apply below_alloc | apply pw_below_drewN | apply below_drew1) | exact HB.out)⟩
        · replace c25 := Bool.eq_false_iff.mpr c25
          subst c25
          have H1 : (if t984 = 0 then ((impl_GrowPath.f kj5 t983 0).bind fun t996 => (some ((t996.length : Int) == 0))) else ((impl_GrowPath.f kj5 t983 t984).bind fun t999 => (if 0 ≤ t984 then (if t984 ≤ (t983.length : Int) then ((impl_RootOf.f kj5 (t983.take (t984 : Int).toNat)).bind fun t1006 => ((some (([] : List ByteArray) : List ByteArray)).bind fun y1007 => (if y1007.length + t999.length < 8796093022208 then ((some (y1007 ++ t999 : List ByteArray)).bind fun y1010 => (if y1010.length < 8796093022208 then ((impl_CheckGrow.f kj5 t984 (t983.length : Int) t1006 t987 t999).bind fun t1016 => (if t1016 = true then ((impl_CheckGrow.f kj5 t984 (t983.length : Int) t1006 t987 (y1010 ++ [t987])).bind fun t1017 => (if t1017 = true then (some false) else (some (decide ((t999.length : Int) > 0))))) else (some false))) else (none))) else (none)))) else (none)) else (none)))) = some r := by rw [if_neg (show ¬ (false = true) by decide)] at H; exact H
          clear H
          have H := H1
          clear H1
          by_cases c26 : t984 = 0
          · rw [if_pos c26] at H
            have c26b0 : (t984 == 0) = true := beq_iff_eq.mpr c26
            have c26b1 : (t984 != 0) = false := bne_eq_false_iff_eq.mpr c26
            clear c26
            replace H := Option.bind_eq_some_iff.mp H
            obtain ⟨t996, A270, H⟩ := H
            replace H : (some ((t996.length : Int) == 0)) = some r := H
            have A27 := Aside0.mk A270
            clear A270
            obtain rfl := Option.some.inj H
            go_wp2_with (first | ((with_reducible refine gate_callee (f := 76) rfl ?_); refine goesL_ (some 38) rfl rfl Try.func76 (by kernel_rfl) rfl #[.slice Ao8 t983.length co8, .int .i64 0] rfl (by (try simp only [List.map_toArray, List.map_cons, List.map_nil]); first | done | rfl | (simp only [List.length_drop, List.length_take]; rfl)) ?_; (with_reducible refine (impl_GrowPath.calls kj5 _ _ t983 0 t996 _ ?side1 ?side2 A27.out).mono ?_); (case side1 => repeat (first | exact (Kd.R_reads' HO_3.out).2.2 | (with_reducible refine Kd.C_alloc ?_ _) | (with_reducible refine Kd.C_drewN ?_ _) | (with_reducible refine Kd.C_drew ?_))); (case side2 => exact (Kd.R_reads' HO_3.out).2.1); rintro e w28 ⟨v997, rfl, ho0, hb⟩; refine ⟨_, rfl, ?_⟩; have n0_ := Aside0.mk (Kd.R_elder' (by (with_reducible repeat (first | apply Kd.R_alloc | apply Kd.R_drewN | apply Kd.R_drew)); exact HO_3.out) (Kd.R_base ho0) hb); have n1_ := Aside0.mk (Kd.R_lower (Kd.R_new' ho0 (Kd.R_lt (by (with_reducible repeat (first | apply Kd.R_alloc | apply Kd.R_drewN | apply Kd.R_drew)); exact HO_3.out))) (below_size (by repeat (first | (with_reducible first | exact HB.out | apply below_alloc | apply pw_below_drewN | apply below_drew1) | exact HB.out)))); have n2_ := Aside0.mk (below_step (by repeat (first | (with_reducible first | exact HB.out | apply below_alloc | apply pw_below_drewN | apply below_drew1) | exact HB.out)) hb); clear HO_3; clear HB; have HO_3 := n0_; have HO998 := n1_; have HB := n2_; clear n0_ n1_ n2_; (try clear hb); (try clear hb2); (try clear hk); (try clear hi); (try clear ho0); obtain ⟨Ao29, co29, eo29⟩ := Kd.R_slice HO998.out; subst eo29))
            go_ret
            exact ⟨by first | rfl | (simp [errW_none, errW_some] <;> rfl) | (simp [*, errW_none, errW_some] <;> rfl), by repeat (first | (with_reducible first | exact HB.out | apply below_alloc | apply pw_below_drewN | apply below_drew1) | exact HB.out)⟩
          · rw [if_neg c26] at H
            have c26b0 : (t984 == 0) = false := beq_eq_false_iff_ne.mpr c26
            have c26b1 : (t984 != 0) = true := bne_iff_ne.mpr c26
            replace H := Option.bind_eq_some_iff.mp H
            obtain ⟨t999, A300, H⟩ := H
            replace H : (if 0 ≤ t984 then (if t984 ≤ (t983.length : Int) then ((impl_RootOf.f kj5 (t983.take (t984 : Int).toNat)).bind fun t1006 => ((some (([] : List ByteArray) : List ByteArray)).bind fun y1007 => (if y1007.length + t999.length < 8796093022208 then ((some (y1007 ++ t999 : List ByteArray)).bind fun y1010 => (if y1010.length < 8796093022208 then ((impl_CheckGrow.f kj5 t984 (t983.length : Int) t1006 t987 t999).bind fun t1016 => (if t1016 = true then ((impl_CheckGrow.f kj5 t984 (t983.length : Int) t1006 t987 (y1010 ++ [t987])).bind fun t1017 => (if t1017 = true then (some false) else (some (decide ((t999.length : Int) > 0))))) else (some false))) else (none))) else (none)))) else (none)) else (none)) = some r := H
            have A30 := Aside0.mk A300
            clear A300
            by_cases c31 : 0 ≤ t984
            · rw [if_pos c31] at H
              have c31b0 := eq_true c31
              have c31b1 : decide (0 ≤ t984) = true := decide_eq_true c31
              clear c31
              by_cases c32 : t984 ≤ (t983.length : Int)
              · rw [if_pos c32] at H
                have c32b0 := eq_true c32
                have c32b1 : decide (t984 ≤ (t983.length : Int)) = true := decide_eq_true c32
                clear c32
                obtain ⟨y1002, hy1002⟩ : ∃ y_ : List ByteArray, y_ = (t983.take (t984 : Int).toNat) := ⟨_, rfl⟩
                replace H : ((impl_RootOf.f kj5 y1002).bind fun t1006 => ((some (([] : List ByteArray) : List ByteArray)).bind fun y1007 => (if y1007.length + t999.length < 8796093022208 then ((some (y1007 ++ t999 : List ByteArray)).bind fun y1010 => (if y1010.length < 8796093022208 then ((impl_CheckGrow.f kj5 t984 (t983.length : Int) t1006 t987 t999).bind fun t1016 => (if t1016 = true then ((impl_CheckGrow.f kj5 t984 (t983.length : Int) t1006 t987 (y1010 ++ [t987])).bind fun t1017 => (if t1017 = true then (some false) else (some (decide ((t999.length : Int) > 0))))) else (some false))) else (none))) else (none)))) = some r := by first | (rw [hy1002]; with_reducible exact H) | (have H2_ := (Option.bind_some _ _).symm.trans H; rw [hy1002]; with_reducible exact H2_) | (have H2_ := (Option.bind_some _ _).symm.trans H; with_reducible exact H2_) | with_reducible exact H | (rw [hy1002]; exact H) | exact H
                have Ny1002 := Aside0.mk hy1002
                clear hy1002
                replace H := Option.bind_eq_some_iff.mp H
                obtain ⟨t1006, A330, H⟩ := H
                replace H : ((some (([] : List ByteArray) : List ByteArray)).bind fun y1007 => (if y1007.length + t999.length < 8796093022208 then ((some (y1007 ++ t999 : List ByteArray)).bind fun y1010 => (if y1010.length < 8796093022208 then ((impl_CheckGrow.f kj5 t984 (t983.length : Int) t1006 t987 t999).bind fun t1016 => (if t1016 = true then ((impl_CheckGrow.f kj5 t984 (t983.length : Int) t1006 t987 (y1010 ++ [t987])).bind fun t1017 => (if t1017 = true then (some false) else (some (decide ((t999.length : Int) > 0))))) else (some false))) else (none))) else (none))) = some r := H
                have A33 := Aside0.mk A330
                clear A330
                obtain ⟨y1007, hy1007⟩ : ∃ y_ : List ByteArray, y_ = (([] : List ByteArray)) := ⟨_, rfl⟩
                replace H : (if y1007.length + t999.length < 8796093022208 then ((some (y1007 ++ t999 : List ByteArray)).bind fun y1010 => (if y1010.length < 8796093022208 then ((impl_CheckGrow.f kj5 t984 (t983.length : Int) t1006 t987 t999).bind fun t1016 => (if t1016 = true then ((impl_CheckGrow.f kj5 t984 (t983.length : Int) t1006 t987 (y1010 ++ [t987])).bind fun t1017 => (if t1017 = true then (some false) else (some (decide ((t999.length : Int) > 0))))) else (some false))) else (none))) else (none)) = some r := by first | (rw [hy1007]; with_reducible exact H) | (have H2_ := (Option.bind_some _ _).symm.trans H; rw [hy1007]; with_reducible exact H2_) | (have H2_ := (Option.bind_some _ _).symm.trans H; with_reducible exact H2_) | with_reducible exact H | (rw [hy1007]; exact H) | exact H
                have Ny1007 := Aside0.mk hy1007
                clear hy1007
                by_cases c34 : y1007.length + t999.length < 8796093022208
                · rw [if_pos c34] at H
                  have LMc34 := Aside0.mk c34
                  clear c34
                  obtain ⟨y1010, hy1010⟩ : ∃ y_ : List ByteArray, y_ = (y1007 ++ t999) := ⟨_, rfl⟩
                  replace H : (if y1010.length < 8796093022208 then ((impl_CheckGrow.f kj5 t984 (t983.length : Int) t1006 t987 t999).bind fun t1016 => (if t1016 = true then ((impl_CheckGrow.f kj5 t984 (t983.length : Int) t1006 t987 (y1010 ++ [t987])).bind fun t1017 => (if t1017 = true then (some false) else (some (decide ((t999.length : Int) > 0))))) else (some false))) else (none)) = some r := by first | (rw [hy1010]; with_reducible exact H) | (have H2_ := (Option.bind_some _ _).symm.trans H; rw [hy1010]; with_reducible exact H2_) | (have H2_ := (Option.bind_some _ _).symm.trans H; with_reducible exact H2_) | with_reducible exact H | (rw [hy1010]; exact H) | exact H
                  have Ny1010 := Aside0.mk hy1010
                  clear hy1010
                  by_cases c35 : y1010.length < 8796093022208
                  · rw [if_pos c35] at H
                    have LMc35 := Aside0.mk c35
                    clear c35
                    obtain ⟨y1013, hy1013⟩ : ∃ y_ : List ByteArray, y_ = (y1010 ++ [t987]) := ⟨_, rfl⟩
                    replace H : ((impl_CheckGrow.f kj5 t984 (t983.length : Int) t1006 t987 t999).bind fun t1016 => (if t1016 = true then ((impl_CheckGrow.f kj5 t984 (t983.length : Int) t1006 t987 y1013).bind fun t1017 => (if t1017 = true then (some false) else (some (decide ((t999.length : Int) > 0))))) else (some false))) = some r := by first | (rw [hy1013]; with_reducible exact H) | (have H2_ := (Option.bind_some _ _).symm.trans H; rw [hy1013]; with_reducible exact H2_) | (have H2_ := (Option.bind_some _ _).symm.trans H; with_reducible exact H2_) | with_reducible exact H | (rw [hy1013]; exact H) | exact H
                    have Ny1013 := Aside0.mk hy1013
                    clear hy1013
                    replace H := Option.bind_eq_some_iff.mp H
                    obtain ⟨t1016, A360, H⟩ := H
                    replace H : (if t1016 = true then ((impl_CheckGrow.f kj5 t984 (t983.length : Int) t1006 t987 y1013).bind fun t1017 => (if t1017 = true then (some false) else (some (decide ((t999.length : Int) > 0))))) else (some false)) = some r := H
                    have A36 := Aside0.mk A360
                    clear A360
                    by_cases c37 : t1016 = true
                    · subst c37
                      have H1 : ((impl_CheckGrow.f kj5 t984 (t983.length : Int) t1006 t987 y1013).bind fun t1017 => (if t1017 = true then (some false) else (some (decide ((t999.length : Int) > 0))))) = some r := by rw [if_pos rfl] at H; exact H
                      clear H
                      have H := H1
                      clear H1
                      replace H := Option.bind_eq_some_iff.mp H
                      obtain ⟨t1017, A380, H⟩ := H
                      replace H : (if t1017 = true then (some false) else (some (decide ((t999.length : Int) > 0)))) = some r := H
                      have A38 := Aside0.mk A380
                      clear A380
                      by_cases c39 : t1017 = true
                      · subst c39
                        have H1 : (some false) = some r := by rw [if_pos rfl] at H; exact H
                        clear H
                        have H := H1
                        clear H1
                        obtain rfl := Option.some.inj H
                        go_wp2_with (first | ((with_reducible refine gate_callee (f := 76) rfl ?_); refine goesL_ (some 43) rfl rfl Try.func76 (by kernel_rfl) rfl #[.slice Ao8 t983.length co8, .int .i64 t984] rfl (by (try simp only [List.map_toArray, List.map_cons, List.map_nil]); first | done | rfl | (simp only [List.length_drop, List.length_take]; rfl)) ?_; (with_reducible refine (impl_GrowPath.calls kj5 _ _ t983 t984 t999 _ ?side1 ?side2 A30.out).mono ?_); (case side1 => repeat (first | exact (Kd.R_reads' HO_3.out).2.2 | (with_reducible refine Kd.C_alloc ?_ _) | (with_reducible refine Kd.C_drewN ?_ _) | (with_reducible refine Kd.C_drew ?_))); (case side2 => exact (Kd.R_reads' HO_3.out).2.1); rintro e w40 ⟨v1000, rfl, ho0, hb⟩; refine ⟨_, rfl, ?_⟩; have n0_ := Aside0.mk (Kd.R_elder' (by (with_reducible repeat (first | apply Kd.R_alloc | apply Kd.R_drewN | apply Kd.R_drew)); exact HO_3.out) (Kd.R_base ho0) hb); have n1_ := Aside0.mk (Kd.R_lower (Kd.R_new' ho0 (Kd.R_lt (by (with_reducible repeat (first | apply Kd.R_alloc | apply Kd.R_drewN | apply Kd.R_drew)); exact HO_3.out))) (below_size (by repeat (first | (with_reducible first | exact HB.out | apply below_alloc | apply pw_below_drewN | apply below_drew1) | exact HB.out)))); have n2_ := Aside0.mk (below_step (by repeat (first | (with_reducible first | exact HB.out | apply below_alloc | apply pw_below_drewN | apply below_drew1) | exact HB.out)) hb); clear HO_3; clear HB; have HO_3 := n0_; have HO1001 := n1_; have HB := n2_; clear n0_ n1_ n2_; (try clear hb); (try clear hb2); (try clear hk); (try clear hi); (try clear ho0); have q41 : (t984 : Int) ≤ ((t983.length : Int) : Int) := of_decide_eq_true (by first | (with_reducible assumption) | assumption); obtain ⟨i041, hi041, _, hsz41, _⟩ := info_parts info9; have hroom41 : t983.length ≤ co8 := (Kd.R_reads' HO_3.out).2.1; have hC41 : Kd.C Kd.string _ Ao8 t983.length t983 := (Kd.R_reads' HO_3.out).2.2; have hcut41 := cut_to (P := Try.prog) 44 9 .i64 Try.underlying44 hi041 Ao8 t983.length co8 t984 (of_decide_eq_true (by first | (with_reducible assumption) | assumption)) q41 hroom41; have hr41 := Kd.C_take (m := (t984 : Int).toNat) hC41 (by omega); have hy41 : y1002.length = (t984 : Int).toNat := (by rw [Ny1002.out, List.length_take]; omega); rw [← Ny1002.out] at hr41; rw [← hy41] at hcut41; have HR1005 := Aside0.mk hr41; have HC1005 := Aside0.mk (show y1002.length ≤ co8 from by omega); clear hr41 hC41 hroom41 hi041 hsz41; have KY41 := Aside0.mk hy41; clear hy41; have KL41 := Aside0.mk (show (t984 : Int).toNat ≤ t983.length from by omega); replace q41 := eq_true q41) | ((with_reducible refine gate_callee (f := 66) rfl ?_); refine goesL_ (some 47) rfl rfl Try.func66 (by kernel_rfl) rfl #[.slice Ao8 y1002.length co8] rfl (by (try simp only [List.map_toArray, List.map_cons, List.map_nil]); first | done | rfl | (simp only [List.length_drop, List.length_take]; rfl)) ?_; (with_reducible refine (impl_RootOf.calls kj5 _ _ y1002 t1006 _ ?side1 ?side2 A33.out).mono ?_); (case side1 => repeat (first | exact (by repeat (first | (with_reducible exact HR1005.out) | (with_reducible refine Kd.C_alloc ?_ _) | (with_reducible refine Kd.C_drewN ?_ _) | (with_reducible refine Kd.C_drew ?_) | exact HR1005.out)) | (with_reducible refine Kd.C_alloc ?_ _) | (with_reducible refine Kd.C_drewN ?_ _) | (with_reducible refine Kd.C_drew ?_))); (case side2 => exact HC1005.out); rintro e w42 ⟨rfl, hb⟩; refine ⟨_, rfl, ?_⟩; have n0_ := Aside0.mk (Kd.R_below (by (with_reducible repeat (first | apply Kd.R_alloc | apply Kd.R_drewN | apply Kd.R_drew)); exact HO_3.out) hb); have n1_ := Aside0.mk (Kd.R_below (by (with_reducible repeat (first | apply Kd.R_alloc | apply Kd.R_drewN | apply Kd.R_drew)); exact HO1001.out) hb); have n2_ := Aside0.mk (Kd.C_below (by repeat (first | (with_reducible exact HR1005.out) | (with_reducible refine Kd.C_alloc ?_ _) | (with_reducible refine Kd.C_drewN ?_ _) | (with_reducible refine Kd.C_drew ?_) | exact HR1005.out)) hb); have n3_ := Aside0.mk (below_step (by repeat (first | (with_reducible first | exact HB.out | apply below_alloc | apply pw_below_drewN | apply below_drew1) | exact HB.out)) hb); clear HO_3; clear HO1001; clear HR1005; clear HB; have HO_3 := n0_; have HO1001 := n1_; have HR1005 := n2_; have HB := n3_; clear n0_ n1_ n2_ n3_; (try clear hb); (try clear hb2); (try clear hk); (try clear hi)) | ((with_reducible refine gate_dst (N := 48) rfl ?_); (try (refine gate_guard (by rfl) ?_; dsimp only)); refine Kd.R_lit Kd.string _ 9 ?hg (N := 48) ?hd (xs := ([] : List ByteArray)) (inner := []) (ok := fun _ => True) (okp := fun _ => True) ?hr ?hp (fun _ hk => hk) trivial (Below.refl _ _) (Nat.le_refl _) (by simp) ?_; (case hd => rfl); (case hg => rfl); (case hr => first | (go_simp; done) | (go_simp; rfl)); (case hp => exact (Reps.none _ _)); intro v1008 w43 ho44 hb hg_ hnew_; clear hg_ hnew_; (first | rw [← Ny1007.out] at ho44 | (simp only [Int.reduceToNat] at ho44; rw [← Ny1007.out] at ho44)); have n0_ := Aside0.mk (Kd.R_elder' (by (with_reducible repeat (first | apply Kd.R_alloc | apply Kd.R_drewN | apply Kd.R_drew)); exact HO_3.out) (Kd.R_base ho44) hb); have n1_ := Aside0.mk (Kd.R_elder' (by (with_reducible repeat (first | apply Kd.R_alloc | apply Kd.R_drewN | apply Kd.R_drew)); exact HO1001.out) (Kd.R_base ho44) hb); have n2_ := Aside0.mk (Kd.R_lower (Kd.R_new' (Kd.R_new' ho44 (Kd.R_lt (by (with_reducible repeat (first | apply Kd.R_alloc | apply Kd.R_drewN | apply Kd.R_drew)); exact HO_3.out))) (Kd.R_lt (by (with_reducible repeat (first | apply Kd.R_alloc | apply Kd.R_drewN | apply Kd.R_drew)); exact HO1001.out))) (below_size (by repeat (first | (with_reducible first | exact HB.out | apply below_alloc | apply pw_below_drewN | apply below_drew1) | exact HB.out)))); have n3_ := Aside0.mk (Kd.C_below (by repeat (first | (with_reducible exact HR1005.out) | (with_reducible refine Kd.C_alloc ?_ _) | (with_reducible refine Kd.C_drewN ?_ _) | (with_reducible refine Kd.C_drew ?_) | exact HR1005.out)) hb); have n4_ := Aside0.mk (below_step (by repeat (first | (with_reducible first | exact HB.out | apply below_alloc | apply pw_below_drewN | apply below_drew1) | exact HB.out)) hb); clear HO_3; clear HO1001; clear HR1005; clear HB; have HO_3 := n0_; have HO1001 := n1_; have HO1009 := n2_; have HR1005 := n3_; have HB := n4_; clear n0_ n1_ n2_ n3_ n4_; clear hb ho44; obtain ⟨Ao46, co46, eo46⟩ := Kd.R_slice HO1001.out; subst eo46) | ((with_reducible refine gate_builtin (b := .append) (xs := #[.tmp 48, .tmp 49]) rfl ?_); (try (refine gate_guard (by rfl) ?_; dsimp only)); at_builtin; refine Kd.R_append_rows Kd.string (w0 := w) w.heap.size rfl (.tmp 48) (.tmp 49) 44 9 (.string ⟨#[]⟩) 16 rfl Try.underlying44 info9 rfl (by decide) (by omega) v1008 y1007 t999 _ _ _ (fun k_ => some k_ ≠ (.slice Ao8 t983.length co8 : Value).ownBlock ∧ some k_ ≠ (.slice Ao46 t999.length co46 : Value).ownBlock) (fun _ => False) rfl rfl ?aO ?aR (fun _ _ h => h) (fun _ h => h.elim) ?aF ?aB ?aS ?aL ?_; (case aR => repeat (first | exact (Kd.R_reads' HO1001.out).2.2 | (with_reducible refine Kd.C_alloc ?_ _) | (with_reducible refine Kd.C_drewN ?_ _) | (with_reducible refine Kd.C_drew ?_))); (case aB => exact (by repeat (first | (with_reducible first | exact HB.out | apply below_alloc | apply pw_below_drewN | apply below_drew1) | exact HB.out))); (case aF => exact (fun k_ hk => ⟨Kd.fresh' (Kd.R_lt (by (with_reducible repeat (first | apply Kd.R_alloc | apply Kd.R_drewN | apply Kd.R_drew)); exact HO_3.out)) k_ hk, Kd.fresh' (Kd.R_lt (by (with_reducible repeat (first | apply Kd.R_alloc | apply Kd.R_drewN | apply Kd.R_drew)); exact HO1001.out)) k_ hk⟩)); (case aO => exact (by (with_reducible repeat (first | apply Kd.R_alloc | apply Kd.R_drewN | apply Kd.R_drew)); exact Kd.R_mono HO1009.out (fun _ hk => ⟨hk.1.2, hk.2⟩))); (case aS => exact (below_size (by repeat (first | (with_reducible first | exact HB.out | apply below_alloc | apply pw_below_drewN | apply below_drew1) | exact HB.out)))); (case aL => have := LMc34.out; omega); intro v1011 w45 ho hb hg hat; rw [← Ny1010.out] at ho; have n0_ := Aside0.mk (Kd.R_after (ok := (fun k_ => some k_ ≠ (.slice Ao46 t999.length co46 : Value).ownBlock)) (by (with_reducible repeat (first | apply Kd.R_alloc | apply Kd.R_drewN | apply Kd.R_drew)); exact Kd.R_mono HO_3.out (fun _ hk => ⟨hk.1.2, hk.2⟩)) hg hat); have n1_ := Aside0.mk (Kd.R_after (ok := (fun k_ => some k_ ≠ (.slice Ao8 t983.length co8 : Value).ownBlock)) (by (with_reducible repeat (first | apply Kd.R_alloc | apply Kd.R_drewN | apply Kd.R_drew)); exact Kd.R_mono HO1001.out (fun _ hk => ⟨hk.1.2, hk.2⟩)) hg hat); have n2_ := Aside0.mk (hb); have n3_ := Aside0.mk ((show Kd.C Kd.string w45 Ao8 y1002.length y1002 from by rw [Ny1002.out]; exact Kd.C_take (m := (t984 : Int).toNat) ((Kd.R_reads' (Kd.R_after (ok := (fun k_ => some k_ ≠ (.slice Ao46 t999.length co46 : Value).ownBlock)) (by (with_reducible repeat (first | apply Kd.R_alloc | apply Kd.R_drewN | apply Kd.R_drew)); exact Kd.R_mono HO_3.out (fun _ hk => ⟨hk.1.2, hk.2⟩)) hg hat)).2.2) KL41.out)); have n4_ := Aside0.mk (ho); clear HO_3; clear HO1001; clear HB; clear HR1005; clear HO1009; have HO_3 := n0_; have HO1001 := n1_; have HB := n2_; have HR1005 := n3_; have HO1012 := n4_; clear n0_ n1_ n2_ n3_ n4_; clear ho hb hg hat) | ((with_reducible refine gate_builtin (b := .append) (xs := #[.tmp 50, .tmp 52]) rfl ?_); (try (refine gate_guard (by rfl) ?_; dsimp only)); at_builtin; refine Kd.R_append Kd.string (w0 := w) w.heap.size rfl (.tmp 50) (.tmp 52) 44 9 (.string ⟨#[]⟩) 16 rfl Try.underlying44 info9 rfl (by decide) (by omega) v1011 y1010 t987 [.string t987] (fun k_ => some k_ ≠ (.slice Ao8 t983.length co8 : Value).ownBlock ∧ some k_ ≠ (.slice Ao46 t999.length co46 : Value).ownBlock) (fun _ => False) rfl rfl ?aP (fun _ hk => hk.elim) ?aF ?aO ?aB ?aS ?aL ?_; (case aP => exact rfl); (case aB => exact (by repeat (first | (with_reducible first | exact HB.out | apply below_alloc | apply pw_below_drewN | apply below_drew1) | exact HB.out))); (case aF => exact (fun k_ hk => ⟨Kd.fresh' (Kd.R_lt (by (with_reducible repeat (first | apply Kd.R_alloc | apply Kd.R_drewN | apply Kd.R_drew)); exact HO_3.out)) k_ hk, Kd.fresh' (Kd.R_lt (by (with_reducible repeat (first | apply Kd.R_alloc | apply Kd.R_drewN | apply Kd.R_drew)); exact HO1001.out)) k_ hk⟩)); (case aO => exact (by (with_reducible repeat (first | apply Kd.R_alloc | apply Kd.R_drewN | apply Kd.R_drew)); exact HO1012.out)); (case aS => exact (below_size (by repeat (first | (with_reducible first | exact HB.out | apply below_alloc | apply pw_below_drewN | apply below_drew1) | exact HB.out)))); (case aL => have := LMc35.out; omega); intro v1014 w47 ho hb hg hat; rw [← Ny1013.out] at ho; have n0_ := Aside0.mk (Kd.R_after (ok := (fun k_ => some k_ ≠ (.slice Ao46 t999.length co46 : Value).ownBlock)) (by (with_reducible repeat (first | apply Kd.R_alloc | apply Kd.R_drewN | apply Kd.R_drew)); exact HO_3.out) hg hat); have n1_ := Aside0.mk (Kd.R_after (ok := (fun k_ => some k_ ≠ (.slice Ao8 t983.length co8 : Value).ownBlock)) (by (with_reducible repeat (first | apply Kd.R_alloc | apply Kd.R_drewN | apply Kd.R_drew)); exact HO1001.out) hg hat); have n2_ := Aside0.mk (hb); have n3_ := Aside0.mk ((show Kd.C Kd.string w47 Ao8 y1002.length y1002 from by rw [Ny1002.out]; exact Kd.C_take (m := (t984 : Int).toNat) ((Kd.R_reads' (Kd.R_after (ok := (fun k_ => some k_ ≠ (.slice Ao46 t999.length co46 : Value).ownBlock)) (by (with_reducible repeat (first | apply Kd.R_alloc | apply Kd.R_drewN | apply Kd.R_drew)); exact HO_3.out) hg hat)).2.2) KL41.out)); have n4_ := Aside0.mk (ho); clear HO_3; clear HO1001; clear HB; clear HR1005; clear HO1012; have HO_3 := n0_; have HO1001 := n1_; have HB := n2_; have HR1005 := n3_; have HO1015 := n4_; clear n0_ n1_ n2_ n3_ n4_; clear ho hb hg hat) | ((with_reducible refine gate_callee (f := 75) rfl ?_); refine goesL_ (some 59) rfl rfl Try.func75 (by kernel_rfl) rfl #[.int .i64 t984, .int .i64 (t983.length : Int), .string t1006, .string t987, .slice Ao46 t999.length co46] rfl (by (try simp only [List.map_toArray, List.map_cons, List.map_nil]); first | done | rfl | (simp only [List.length_drop, List.length_take]; rfl)) ?_; (with_reducible refine (impl_CheckGrow.calls kj5 t984 (t983.length : Int) t1006 t987 _ _ t999 true _ ?side1 ?side2 A36.out).mono ?_); (case side1 => repeat (first | exact (Kd.R_reads' HO1001.out).2.2 | (with_reducible refine Kd.C_alloc ?_ _) | (with_reducible refine Kd.C_drewN ?_ _) | (with_reducible refine Kd.C_drew ?_))); (case side2 => exact (Kd.R_reads' HO1001.out).2.1); rintro e w48 ⟨rfl, hb⟩; refine ⟨_, rfl, ?_⟩; have n0_ := Aside0.mk (Kd.R_below (by (with_reducible repeat (first | apply Kd.R_alloc | apply Kd.R_drewN | apply Kd.R_drew)); exact HO_3.out) hb); have n1_ := Aside0.mk (Kd.R_below (by (with_reducible repeat (first | apply Kd.R_alloc | apply Kd.R_drewN | apply Kd.R_drew)); exact HO1001.out) hb); have n2_ := Aside0.mk (Kd.R_below (by (with_reducible repeat (first | apply Kd.R_alloc | apply Kd.R_drewN | apply Kd.R_drew)); exact HO1015.out) hb); have n3_ := Aside0.mk (Kd.C_below (by repeat (first | (with_reducible exact HR1005.out) | (with_reducible refine Kd.C_alloc ?_ _) | (with_reducible refine Kd.C_drewN ?_ _) | (with_reducible refine Kd.C_drew ?_) | exact HR1005.out)) hb); have n4_ := Aside0.mk (below_step (by repeat (first | (with_reducible first | exact HB.out | apply below_alloc | apply pw_below_drewN | apply below_drew1) | exact HB.out)) hb); clear HO_3; clear HO1001; clear HO1015; clear HR1005; clear HB; have HO_3 := n0_; have HO1001 := n1_; have HO1015 := n2_; have HR1005 := n3_; have HB := n4_; clear n0_ n1_ n2_ n3_ n4_; (try clear hb); (try clear hb2); (try clear hk); (try clear hi); obtain ⟨Ao49, co49, eo49⟩ := Kd.R_slice HO1015.out; subst eo49) | (go_at_call 75; (with_reducible refine (impl_CheckGrow.calls kj5 t984 (t983.length : Int) t1006 t987 _ _ y1013 true _ ?side1 ?side2 A38.out).mono ?_); (case side1 => repeat (first | exact (Kd.R_reads' HO1015.out).2.2 | (with_reducible refine Kd.C_alloc ?_ _) | (with_reducible refine Kd.C_drewN ?_ _) | (with_reducible refine Kd.C_drew ?_))); (case side2 => exact (Kd.R_reads' HO1015.out).2.1); rintro e w50 ⟨rfl, hb⟩; have n0_ := Aside0.mk (Kd.R_below (by (with_reducible repeat (first | apply Kd.R_alloc | apply Kd.R_drewN | apply Kd.R_drew)); exact HO_3.out) hb); have n1_ := Aside0.mk (Kd.R_below (by (with_reducible repeat (first | apply Kd.R_alloc | apply Kd.R_drewN | apply Kd.R_drew)); exact HO1001.out) hb); have n2_ := Aside0.mk (Kd.R_below (by (with_reducible repeat (first | apply Kd.R_alloc | apply Kd.R_drewN | apply Kd.R_drew)); exact HO1015.out) hb); have n3_ := Aside0.mk (Kd.C_below (by repeat (first | (with_reducible exact HR1005.out) | (with_reducible refine Kd.C_alloc ?_ _) | (with_reducible refine Kd.C_drewN ?_ _) | (with_reducible refine Kd.C_drew ?_) | exact HR1005.out)) hb); have n4_ := Aside0.mk (below_step (by repeat (first | (with_reducible first | exact HB.out | apply below_alloc | apply pw_below_drewN | apply below_drew1) | exact HB.out)) hb); clear HO_3; clear HO1001; clear HO1015; clear HR1005; clear HB; have HO_3 := n0_; have HO1001 := n1_; have HO1015 := n2_; have HR1005 := n3_; have HB := n4_; clear n0_ n1_ n2_ n3_ n4_; (try clear hb); (try clear hb2); (try clear hk); (try clear hi)))
                        go_ret
                        exact ⟨by first | rfl | (simp [errW_none, errW_some] <;> rfl) | (simp [*, errW_none, errW_some] <;> rfl), by repeat (first | (with_reducible first | exact HB.out | apply below_alloc | apply pw_below_drewN | apply below_drew1) | exact HB.out)⟩
                      · replace c39 := Bool.eq_false_iff.mpr c39
                        subst c39
                        have H1 : (some (decide ((t999.length : Int) > 0))) = some r := by rw [if_neg (show ¬ (false = true) by decide)] at H; exact H
                        clear H
                        have H := H1
                        clear H1
                        obtain rfl := Option.some.inj H
                        go_wp2_with (first | ((with_reducible refine gate_callee (f := 76) rfl ?_); refine goesL_ (some 43) rfl rfl Try.func76 (by kernel_rfl) rfl #[.slice Ao8 t983.length co8, .int .i64 t984] rfl (by (try simp only [List.map_toArray, List.map_cons, List.map_nil]); first | done | rfl | (simp only [List.length_drop, List.length_take]; rfl)) ?_; (with_reducible refine (impl_GrowPath.calls kj5 _ _ t983 t984 t999 _ ?side1 ?side2 A30.out).mono ?_); (case side1 => repeat (first | exact (Kd.R_reads' HO_3.out).2.2 | (with_reducible refine Kd.C_alloc ?_ _) | (with_reducible refine Kd.C_drewN ?_ _) | (with_reducible refine Kd.C_drew ?_))); (case side2 => exact (Kd.R_reads' HO_3.out).2.1); rintro e w51 ⟨v1000, rfl, ho0, hb⟩; refine ⟨_, rfl, ?_⟩; have n0_ := Aside0.mk (Kd.R_elder' (by (with_reducible repeat (first | apply Kd.R_alloc | apply Kd.R_drewN | apply Kd.R_drew)); exact HO_3.out) (Kd.R_base ho0) hb); have n1_ := Aside0.mk (Kd.R_lower (Kd.R_new' ho0 (Kd.R_lt (by (with_reducible repeat (first | apply Kd.R_alloc | apply Kd.R_drewN | apply Kd.R_drew)); exact HO_3.out))) (below_size (by repeat (first | (with_reducible first | exact HB.out | apply below_alloc | apply pw_below_drewN | apply below_drew1) | exact HB.out)))); have n2_ := Aside0.mk (below_step (by repeat (first | (with_reducible first | exact HB.out | apply below_alloc | apply pw_below_drewN | apply below_drew1) | exact HB.out)) hb); clear HO_3; clear HB; have HO_3 := n0_; have HO1001 := n1_; have HB := n2_; clear n0_ n1_ n2_; (try clear hb); (try clear hb2); (try clear hk); (try clear hi); (try clear ho0); have q52 : (t984 : Int) ≤ ((t983.length : Int) : Int) := of_decide_eq_true (by first | (with_reducible assumption) | assumption); obtain ⟨i052, hi052, _, hsz52, _⟩ := info_parts info9; have hroom52 : t983.length ≤ co8 := (Kd.R_reads' HO_3.out).2.1; have hC52 : Kd.C Kd.string _ Ao8 t983.length t983 := (Kd.R_reads' HO_3.out).2.2; have hcut52 := cut_to (P := Try.prog) 44 9 .i64 Try.underlying44 hi052 Ao8 t983.length co8 t984 (of_decide_eq_true (by first | (with_reducible assumption) | assumption)) q52 hroom52; have hr52 := Kd.C_take (m := (t984 : Int).toNat) hC52 (by omega); have hy52 : y1002.length = (t984 : Int).toNat := (by rw [Ny1002.out, List.length_take]; omega); rw [← Ny1002.out] at hr52; rw [← hy52] at hcut52; have HR1005 := Aside0.mk hr52; have HC1005 := Aside0.mk (show y1002.length ≤ co8 from by omega); clear hr52 hC52 hroom52 hi052 hsz52; have KY52 := Aside0.mk hy52; clear hy52; have KL52 := Aside0.mk (show (t984 : Int).toNat ≤ t983.length from by omega); replace q52 := eq_true q52) | ((with_reducible refine gate_callee (f := 66) rfl ?_); refine goesL_ (some 47) rfl rfl Try.func66 (by kernel_rfl) rfl #[.slice Ao8 y1002.length co8] rfl (by (try simp only [List.map_toArray, List.map_cons, List.map_nil]); first | done | rfl | (simp only [List.length_drop, List.length_take]; rfl)) ?_; (with_reducible refine (impl_RootOf.calls kj5 _ _ y1002 t1006 _ ?side1 ?side2 A33.out).mono ?_); (case side1 => repeat (first | exact (by repeat (first | (with_reducible exact HR1005.out) | (with_reducible refine Kd.C_alloc ?_ _) | (with_reducible refine Kd.C_drewN ?_ _) | (with_reducible refine Kd.C_drew ?_) | exact HR1005.out)) | (with_reducible refine Kd.C_alloc ?_ _) | (with_reducible refine Kd.C_drewN ?_ _) | (with_reducible refine Kd.C_drew ?_))); (case side2 => exact HC1005.out); rintro e w53 ⟨rfl, hb⟩; refine ⟨_, rfl, ?_⟩; have n0_ := Aside0.mk (Kd.R_below (by (with_reducible repeat (first | apply Kd.R_alloc | apply Kd.R_drewN | apply Kd.R_drew)); exact HO_3.out) hb); have n1_ := Aside0.mk (Kd.R_below (by (with_reducible repeat (first | apply Kd.R_alloc | apply Kd.R_drewN | apply Kd.R_drew)); exact HO1001.out) hb); have n2_ := Aside0.mk (Kd.C_below (by repeat (first | (with_reducible exact HR1005.out) | (with_reducible refine Kd.C_alloc ?_ _) | (with_reducible refine Kd.C_drewN ?_ _) | (with_reducible refine Kd.C_drew ?_) | exact HR1005.out)) hb); have n3_ := Aside0.mk (below_step (by repeat (first | (with_reducible first | exact HB.out | apply below_alloc | apply pw_below_drewN | apply below_drew1) | exact HB.out)) hb); clear HO_3; clear HO1001; clear HR1005; clear HB; have HO_3 := n0_; have HO1001 := n1_; have HR1005 := n2_; have HB := n3_; clear n0_ n1_ n2_ n3_; (try clear hb); (try clear hb2); (try clear hk); (try clear hi)) | ((with_reducible refine gate_dst (N := 48) rfl ?_); (try (refine gate_guard (by rfl) ?_; dsimp only)); refine Kd.R_lit Kd.string _ 9 ?hg (N := 48) ?hd (xs := ([] : List ByteArray)) (inner := []) (ok := fun _ => True) (okp := fun _ => True) ?hr ?hp (fun _ hk => hk) trivial (Below.refl _ _) (Nat.le_refl _) (by simp) ?_; (case hd => rfl); (case hg => rfl); (case hr => first | (go_simp; done) | (go_simp; rfl)); (case hp => exact (Reps.none _ _)); intro v1008 w54 ho55 hb hg_ hnew_; clear hg_ hnew_; (first | rw [← Ny1007.out] at ho55 | (simp only [Int.reduceToNat] at ho55; rw [← Ny1007.out] at ho55)); have n0_ := Aside0.mk (Kd.R_elder' (by (with_reducible repeat (first | apply Kd.R_alloc | apply Kd.R_drewN | apply Kd.R_drew)); exact HO_3.out) (Kd.R_base ho55) hb); have n1_ := Aside0.mk (Kd.R_elder' (by (with_reducible repeat (first | apply Kd.R_alloc | apply Kd.R_drewN | apply Kd.R_drew)); exact HO1001.out) (Kd.R_base ho55) hb); have n2_ := Aside0.mk (Kd.R_lower (Kd.R_new' (Kd.R_new' ho55 (Kd.R_lt (by (with_reducible repeat (first | apply Kd.R_alloc | apply Kd.R_drewN | apply Kd.R_drew)); exact HO_3.out))) (Kd.R_lt (by (with_reducible repeat (first | apply Kd.R_alloc | apply Kd.R_drewN | apply Kd.R_drew)); exact HO1001.out))) (below_size (by repeat (first | (with_reducible first | exact HB.out | apply below_alloc | apply pw_below_drewN | apply below_drew1) | exact HB.out)))); have n3_ := Aside0.mk (Kd.C_below (by repeat (first | (with_reducible exact HR1005.out) | (with_reducible refine Kd.C_alloc ?_ _) | (with_reducible refine Kd.C_drewN ?_ _) | (with_reducible refine Kd.C_drew ?_) | exact HR1005.out)) hb); have n4_ := Aside0.mk (below_step (by repeat (first | (with_reducible first | exact HB.out | apply below_alloc | apply pw_below_drewN | apply below_drew1) | exact HB.out)) hb); clear HO_3; clear HO1001; clear HR1005; clear HB; have HO_3 := n0_; have HO1001 := n1_; have HO1009 := n2_; have HR1005 := n3_; have HB := n4_; clear n0_ n1_ n2_ n3_ n4_; clear hb ho55; obtain ⟨Ao57, co57, eo57⟩ := Kd.R_slice HO1001.out; subst eo57) | ((with_reducible refine gate_builtin (b := .append) (xs := #[.tmp 48, .tmp 49]) rfl ?_); (try (refine gate_guard (by rfl) ?_; dsimp only)); at_builtin; refine Kd.R_append_rows Kd.string (w0 := w) w.heap.size rfl (.tmp 48) (.tmp 49) 44 9 (.string ⟨#[]⟩) 16 rfl Try.underlying44 info9 rfl (by decide) (by omega) v1008 y1007 t999 _ _ _ (fun k_ => some k_ ≠ (.slice Ao8 t983.length co8 : Value).ownBlock ∧ some k_ ≠ (.slice Ao57 t999.length co57 : Value).ownBlock) (fun _ => False) rfl rfl ?aO ?aR (fun _ _ h => h) (fun _ h => h.elim) ?aF ?aB ?aS ?aL ?_; (case aR => repeat (first | exact (Kd.R_reads' HO1001.out).2.2 | (with_reducible refine Kd.C_alloc ?_ _) | (with_reducible refine Kd.C_drewN ?_ _) | (with_reducible refine Kd.C_drew ?_))); (case aB => exact (by repeat (first | (with_reducible first | exact HB.out | apply below_alloc | apply pw_below_drewN | apply below_drew1) | exact HB.out))); (case aF => exact (fun k_ hk => ⟨Kd.fresh' (Kd.R_lt (by (with_reducible repeat (first | apply Kd.R_alloc | apply Kd.R_drewN | apply Kd.R_drew)); exact HO_3.out)) k_ hk, Kd.fresh' (Kd.R_lt (by (with_reducible repeat (first | apply Kd.R_alloc | apply Kd.R_drewN | apply Kd.R_drew)); exact HO1001.out)) k_ hk⟩)); (case aO => exact (by (with_reducible repeat (first | apply Kd.R_alloc | apply Kd.R_drewN | apply Kd.R_drew)); exact Kd.R_mono HO1009.out (fun _ hk => ⟨hk.1.2, hk.2⟩))); (case aS => exact (below_size (by repeat (first | (with_reducible first | exact HB.out | apply below_alloc | apply pw_below_drewN | apply below_drew1) | exact HB.out)))); (case aL => have := LMc34.out; omega); intro v1011 w56 ho hb hg hat; rw [← Ny1010.out] at ho; have n0_ := Aside0.mk (Kd.R_after (ok := (fun k_ => some k_ ≠ (.slice Ao57 t999.length co57 : Value).ownBlock)) (by (with_reducible repeat (first | apply Kd.R_alloc | apply Kd.R_drewN | apply Kd.R_drew)); exact Kd.R_mono HO_3.out (fun _ hk => ⟨hk.1.2, hk.2⟩)) hg hat); have n1_ := Aside0.mk (Kd.R_after (ok := (fun k_ => some k_ ≠ (.slice Ao8 t983.length co8 : Value).ownBlock)) (by (with_reducible repeat (first | apply Kd.R_alloc | apply Kd.R_drewN | apply Kd.R_drew)); exact Kd.R_mono HO1001.out (fun _ hk => ⟨hk.1.2, hk.2⟩)) hg hat); have n2_ := Aside0.mk (hb); have n3_ := Aside0.mk ((show Kd.C Kd.string w56 Ao8 y1002.length y1002 from by rw [Ny1002.out]; exact Kd.C_take (m := (t984 : Int).toNat) ((Kd.R_reads' (Kd.R_after (ok := (fun k_ => some k_ ≠ (.slice Ao57 t999.length co57 : Value).ownBlock)) (by (with_reducible repeat (first | apply Kd.R_alloc | apply Kd.R_drewN | apply Kd.R_drew)); exact Kd.R_mono HO_3.out (fun _ hk => ⟨hk.1.2, hk.2⟩)) hg hat)).2.2) KL52.out)); have n4_ := Aside0.mk (ho); clear HO_3; clear HO1001; clear HB; clear HR1005; clear HO1009; have HO_3 := n0_; have HO1001 := n1_; have HB := n2_; have HR1005 := n3_; have HO1012 := n4_; clear n0_ n1_ n2_ n3_ n4_; clear ho hb hg hat) | ((with_reducible refine gate_builtin (b := .append) (xs := #[.tmp 50, .tmp 52]) rfl ?_); (try (refine gate_guard (by rfl) ?_; dsimp only)); at_builtin; refine Kd.R_append Kd.string (w0 := w) w.heap.size rfl (.tmp 50) (.tmp 52) 44 9 (.string ⟨#[]⟩) 16 rfl Try.underlying44 info9 rfl (by decide) (by omega) v1011 y1010 t987 [.string t987] (fun k_ => some k_ ≠ (.slice Ao8 t983.length co8 : Value).ownBlock ∧ some k_ ≠ (.slice Ao57 t999.length co57 : Value).ownBlock) (fun _ => False) rfl rfl ?aP (fun _ hk => hk.elim) ?aF ?aO ?aB ?aS ?aL ?_; (case aP => exact rfl); (case aB => exact (by repeat (first | (with_reducible first | exact HB.out | apply below_alloc | apply pw_below_drewN | apply below_drew1) | exact HB.out))); (case aF => exact (fun k_ hk => ⟨Kd.fresh' (Kd.R_lt (by (with_reducible repeat (first | apply Kd.R_alloc | apply Kd.R_drewN | apply Kd.R_drew)); exact HO_3.out)) k_ hk, Kd.fresh' (Kd.R_lt (by (with_reducible repeat (first | apply Kd.R_alloc | apply Kd.R_drewN | apply Kd.R_drew)); exact HO1001.out)) k_ hk⟩)); (case aO => exact (by (with_reducible repeat (first | apply Kd.R_alloc | apply Kd.R_drewN | apply Kd.R_drew)); exact HO1012.out)); (case aS => exact (below_size (by repeat (first | (with_reducible first | exact HB.out | apply below_alloc | apply pw_below_drewN | apply below_drew1) | exact HB.out)))); (case aL => have := LMc35.out; omega); intro v1014 w58 ho hb hg hat; rw [← Ny1013.out] at ho; have n0_ := Aside0.mk (Kd.R_after (ok := (fun k_ => some k_ ≠ (.slice Ao57 t999.length co57 : Value).ownBlock)) (by (with_reducible repeat (first | apply Kd.R_alloc | apply Kd.R_drewN | apply Kd.R_drew)); exact HO_3.out) hg hat); have n1_ := Aside0.mk (Kd.R_after (ok := (fun k_ => some k_ ≠ (.slice Ao8 t983.length co8 : Value).ownBlock)) (by (with_reducible repeat (first | apply Kd.R_alloc | apply Kd.R_drewN | apply Kd.R_drew)); exact HO1001.out) hg hat); have n2_ := Aside0.mk (hb); have n3_ := Aside0.mk ((show Kd.C Kd.string w58 Ao8 y1002.length y1002 from by rw [Ny1002.out]; exact Kd.C_take (m := (t984 : Int).toNat) ((Kd.R_reads' (Kd.R_after (ok := (fun k_ => some k_ ≠ (.slice Ao57 t999.length co57 : Value).ownBlock)) (by (with_reducible repeat (first | apply Kd.R_alloc | apply Kd.R_drewN | apply Kd.R_drew)); exact HO_3.out) hg hat)).2.2) KL52.out)); have n4_ := Aside0.mk (ho); clear HO_3; clear HO1001; clear HB; clear HR1005; clear HO1012; have HO_3 := n0_; have HO1001 := n1_; have HB := n2_; have HR1005 := n3_; have HO1015 := n4_; clear n0_ n1_ n2_ n3_ n4_; clear ho hb hg hat) | ((with_reducible refine gate_callee (f := 75) rfl ?_); refine goesL_ (some 59) rfl rfl Try.func75 (by kernel_rfl) rfl #[.int .i64 t984, .int .i64 (t983.length : Int), .string t1006, .string t987, .slice Ao57 t999.length co57] rfl (by (try simp only [List.map_toArray, List.map_cons, List.map_nil]); first | done | rfl | (simp only [List.length_drop, List.length_take]; rfl)) ?_; (with_reducible refine (impl_CheckGrow.calls kj5 t984 (t983.length : Int) t1006 t987 _ _ t999 true _ ?side1 ?side2 A36.out).mono ?_); (case side1 => repeat (first | exact (Kd.R_reads' HO1001.out).2.2 | (with_reducible refine Kd.C_alloc ?_ _) | (with_reducible refine Kd.C_drewN ?_ _) | (with_reducible refine Kd.C_drew ?_))); (case side2 => exact (Kd.R_reads' HO1001.out).2.1); rintro e w59 ⟨rfl, hb⟩; refine ⟨_, rfl, ?_⟩; have n0_ := Aside0.mk (Kd.R_below (by (with_reducible repeat (first | apply Kd.R_alloc | apply Kd.R_drewN | apply Kd.R_drew)); exact HO_3.out) hb); have n1_ := Aside0.mk (Kd.R_below (by (with_reducible repeat (first | apply Kd.R_alloc | apply Kd.R_drewN | apply Kd.R_drew)); exact HO1001.out) hb); have n2_ := Aside0.mk (Kd.R_below (by (with_reducible repeat (first | apply Kd.R_alloc | apply Kd.R_drewN | apply Kd.R_drew)); exact HO1015.out) hb); have n3_ := Aside0.mk (Kd.C_below (by repeat (first | (with_reducible exact HR1005.out) | (with_reducible refine Kd.C_alloc ?_ _) | (with_reducible refine Kd.C_drewN ?_ _) | (with_reducible refine Kd.C_drew ?_) | exact HR1005.out)) hb); have n4_ := Aside0.mk (below_step (by repeat (first | (with_reducible first | exact HB.out | apply below_alloc | apply pw_below_drewN | apply below_drew1) | exact HB.out)) hb); clear HO_3; clear HO1001; clear HO1015; clear HR1005; clear HB; have HO_3 := n0_; have HO1001 := n1_; have HO1015 := n2_; have HR1005 := n3_; have HB := n4_; clear n0_ n1_ n2_ n3_ n4_; (try clear hb); (try clear hb2); (try clear hk); (try clear hi); obtain ⟨Ao60, co60, eo60⟩ := Kd.R_slice HO1015.out; subst eo60) | (go_at_call 75; (with_reducible refine (impl_CheckGrow.calls kj5 t984 (t983.length : Int) t1006 t987 _ _ y1013 false _ ?side1 ?side2 A38.out).mono ?_); (case side1 => repeat (first | exact (Kd.R_reads' HO1015.out).2.2 | (with_reducible refine Kd.C_alloc ?_ _) | (with_reducible refine Kd.C_drewN ?_ _) | (with_reducible refine Kd.C_drew ?_))); (case side2 => exact (Kd.R_reads' HO1015.out).2.1); rintro e w61 ⟨rfl, hb⟩; have n0_ := Aside0.mk (Kd.R_below (by (with_reducible repeat (first | apply Kd.R_alloc | apply Kd.R_drewN | apply Kd.R_drew)); exact HO_3.out) hb); have n1_ := Aside0.mk (Kd.R_below (by (with_reducible repeat (first | apply Kd.R_alloc | apply Kd.R_drewN | apply Kd.R_drew)); exact HO1001.out) hb); have n2_ := Aside0.mk (Kd.R_below (by (with_reducible repeat (first | apply Kd.R_alloc | apply Kd.R_drewN | apply Kd.R_drew)); exact HO1015.out) hb); have n3_ := Aside0.mk (Kd.C_below (by repeat (first | (with_reducible exact HR1005.out) | (with_reducible refine Kd.C_alloc ?_ _) | (with_reducible refine Kd.C_drewN ?_ _) | (with_reducible refine Kd.C_drew ?_) | exact HR1005.out)) hb); have n4_ := Aside0.mk (below_step (by repeat (first | (with_reducible first | exact HB.out | apply below_alloc | apply pw_below_drewN | apply below_drew1) | exact HB.out)) hb); clear HO_3; clear HO1001; clear HO1015; clear HR1005; clear HB; have HO_3 := n0_; have HO1001 := n1_; have HO1015 := n2_; have HR1005 := n3_; have HB := n4_; clear n0_ n1_ n2_ n3_ n4_; (try clear hb); (try clear hb2); (try clear hk); (try clear hi)))
                        go_ret
                        exact ⟨by first | rfl | (simp [errW_none, errW_some] <;> rfl) | (simp [*, errW_none, errW_some] <;> rfl), by repeat (first | (with_reducible first | exact HB.out | apply below_alloc | apply pw_below_drewN | apply below_drew1) | exact HB.out)⟩
                    · replace c37 := Bool.eq_false_iff.mpr c37
                      subst c37
                      have H1 : (some false) = some r := by rw [if_neg (show ¬ (false = true) by decide)] at H; exact H
                      clear H
                      have H := H1
                      clear H1
                      obtain rfl := Option.some.inj H
                      go_wp2_with (first | ((with_reducible refine gate_callee (f := 76) rfl ?_); refine goesL_ (some 43) rfl rfl Try.func76 (by kernel_rfl) rfl #[.slice Ao8 t983.length co8, .int .i64 t984] rfl (by (try simp only [List.map_toArray, List.map_cons, List.map_nil]); first | done | rfl | (simp only [List.length_drop, List.length_take]; rfl)) ?_; (with_reducible refine (impl_GrowPath.calls kj5 _ _ t983 t984 t999 _ ?side1 ?side2 A30.out).mono ?_); (case side1 => repeat (first | exact (Kd.R_reads' HO_3.out).2.2 | (with_reducible refine Kd.C_alloc ?_ _) | (with_reducible refine Kd.C_drewN ?_ _) | (with_reducible refine Kd.C_drew ?_))); (case side2 => exact (Kd.R_reads' HO_3.out).2.1); rintro e w62 ⟨v1000, rfl, ho0, hb⟩; refine ⟨_, rfl, ?_⟩; have n0_ := Aside0.mk (Kd.R_elder' (by (with_reducible repeat (first | apply Kd.R_alloc | apply Kd.R_drewN | apply Kd.R_drew)); exact HO_3.out) (Kd.R_base ho0) hb); have n1_ := Aside0.mk (Kd.R_lower (Kd.R_new' ho0 (Kd.R_lt (by (with_reducible repeat (first | apply Kd.R_alloc | apply Kd.R_drewN | apply Kd.R_drew)); exact HO_3.out))) (below_size (by repeat (first | (with_reducible first | exact HB.out | apply below_alloc | apply pw_below_drewN | apply below_drew1) | exact HB.out)))); have n2_ := Aside0.mk (below_step (by repeat (first | (with_reducible first | exact HB.out | apply below_alloc | apply pw_below_drewN | apply below_drew1) | exact HB.out)) hb); clear HO_3; clear HB; have HO_3 := n0_; have HO1001 := n1_; have HB := n2_; clear n0_ n1_ n2_; (try clear hb); (try clear hb2); (try clear hk); (try clear hi); (try clear ho0); have q63 : (t984 : Int) ≤ ((t983.length : Int) : Int) := of_decide_eq_true (by first | (with_reducible assumption) | assumption); obtain ⟨i063, hi063, _, hsz63, _⟩ := info_parts info9; have hroom63 : t983.length ≤ co8 := (Kd.R_reads' HO_3.out).2.1; have hC63 : Kd.C Kd.string _ Ao8 t983.length t983 := (Kd.R_reads' HO_3.out).2.2; have hcut63 := cut_to (P := Try.prog) 44 9 .i64 Try.underlying44 hi063 Ao8 t983.length co8 t984 (of_decide_eq_true (by first | (with_reducible assumption) | assumption)) q63 hroom63; have hr63 := Kd.C_take (m := (t984 : Int).toNat) hC63 (by omega); have hy63 : y1002.length = (t984 : Int).toNat := (by rw [Ny1002.out, List.length_take]; omega); rw [← Ny1002.out] at hr63; rw [← hy63] at hcut63; have HR1005 := Aside0.mk hr63; have HC1005 := Aside0.mk (show y1002.length ≤ co8 from by omega); clear hr63 hC63 hroom63 hi063 hsz63; have KY63 := Aside0.mk hy63; clear hy63; have KL63 := Aside0.mk (show (t984 : Int).toNat ≤ t983.length from by omega); replace q63 := eq_true q63) | ((with_reducible refine gate_callee (f := 66) rfl ?_); refine goesL_ (some 47) rfl rfl Try.func66 (by kernel_rfl) rfl #[.slice Ao8 y1002.length co8] rfl (by (try simp only [List.map_toArray, List.map_cons, List.map_nil]); first | done | rfl | (simp only [List.length_drop, List.length_take]; rfl)) ?_; (with_reducible refine (impl_RootOf.calls kj5 _ _ y1002 t1006 _ ?side1 ?side2 A33.out).mono ?_); (case side1 => repeat (first | exact (by repeat (first | (with_reducible exact HR1005.out) | (with_reducible refine Kd.C_alloc ?_ _) | (with_reducible refine Kd.C_drewN ?_ _) | (with_reducible refine Kd.C_drew ?_) | exact HR1005.out)) | (with_reducible refine Kd.C_alloc ?_ _) | (with_reducible refine Kd.C_drewN ?_ _) | (with_reducible refine Kd.C_drew ?_))); (case side2 => exact HC1005.out); rintro e w64 ⟨rfl, hb⟩; refine ⟨_, rfl, ?_⟩; have n0_ := Aside0.mk (Kd.R_below (by (with_reducible repeat (first | apply Kd.R_alloc | apply Kd.R_drewN | apply Kd.R_drew)); exact HO_3.out) hb); have n1_ := Aside0.mk (Kd.R_below (by (with_reducible repeat (first | apply Kd.R_alloc | apply Kd.R_drewN | apply Kd.R_drew)); exact HO1001.out) hb); have n2_ := Aside0.mk (Kd.C_below (by repeat (first | (with_reducible exact HR1005.out) | (with_reducible refine Kd.C_alloc ?_ _) | (with_reducible refine Kd.C_drewN ?_ _) | (with_reducible refine Kd.C_drew ?_) | exact HR1005.out)) hb); have n3_ := Aside0.mk (below_step (by repeat (first | (with_reducible first | exact HB.out | apply below_alloc | apply pw_below_drewN | apply below_drew1) | exact HB.out)) hb); clear HO_3; clear HO1001; clear HR1005; clear HB; have HO_3 := n0_; have HO1001 := n1_; have HR1005 := n2_; have HB := n3_; clear n0_ n1_ n2_ n3_; (try clear hb); (try clear hb2); (try clear hk); (try clear hi)) | ((with_reducible refine gate_dst (N := 48) rfl ?_); (try (refine gate_guard (by rfl) ?_; dsimp only)); refine Kd.R_lit Kd.string _ 9 ?hg (N := 48) ?hd (xs := ([] : List ByteArray)) (inner := []) (ok := fun _ => True) (okp := fun _ => True) ?hr ?hp (fun _ hk => hk) trivial (Below.refl _ _) (Nat.le_refl _) (by simp) ?_; (case hd => rfl); (case hg => rfl); (case hr => first | (go_simp; done) | (go_simp; rfl)); (case hp => exact (Reps.none _ _)); intro v1008 w65 ho66 hb hg_ hnew_; clear hg_ hnew_; (first | rw [← Ny1007.out] at ho66 | (simp only [Int.reduceToNat] at ho66; rw [← Ny1007.out] at ho66)); have n0_ := Aside0.mk (Kd.R_elder' (by (with_reducible repeat (first | apply Kd.R_alloc | apply Kd.R_drewN | apply Kd.R_drew)); exact HO_3.out) (Kd.R_base ho66) hb); have n1_ := Aside0.mk (Kd.R_elder' (by (with_reducible repeat (first | apply Kd.R_alloc | apply Kd.R_drewN | apply Kd.R_drew)); exact HO1001.out) (Kd.R_base ho66) hb); have n2_ := Aside0.mk (Kd.R_lower (Kd.R_new' (Kd.R_new' ho66 (Kd.R_lt (by (with_reducible repeat (first | apply Kd.R_alloc | apply Kd.R_drewN | apply Kd.R_drew)); exact HO_3.out))) (Kd.R_lt (by (with_reducible repeat (first | apply Kd.R_alloc | apply Kd.R_drewN | apply Kd.R_drew)); exact HO1001.out))) (below_size (by repeat (first | (with_reducible first | exact HB.out | apply below_alloc | apply pw_below_drewN | apply below_drew1) | exact HB.out)))); have n3_ := Aside0.mk (Kd.C_below (by repeat (first | (with_reducible exact HR1005.out) | (with_reducible refine Kd.C_alloc ?_ _) | (with_reducible refine Kd.C_drewN ?_ _) | (with_reducible refine Kd.C_drew ?_) | exact HR1005.out)) hb); have n4_ := Aside0.mk (below_step (by repeat (first | (with_reducible first | exact HB.out | apply below_alloc | apply pw_below_drewN | apply below_drew1) | exact HB.out)) hb); clear HO_3; clear HO1001; clear HR1005; clear HB; have HO_3 := n0_; have HO1001 := n1_; have HO1009 := n2_; have HR1005 := n3_; have HB := n4_; clear n0_ n1_ n2_ n3_ n4_; clear hb ho66; obtain ⟨Ao68, co68, eo68⟩ := Kd.R_slice HO1001.out; subst eo68) | ((with_reducible refine gate_builtin (b := .append) (xs := #[.tmp 48, .tmp 49]) rfl ?_); (try (refine gate_guard (by rfl) ?_; dsimp only)); at_builtin; refine Kd.R_append_rows Kd.string (w0 := w) w.heap.size rfl (.tmp 48) (.tmp 49) 44 9 (.string ⟨#[]⟩) 16 rfl Try.underlying44 info9 rfl (by decide) (by omega) v1008 y1007 t999 _ _ _ (fun k_ => some k_ ≠ (.slice Ao8 t983.length co8 : Value).ownBlock ∧ some k_ ≠ (.slice Ao68 t999.length co68 : Value).ownBlock) (fun _ => False) rfl rfl ?aO ?aR (fun _ _ h => h) (fun _ h => h.elim) ?aF ?aB ?aS ?aL ?_; (case aR => repeat (first | exact (Kd.R_reads' HO1001.out).2.2 | (with_reducible refine Kd.C_alloc ?_ _) | (with_reducible refine Kd.C_drewN ?_ _) | (with_reducible refine Kd.C_drew ?_))); (case aB => exact (by repeat (first | (with_reducible first | exact HB.out | apply below_alloc | apply pw_below_drewN | apply below_drew1) | exact HB.out))); (case aF => exact (fun k_ hk => ⟨Kd.fresh' (Kd.R_lt (by (with_reducible repeat (first | apply Kd.R_alloc | apply Kd.R_drewN | apply Kd.R_drew)); exact HO_3.out)) k_ hk, Kd.fresh' (Kd.R_lt (by (with_reducible repeat (first | apply Kd.R_alloc | apply Kd.R_drewN | apply Kd.R_drew)); exact HO1001.out)) k_ hk⟩)); (case aO => exact (by (with_reducible repeat (first | apply Kd.R_alloc | apply Kd.R_drewN | apply Kd.R_drew)); exact Kd.R_mono HO1009.out (fun _ hk => ⟨hk.1.2, hk.2⟩))); (case aS => exact (below_size (by repeat (first | (with_reducible first | exact HB.out | apply below_alloc | apply pw_below_drewN | apply below_drew1) | exact HB.out)))); (case aL => have := LMc34.out; omega); intro v1011 w67 ho hb hg hat; rw [← Ny1010.out] at ho; have n0_ := Aside0.mk (Kd.R_after (ok := (fun k_ => some k_ ≠ (.slice Ao68 t999.length co68 : Value).ownBlock)) (by (with_reducible repeat (first | apply Kd.R_alloc | apply Kd.R_drewN | apply Kd.R_drew)); exact Kd.R_mono HO_3.out (fun _ hk => ⟨hk.1.2, hk.2⟩)) hg hat); have n1_ := Aside0.mk (Kd.R_after (ok := (fun k_ => some k_ ≠ (.slice Ao8 t983.length co8 : Value).ownBlock)) (by (with_reducible repeat (first | apply Kd.R_alloc | apply Kd.R_drewN | apply Kd.R_drew)); exact Kd.R_mono HO1001.out (fun _ hk => ⟨hk.1.2, hk.2⟩)) hg hat); have n2_ := Aside0.mk (hb); have n3_ := Aside0.mk ((show Kd.C Kd.string w67 Ao8 y1002.length y1002 from by rw [Ny1002.out]; exact Kd.C_take (m := (t984 : Int).toNat) ((Kd.R_reads' (Kd.R_after (ok := (fun k_ => some k_ ≠ (.slice Ao68 t999.length co68 : Value).ownBlock)) (by (with_reducible repeat (first | apply Kd.R_alloc | apply Kd.R_drewN | apply Kd.R_drew)); exact Kd.R_mono HO_3.out (fun _ hk => ⟨hk.1.2, hk.2⟩)) hg hat)).2.2) KL63.out)); have n4_ := Aside0.mk (ho); clear HO_3; clear HO1001; clear HB; clear HR1005; clear HO1009; have HO_3 := n0_; have HO1001 := n1_; have HB := n2_; have HR1005 := n3_; have HO1012 := n4_; clear n0_ n1_ n2_ n3_ n4_; clear ho hb hg hat) | ((with_reducible refine gate_builtin (b := .append) (xs := #[.tmp 50, .tmp 52]) rfl ?_); (try (refine gate_guard (by rfl) ?_; dsimp only)); at_builtin; refine Kd.R_append Kd.string (w0 := w) w.heap.size rfl (.tmp 50) (.tmp 52) 44 9 (.string ⟨#[]⟩) 16 rfl Try.underlying44 info9 rfl (by decide) (by omega) v1011 y1010 t987 [.string t987] (fun k_ => some k_ ≠ (.slice Ao8 t983.length co8 : Value).ownBlock ∧ some k_ ≠ (.slice Ao68 t999.length co68 : Value).ownBlock) (fun _ => False) rfl rfl ?aP (fun _ hk => hk.elim) ?aF ?aO ?aB ?aS ?aL ?_; (case aP => exact rfl); (case aB => exact (by repeat (first | (with_reducible first | exact HB.out | apply below_alloc | apply pw_below_drewN | apply below_drew1) | exact HB.out))); (case aF => exact (fun k_ hk => ⟨Kd.fresh' (Kd.R_lt (by (with_reducible repeat (first | apply Kd.R_alloc | apply Kd.R_drewN | apply Kd.R_drew)); exact HO_3.out)) k_ hk, Kd.fresh' (Kd.R_lt (by (with_reducible repeat (first | apply Kd.R_alloc | apply Kd.R_drewN | apply Kd.R_drew)); exact HO1001.out)) k_ hk⟩)); (case aO => exact (by (with_reducible repeat (first | apply Kd.R_alloc | apply Kd.R_drewN | apply Kd.R_drew)); exact HO1012.out)); (case aS => exact (below_size (by repeat (first | (with_reducible first | exact HB.out | apply below_alloc | apply pw_below_drewN | apply below_drew1) | exact HB.out)))); (case aL => have := LMc35.out; omega); intro v1014 w69 ho hb hg hat; rw [← Ny1013.out] at ho; have n0_ := Aside0.mk (Kd.R_after (ok := (fun k_ => some k_ ≠ (.slice Ao68 t999.length co68 : Value).ownBlock)) (by (with_reducible repeat (first | apply Kd.R_alloc | apply Kd.R_drewN | apply Kd.R_drew)); exact HO_3.out) hg hat); have n1_ := Aside0.mk (Kd.R_after (ok := (fun k_ => some k_ ≠ (.slice Ao8 t983.length co8 : Value).ownBlock)) (by (with_reducible repeat (first | apply Kd.R_alloc | apply Kd.R_drewN | apply Kd.R_drew)); exact HO1001.out) hg hat); have n2_ := Aside0.mk (hb); have n3_ := Aside0.mk ((show Kd.C Kd.string w69 Ao8 y1002.length y1002 from by rw [Ny1002.out]; exact Kd.C_take (m := (t984 : Int).toNat) ((Kd.R_reads' (Kd.R_after (ok := (fun k_ => some k_ ≠ (.slice Ao68 t999.length co68 : Value).ownBlock)) (by (with_reducible repeat (first | apply Kd.R_alloc | apply Kd.R_drewN | apply Kd.R_drew)); exact HO_3.out) hg hat)).2.2) KL63.out)); have n4_ := Aside0.mk (ho); clear HO_3; clear HO1001; clear HB; clear HR1005; clear HO1012; have HO_3 := n0_; have HO1001 := n1_; have HB := n2_; have HR1005 := n3_; have HO1015 := n4_; clear n0_ n1_ n2_ n3_ n4_; clear ho hb hg hat) | ((with_reducible refine gate_callee (f := 75) rfl ?_); refine goesL_ (some 59) rfl rfl Try.func75 (by kernel_rfl) rfl #[.int .i64 t984, .int .i64 (t983.length : Int), .string t1006, .string t987, .slice Ao68 t999.length co68] rfl (by (try simp only [List.map_toArray, List.map_cons, List.map_nil]); first | done | rfl | (simp only [List.length_drop, List.length_take]; rfl)) ?_; (with_reducible refine (impl_CheckGrow.calls kj5 t984 (t983.length : Int) t1006 t987 _ _ t999 false _ ?side1 ?side2 A36.out).mono ?_); (case side1 => repeat (first | exact (Kd.R_reads' HO1001.out).2.2 | (with_reducible refine Kd.C_alloc ?_ _) | (with_reducible refine Kd.C_drewN ?_ _) | (with_reducible refine Kd.C_drew ?_))); (case side2 => exact (Kd.R_reads' HO1001.out).2.1); rintro e w70 ⟨rfl, hb⟩; refine ⟨_, rfl, ?_⟩; have n0_ := Aside0.mk (Kd.R_below (by (with_reducible repeat (first | apply Kd.R_alloc | apply Kd.R_drewN | apply Kd.R_drew)); exact HO_3.out) hb); have n1_ := Aside0.mk (Kd.R_below (by (with_reducible repeat (first | apply Kd.R_alloc | apply Kd.R_drewN | apply Kd.R_drew)); exact HO1001.out) hb); have n2_ := Aside0.mk (Kd.R_below (by (with_reducible repeat (first | apply Kd.R_alloc | apply Kd.R_drewN | apply Kd.R_drew)); exact HO1015.out) hb); have n3_ := Aside0.mk (Kd.C_below (by repeat (first | (with_reducible exact HR1005.out) | (with_reducible refine Kd.C_alloc ?_ _) | (with_reducible refine Kd.C_drewN ?_ _) | (with_reducible refine Kd.C_drew ?_) | exact HR1005.out)) hb); have n4_ := Aside0.mk (below_step (by repeat (first | (with_reducible first | exact HB.out | apply below_alloc | apply pw_below_drewN | apply below_drew1) | exact HB.out)) hb); clear HO_3; clear HO1001; clear HO1015; clear HR1005; clear HB; have HO_3 := n0_; have HO1001 := n1_; have HO1015 := n2_; have HR1005 := n3_; have HB := n4_; clear n0_ n1_ n2_ n3_ n4_; (try clear hb); (try clear hb2); (try clear hk); (try clear hi)))
                      go_ret
                      exact ⟨by first | rfl | (simp [errW_none, errW_some] <;> rfl) | (simp [*, errW_none, errW_some] <;> rfl), by repeat (first | (with_reducible first | exact HB.out | apply below_alloc | apply pw_below_drewN | apply below_drew1) | exact HB.out)⟩
                  · rw [if_neg c35] at H
                    exact absurd H (by simp)
                · rw [if_neg c34] at H
                  exact absurd H (by simp)
              · rw [if_neg c32] at H
                exact absurd H (by simp)
            · rw [if_neg c31] at H
              exact absurd H (by simp)

/-- THE ONE PURE STATEMENT of laws_FnGrown: yours. -/
def laws_FnGrown.Pure : Prop := ∀ (l0 : List Int), l0.length ≤ maxLen → l0.length * 1 ≤ 140737488351232 → (∀ x ∈ l0, (Lit.int .u8 x).wf = true) → ∃ k, laws_FnGrown.f k l0 = some true
theorem laws_FnGrown.walk (P : laws_FnGrown.Pure) (a0 : Option Addr) (len0 cap0 : Nat) (z0 : List Int) (w : World) (w0 : (a0 = none ∧ len0 = 0 ∧ cap0 = 0 ∧ z0 = []) ∨ ∃ x, a0 = some x ∧ len0 ≤ cap0 ∧ cap0 ≤ maxLen ∧ z0.length = cap0 ∧ (∀ i, i < z0.length → w.cell? (x.add i) = some (.int .u8 (z0.getD i 0))) ∧ ∀ n ∈ z0, (Lit.int .u8 n).wf = true) (y0 : len0 * 1 ≤ 140737488351232) :
    Calls Try.prog 21 #[.slice a0 len0 cap0] w fun e w' => e = .returned (.bool true) ∧ Below w.heap.size w w' := by
  obtain ⟨l0, rfl, hr0, hm0, hw0, hc0⟩ := ReadsInt.ofRowC w0
  obtain ⟨k, h⟩ := P l0 hm0 y0 hw0
  refine (laws_FnGrown.calls k _ _ l0 true w (Kd.C_of_reads (d := (0 : Int)) (h1 := fun _ => rfl) hr0) hc0 h).mono ?_
  rintro e w' ⟨rfl, hd⟩
  exact ⟨rfl, hd⟩

end Go.Proofs.Ytmkhhnfmahdijaa.X

/- Plain lemmas for what the printed functions compute: enough rounds ('Ev'), tests, bounds of whole numbers, lists. No Go, no memory. -/
set_option linter.unusedVariables false
namespace Go.Proofs.Ytmkhhnfmahdijaa.Z
open Go.RowKit Go.Proofs.YtmkhhnfmahdijaaW.PrintWords Go.Proofs.YtmkhhnfmahdijaaW.PrintMore

theorem evT {α : Type} {c : Prop} [Decidable c] {f g : Nat → Option α} {r : α} (h : c) (H : Ev f r) : Ev (fun k => if c then f k else g k) r := by
  obtain ⟨K, hK⟩ := H
  exact ⟨K, fun k hk => (if_pos h).trans (hK k hk)⟩
theorem evF {α : Type} {c : Prop} [Decidable c] {f g : Nat → Option α} {r : α} (h : ¬ c) (H : Ev g r) : Ev (fun k => if c then f k else g k) r := by
  obtain ⟨K, hK⟩ := H
  exact ⟨K, fun k hk => (if_neg h).trans (hK k hk)⟩
theorem evI {α : Type} {c : Prop} [Decidable c] {f g : Nat → Option α} {r : α} (H : c → Ev f r) (H' : ¬ c → Ev g r) : Ev (fun k => if c then f k else g k) r := by
  by_cases h : c
  · exact evT h (H h)
  · exact evF h (H' h)
theorem evB {α β : Type} {g : Nat → Option α} {f : Nat → α → Option β} {a : α} {r : β} (h : Ev g a) (k : Ev (fun n => f n a) r) : Ev (fun n => (g n).bind (f n)) r := Ev.bind h k
theorem evR {α : Type} {r r' : α} (h : r = r') : Ev (fun _ => some r) r' := h ▸ Ev.now r
/-- A callee without rounds. -/
theorem evC {α β : Type} {x : Option α} {f : Nat → α → Option β} {a : α} {r : β} (h : x = some a) (k : Ev (fun n => f n a) r) : Ev (fun n => x.bind (f n)) r := by
  subst h
  exact k
theorem evS {α : Type} {g f : Nat → Option α} {r : α} (h : ∀ k, g (k + 1) = f k) (k : Ev f r) : Ev g r := Ev.step h k
theorem evE {α : Type} {g : Nat → Option α} {r r' : α} (h : r = r') (k : Ev g r) : Ev g r' := h ▸ k
/-- Two answers of one function are one. -/
theorem ev_one {α : Type} {g : Nat → Option α} {r r' : α} (h : Ev g r) (h' : Ev g r') : r = r' := by
  obtain ⟨K, hK⟩ := h
  obtain ⟨L, hL⟩ := h'
  have a := hK (max K L) (Nat.le_max_left _ _)
  have b := hL (max K L) (Nat.le_max_right _ _)
  rw [a] at b
  exact Option.some.inj b

theorem w64 {x : Int} (h : -9223372036854775808 ≤ x ∧ x ≤ 9223372036854775807) : wrap64 x = x := by unfold wrap64; omega
theorem w64s {i n : Nat} (h : i < n) (hn : n ≤ 9223372036854775807) : wrap64 ((i : Int) + 1) = ((i + 1 : Nat) : Int) := by unfold wrap64; omega
theorem wu64 {x : Int} (h : 0 ≤ x ∧ x ≤ 18446744073709551615) : IntKind.u64.wrap x = x := by
  simp [IntKind.wrap, IntKind.bits, IntKind.signed]
  omega
theorem wi64 (x : Int) : IntKind.i64.wrap x = wrap64 x := by rw [Go.IntKind.wrap_i64]; unfold wrap64; rfl
theorem wraps_i64 (n : Int) (h₀ : 0 ≤ n) (h₁ : n < 2 ^ 63) : IntKind.i64.wrap n = n := by
  rw [wi64, w64]
  have : (2 : Int) ^ 63 = 9223372036854775808 := by decide
  omega

/-- Two lists that tell the same at each place. -/
theorem ext_get {α : Type} {l m : List α} (hn : l.length = m.length) (h : ∀ j, j < m.length → l[j]? = m[j]?) : l = m := by
  apply List.ext_getElem?
  intro j
  rcases Nat.lt_or_ge j m.length with hj | hj
  · exact h j hj
  · rw [List.getElem?_eq_none (by omega), List.getElem?_eq_none (by omega)]
theorem rd_get {l : List Int} {i : Nat} (h : i < l.length) : l[i]? = some (rd l (i : Int)) := by
  simp [rd, List.getElem?_eq_getElem h]
theorem rdOf_get {α : Type} {d : α} {l : List α} {i : Nat} (h : i < l.length) : l[i]? = some (rdOf d l (i : Int)) := by
  simp [rdOf, List.getElem?_eq_getElem h]
/-- A place that is written as it must be: one more place tells the same. -/
theorem set_next {α : Type} {l m : List α} {i : Nat} {x : α} (hn : l.length = m.length) (hi : i < m.length) (hx : m[i]? = some x) (h : ∀ j, j < i → l[j]? = m[j]?) : ∀ j, j < i + 1 → (l.set i x)[j]? = m[j]? := by
  intro j hj
  rcases Nat.lt_or_ge j i with h1 | h1
  · rw [List.getElem?_set_ne (by omega)]
    exact h j h1
  · obtain rfl : i = j := by omega
    rw [List.getElem?_set_self (by omega), hx]
end Go.Proofs.Ytmkhhnfmahdijaa.Z

/- The program's digests of leaves and nodes. Plain lemmas. -/
set_option linter.unusedVariables false
namespace Go.Proofs.Ytmkhhnfmahdijaa.ZI
open Go.RowKit Go.Proofs.YtmkhhnfmahdijaaW.PrintWords Go.Proofs.YtmkhhnfmahdijaaW.PrintMore Go.Proofs.Ytmkhhnfmahdijaa.X Go.Proofs.Ytmkhhnfmahdijaa.Z Go.Proofs.Ytmkhhnfmahdijaa.Sha

/-- The bytes of a count, from group i down. -/
def lenB (x : Int) : Nat → List Int
  | 0 => []
  | i + 1 => (shr .i64 x ((8 * i : Nat) : Int) % 256) :: lenB x i
theorem lenB_length (x : Int) (i : Nat) : (lenB x i).length = i := by
  induction i with
  | zero => rfl
  | succ i ih => simp [lenB, ih]
def padB (b : List Int) : List Int := b ++ (128 :: List.replicate ((119 - b.length % 64) % 64) 0) ++ lenB (8 * (b.length : Int)) 8
theorem padB_length (b : List Int) : (padB b).length = b.length + 1 + (119 - b.length % 64) % 64 + 8 := by
  simp [padB, lenB_length]
  omega
theorem padB_mod (b : List Int) : (padB b).length % 64 = 0 := by rw [padB_length]; omega

theorem implPad_l1 (x : Int) : ∀ (i : Nat) (m : List Int), i ≤ 8 → m.length + i < 140737488355328 → Ev (fun k => impl_Padded.l1 k m x ((i : Int) - 1)) (m ++ lenB x i) := by
  intro i
  induction i with
  | zero =>
    intro m h0 h1
    exact evS (fun k => by rw [impl_Padded.l1]) (evF (by omega) (evR (by simp [lenB])))
  | succ i ih =>
    intro m h0 h1
    have hw : wrap64 (8 * (((i + 1 : Nat) : Int) - 1)) = ((8 * i : Nat) : Int) := by rw [w64 (by omega)]; omega
    have hu : IntKind.u64.wrap ((8 * i : Nat) : Int) = ((8 * i : Nat) : Int) := wu64 (by omega)
    refine evS (fun k => by rw [impl_Padded.l1]) (evT (by omega) ?_)
    rw [hw, hu]
    refine evT (by omega) (evT (by omega) ?_)
    rw [w64 (x := ((i + 1 : Nat) : Int) - 1 - 1) (by omega), show ((i + 1 : Nat) : Int) - 1 - 1 = (i : Int) - 1 by omega]
    refine evE ?_ (ih _ (by omega) (by simp; omega))
    simp [lenB]
theorem implPad_l0 (b : List Int) (hb : b.length ≤ 100000000000) (d : Nat) : ∀ (m : List Int), d < 64 → (m.length + d) % 64 = 56 → m.length + d ≤ 140000000000000 → Ev (fun k => impl_Padded.l0 k b m) (m ++ List.replicate d 0 ++ lenB (8 * (b.length : Int)) 8) := by
  induction d with
  | zero =>
    intro m h0 h1 h2
    have hw : wrap64 ((m.length : Int) + 8) = (m.length : Int) + 8 := w64 (by omega)
    refine evS (fun k => by rw [impl_Padded.l0]) ?_
    rw [hw, Int.tmod_eq_emod_of_nonneg (by omega)]
    refine evT (by omega) ?_
    rw [w64 (x := 8 * (b.length : Int)) (by omega)]
    refine evE ?_ (implPad_l1 (8 * (b.length : Int)) 8 m (by omega) (by omega))
    simp
  | succ d ih =>
    intro m h0 h1 h2
    have hw : wrap64 ((m.length : Int) + 8) = (m.length : Int) + 8 := w64 (by omega)
    refine evS (fun k => by rw [impl_Padded.l0]) ?_
    rw [hw, Int.tmod_eq_emod_of_nonneg (by omega)]
    refine evF (by omega) (evT (by omega) ?_)
    refine evE ?_ (ih _ (by omega) (by simp; omega) (by simp; omega))
    simp [List.replicate_succ]
theorem implPad_ev (b : List Int) (hb : b.length ≤ 100000000000) : Ev (fun k => impl_Padded.f k b) (padB b) := by
  unfold impl_Padded.f
  refine evC (a := b) (by unfold slices_Clone_byte_byte.f; rw [if_pos (by omega)]) ?_
  refine evT (by omega) ?_
  refine evE ?_ (implPad_l0 b hb ((119 - b.length % 64) % 64) _ (by omega) (by simp; omega) (by simp; omega))
  simp [padB]

/-- The digest of a list of bytes. -/
def dig (b : List Int) : ByteArray := text (padB b)
theorem implDigest_ev (b : List Int) (hl : b.length ≤ 100000000000) : Ev (fun k => impl_Digest.f k b) (dig b) := by
  unfold impl_Digest.f
  have hm := padB_mod b
  have hn := padB_length b
  refine evB (implPad_ev b hl) ?_
  exact evT ⟨hm, by omega, by omega⟩ (evR rfl)
theorem dig_size (b : List Int) : (dig b).size = 32 := by
  unfold dig text
  have := bytes_length (fold (padB b) (List.range ((padB b).length / 64))) 8
  simp [strOfNums, ByteArray.size, this]


theorem bo_len (s : ByteArray) : (bytesOf s).length = s.size := bytesOf_length s
def leaf (a : ByteArray) : ByteArray := dig ([0] ++ bytesOf a)
def node (a b : ByteArray) : ByteArray := dig (([1] ++ bytesOf a) ++ bytesOf b)
theorem leaf_size (a : ByteArray) : (leaf a).size = 32 := dig_size _
theorem node_size (a b : ByteArray) : (node a b).size = 32 := dig_size _
theorem implLeaf_ev (a : ByteArray) (h : a.size ≤ 10000000000) : Ev (fun k => impl_LeafHash.f k a) (leaf a) := by
  have hl := bo_len a
  unfold impl_LeafHash.f
  exact evC rfl (evT (by simp; omega) (evB (implDigest_ev _ (by simp; omega)) (evR rfl)))
theorem implNode_ev (a b : ByteArray) (h : a.size ≤ 10000000000) (h' : b.size ≤ 10000000000) : Ev (fun k => impl_NodeHash.f k a b) (node a b) := by
  have hl := bo_len a
  have hl' := bo_len b
  unfold impl_NodeHash.f
  exact evC rfl (evT (by simp; omega) (evC rfl (evT (by simp; omega) (evB (implDigest_ev _ (by simp; omega)) (evR rfl)))))

end Go.Proofs.Ytmkhhnfmahdijaa.ZI

/- The program's halves and roots. Plain lemmas. -/
set_option linter.unusedVariables false
namespace Go.Proofs.Ytmkhhnfmahdijaa.ZI
open Go.RowKit Go.Proofs.YtmkhhnfmahdijaaW.PrintWords Go.Proofs.YtmkhhnfmahdijaaW.PrintMore Go.Proofs.Ytmkhhnfmahdijaa.X Go.Proofs.Ytmkhhnfmahdijaa.Z
/-- Doubling c as long as twice it is less than n. -/
def hl (n c : Nat) : Nat := if h : 1 ≤ c ∧ 2 * c < n then hl n (2 * c) else c
termination_by n - c
decreasing_by omega
theorem hl_impl (n : Nat) (hn : n ≤ 1000000000) (d : Nat) : ∀ c : Nat, n - c ≤ d → 1 ≤ c → c < n → Ev (fun k => impl_half.l0 k (n : Int) (c : Int)) (hl n c : Int) ∧ c ≤ hl n c ∧ hl n c < n := by
  induction d with
  | zero => intro c h1 h2 h3; omega
  | succ d ih =>
    intro c h1 h2 h3
    have e : wrap64 (2 * (c : Int)) = ((2 * c : Nat) : Int) := by rw [w64 (by omega)]; omega
    have e' : wrap64 ((c : Int) * 2) = ((2 * c : Nat) : Int) := by rw [w64 (by omega)]; omega
    by_cases hc : 2 * c < n
    · obtain ⟨a, g, g'⟩ := ih (2 * c) (by omega) (by omega) hc
      rw [hl, dif_pos ⟨h2, hc⟩]
      refine ⟨?_, by omega, g'⟩
      · refine evS (fun k => by rw [impl_half.l0]) ?_
        rw [e, e']
        exact evT (by omega) a
    · rw [hl, dif_neg (fun h => hc h.2)]
      refine ⟨?_, by omega, h3⟩
      · refine evS (fun k => by rw [impl_half.l0]) ?_
        rw [e]
        exact evF (by omega) (evR rfl)
/-- The greatest power of two below n. -/
def hf (n : Nat) : Nat := hl n 1
theorem hf_impl {n : Nat} (h2 : 2 ≤ n) (hn : n ≤ 1000000000) : Ev (fun k => impl_half.f k (n : Int)) (hf n : Int) := (hl_impl n hn n 1 (by omega) (by omega) (by omega)).1
theorem hl_ge (n d : Nat) : ∀ c : Nat, n - c ≤ d → 1 ≤ c → c < n → c ≤ hl n c ∧ hl n c < n := by
  induction d with
  | zero => intro c h1 h2 h3; omega
  | succ d ih =>
    intro c h1 h2 h3
    by_cases hc : 2 * c < n
    · obtain ⟨g, g'⟩ := ih (2 * c) (by omega) (by omega) hc
      rw [hl, dif_pos ⟨h2, hc⟩]
      omega
    · rw [hl, dif_neg (fun h => hc h.2)]
      omega
theorem hf_lt {n : Nat} (h2 : 2 ≤ n) : 1 ≤ hf n ∧ hf n < n := hl_ge n n 1 (by omega) (by omega) (by omega)
/-- Texts that are not too long. -/
def Fit (l : List ByteArray) : Prop := ∀ y ∈ l, y.size ≤ 10000000000
theorem Fit.take {l : List ByteArray} (h : Fit l) (n : Nat) : Fit (l.take n) := fun y hy => h y (List.mem_of_mem_take hy)
theorem Fit.drop {l : List ByteArray} (h : Fit l) (n : Nat) : Fit (l.drop n) := fun y hy => h y (List.mem_of_mem_drop hy)

/-- The root of texts. -/
def root (l : List ByteArray) : ByteArray :=
  if h : l.length < 2 then (match l with | [] => dig [] | a :: _ => leaf a)
  else node (root (l.take (hf l.length))) (root (l.drop (hf l.length)))
termination_by l.length
decreasing_by
  · have := hf_lt (n := l.length) (by omega); simp; omega
  · have := hf_lt (n := l.length) (by omega); simp; omega
theorem root_nil : root [] = dig [] := by rw [root]; rfl
theorem root_one (a : ByteArray) : root [a] = leaf a := by rw [root]; rfl
theorem root_more {l : List ByteArray} (h : ¬ l.length < 2) : root l = node (root (l.take (hf l.length))) (root (l.drop (hf l.length))) := by rw [root, dif_neg h]
theorem root_size (l : List ByteArray) : (root l).size = 32 := by
  by_cases h : l.length < 2
  · match l, h with
    | [], _ => rw [root_nil]; exact dig_size _
    | [a], _ => rw [root_one]; exact leaf_size a
  · rw [root_more h]
    exact node_size _ _
theorem root_impl : ∀ (n : Nat) (l : List ByteArray), l.length = n → n ≤ 1000000000 → Fit l → Ev (fun k => impl_rootOf.f k l) (root l) := by
  intro n
  induction n using Nat.strongRecOn with
  | ind n ih =>
    intro l hl hn hf'
    by_cases h2 : l.length < 2
    · match l, h2 with
      | [], _ =>
        rw [root_nil]
        refine evS (fun k => by rw [impl_rootOf.f]) ?_
        exact evT rfl (evB (implDigest_ev [] (by simp)) (evR rfl))
      | [a], _ =>
        rw [root_one]
        have ha := hf' a (by simp)
        refine evS (fun k => by rw [impl_rootOf.f]) ?_
        exact evF (by simp) (evT rfl (evT (by simp) (evB (implLeaf_ev a ha) (evR rfl))))
    · obtain ⟨g1, g2⟩ := hf_lt (n := l.length) (by omega)
      have hA := hf_impl (n := l.length) (by omega) (by omega)
      rw [root_more h2]
      generalize hf l.length = c at *
      have i1 := ih c (by omega) (l.take c) (by simp; omega) (by omega) (hf'.take c)
      have i2 := ih (l.length - c) (by omega) (l.drop c) (by simp) (by omega) (hf'.drop c)
      have z1 := root_size (l.take c)
      have z2 := root_size (l.drop c)
      have ec : ((c : Nat) : Int).toNat = c := by omega
      · refine evS (fun k => by rw [impl_rootOf.f]) ?_
        refine evF (by omega) (evF (by omega) (evB hA ?_))
        rw [ec]
        exact evT (by omega) (evT (by omega) (evB i1 (evB i2 (evB (implNode_ev _ _ (by omega) (by omega)) (evR rfl)))))

theorem rootOf_impl (l : List ByteArray) (hl : l.length ≤ 200) (h : Fit l) : Ev (fun k => impl_RootOf.f k l) (root l) := by
  unfold impl_RootOf.f
  exact evF (by omega) (evB (root_impl l.length l rfl (by omega) h) (evR rfl))
end Go.Proofs.Ytmkhhnfmahdijaa.ZI

/- The program's paths of beginnings, and what comes of them. Plain lemmas. -/
set_option linter.unusedVariables false
namespace Go.Proofs.Ytmkhhnfmahdijaa.ZI
open Go.RowKit Go.Proofs.YtmkhhnfmahdijaaW.PrintWords Go.Proofs.YtmkhhnfmahdijaaW.PrintMore Go.Proofs.Ytmkhhnfmahdijaa.X Go.Proofs.Ytmkhhnfmahdijaa.Z Go.Proofs.YtmkhhnfmahdijaaW.PrintLast
/-- The path of the first n. -/
def grow (l : List ByteArray) (n : Int) (w : Bool) : List ByteArray :=
  if n = l.length then (if w = true then [] else [root l])
  else if h : l.length < 2 then []
  else if n ≤ hf l.length then grow (l.take (hf l.length)) n w ++ [root (l.drop (hf l.length))] else grow (l.drop (hf l.length)) (n - hf l.length) false ++ [root (l.take (hf l.length))]
termination_by l.length
decreasing_by
  · have := hf_lt (n := l.length) (by omega); simp; omega
  · have := hf_lt (n := l.length) (by omega); simp; omega
theorem grow_all {l : List ByteArray} {n : Int} (h : n = l.length) (w : Bool) : grow l n w = if w = true then [] else [root l] := by rw [grow, if_pos h]
theorem grow_more {l : List ByteArray} {n : Int} (h : ¬ n = l.length) (h2 : ¬ l.length < 2) (w : Bool) : grow l n w = if n ≤ hf l.length then grow (l.take (hf l.length)) n w ++ [root (l.drop (hf l.length))] else grow (l.drop (hf l.length)) (n - hf l.length) false ++ [root (l.take (hf l.length))] := by rw [grow, if_neg h, dif_neg h2]
theorem grow_impl : ∀ (m : Nat) (l : List ByteArray) (n : Int) (w : Bool), l.length = m → m ≤ 1000000000 → 1 ≤ n → n ≤ m → Fit l → Ev (fun k => impl_growFrom.f k l n w) (grow l n w) ∧ (grow l n w).length ≤ m ∧ ∀ y ∈ grow l n w, y.size = 32 := by
  intro m
  induction m using Nat.strongRecOn with
  | ind m ih =>
    intro l n w hl hm h1 hn hf'
    by_cases hnl : n = l.length
    · rw [grow_all hnl]
      have i1 := root_impl m l hl hm hf'
      have z1 := root_size l
      cases w with
      | true =>
        refine ⟨?_, by simp, by simp⟩
        · refine evS (fun k => by rw [impl_growFrom.f]) ?_
          exact evT hnl (evT rfl (evR rfl))
      | false =>
        refine ⟨?_, by simp; omega, by intro y hy; simp at hy; rw [hy]; exact z1⟩
        · refine evS (fun k => by rw [impl_growFrom.f]) ?_
          exact evT hnl (evF (by simp) (evB i1 (evR rfl)))
    · have h2 : ¬ l.length < 2 := by omega
      obtain ⟨g1, g2⟩ := hf_lt (n := l.length) (by omega)
      have hA := hf_impl (n := l.length) (by omega) (by omega)
      rw [grow_more hnl h2]
      generalize hf l.length = c at *
      have i1 := root_impl c (l.take c) (by simp; omega) (by omega) (hf'.take c)
      have i2 := root_impl (l.length - c) (l.drop c) (by simp) (by omega) (hf'.drop c)
      have z1 := root_size (l.take c)
      have z2 := root_size (l.drop c)
      have ec : ((c : Nat) : Int).toNat = c := by omega
      by_cases hic : n ≤ c
      · obtain ⟨a, g, g'⟩ := ih c (by omega) (l.take c) n w (by simp; omega) (by omega) h1 hic (hf'.take c)
        rw [if_pos hic]
        refine ⟨?_, by simp; omega, ?_⟩
        · refine evS (fun k => by rw [impl_growFrom.f]) ?_
          refine evF hnl (evB hA ?_)
          rw [ec]
          exact evT hic (evT (by omega) (evT (by omega) (evB a (evB i2 (evT (by omega) (evR rfl))))))
        · intro y hy
          rcases List.mem_append.1 hy with h | h
          · exact g' y h
          · rw [List.mem_singleton.1 h]; exact z2
      · obtain ⟨a, g, g'⟩ := ih (l.length - c) (by omega) (l.drop c) (n - c) false (by simp) (by omega) (by omega) (by omega) (hf'.drop c)
        have ew : wrap64 (n - (c : Int)) = n - c := w64 (by omega)
        rw [if_neg hic]
        refine ⟨?_, by simp; omega, ?_⟩
        · refine evS (fun k => by rw [impl_growFrom.f]) ?_
          refine evF hnl (evB hA ?_)
          rw [ec, ew]
          exact evF hic (evT (by omega) (evT (by omega) (evB a (evB i1 (evT (by omega) (evR rfl))))))
        · intro y hy
          rcases List.mem_append.1 hy with h | h
          · exact g' y h
          · rw [List.mem_singleton.1 h]; exact z1

theorem rng_impl (a b c : Int) : impl_inRange.f a b c = some (decide (b ≤ a ∧ a ≤ c)) := by
  unfold impl_inRange.f
  by_cases h : a ≥ b
  · rw [if_pos h]
    simp [show b ≤ a from h]
  · rw [if_neg h]
    simp [show ¬ b ≤ a from h]
theorem growPath_impl (l : List ByteArray) (n : Int) (h : Fit l) (hl : l.length ≤ 200) (h1 : 1 ≤ n) (h2 : n < l.length) : Ev (fun k => impl_GrowPath.f k l n) (grow l n true) := by
  unfold impl_GrowPath.f
  rw [w64 (x := (l.length : Int) - 1) (by omega), rng_impl, decide_eq_true (show 1 ≤ n ∧ n ≤ (l.length : Int) - 1 by omega)]
  obtain ⟨a, _⟩ := grow_impl l.length l n true rfl (by omega) h1 (by omega) h
  exact evF (by omega) (evC rfl (evT rfl (evB a (evR rfl))))
theorem growPath_none (l : List ByteArray) (hl : l.length ≤ 200) : Ev (fun k => impl_GrowPath.f k l 0) [] := by
  unfold impl_GrowPath.f
  rw [w64 (x := (l.length : Int) - 1) (by omega), rng_impl, decide_eq_false (show ¬ ((1 : Int) ≤ 0 ∧ (0 : Int) ≤ (l.length : Int) - 1) by omega)]
  exact evF (by omega) (evC rfl (evF Bool.false_ne_true (evR rfl)))

def lastOf (p : List ByteArray) : ByteArray := rdOf ByteArray.empty p ((p.length - 1 : Nat) : Int)
theorem lastOf_fit {p : List ByteArray} (h : Fit p) (hp : ¬ p.length = 0) : (lastOf p).size ≤ 10000000000 := by
  have hlt : p.length - 1 < p.length := by omega
  have : lastOf p = p[p.length - 1] := by
    unfold lastOf rdOf
    rw [show (((p.length - 1 : Nat) : Int)).toNat = p.length - 1 by omega]
    simp [hlt]
  rw [this]
  exact h _ (List.getElem_mem _)
theorem hl_same (n m : Nat) (hnm : n ≤ m) (d : Nat) : ∀ c : Nat, m - c ≤ d → 1 ≤ c → c < n → hl m c < n → hl n c = hl m c := by
  induction d with
  | zero => intro c h1 h2 h3 h4; omega
  | succ d ih =>
    intro c h1 h2 h3 h4
    by_cases hc : 2 * c < m
    · have e : hl m c = hl m (2 * c) := by rw [hl, dif_pos ⟨h2, hc⟩]
      obtain ⟨g, _⟩ := hl_ge m m (2 * c) (by omega) (by omega) hc
      rw [e] at h4 ⊢
      have hn : 2 * c < n := by omega
      rw [hl, dif_pos ⟨h2, hn⟩]
      exact ih (2 * c) (by omega) (by omega) hn h4
    · rw [hl, dif_neg (fun h => by omega), hl, dif_neg (fun h => hc h.2)]
theorem hf_same {n m : Nat} (h : hf m < n) (hnm : n ≤ m) : hf n = hf m := by
  by_cases h2 : 2 ≤ m
  · have := hf_lt h2
    exact hl_same n m hnm m 1 (by omega) (by omega) (by omega) h
  · have : n = m ∨ n = 0 := by omega
    rcases this with rfl | rfl
    · rfl
    · omega
theorem lastOf_snoc (x : List ByteArray) (y : ByteArray) : lastOf (x ++ [y]) = y := by
  unfold lastOf rdOf
  rw [show ((((x ++ [y]).length - 1 : Nat) : Int)).toNat = x.length by simp]
  simp
theorem takeOf_snoc (x : List ByteArray) (y : ByteArray) : (x ++ [y]).take ((x ++ [y]).length - 1) = x := by simp
theorem root_begin (l : List ByteArray) (n : Nat) (h : hf l.length < n) (hn : n ≤ l.length) (h2 : 2 ≤ l.length) : root (l.take n) = node (root (l.take (hf l.length))) (root ((l.drop (hf l.length)).take (n - hf l.length))) := by
  have g := hf_lt h2
  have e : (l.take n).length = n := by simp; omega
  have e2 := hf_same h hn
  have e3 : (l.take n).take (hf l.length) = l.take (hf l.length) := by rw [List.take_take, Nat.min_eq_left (by omega)]
  have e4 : (l.take n).drop (hf l.length) = (l.drop (hf l.length)).take (n - hf l.length) := by rw [List.drop_take]
  rw [root_more (by rw [e]; omega), e, e2, e3, e4]
theorem grown_right : ∀ (m : Nat) (l : List ByteArray) (n : Nat) (w : Bool) (a : ByteArray), l.length = m → m ≤ 1000000000 → 1 ≤ n → n ≤ m → Fit l → (w = true → a = root (l.take n)) →
    Ev (fun k => impl_grown.f k (n : Int) (m : Int) a w (grow l (n : Int) w)) (root (l.take n), root l, true) := by
  intro m
  induction m using Nat.strongRecOn with
  | ind m ih =>
    intro l n w a hl hm h1 hn hF ha
    have hp := (grow_impl m l n w hl hm (by omega) (by omega) hF).2
    by_cases hnm : n = m
    · have et : l.take n = l := List.take_of_length_le (by omega)
      rw [et] at ha ⊢
      rw [grow_all (by omega)]
      have hnm' : (n : Int) = (m : Int) := by omega
      cases w with
      | true =>
        obtain rfl := ha rfl
        rw [if_pos rfl]
        have hw1 : (n : Int) = (m : Int) ∧ true = true := ⟨hnm', rfl⟩
        refine evS (fun k => by rw [impl_grown.f]) ?_
        exact evT hw1 (evR rfl)
      | false =>
        rw [if_neg (by simp)]
        have hw : ¬ ((n : Int) = (m : Int) ∧ false = true) := by simp
        refine evS (fun k => by rw [impl_grown.f]) ?_
        exact evF hw (evT (by simp) (evT (by simp) (evT hnm' (evR rfl))))
    · have h2 : 2 ≤ l.length := by omega
      have hnm' : ¬ (n : Int) = (m : Int) := by omega
      have hw : ¬ ((n : Int) = (m : Int) ∧ w = true) := fun h => hnm' h.1
      obtain ⟨g1, g2⟩ := hf_lt h2
      have hA := hf_impl (n := m) (by omega) (by omega)
      have hrb := root_begin l n
      have hrm := root_more (l := l) (by omega)
      rw [grow_more (by omega) (by omega)] at hp ⊢
      rw [hl] at hrb hrm g1 g2 hp ⊢
      generalize hf m = c at *
      have hs : ∀ x : List ByteArray, (root x).size ≤ 10000000000 := fun x => by rw [root_size]; decide
      by_cases hic : (n : Int) ≤ c
      · rw [if_pos hic] at hp ⊢
        have e1 := ih c (by omega) (l.take c) n w a (by simp; omega) (by omega) h1 (by omega) (hF.take c) (by rw [List.take_take, Nat.min_eq_left (by omega)]; exact ha)
        rw [List.take_take, Nat.min_eq_left (by omega)] at e1
        have hpl := hp.1
        have el : lastOf (grow (l.take c) (n : Int) w ++ [root (l.drop c)]) = root (l.drop c) := lastOf_snoc _ _
        have etk := takeOf_snoc (grow (l.take c) (n : Int) w) (root (l.drop c))
        generalize hq : grow (l.take c) (n : Int) w ++ [root (l.drop c)] = p at *
        have hpp : 0 < p.length := by rw [← hq]; simp
        rw [← etk] at e1
        refine evS (fun k => by rw [impl_grown.f]) ?_
        refine evF hw (evT hpp (evT (by omega) (evF hnm' (evB hA (evT hic (evB e1 (evB (implNode_ev _ (lastOf p) (hs _) (by rw [el]; exact hs _)) (evR ?_))))))))
        show (root (l.take n), node (root (l.take c)) (lastOf p), true) = _
        rw [hrm, el]
      · rw [if_neg hic] at hp ⊢
        have e1 := ih (m - c) (by omega) (l.drop c) (n - c) false a (by simp; omega) (by omega) (by omega) (by omega) (hF.drop c) (fun h => by cases h)
        have hpl := hp.1
        rw [show ((n - c : Nat) : Int) = (n : Int) - (c : Int) by omega] at e1
        have el : lastOf (grow (l.drop c) ((n : Int) - (c : Int)) false ++ [root (l.take c)]) = root (l.take c) := lastOf_snoc _ _
        have etk := takeOf_snoc (grow (l.drop c) ((n : Int) - (c : Int)) false) (root (l.take c))
        generalize hq : grow (l.drop c) ((n : Int) - (c : Int)) false ++ [root (l.take c)] = p at *
        have hpp : 0 < p.length := by rw [← hq]; simp
        rw [← etk] at e1
        have w1 : wrap64 ((n : Int) - (c : Int)) = (n : Int) - c := w64 (by omega)
        have w2 : wrap64 ((m : Int) - (c : Int)) = ((m - c : Nat) : Int) := by rw [w64 (by omega)]; omega
        refine evS (fun k => by rw [impl_grown.f]) (evF hw (evT hpp (evT (by omega) (evF hnm' (evB hA (evF hic ?_))))))
        rw [w1, w2]
        refine evB e1 (evB (implNode_ev (lastOf p) _ (by rw [el]; exact hs _) (hs _)) (evB (implNode_ev (lastOf p) _ (by rw [el]; exact hs _) (hs _)) (evR ?_)))
        show (node (lastOf p) (root ((l.drop c).take (n - c))), node (lastOf p) (root (l.drop c)), true) = _
        rw [hrm, el, hrb (by omega) (by omega) (by omega)]
/-- How many a path of the first n of m has. -/
def gdep (n : Int) (m : Nat) (w : Bool) : Nat := if n = m then (if w = true then 0 else 1) else if h : m < 2 then 0 else if n ≤ hf m then gdep n (hf m) w + 1 else gdep (n - hf m) (m - hf m) false + 1
termination_by m
decreasing_by
  all_goals have := hf_lt (n := m) (by omega); omega
theorem gdep_all {n : Int} {m : Nat} (h : n = m) (w : Bool) : gdep n m w = if w = true then 0 else 1 := by rw [gdep, if_pos h]
theorem gdep_more {n : Int} {m : Nat} (h : ¬ n = m) (h2 : ¬ m < 2) (w : Bool) : gdep n m w = if n ≤ hf m then gdep n (hf m) w + 1 else gdep (n - hf m) (m - hf m) false + 1 := by rw [gdep, if_neg h, dif_neg h2]
theorem grow_len : ∀ (m : Nat) (l : List ByteArray) (n : Int) (w : Bool), l.length = m → 1 ≤ n → n ≤ m → (grow l n w).length = gdep n m w := by
  intro m
  induction m using Nat.strongRecOn with
  | ind m ih =>
    intro l n w hl h1 hn
    by_cases hnm : n = (m : Int)
    · rw [grow_all (by omega), gdep_all hnm]
      cases w <;> rfl
    · obtain ⟨g1, g2⟩ := hf_lt (n := m) (by omega)
      rw [grow_more (by omega) (by omega), gdep_more hnm (by omega), hl]
      by_cases hic : n ≤ hf m
      · rw [if_pos hic, if_pos hic, List.length_append, ih (hf m) (by omega) _ n w (by simp; omega) h1 hic]; rfl
      · rw [if_neg hic, if_neg hic, List.length_append, ih (m - hf m) (by omega) _ (n - hf m) false (by simp; omega) (by omega) (by omega)]; rfl
theorem grown_count (a : ByteArray) (ha : a.size ≤ 10000000000) : ∀ (m : Nat) (n : Int) (w : Bool) (p : List ByteArray), m ≤ 1000000000 → 1 ≤ n → n ≤ m → Fit p → p.length ≤ 1000000000 →
    ∃ x y : ByteArray, Ev (fun k => impl_grown.f k n (m : Int) a w p) (x, y, decide (p.length = gdep n m w)) ∧ x.size ≤ 10000000000 ∧ y.size ≤ 10000000000 := by
  intro m
  induction m using Nat.strongRecOn with
  | ind m ih =>
    intro n w p hm h1 hn hF hp
    have he0 : (⟨#[]⟩ : ByteArray).size ≤ 10000000000 := by decide
    by_cases hnm : n = (m : Int)
    · rw [gdep_all hnm]
      cases w with
      | true =>
        refine ⟨a, a, ?_, ha, ha⟩
        have hw1 : n = (m : Int) ∧ true = true := ⟨hnm, rfl⟩
        refine evS (fun k => by rw [impl_grown.f]) ?_
        refine evT hw1 (evR ?_)
        by_cases hp0 : p.length = 0
        · simp [hp0]
        · rw [decide_eq_false (by simpa using hp0), beq_eq_false_iff_ne.mpr (show ¬ (p.length : Int) = 0 by omega)]
      | false =>
        have hw : ¬ (n = (m : Int) ∧ false = true) := by simp
        by_cases hp0 : p.length = 0
        · refine ⟨⟨#[]⟩, ⟨#[]⟩, ?_, he0, he0⟩
          rw [decide_eq_false (by simp; omega)]
          exact evS (fun k => by rw [impl_grown.f]) (evF hw (evF (by omega) (evR rfl)))
        · have hz := lastOf_fit hF hp0
          have hpp : 0 < p.length := by omega
          have hp9 : p.length ≤ 9000000000000000000 := by omega
          refine ⟨lastOf p, lastOf p, ?_, hz, hz⟩
          refine evS (fun k => by rw [impl_grown.f]) ?_
          refine evF hw (evT hpp (evT hp9 (evT hnm (evR ?_))))
          show (lastOf p, lastOf p, ((p.take (p.length - 1)).length : Int) == 0) = _
          by_cases hp1 : p.length = 1
          · rw [hp1]; simp
          · rw [decide_eq_false (by simp; omega), beq_eq_false_iff_ne.mpr (by simp; omega)]
    · have hw : ¬ (n = (m : Int) ∧ w = true) := fun h => hnm h.1
      by_cases hp0 : p.length = 0
      · refine ⟨⟨#[]⟩, ⟨#[]⟩, ?_, he0, he0⟩
        rw [gdep_more hnm (by omega), decide_eq_false (by split <;> omega)]
        exact evS (fun k => by rw [impl_grown.f]) (evF hw (evF (by omega) (evR rfl)))
      · obtain ⟨g1, g2⟩ := hf_lt (n := m) (by omega)
        have hA := hf_impl (n := m) (by omega) (by omega)
        have hz := lastOf_fit hF hp0
        have hT : (p.take (p.length - 1)).length ≤ 1000000000 := by simp; omega
        have hpp : 0 < p.length := by omega
        have hp9 : p.length ≤ 9000000000000000000 := by omega
        have n32 : ∀ u v : ByteArray, (node u v).size ≤ 10000000000 := fun u v => by rw [node_size]; decide
        rw [gdep_more hnm (by omega)]
        generalize hf m = c at *
        by_cases hic : n ≤ c
        · obtain ⟨x, y, e1, z1, z2⟩ := ih c (by omega) n w (p.take (p.length - 1)) (by omega) h1 hic (hF.take _) hT
          refine ⟨x, node y (lastOf p), ?_, z1, n32 _ _⟩
          rw [if_pos hic]
          refine evS (fun k => by rw [impl_grown.f]) ?_
          refine evF hw (evT hpp (evT hp9 (evF hnm (evB hA (evT hic (evB e1 (evB (implNode_ev _ _ z2 hz) (evR ?_))))))))
          show (x, node y (lastOf p), decide ((p.take (p.length - 1)).length = gdep n c w)) = _
          have : decide ((p.take (p.length - 1)).length = gdep n c w) = decide (p.length = gdep n c w + 1) := by
            simp only [List.length_take, decide_eq_decide]; omega
          rw [this]
        · have w1 : wrap64 (n - (c : Int)) = n - c := w64 (by omega)
          have w2 : wrap64 ((m : Int) - (c : Int)) = ((m - c : Nat) : Int) := by rw [w64 (by omega)]; omega
          obtain ⟨x, y, e1, z1, z2⟩ := ih (m - c) (by omega) (n - c) false (p.take (p.length - 1)) (by omega) (by omega) (by omega) (hF.take _) hT
          refine ⟨node (lastOf p) x, node (lastOf p) y, ?_, n32 _ _, n32 _ _⟩
          rw [if_neg hic]
          refine evS (fun k => by rw [impl_grown.f]) (evF hw (evT hpp (evT hp9 (evF hnm (evB hA (evF hic ?_))))))
          rw [w1, w2]
          refine evB e1 (evB (implNode_ev _ _ hz z1) (evB (implNode_ev _ _ hz z2) (evR ?_)))
          show (node (lastOf p) x, node (lastOf p) y, decide ((p.take (p.length - 1)).length = gdep (n - c) (m - c) false)) = _
          have : decide ((p.take (p.length - 1)).length = gdep (n - c) (m - c) false) = decide (p.length = gdep (n - c) (m - c) false + 1) := by
            simp only [List.length_take, decide_eq_decide]; omega
          rw [this]
theorem checkGrow_of (a b x y : ByteArray) (f : Bool) (n m : Int) (p : List ByteArray) (h1 : 1 ≤ n) (h2 : n < m) (h3 : m ≤ 200) (e1 : Ev (fun k => impl_grown.f k n m a true p) (x, y, f)) (r : Bool)
    (hr : r = (f && (x.toList == a.toList) && (y.toList == b.toList))) : Ev (fun k => impl_CheckGrow.f k n m a b p) r := by
  subst hr
  unfold impl_CheckGrow.f
  rw [rng_impl, rng_impl, decide_eq_true (show 0 ≤ m ∧ m ≤ 200 by omega), decide_eq_true (show 0 ≤ n ∧ n ≤ m by omega)]
  have hnm : ¬ n = m := by omega
  have hn0 : ¬ n = 0 := by omega
  refine evC rfl (evT rfl (evC rfl ?_))
  refine evS (fun k => by rw [impl_CheckGrow.j0]) (evF (by simp) (evF hnm (evF hn0 (evB e1 ?_))))
  cases f with
  | true =>
    by_cases hab : x.toList = a.toList
    · exact evT rfl (evT hab (evR (by simp [hab])))
    · exact evT rfl (evF hab (evR (by simp [hab])))
  | false => exact evF Bool.false_ne_true (evR (by simp))
theorem checkGrow_all (a : ByteArray) (m : Int) (h0 : 0 ≤ m) (h3 : m ≤ 200) : Ev (fun k => impl_CheckGrow.f k m m a a []) true := by
  unfold impl_CheckGrow.f
  rw [rng_impl, rng_impl, decide_eq_true (show 0 ≤ m ∧ m ≤ 200 by omega), decide_eq_true (show 0 ≤ m ∧ m ≤ m by omega)]
  refine evC rfl (evT rfl (evC rfl ?_))
  refine evS (fun k => by rw [impl_CheckGrow.j0]) (evF (by simp) ?_)
  exact evT rfl (evT rfl (evR rfl))
theorem checkGrow_none (a b : ByteArray) (m : Int) (h0 : 1 ≤ m) (h3 : m ≤ 200) (p : List ByteArray) : Ev (fun k => impl_CheckGrow.f k 0 m a b p) false := by
  unfold impl_CheckGrow.f
  rw [rng_impl, rng_impl, decide_eq_true (show 0 ≤ m ∧ m ≤ 200 by omega), decide_eq_true (show (0 : Int) ≤ 0 ∧ 0 ≤ m by omega)]
  refine evC rfl (evT rfl (evC rfl ?_))
  refine evS (fun k => by rw [impl_CheckGrow.j0]) (evF (by simp) ?_)
  exact evF (by omega) (evT rfl (evR rfl))

end Go.Proofs.Ytmkhhnfmahdijaa.ZI

/- What the reference's draws of one number give. No Go, no memory. -/
set_option linter.unusedVariables false
namespace Go.Proofs.Ytmkhhnfmahdijaa.Z
open Go.RowKit Go.Proofs.YtmkhhnfmahdijaaW.PrintWords Go.Proofs.YtmkhhnfmahdijaaW.PrintMore Go.Proofs.Ytmkhhnfmahdijaa.X

theorem and255 (a : Int) : 0 ≤ Go.bits .and .i64 a 255 ∧ Go.bits .and .i64 a 255 ≤ 255 := by
  have h : ((BitVec.ofInt 64 a &&& BitVec.ofInt 64 255).toNat) ≤ 255 := by
    rw [BitVec.toNat_and]
    exact Nat.and_le_right
  have h2 : Go.bits .and .i64 a 255 = IntKind.i64.wrap (((BitVec.ofInt 64 a &&& BitVec.ofInt 64 255).toNat : Nat) : Int) := rfl
  rw [h2, wi64, w64 (by omega)]
  omega
/-- A place of the cursor over l. -/
def At (l : List Int) (i : Int) : Prop := 0 ≤ i ∧ i ≤ l.length
theorem byte_some (l : List Int) (hl : l.length ≤ 140737488355328) (i h : Int) (hi : At l i) : ∃ x i' h', spec_l1Byte.f l i h = some (x, i', h') ∧ 0 ≤ x ∧ x ≤ 255 ∧ At l i' := by
  unfold At at *
  unfold spec_l1Byte.f
  by_cases h1 : i < (l.length : Int)
  · rw [if_pos h1, if_pos hi.1, w64 (x := i + 1) (by omega)]
    exact ⟨_, _, _, rfl, (and255 _).1, (and255 _).2, by omega, by omega⟩
  · rw [if_neg h1]
    exact ⟨_, _, _, rfl, (and255 _).1, (and255 _).2, hi⟩
theorem below_some (l : List Int) (hl : l.length ≤ 140737488355328) (i h n : Int) (hi : At l i) (hn : n ≤ 1000000) : ∃ x i' h', spec_l1Below.f l i h n = some (x, i', h') ∧ 0 ≤ x ∧ (x < n ∨ x = 0) ∧ At l i' := by
  unfold spec_l1Below.f
  by_cases h0 : n ≤ 0
  · rw [if_pos h0]
    exact ⟨_, _, _, rfl, by omega, .inr rfl, hi⟩
  rw [if_neg h0]
  by_cases h1 : n ≤ 256
  · rw [if_pos h1]
    obtain ⟨x, i', h', e, hx0, hx1, hi'⟩ := byte_some l hl i h hi
    rw [e]
    simp only [Option.bind_some]
    rw [if_neg (by omega), Int.tmod_eq_emod_of_nonneg hx0]
    exact ⟨_, _, _, rfl, Int.emod_nonneg _ (by omega), .inl (Int.emod_lt_of_pos _ (by omega)), hi'⟩
  · rw [if_neg h1]
    obtain ⟨x, i1, h1', e1, hx0, hx1, hi1⟩ := byte_some l hl i h hi
    obtain ⟨y, i2, h2', e2, hy0, hy1, hi2⟩ := byte_some l hl i1 h1' hi1
    obtain ⟨z, i3, h3', e3, hz0, hz1, hi3⟩ := byte_some l hl i2 h2' hi2
    rw [e1]
    simp only [Option.bind_some]
    rw [e2]
    simp only [Option.bind_some]
    rw [e3]
    simp only [Option.bind_some]
    rw [if_neg (by omega), w64 (x := x * 65536) (by omega), w64 (x := y * 256) (by omega), w64 (x := x * 65536 + y * 256) (by omega), w64 (x := x * 65536 + y * 256 + z) (by omega), Int.tmod_eq_emod_of_nonneg (by omega)]
    exact ⟨_, _, _, rfl, Int.emod_nonneg _ (by omega), .inl (Int.emod_lt_of_pos _ (by omega)), hi3⟩
theorem int_some (l : List Int) (hl : l.length ≤ 140737488355328) (i h : Int) (m : List Int) (hi : At l i) (hm : 0 < m.length) (hm2 : m.length ≤ 1000) : ∃ x i' h', spec_l1Int.f l i h m = some (x, i', h') ∧ x ∈ m ∧ At l i' := by
  unfold spec_l1Int.f
  obtain ⟨x, i', h', e, hx0, hx1, hi'⟩ := below_some l hl i h (m.length : Int) hi (by omega)
  rw [e]
  simp only [Option.bind_some]
  rw [if_pos hx0, if_pos (by omega)]
  refine ⟨_, _, _, rfl, ?_, hi'⟩
  have := rd_get (l := m) (i := x.toNat) (by omega)
  rw [show ((x.toNat : Nat) : Int) = x by omega] at this
  exact List.mem_of_getElem? this
theorem new_l0 (l : List Int) (hl : l.length ≤ 140737488355328) (d : Nat) : ∀ (j : Nat) (h : Int), j + d = l.length → ∃ h', Ev (fun k => spec_l1New.l0 k l h (j : Int)) (l, 0, h') := by
  induction d with
  | zero =>
    intro j h hj
    exact ⟨h, evS (fun k => by rw [spec_l1New.l0]) (evF (by omega) (evR rfl))⟩
  | succ d ih =>
    intro j h hj
    by_cases h4 : (j : Int) < 4000
    · obtain ⟨h', e⟩ := ih (j + 1) (Go.bits .and .i64 (wrap64 ((wrap64 ((wrap64 (h * 137)) + (wrap64 (rd l (j : Int))))) + 11)) 1073741823) (by omega)
      refine ⟨h', evS (fun k => by rw [spec_l1New.l0]) (evT (by omega) (evT h4 (evT (by omega) ?_)))⟩
      rw [w64s (show j < l.length by omega) (by omega)]
      exact e
    · exact ⟨h, evS (fun k => by rw [spec_l1New.l0]) (evT (by omega) (evF h4 (evR rfl)))⟩
theorem new_some (l : List Int) (hl : l.length ≤ 140737488355328) : ∃ h', Ev (fun k => spec_l1New.f k l) (l, 0, h') := by
  obtain ⟨h', e⟩ := new_l0 l hl l.length 0 (wrap64 (372372 + (l.length : Int))) (by omega)
  exact ⟨h', e⟩
theorem strOf_size' (l : List Int) : (strOfNums l).size = l.length := by simp [strOfNums, ByteArray.size]
theorem at_zero (l : List Int) : At l 0 := ⟨by omega, by omega⟩
theorem u8_wf {x : Int} (h : 0 ≤ x ∧ x ≤ 255) : (Lit.int .u8 x).wf = true := by
  simp [Lit.wf, IntKind.min, IntKind.max, IntKind.signed, IntKind.bits]
  omega

end Go.Proofs.Ytmkhhnfmahdijaa.Z

/- A drawn text. No Go, no memory. -/
set_option linter.unusedVariables false
namespace Go.Proofs.Ytmkhhnfmahdijaa.Z
open Go.RowKit Go.Proofs.YtmkhhnfmahdijaaW.PrintWords Go.Proofs.YtmkhhnfmahdijaaW.PrintMore Go.Proofs.Ytmkhhnfmahdijaa.X

theorem str_some (l : List Int) (hl : l.length ≤ 140737488355328) (i h : Int) (m : List ByteArray) (hi : At l i) (hm : 0 < m.length) (hm2 : m.length ≤ 1000) : ∃ x i' h', spec_l1Str.f l i h m = some (x, i', h') ∧ x ∈ m ∧ At l i' := by
  unfold spec_l1Str.f
  obtain ⟨x, i', h', e, hx0, hx1, hi'⟩ := below_some l hl i h (m.length : Int) hi (by omega)
  rw [e]
  simp only [Option.bind_some]
  rw [if_pos hx0, if_pos (by omega)]
  refine ⟨_, _, _, rfl, ?_, hi'⟩
  have := rdOf_get (d := ByteArray.empty) (l := m) (i := x.toNat) (by omega)
  rw [show ((x.toNat : Nat) : Int) = x by omega] at this
  exact List.mem_of_getElem? this
end Go.Proofs.Ytmkhhnfmahdijaa.Z

/- Leaves that are drawn: some, each short. Plain lemmas. -/
set_option linter.unusedVariables false
namespace Go.Proofs.Ytmkhhnfmahdijaa.Z
open Go.RowKit Go.Proofs.YtmkhhnfmahdijaaW.PrintWords Go.Proofs.YtmkhhnfmahdijaaW.PrintMore Go.Proofs.Ytmkhhnfmahdijaa.X
theorem list_l0 (l : List Int) (hl : l.length ≤ 140737488355328) (d : Nat) : ∀ (acc : List ByteArray) (i h : Int), d ≤ 100 → acc.length + d ≤ 200 → (∀ s ∈ acc, s.size ≤ 3) → At l i →
    ∃ r i' h', Ev (fun k => spec_l6List.l0 k acc (d : Int) l i h) (r, i', h') ∧ r.length = acc.length + d ∧ (∀ s ∈ r, s.size ≤ 3) ∧ At l i' := by
  induction d with
  | zero =>
    intro acc i h h1 h2 h3 h4
    exact ⟨acc, i, h, evS (fun k => by rw [spec_l6List.l0]) (evF (by simp) (evR rfl)), by simp, h3, h4⟩
  | succ d ih =>
    intro acc i h h1 h2 h3 h4
    obtain ⟨x, i', h', e, hx, a'⟩ := str_some l hl i h ([(⟨#[]⟩ : ByteArray), (⟨#[97]⟩ : ByteArray), (⟨#[98]⟩ : ByteArray), (⟨#[120, 121, 122]⟩ : ByteArray)]) h4 (by simp) (by simp)
    have hx3 : x.size ≤ 3 := by
      simp only [List.mem_cons, List.not_mem_nil, or_false] at hx
      rcases hx with rfl | rfl | rfl | rfl <;> decide
    obtain ⟨r, i2, h2', e2, l2, s2, a2⟩ := ih (acc ++ [x]) i' h' (by omega) (by simp; omega) (by
      intro s hs
      rcases List.mem_append.1 hs with h | h
      · exact h3 s h
      · rw [List.mem_singleton.1 h]; exact hx3) a'
    refine ⟨r, i2, h2', ?_, by rw [l2]; simp; omega, s2, a2⟩
    refine evS (fun k => by rw [spec_l6List.l0]) ?_
    refine evT (by omega) (evC e (evT (by omega) ?_))
    rw [show wrap64 (((d + 1 : Nat) : Int) - 1) = (d : Int) by rw [w64 (by omega)]; omega]
    exact e2
theorem list_some (l : List Int) (hl : l.length ≤ 140737488355328) (i h : Int) (hi : At l i) : ∃ r i' h', Ev (fun k => spec_l6List.f k l i h) (r, i', h') ∧ r.length ≤ 8 ∧ (∀ s ∈ r, s.size ≤ 3) ∧ At l i' := by
  obtain ⟨x, i', h', e, hx, a'⟩ := int_some l hl i h [0, 1, 2, 3, 4, 5, 7, 8, 6] hi (by simp) (by simp)
  have hx2 : 0 ≤ x ∧ x ≤ 8 := by
    simp only [List.mem_cons, List.not_mem_nil, or_false] at hx
    omega
  obtain ⟨n, rfl⟩ := Int.eq_ofNat_of_zero_le hx2.1
  obtain ⟨r, i2, h2, e2, l2, s2, a2⟩ := list_l0 l hl n [] i' h' (by omega) (by simp; omega) (by simp) a'
  exact ⟨r, i2, h2, by unfold spec_l6List.f; exact evC e e2, by rw [l2]; simp; omega, s2, a2⟩
theorem leaves_some (l : List Int) (hl : l.length ≤ 140737488355328) : ∃ r x, Ev (fun k => spec_DrawLeaves.f k l) (r, x) ∧ 1 ≤ r.length ∧ r.length ≤ 9 ∧ (∀ s ∈ r, s.size ≤ 3) ∧ 0 ≤ x ∧ x < r.length := by
  obtain ⟨h', e1⟩ := new_some l hl
  obtain ⟨r, i2, h2, e2, l2, s2, a2⟩ := list_some l hl 0 h' (at_zero _)
  obtain ⟨x, i3, h3, e3, x0, x1, a3⟩ := below_some l hl i2 h2 ((r ++ [(⟨#[122]⟩ : ByteArray)]).length : Int) a2 (by simp; omega)
  refine ⟨r ++ [⟨#[122]⟩], x, ?_, by simp, by simp; omega, ?_, x0, ?_⟩
  · unfold spec_DrawLeaves.f
    refine evB e1 (evB e2 ?_)
    have hr : r.length < 8796093022208 := by omega
    exact evT hr (evC rfl (evC e3 (evR rfl)))
  · intro s hs
    rcases List.mem_append.1 hs with h | h
    · exact s2 s h
    · rw [List.mem_singleton.1 h]; decide
  · rcases x1 with h | h
    · exact h
    · rw [h]; simp
end Go.Proofs.Ytmkhhnfmahdijaa.Z

/- The law FnGrown, as a plain statement: each beginning of drawn texts has a path that is right; with one part more it is not; a list came of itself. Conditions: those of the row's reading alone. -/
namespace Go.Proofs.Ytmkhhnfmahdijaa.Pure
open Go.RowKit Go.Proofs.Ytmkhhnfmahdijaa.X Go.Proofs.Ytmkhhnfmahdijaa.Z Go.Proofs.Ytmkhhnfmahdijaa.ZI Go.Proofs.YtmkhhnfmahdijaaW.PrintWords Go.Proofs.YtmkhhnfmahdijaaW.PrintLast
theorem FnGrown : laws_FnGrown.Pure := by
  intro l0 h1 h2 h3
  refine Ev.rounds ?_
  unfold laws_FnGrown.f
  refine evC (by unfold laws_big.f; rfl) (evI (fun _ => evR rfl) (fun hl' => ?_))
  obtain ⟨l, x, hD, l1, l2, l3, x0, x1⟩ := leaves_some l0 (by omega)
  have hF : Fit l := fun y hy => by have := l3 y hy; omega
  obtain ⟨n, rfl⟩ := Int.eq_ofNat_of_zero_le x0
  have rootE := rootOf_impl
  have hz : ∀ m : List ByteArray, (root m).size ≤ 10000000000 := fun m => by rw [root_size]; decide
  refine evB hD (evB (rootE l (by omega) hF) (evB (checkGrow_all (root l) (l.length : Int) (by omega) (by omega)) (evT rfl (evB (checkGrow_none (root l) (root l) (l.length : Int) (by omega) (by omega) []) ?_))))
  refine evS (fun k => by rw [laws_FnGrown.j0]) (evF Bool.false_ne_true ?_)
  by_cases hn0 : n = 0
  · subst hn0
    have g := growPath_none l (by omega)
    dsimp only
    exact evT rfl (evB g (evR rfl))
  · have g := growPath_impl l (n : Int) hF (by omega) (by omega) (by omega)
    obtain ⟨_, pl, ps⟩ := grow_impl l.length l (n : Int) true rfl (by omega) (by omega) (by omega) hF
    have hFp : Fit (grow l (n : Int) true) := fun y hy => by have := ps y hy; omega
    have hFq : Fit (grow l (n : Int) true ++ [root l]) := fun y hy => by
      rcases List.mem_append.1 hy with h | h
      · exact hFp y h
      · rw [List.mem_singleton.1 h]; exact hz l
    have hlen := grow_len l.length l (n : Int) true rfl (by omega) (by omega)
    have e1 := grown_right l.length l n true (root (l.take n)) rfl (by omega) (by omega) (by omega) hF (fun _ => rfl)
    obtain ⟨u, v, e2, _, _⟩ := grown_count (root (l.take n)) (hz _) l.length (n : Int) true (grow l (n : Int) true ++ [root l]) (by omega) (by omega) (by omega) hFq (by simp; omega)
    rw [decide_eq_false (by simp; omega)] at e2
    have c1 := checkGrow_of (root (l.take n)) (root l) _ _ _ (n : Int) (l.length : Int) _ (by omega) (by omega) (by omega) e1 true (by simp)
    have c2 := checkGrow_of (root (l.take n)) (root l) _ _ _ (n : Int) (l.length : Int) _ (by omega) (by omega) (by omega) e2 false (by simp)
    have hp0 : 0 < (grow l (n : Int) true).length := by
      rw [hlen, gdep_more (by omega) (by omega)]
      split <;> omega
    have et : ((n : Nat) : Int).toNat = n := by omega
    dsimp only
    refine evF (by omega) (evB g (evT (by omega) (evT (by omega) ?_)))
    rw [et]
    refine evB (rootE (l.take n) (by simp; omega) (hF.take n)) (evC rfl (evT (by simp; omega) (evC rfl (evT (by simp; omega) (evB c1 (evT rfl (evB c2 (evF Bool.false_ne_true (evR ?_)))))))))
    exact decide_eq_true (by omega)
end Go.Proofs.Ytmkhhnfmahdijaa.Pure

/- Values that come in as data (strings' slices, structs, slices of structs, nested) are of the printer's kinds: one lemma a make of type. Plain lemmas for the rows of laws over such parameters. No conditions beyond what each lemma names. -/
set_option linter.unusedVariables false
namespace Go.Proofs.Ytmkhhnfmahdijaa.Y
open Go.RowKit Go.Proofs.YtmkhhnfmahdijaaW.PrintWords Go.ChangeShapes Go.WideShapes Go.Deep

/-- What is read as data of type T is of kind d, and G holds of what it says. -/
def Opn {α : Type} (P : Program) (d : Kd α) (T : TypeId) (G : α → Prop) : Prop :=
  ∀ {H : Type} (enc : TypeId × Value → H) (w : World) (spare : Nat → Bool) (held : Bool) (fuel : Nat) (cs : List Value) (x : DataW H × List MemPlace), DataW.trod enc P w 0 spare held fuel T cs = some x → ∃ y, d.K w y cs ∧ G y

theorem Opn.int {P : Program} {T : TypeId} {k : IntKind} (h : P.underlying T = some (.int k)) : Opn P (Kd.int k) T (fun n => (Lit.int k n).wf = true) := by
  intro H enc w spare held fuel cs x hx
  obtain ⟨n, rfl, _, hn⟩ := DataW.trod_int h hx
  exact ⟨n, rfl, hn⟩
theorem Opn.bool {P : Program} {T : TypeId} (h : P.underlying T = some .bool) : Opn P Kd.bool T (fun _ => True) := by
  intro H enc w spare held fuel cs x hx
  obtain ⟨n, rfl, _⟩ := DataW.trod_bool h hx
  exact ⟨n, rfl, trivial⟩
theorem Opn.string {P : Program} {T : TypeId} (h : P.underlying T = some .string) : Opn P Kd.string T (fun s => s.size ≤ maxLen) := by
  intro H enc w spare held fuel cs x hx
  obtain ⟨s, rfl, _, hs⟩ := DataW.trod_string h hx
  exact ⟨s, rfl, hs⟩
theorem Opn.slice {α : Type} {P : Program} {d : Kd α} {T e : TypeId} {G : α → Prop} [Inhabited α] (h : P.underlying T = some (.slice e)) (he : P.cellsOf e = d.sz) (ho : Opn P d e G) :
    Opn P (Kd.slice e d) T (fun l => l.length ≤ maxLen ∧ ∀ y, y ∈ l → G y) := by
  intro H enc w spare held fuel cs x hx
  rcases open_slice h hx with ⟨rfl, _⟩ | ⟨a, len, cap, m, n, D, Pl, rfl, _, hl, hm, hmm, _, hel⟩
  · exact ⟨[], ⟨none, 0, rfl, Nat.le_refl _, rfl, by simp, fun hn => absurd hn (Nat.lt_irrefl 0)⟩, by simp, fun y hy => by cases hy⟩
  · have hlm : len ≤ m := by rw [hmm]; split <;> omega
    have each : ∀ i, i < len → ∃ y, (∃ c, c.length = d.sz ∧ d.K w y c ∧ ∀ j u, c[j]? = some u → w.cell? (a.add (i * d.sz + j)) = some u) ∧ G y := by
      intro i hi
      obtain ⟨c, hc, ht⟩ := hel i (by omega)
      obtain ⟨y, hk, hg⟩ := ho enc w spare held n c _ ht
      obtain ⟨_, hlen, hcell⟩ := World.cells?_some hc
      refine ⟨y, ⟨c, hlen.trans he, hk, fun j u hu => ?_⟩, hg⟩
      have hj : j < P.cellsOf e := by rw [← hlen]; exact (List.getElem?_eq_some_iff.1 hu).1
      have := hcell j hj
      rw [Go.Deep.add_add, hu, he] at this
      exact this
    obtain ⟨f, hf⟩ := choose_lt each
    have hlen : ((List.range len).map f).length = len := by simp
    have hm' : len ≤ maxLen := Nat.le_trans hl hm
    refine ⟨(List.range len).map f, ⟨some a, cap, by rw [hlen], by rw [hlen]; exact hl, by rw [hlen], by rw [hlen]; unfold maxLen at hm'; exact hm', fun _ => ⟨a, rfl, fun j p hp => ?_⟩⟩, by rw [hlen]; exact hm', fun y hy => ?_⟩
    · obtain ⟨hj, rfl⟩ := List.getElem?_eq_some_iff.1 hp
      rw [hlen] at hj
      simp only [List.getElem_map, List.getElem_range]
      exact (hf j hj).1
    · obtain ⟨i, hi, rfl⟩ := List.mem_map.1 hy
      exact (hf i (List.mem_range.1 hi)).2

/-- The fields from cell 'off' on. -/
def FOpn {α : Type} (P : Program) (d : Kd α) (off : Nat) (fs : List Field) (G : α → Prop) : Prop :=
  ∀ {H : Type} (enc : TypeId × Value → H) (w : World) (spare : Nat → Bool) (held : Bool) (fuel : Nat) (cs : List Value),
    (∀ f, f ∈ fs → ∃ x, DataW.trod enc P w 0 spare held fuel f.type ((cs.drop f.offset).take (P.cellsOf f.type)) = some x) → cs.length = off + d.sz → ∃ y, d.K w y (cs.drop off) ∧ G y
theorem FOpn.one {α : Type} {P : Program} {d : Kd α} {off : Nat} {f : Field} {G : α → Prop} (hf : f.offset = off) (hc : P.cellsOf f.type = d.sz) (ho : Opn P d f.type G) : FOpn P d off [f] G := by
  intro H enc w spare held fuel cs hx hl
  obtain ⟨x, hx⟩ := hx f (by simp)
  rw [hf, hc, List.take_of_length_le (by simp; omega)] at hx
  exact ho enc w spare held fuel _ x hx
theorem FOpn.cons {α β : Type} {P : Program} {d : Kd α} {d' : Kd β} {off : Nat} {f : Field} {fs : List Field} {G : α → Prop} {G' : β → Prop} (hf : f.offset = off) (hc : P.cellsOf f.type = d.sz) (ho : Opn P d f.type G)
    (hs : FOpn P d' (off + d.sz) fs G') : FOpn P (Kd.pair d d') off (f :: fs) (fun y => G y.1 ∧ G' y.2) := by
  intro H enc w spare held fuel cs hx hl
  have hl' : cs.length = off + (d.sz + d'.sz) := hl
  obtain ⟨x, h1⟩ := hx f (by simp)
  rw [hf, hc] at h1
  obtain ⟨y, hy, gy⟩ := ho enc w spare held fuel _ x h1
  obtain ⟨z, hz, gz⟩ := hs enc w spare held fuel cs (fun g hg => hx g (List.mem_cons_of_mem _ hg)) (by omega)
  refine ⟨(y, z), ⟨_, _, ?_, hy, hz⟩, gy, gz⟩
  rw [← List.drop_drop, List.take_append_drop]
theorem Opn.struct {α β : Type} {P : Program} {d : Kd α} {T : TypeId} {fs : Array Field} {fl : List Field} {G : α → Prop} {G' : β → Prop} {proj : β → α} (mk : α → β) (h : P.underlying T = some (.struct fs)) (hfl : fs.toList = fl) (hc : P.cellsOf T = d.sz)
    (hmk : ∀ y, proj (mk y) = y) (hG : ∀ y, G y → G' (mk y)) (hs : FOpn P d 0 fl G) : Opn P (Kd.iso d proj) T G' := by
  intro H enc w spare held fuel cs x hx
  obtain ⟨xs, n, rfl, _, hlen, hxs, hall⟩ := DataW.trod_struct h hx
  obtain ⟨y, hy, gy⟩ := hs enc w spare held n cs (fun f hf => by
    rw [← hfl] at hf
    obtain ⟨i, hi, he⟩ := List.getElem_of_mem hf
    have hi' : i < fs.size := by simpa using hi
    have h1 : fs[i]? = some f := by rw [Array.getElem?_eq_getElem hi']; simpa using he
    exact ⟨_, (hall i f h1).trans (List.getElem?_eq_getElem (by omega))⟩) (by rw [hlen, hc, Nat.zero_add])
  refine ⟨mk y, ?_, hG y gy⟩
  show d.K w (proj (mk y)) cs
  rw [hmk]
  exact hy

/-- A parameter that is a slice. -/
theorem Opn.arg_slice {α : Type} {P : Program} {d : Kd α} {T e : TypeId} {G : α → Prop} [Inhabited α] (h : P.underlying T = some (.slice e)) (he : P.cellsOf e = d.sz) (ho : Opn P d e G)
    {H : Type} {enc : TypeId × Value → H} {w : World} {spare : Nat → Bool} {held : Bool} {v : Value} {D : DataW H} {ps : List MemPlace} {r : Reach} {b : Nat} (hv : Value.okWide P w r b T v) (hx : DataW.Trod enc P w 0 spare held T v D ps) :
    ∃ (A : Option Addr) (c : Nat) (l : List α), v = .slice A l.length c ∧ l.length ≤ c ∧ d.C w A l.length l ∧ l.length ≤ maxLen ∧ ∀ y, y ∈ l → G y := by
  obtain ⟨a, len, cap, rfl⟩ := okWide_slice h hv
  obtain ⟨fuel, hf⟩ := hx
  obtain ⟨l, ⟨A, c, hcs, hlc, hC⟩, hg1, hg2⟩ := Opn.slice h he ho enc w spare held fuel _ _ hf
  have hcs' : [Value.slice a len cap] = [Value.slice A l.length c] := hcs
  injection hcs' with h1 _
  exact ⟨A, c, l, h1, hlc, hC, hg1, hg2⟩
/-- A parameter that is a struct. -/
theorem Opn.arg_struct {α : Type} {P : Program} {d : Kd α} {T : TypeId} {G : α → Prop} {fs : Array Field} (hu : P.underlying T = some (.struct fs)) (ho : Opn P d T G)
    {H : Type} {enc : TypeId × Value → H} {w : World} {spare : Nat → Bool} {held : Bool} {v : Value} {D : DataW H} {ps : List MemPlace} {r : Reach} {b : Nat} (hv : Value.okWide P w r b T v) (hx : DataW.Trod enc P w 0 spare held T v D ps) :
    ∃ (cs : List Value) (y : α), v = .agg cs.toArray ∧ d.K w y cs ∧ G y := by
  obtain ⟨cs, rfl, _⟩ := okWide_struct hu hv
  obtain ⟨fuel, hf⟩ := hx
  obtain ⟨y, hk, hg⟩ := ho enc w spare held fuel _ _ hf
  exact ⟨cs.toList, y, by simp, hk, hg⟩
end Go.Proofs.Ytmkhhnfmahdijaa.Y
